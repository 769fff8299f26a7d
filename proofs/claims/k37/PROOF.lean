import PyProof.Rows.All
import Wide.All
import OpenK.AllK
import Wide.FinOn
import HandS.ForMost
import HandS.Walk
import HandS.Deep
import HandS.TupAny
import HandS.IsInst
import HandS.Property
import KE.GoesEnum
import KE.DataMinMax
import KE.SortKeyHeap
import KE.SortData
import PyProof.P3In
import PyProof.ReprRoads
import HandS.SortKw
import KE.KDictKeyed
import KE.KeyNested
import HandS.ListItems
import HandS.TupLen
import KE.KDictItemsList
import KE.KDictCopyH
import KE.KDictOf
import KE.KDictPairs
import HandS.Text
import HandS.WideBits
import HandS.Lambda
import HandS.EndTab
import HandS.Strs
import KE.KTupSum
import HandS.Steps
import HandS.Codes
import HandS.Style
import HandS.TryOnly
import PyProof.ReprLen
import HandS.HeadHook4
import HandS.Head2
import PySem.Challenge.RW_alwaysagree_k37_whole_mendings_and_doubt
/-! ## Ma -/
/-! Ma: plain mathematics, no program in sight: walks of a finite graph, two ways of telling that none goes on for ever, lots of minds as lists and as sums of powers of two. -/
set_option autoImplicit false
namespace AA

/-! ### lists without repetition -/
theorem nodup_le {α : Type} [DecidableEq α] : ∀ (l u : List α), l.Nodup → (∀ x ∈ l, x ∈ u) → l.length ≤ u.length
  | [], _, _, _ => Nat.zero_le _
  | x :: l, u, nd, h => by
    obtain ⟨hx, nd'⟩ := List.nodup_cons.mp nd
    have h2 : ∀ y ∈ l, y ∈ u.erase x := fun y hy => by
      have hne : y ≠ x := fun e => hx (e ▸ hy)
      exact (List.mem_erase_of_ne hne).mpr (h y (List.mem_cons_of_mem _ hy))
    have ih := nodup_le l (u.erase x) nd' h2
    have hlen := List.length_erase_of_mem (h x List.mem_cons_self)
    have hpos : 0 < u.length := List.length_pos_of_mem (h x List.mem_cons_self)
    rw [List.length_cons]
    omega

/-! ### a finite graph by its successors -/
section
variable {α : Type} (starts : List α) (succ : α → List α)
/-- what steps lead to -/
inductive Reach : α → Prop
  | start {p : α} : p ∈ starts → Reach p
  | step {p q : α} : Reach p → q ∈ succ p → Reach q
/-- every row of steps ends -/
def Ends (p : α) : Prop := Acc (fun q p => q ∈ succ p) p
end
section
variable {α : Type} {starts : List α} {succ : α → List α}
theorem Ends.of {p : α} (h : ∀ q ∈ succ p, Ends succ q) : Ends succ p := Acc.intro p h
theorem Ends.next {p q : α} (h : Ends succ p) (hq : q ∈ succ p) : Ends succ q := Acc.inv h hq
theorem Reach.ends (h : ∀ p ∈ starts, Ends succ p) {p : α} (r : Reach starts succ p) : Ends succ p := by
  induction r with
  | start hp => exact h _ hp
  | step _ hq ih => exact ih.next hq

/-- the pairs that were found: all starts, closed, all reached -/
structure Found (starts : List α) (succ : α → List α) (keys : List α) : Prop where
  nd : keys.Nodup
  st : ∀ p ∈ starts, p ∈ keys
  cl : ∀ p ∈ keys, ∀ q ∈ succ p, q ∈ keys
  re : ∀ p ∈ keys, Reach starts succ p
theorem Found.all_ends {keys : List α} (F : Found starts succ keys) : (∀ p ∈ keys, Ends succ p) ↔ ∀ p ∈ starts, Ends succ p :=
  ⟨fun h p hp => h p (F.st p hp), fun h p hp => (F.re p hp).ends h⟩

/-- the pairs from which every row of steps ends, found turn by turn -/
structure Grown (succ : α → List α) (keys got : List α) : Prop where
  nd : got.Nodup
  sub : ∀ p ∈ got, p ∈ keys
  ok : ∀ p ∈ got, Ends succ p
theorem Grown.full {keys got : List α} (F : Found starts succ keys) (stop : ∀ p ∈ keys, (∀ q ∈ succ p, q ∈ got) → p ∈ got) {p : α} (h : Ends succ p) (hp : p ∈ keys) : p ∈ got := by
  induction h with
  | intro p _ ih => exact stop p hp fun q hq => ih q hq (F.cl p hp q hq)
theorem Grown.count [DecidableEq α] {keys got : List α} (F : Found starts succ keys) (G : Grown succ keys got) (stop : ∀ p ∈ keys, (∀ q ∈ succ p, q ∈ got) → p ∈ got) : got.length < keys.length ↔ ¬ ∀ p ∈ starts, Ends succ p := by
  rw [← F.all_ends]
  constructor
  · intro hlt hall
    have h2 := nodup_le keys got F.nd fun p hp => Grown.full F stop (hall p hp) hp
    omega
  · intro hn
    have h1 := nodup_le got keys G.nd G.sub
    rcases Nat.lt_or_ge got.length keys.length with h | h
    · exact h
    · exfalso
      apply hn
      intro p hp
      have : p ∈ got := by
        by_cases hpg : p ∈ got
        · exact hpg
        · exfalso
          have h3 := nodup_le (p :: got) keys (List.nodup_cons.mpr ⟨hpg, G.nd⟩) (fun q hq => by
            rcases List.mem_cons.mp hq with rfl | hq
            · exact hp
            · exact G.sub q hq)
          rw [List.length_cons] at h3
          omega
      exact G.ok p this

/-- what is left when pairs without a step into what is left are taken away -/
def lastOf [DecidableEq α] (succ : α → List α) (left : List α) : List α := left.filter fun p => !(succ p).any fun q => decide (q ∈ left)
def rest1 [DecidableEq α] (succ : α → List α) (left : List α) : List α := left.filter fun p => decide (p ∉ lastOf succ left)
/-- every pair from which some row does not end is left -/
structure Left (keys : List α) (succ : α → List α) (left : List α) : Prop where
  sub : ∀ p ∈ left, p ∈ keys
  has : ∀ p ∈ keys, ¬ Ends succ p → p ∈ left
variable [DecidableEq α]
theorem Left.rest {keys left : List α} (F : Found starts succ keys) (L : Left keys succ left) : Left keys succ (rest1 succ left) := by
  refine ⟨fun p hp => L.sub p (List.mem_filter.mp hp).1, fun p hp hn => List.mem_filter.mpr ⟨L.has p hp hn, decide_eq_true fun hl => ?_⟩⟩
  apply hn
  refine Ends.of fun q hq => ?_
  have hnone := (List.mem_filter.mp hl).2
  have hq2 : q ∉ left := fun hm => by
    have : (succ p).any (fun q => decide (q ∈ left)) = true := List.any_eq_true.mpr ⟨q, hq, decide_eq_true hm⟩
    rw [this] at hnone
    cases hnone
  by_cases he : Ends succ q
  · exact he
  · exact absurd (L.has q (F.cl p hp q hq) he) hq2
/-- where no pair can be taken away, some row does not end -/
theorem Left.stuck {keys left : List α} (L : Left keys succ left) (hne : left ≠ []) (hl : lastOf succ left = []) : ¬ ∀ p ∈ keys, Ends succ p := by
  intro hall
  have no : ∀ p, Ends succ p → p ∉ left := by
    intro p h
    induction h with
    | intro p _ ih =>
      intro hp
      have hz : p ∉ lastOf succ left := by rw [hl]; exact List.not_mem_nil
      apply hz
      refine List.mem_filter.mpr ⟨hp, ?_⟩
      have hf : (succ p).any (fun q => decide (q ∈ left)) = false := by
        rw [Bool.eq_false_iff]
        intro ht
        obtain ⟨q, hq, hd⟩ := List.any_eq_true.mp ht
        exact ih q hq (of_decide_eq_true hd)
      rw [hf]
      rfl
  cases left with
  | nil => exact hne rfl
  | cons p l => exact no p (hall p (L.sub p List.mem_cons_self)) List.mem_cons_self
theorem rest1_less {left : List α} (hl : lastOf succ left ≠ []) : (rest1 succ left).length < left.length := by
  obtain ⟨p, hp⟩ := List.exists_mem_of_ne_nil _ hl
  have hp1 : p ∈ left := (List.mem_filter.mp hp).1
  rcases Nat.lt_or_ge (rest1 succ left).length left.length with h | h
  · exact h
  · exfalso
    have h1 := List.length_filter_le (fun p => decide (p ∉ lastOf succ left)) left
    have h2 : (rest1 succ left).length = left.length := Nat.le_antisymm h1 h
    have h3 := List.length_filter_eq_length_iff.mp h2
    exact (of_decide_eq_true (h3 p hp1)) hp
omit [DecidableEq α] in
theorem Left.gone {keys : List α} (L : Left keys succ []) : ∀ p ∈ keys, Ends succ p := fun p hp => by
  by_cases h : Ends succ p
  · exact h
  · exact absurd (L.has p hp h) List.not_mem_nil
end

/-- two graphs that go along -/
theorem acc_along {α β : Type} {r : α → α → Prop} {s : β → β → Prop} (R : α → β → Prop) (h : ∀ p x, R p x → ∀ y, s y x → ∃ q, r q p ∧ R q y) {p : α} (a : Acc r p) : ∀ x, R p x → Acc s x := by
  induction a with
  | intro p _ ih =>
    intro x hx
    refine Acc.intro x fun y hy => ?_
    obtain ⟨q, hq, hR⟩ := h p x hx y hy
    exact ih q hq y hR
end AA

namespace AA
/-! ### lots of minds: as rising lists, as sums of powers of two -/
abbrev Lot := List Nat
abbrev Rows := List (List Int)
def hearsB (rows : Rows) (m k : Nat) : Bool := decide (0 < (rows.getD m []).getD k 0)
def ears (rows : Rows) (lot : Lot) : Lot := (List.range rows.length).filter fun k => lot.any fun m => hearsB rows m k
def lexLtN : Lot → Lot → Bool
  | [], [] => false
  | [], _ :: _ => true
  | _ :: _, [] => false
  | a :: as, b :: bs => if a = b then lexLtN as bs else decide (a < b)
def joinedN (A B : Lot) : Lot × Lot := if lexLtN B A = true then (B, A) else (A, B)
def stepN (p : Lot × Lot) (rows : Rows) : Option (Lot × Lot) := if (ears rows p.1).any (fun m => decide (m ∈ ears rows p.2)) = true then none else some (joinedN (ears rows p.1) (ears rows p.2))
def succN (ways : List Rows) (p : Lot × Lot) : List (Lot × Lot) := ways.filterMap (stepN p)
def startsN (n : Nat) : List (Lot × Lot) := (List.range n).flatMap fun other => (List.range other).map fun one => ([one], [other])

def heardRow (row : List Int) : List Nat := (List.range row.length).filter fun k => decide (0 < row.getD k 0)
def bitsRow (row : List Int) : Nat := ((heardRow row).map fun k => 2 ^ k).sum
def bitsWay (rows : Rows) : List Nat := rows.map bitsRow
def earsUpto (bits : List Nat) (herd : Nat) : Nat → Nat
  | 0 => 0
  | i + 1 => if herd / 2 ^ i % 2 = 1 then earsUpto bits herd i ||| bits.getD i 0 else earsUpto bits herd i
def stepB (n : Nat) (x : Nat × Nat) (bits : List Nat) : Option (Nat × Nat) :=
  if earsUpto bits x.1 n &&& earsUpto bits x.2 n = 0 then some (min (earsUpto bits x.1 n) (earsUpto bits x.2 n), max (earsUpto bits x.1 n) (earsUpto bits x.2 n)) else none
def succB (n : Nat) (bways : List (List Nat)) (x : Nat × Nat) : List (Nat × Nat) := bways.filterMap (stepB n x)
def startsB (n : Nat) : List (Nat × Nat) := (List.range n).flatMap fun k => (List.range k).map fun j => (2 ^ j, 2 ^ k)

/-- a number's bits are a lot -/
def Enc (A : Lot) (a : Nat) : Prop := ∀ k, a.testBit k = decide (k ∈ A)
theorem Enc.single (i : Nat) : Enc [i] (2 ^ i) := fun k => by
  rw [Nat.testBit_two_pow]
  by_cases h : i = k
  · subst h; simp
  · simp [h, Ne.symm h]
theorem sum_lt_pow : ∀ (l : List Nat) (n : Nat), l.Nodup → (∀ k ∈ l, k < n) → (l.map fun k => 2 ^ k).sum < 2 ^ n
  | [], n, _, _ => by
    rw [List.map_nil, List.sum_nil]
    exact Nat.two_pow_pos n
  | x :: l, n, nd, h => by
    -- taken by n: the greatest exponent at most once
    induction n generalizing x l with
    | zero => exact absurd (h x List.mem_cons_self) (Nat.not_lt_zero _)
    | succ n ih =>
      by_cases hn : n ∈ x :: l
      · have hp : ((x :: l).erase n).Nodup := List.Nodup.erase n nd
        have hs : ((x :: l).map fun k => 2 ^ k).sum = 2 ^ n + (((x :: l).erase n).map fun k => 2 ^ k).sum := by
          have hperm := List.perm_cons_erase hn
          have := (hperm.map fun k => 2 ^ k).sum_nat
          rw [this, List.map_cons, List.sum_cons]
        have hlt : ∀ k ∈ (x :: l).erase n, k < n := fun k hk => by
          have h1 := h k (List.mem_of_mem_erase hk)
          have h2 : k ≠ n := fun e => by
            subst e
            exact (List.Nodup.not_mem_erase nd) hk
          omega
        have hz : (((x :: l).erase n).map fun k => 2 ^ k).sum < 2 ^ n := by
          cases he : (x :: l).erase n with
          | nil =>
            rw [List.map_nil, List.sum_nil]
            exact Nat.two_pow_pos n
          | cons y m =>
            rw [he] at hp hlt
            exact ih y m hp hlt
        rw [hs, Nat.pow_succ]
        omega
      · have hlt : ∀ k ∈ x :: l, k < n := fun k hk => by
          have h1 := h k hk
          have h2 : k ≠ n := fun e => hn (e ▸ hk)
          omega
        have := ih x l nd hlt
        rw [Nat.pow_succ]
        omega
theorem Enc.sum : ∀ (l : List Nat), l.Pairwise (· < ·) → Enc l (l.map fun k => 2 ^ k).sum := by
  intro l h
  -- from the back
  generalize hr : l.reverse = r
  induction r generalizing l with
  | nil =>
    have e : l = [] := List.reverse_eq_nil_iff.mp hr
    subst e
    intro k
    simp
  | cons y r ih =>
    have e : l = r.reverse ++ [y] := by
      have := congrArg List.reverse hr
      rw [List.reverse_reverse, List.reverse_cons] at this
      exact this
    subst e
    obtain ⟨h1, _, h3⟩ := List.pairwise_append.mp h
    have ih' := ih r.reverse h1 (List.reverse_reverse r)
    have hlt : ∀ k ∈ r.reverse, k < y := fun k hk => h3 k hk y List.mem_cons_self
    have hnd : r.reverse.Nodup := h1.imp (fun h => Nat.ne_of_lt h)
    have hs := sum_lt_pow r.reverse y hnd hlt
    intro k
    rw [List.map_append, List.sum_append, List.map_cons, List.map_nil, List.sum_cons, List.sum_nil, Nat.add_zero, Nat.add_comm]
    generalize hS : (r.reverse.map fun k => 2 ^ k).sum = S at hs ih'
    by_cases hk : k = y
    · subst hk
      rw [Nat.testBit_two_pow_add_eq, Nat.testBit_lt_two_pow hs]
      simp
    · rcases Nat.lt_or_ge k y with hky | hky
      · rw [Nat.testBit_two_pow_add_gt hky, ih' k]
        simp [hk]
      · have hky' : y < k := Nat.lt_of_le_of_ne hky (Ne.symm hk)
        have hbig : 2 ^ y + S < 2 ^ k := by
          have h2 : 2 ^ (y + 1) ≤ 2 ^ k := Nat.pow_le_pow_right (by decide) hky'
          rw [Nat.pow_succ] at h2
          omega
        rw [Nat.testBit_lt_two_pow hbig]
        have hnk : k ∉ r.reverse ++ [y] := fun hm => by
          rcases List.mem_append.mp hm with hm | hm
          · exact absurd (hlt k hm) (by omega)
          · exact hk (List.mem_singleton.mp hm)
        exact (decide_eq_false hnk).symm
theorem heardRow_sorted (row : List Int) : (heardRow row).Pairwise (· < ·) := List.Pairwise.filter _ (List.pairwise_lt_range)
theorem Enc.row (row : List Int) : Enc (heardRow row) (bitsRow row) := Enc.sum _ (heardRow_sorted row)
theorem earsUpto_bit (bits : List Nat) (herd k : Nat) : ∀ n, (earsUpto bits herd n).testBit k = (List.range n).any fun i => herd.testBit i && (bits.getD i 0).testBit k
  | 0 => by simp [earsUpto]
  | n + 1 => by
    have ih := earsUpto_bit bits herd k n
    have hb : herd.testBit n = decide (herd / 2 ^ n % 2 = 1) := by rw [Nat.testBit_eq_decide_div_mod_eq]
    have e : earsUpto bits herd (n + 1) = if herd / 2 ^ n % 2 = 1 then earsUpto bits herd n ||| bits.getD n 0 else earsUpto bits herd n := rfl
    rw [List.range_succ, List.any_append, ← ih, e]
    by_cases h : herd / 2 ^ n % 2 = 1
    · rw [if_pos h, Nat.testBit_or]
      simp [hb, h]
    · rw [if_neg h]
      simp [hb, h]

/-- ways for n minds -/
structure WayOk (n : Nat) (rows : Rows) : Prop where
  len : rows.length = n
  row : ∀ r ∈ rows, r.length = n
theorem Enc.ears {n : Nat} {rows : Rows} (W : WayOk n rows) {A : Lot} {a : Nat} (h : Enc A a) (hA : ∀ m ∈ A, m < n) : Enc (ears rows A) (earsUpto (bitsWay rows) a n) := by
  intro k
  rw [earsUpto_bit, Bool.eq_iff_iff, List.any_eq_true, decide_eq_true_eq]
  unfold AA.ears
  rw [List.mem_filter, List.any_eq_true, List.mem_range, W.len]
  have key : ∀ m, m < n → (((bitsWay rows).getD m 0).testBit k = true ↔ k < n ∧ hearsB rows m k = true) := fun m hm => by
    have hm' : m < rows.length := by rw [W.len]; exact hm
    have e1 : (bitsWay rows).getD m 0 = bitsRow (rows.getD m []) := by
      unfold bitsWay
      simp [List.getD_eq_getElem?_getD, hm']
    have e2 : (rows.getD m []).length = n := by
      have : rows.getD m [] ∈ rows := by
        rw [List.getD_eq_getElem?_getD, List.getElem?_eq_getElem hm']
        exact List.getElem_mem hm'
      exact W.row _ this
    rw [e1, Enc.row (rows.getD m []) k, decide_eq_true_eq]
    unfold heardRow hearsB
    rw [List.mem_filter, List.mem_range, e2]
  constructor
  · rintro ⟨i, hi, hb⟩
    have hi := List.mem_range.mp hi
    rw [Bool.and_eq_true, h i, decide_eq_true_eq] at hb
    obtain ⟨h1, h2⟩ := (key i hi).mp hb.2
    exact ⟨h1, i, hb.1, h2⟩
  · rintro ⟨hk, m, hm, hh⟩
    refine ⟨m, List.mem_range.mpr (hA m hm), ?_⟩
    rw [Bool.and_eq_true, h m, decide_eq_true_eq]
    exact ⟨hm, (key m (hA m hm)).mpr ⟨hk, hh⟩⟩
theorem Enc.apart {A B : Lot} {a b : Nat} (ha : Enc A a) (hb : Enc B b) : a &&& b = 0 ↔ A.any (fun m => decide (m ∈ B)) = false := by
  constructor
  · intro h
    rw [Bool.eq_false_iff]
    intro ht
    obtain ⟨m, hm, hd⟩ := List.any_eq_true.mp ht
    have := congrArg (fun z => Nat.testBit z m) h
    simp only [Nat.testBit_and, Nat.zero_testBit] at this
    rw [ha m, hb m, decide_eq_true hm, hd] at this
    cases this
  · intro h
    apply Nat.eq_of_testBit_eq
    intro m
    rw [Nat.testBit_and, Nat.zero_testBit, ha m, hb m]
    by_cases hm : m ∈ A
    · by_cases hm2 : m ∈ B
      · have : A.any (fun m => decide (m ∈ B)) = true := List.any_eq_true.mpr ⟨m, hm, decide_eq_true hm2⟩
        rw [h] at this
        cases this
      · simp [hm2]
    · simp [hm]
theorem ears_lt {rows : Rows} {A : Lot} {n : Nat} (h : rows.length = n) : ∀ m ∈ ears rows A, m < n := fun m hm => by
  have := (List.mem_filter.mp hm).1
  rw [h] at this
  exact List.mem_range.mp this
/-- the same unordered pair -/
def Goes (n : Nat) (p : Lot × Lot) (x : Nat × Nat) : Prop := (∀ m ∈ p.1, m < n) ∧ (∀ m ∈ p.2, m < n) ∧ ((Enc p.1 x.1 ∧ Enc p.2 x.2) ∨ (Enc p.1 x.2 ∧ Enc p.2 x.1))
theorem joinedN_or (A B : Lot) : joinedN A B = (A, B) ∨ joinedN A B = (B, A) := by
  unfold joinedN
  split
  · exact .inr rfl
  · exact .inl rfl
theorem goes_joined {n : Nat} {A B : Lot} {a b : Nat} (hA : ∀ m ∈ A, m < n) (hB : ∀ m ∈ B, m < n) (ha : Enc A a) (hb : Enc B b) : Goes n (joinedN A B) (min a b, max a b) := by
  have hmm : (min a b = a ∧ max a b = b) ∨ (min a b = b ∧ max a b = a) := by omega
  rcases joinedN_or A B with e | e <;> rw [e] <;> rcases hmm with ⟨h1, h2⟩ | ⟨h1, h2⟩ <;> rw [h1, h2]
  · exact ⟨hA, hB, .inl ⟨ha, hb⟩⟩
  · exact ⟨hA, hB, .inr ⟨ha, hb⟩⟩
  · exact ⟨hB, hA, .inr ⟨hb, ha⟩⟩
  · exact ⟨hB, hA, .inl ⟨hb, ha⟩⟩
theorem any_comm (A B : Lot) : A.any (fun m => decide (m ∈ B)) = B.any (fun m => decide (m ∈ A)) := by
  rw [Bool.eq_iff_iff, List.any_eq_true, List.any_eq_true]
  constructor
  · rintro ⟨m, h1, h2⟩
    exact ⟨m, of_decide_eq_true h2, decide_eq_true h1⟩
  · rintro ⟨m, h1, h2⟩
    exact ⟨m, of_decide_eq_true h2, decide_eq_true h1⟩
/-- one way's step on both sides: both or neither -/
theorem goes_step {n : Nat} {rows : Rows} (W : WayOk n rows) {p : Lot × Lot} {x : Nat × Nat} (h : Goes n p x) :
    (stepN p rows = none ∧ stepB n x (bitsWay rows) = none) ∨ ∃ q y, stepN p rows = some q ∧ stepB n x (bitsWay rows) = some y ∧ Goes n q y := by
  obtain ⟨A, B⟩ := p
  obtain ⟨h1, h2, h3⟩ := h
  have l1 := ears_lt (A := A) W.len
  have l2 := ears_lt (A := B) W.len
  have main : ∀ (f g : Nat), Enc (ears rows A) f → Enc (ears rows B) g →
      ((stepN (A, B) rows = none ∧ ¬ (f &&& g = 0)) ∨ ∃ q, stepN (A, B) rows = some q ∧ (f &&& g = 0) ∧ Goes n q (min f g, max f g)) := by
    intro f g hf hg
    unfold stepN
    by_cases hz : (ears rows A).any (fun m => decide (m ∈ ears rows B)) = true
    · refine .inl ⟨if_pos hz, fun e => ?_⟩
      rw [(Enc.apart hf hg).mp e] at hz
      cases hz
    · refine .inr ⟨joinedN (ears rows A) (ears rows B), if_neg hz, (Enc.apart hf hg).mpr (Bool.eq_false_iff.mpr hz), goes_joined l1 l2 hf hg⟩
  unfold stepB
  rcases h3 with ⟨ha, hb⟩ | ⟨ha, hb⟩
  · rcases main _ _ (Enc.ears W ha h1) (Enc.ears W hb h2) with ⟨e, hn⟩ | ⟨q, e, hz, hG⟩
    · exact .inl ⟨e, if_neg hn⟩
    · exact .inr ⟨q, _, e, if_pos hz, hG⟩
  · rcases main _ _ (Enc.ears W ha h1) (Enc.ears W hb h2) with ⟨e, hn⟩ | ⟨q, e, hz, hG⟩
    · exact .inl ⟨e, if_neg (by rw [Nat.and_comm]; exact hn)⟩
    · refine .inr ⟨q, _, e, if_pos (by rw [Nat.and_comm]; exact hz), ?_⟩
      rw [Nat.min_comm, Nat.max_comm] at hG
      exact hG
theorem goes_next {n : Nat} {ways : List Rows} (W : ∀ rows ∈ ways, WayOk n rows) {p : Lot × Lot} {x : Nat × Nat} (h : Goes n p x) :
    (∀ q ∈ succN ways p, ∃ y ∈ succB n (ways.map bitsWay) x, Goes n q y) ∧ ∀ y ∈ succB n (ways.map bitsWay) x, ∃ q ∈ succN ways p, Goes n q y := by
  constructor
  · intro q hq
    obtain ⟨rows, hr, e⟩ := List.mem_filterMap.mp hq
    rcases goes_step (W rows hr) h with ⟨e1, _⟩ | ⟨q', y, e1, e2, hG⟩
    · rw [e1] at e; cases e
    · rw [e1] at e
      cases e
      exact ⟨y, List.mem_filterMap.mpr ⟨bitsWay rows, List.mem_map.mpr ⟨rows, hr, rfl⟩, e2⟩, hG⟩
  · intro y hy
    obtain ⟨b, hb, e⟩ := List.mem_filterMap.mp hy
    obtain ⟨rows, hr, rfl⟩ := List.mem_map.mp hb
    rcases goes_step (W rows hr) h with ⟨_, e1⟩ | ⟨q, y', e1, e2, hG⟩
    · rw [e1] at e; cases e
    · rw [e2] at e
      cases e
      exact ⟨q, List.mem_filterMap.mpr ⟨rows, hr, e1⟩, hG⟩
theorem mem_startsN {n : Nat} {p : Lot × Lot} : p ∈ startsN n ↔ ∃ j k, j < k ∧ k < n ∧ p = ([j], [k]) := by
  unfold startsN
  rw [List.mem_flatMap]
  constructor
  · rintro ⟨k, hk, hp⟩
    obtain ⟨j, hj, rfl⟩ := List.mem_map.mp hp
    exact ⟨j, k, List.mem_range.mp hj, List.mem_range.mp hk, rfl⟩
  · rintro ⟨j, k, h1, h2, rfl⟩
    exact ⟨k, List.mem_range.mpr h2, List.mem_map.mpr ⟨j, List.mem_range.mpr h1, rfl⟩⟩
theorem mem_startsB {n : Nat} {x : Nat × Nat} : x ∈ startsB n ↔ ∃ j k, j < k ∧ k < n ∧ x = (2 ^ j, 2 ^ k) := by
  unfold startsB
  rw [List.mem_flatMap]
  constructor
  · rintro ⟨k, hk, hp⟩
    obtain ⟨j, hj, rfl⟩ := List.mem_map.mp hp
    exact ⟨j, k, List.mem_range.mp hj, List.mem_range.mp hk, rfl⟩
  · rintro ⟨j, k, h1, h2, rfl⟩
    exact ⟨k, List.mem_range.mpr h2, List.mem_map.mpr ⟨j, List.mem_range.mpr h1, rfl⟩⟩
theorem goes_start {n j k : Nat} (h1 : j < k) (h2 : k < n) : Goes n ([j], [k]) (2 ^ j, 2 ^ k) :=
  ⟨fun m hm => by rw [List.mem_singleton.mp hm]; omega, fun m hm => by rw [List.mem_singleton.mp hm]; omega, .inl ⟨Enc.single j, Enc.single k⟩⟩
/-- THE LAW OF AGREEMENT: told by lists or by bits, it is the same -/
def Agree (n : Nat) (ways : List Rows) : Prop := ∀ p ∈ startsN n, Ends (succN ways) p
theorem agree_iff {n : Nat} {ways : List Rows} (W : ∀ rows ∈ ways, WayOk n rows) : Agree n ways ↔ ∀ x ∈ startsB n, Ends (succB n (ways.map bitsWay)) x := by
  constructor
  · intro h x hx
    obtain ⟨j, k, h1, h2, rfl⟩ := mem_startsB.mp hx
    exact acc_along (Goes n) (fun p x hp y hy => (goes_next W hp).2 y hy) (h _ (mem_startsN.mpr ⟨j, k, h1, h2, rfl⟩)) _ (goes_start h1 h2)
  · intro h p hp
    obtain ⟨j, k, h1, h2, rfl⟩ := mem_startsN.mp hp
    exact acc_along (fun x p => Goes n p x) (fun x p hp q hq => (goes_next W hp).1 q hq) (h _ (mem_startsB.mpr ⟨j, k, h1, h2, rfl⟩)) _ (goes_start h1 h2)
end AA

/-! ## Ru -/
set_option Elab.async false
set_option linter.all false
set_option maxRecDepth 100000
set_option maxHeartbeats 4000000
/-! Ru: words over the layer HandS: data made of tuples, what a call leaves, defs by name, comprehensions that grow. -/
namespace AA
open PySem PySem.Spec PyProof.Rows L2

/-! ### data made of tuples -/
mutual
inductive Tp (H : Hp) : V → PyData → Prop
  | non : Tp H .non .none
  | bl (b : Bool) : Tp H (.bl b) (.bool b)
  | int (i : Int) : Tp H (.int i) (.int i)
  | str (x : Str) : Tp H (.str x) (.str x)
  | tup {a : Addr} {xs : List V} {ds : List PyData} : H a = some (.tup xs) → TpAll H xs ds → Tp H (.ref a) (.tuple ds)
inductive TpAll (H : Hp) : List V → List PyData → Prop
  | nil : TpAll H [] []
  | cons {v : V} {vs : List V} {d : PyData} {ds : List PyData} : Tp H v d → TpAll H vs ds → TpAll H (v :: vs) (d :: ds)
end
/-- all tuples stay -/
def TK (H H' : Hp) : Prop := ∀ b xs, H b = some (.tup xs) → H' b = some (.tup xs)
section
variable {H H' : Hp}
mutual
theorem Tp.mono (k : TK H H') : ∀ {v : V} {d : PyData}, Tp H v d → Tp H' v d
  | _, _, .non => .non
  | _, _, .bl b => .bl b
  | _, _, .int i => .int i
  | _, _, .str x => .str x
  | _, _, .tup h t => .tup (k _ _ h) (TpAll.mono k t)
theorem TpAll.mono (k : TK H H') : ∀ {vs : List V} {ds : List PyData}, TpAll H vs ds → TpAll H' vs ds
  | _, _, .nil => .nil
  | _, _, .cons h t => .cons (Tp.mono k h) (TpAll.mono k t)
end
mutual
theorem Tp.dp (K : PySem.W.Frag) : ∀ {v : V} {d : PyData}, Tp H v d → Dp K H v d
  | _, _, .non => .non
  | _, _, .bl b => .bl b
  | _, _, .int i => .int i
  | _, _, .str x => .str x
  | _, _, .tup h t => .tup (SqT.of h) (TpAll.dp K t)
theorem TpAll.dp (K : PySem.W.Frag) : ∀ {vs : List V} {ds : List PyData}, TpAll H vs ds → DpAll K H vs ds
  | _, _, .nil => .nil
  | _, _, .cons h t => .cons (Tp.dp K h) (TpAll.dp K t)
end
theorem TpAll.length : ∀ {vs : List V} {ds : List PyData}, TpAll H vs ds → vs.length = ds.length
  | _, _, .nil => rfl
  | _, _, .cons _ t => by rw [List.length_cons, List.length_cons, TpAll.length t]
theorem TpAll.get : ∀ {vs : List V} {ds : List PyData} {i : Nat} {v : V}, TpAll H vs ds → vs[i]? = some v → ∃ d, ds[i]? = some d ∧ Tp H v d
  | _, _, _, _, .nil, e => by simp at e
  | _, _, 0, v, .cons h _, e => by
    simp at e
    subst e
    exact ⟨_, rfl, h⟩
  | _, _, i + 1, v, .cons _ t, e => by
    obtain ⟨d, h1, h2⟩ := TpAll.get (i := i) t (by simpa using e)
    exact ⟨d, by simpa using h1, h2⟩
theorem TpAll.get' : ∀ {vs : List V} {ds : List PyData} {i : Nat} {d : PyData}, TpAll H vs ds → ds[i]? = some d → ∃ v, vs[i]? = some v ∧ Tp H v d
  | _, _, _, _, .nil, e => by simp at e
  | _, _, 0, d, .cons h _, e => by
    simp at e
    subst e
    exact ⟨_, rfl, h⟩
  | _, _, i + 1, d, .cons _ t, e => by
    obtain ⟨v, h1, h2⟩ := TpAll.get' (i := i) t (by simpa using e)
    exact ⟨v, by simpa using h1, h2⟩
theorem TpAll.snoc : ∀ {vs : List V} {ds : List PyData} {v : V} {d : PyData}, TpAll H vs ds → Tp H v d → TpAll H (vs ++ [v]) (ds ++ [d])
  | _, _, _, _, .nil, h => .cons h .nil
  | _, _, _, _, .cons h t, h' => .cons h (TpAll.snoc t h')
theorem TpAll.app : ∀ {vs ws : List V} {ds es : List PyData}, TpAll H vs ds → TpAll H ws es → TpAll H (vs ++ ws) (ds ++ es)
  | _, _, _, _, .nil, h => h
  | _, _, _, _, .cons h t, h' => .cons h (TpAll.app t h')
theorem TpAll.drop : ∀ {vs : List V} {ds : List PyData} (n : Nat), TpAll H vs ds → TpAll H (vs.drop n) (ds.drop n)
  | _, _, 0, h => h
  | _, _, _ + 1, .nil => .nil
  | _, _, n + 1, .cons _ t => TpAll.drop n t
theorem TpAll.take : ∀ {vs : List V} {ds : List PyData} (n : Nat), TpAll H vs ds → TpAll H (vs.take n) (ds.take n)
  | _, _, 0, _ => .nil
  | _, _, _ + 1, .nil => .nil
  | _, _, n + 1, .cons h t => .cons h (TpAll.take n t)
theorem Tp.tuple {v : V} {ds : List PyData} (h : Tp H v (.tuple ds)) : ∃ a xs, v = .ref a ∧ H a = some (.tup xs) ∧ TpAll H xs ds := by
  cases h with
  | tup h t => exact ⟨_, _, rfl, h, t⟩
theorem Tp.int_inv {v : V} {i : Int} (h : Tp H v (.int i)) : v = .int i := by cases h; rfl
theorem Tp.str_inv {v : V} {x : Str} (h : Tp H v (.str x)) : v = .str x := by cases h; rfl
/-- ints in a row -/
theorem TpAll.ints : ∀ ns : List Int, TpAll H (ns.map V.int) (ns.map PyData.int)
  | [] => .nil
  | n :: ns => .cons (.int n) (TpAll.ints ns)
theorem TpAll.ints_inv : ∀ {vs : List V} {ns : List Int}, TpAll H vs (ns.map PyData.int) → vs = ns.map V.int
  | _, [], .nil => rfl
  | _, n :: ns, .cons h t => by rw [h.int_inv, TpAll.ints_inv t]; rfl
theorem TpAll.strs_inv : ∀ {vs : List V} {ns : List Str}, TpAll H vs (ns.map PyData.str) → vs = ns.map V.str
  | _, [], .nil => rfl
  | _, n :: ns, .cons h t => by rw [h.str_inv, TpAll.strs_inv t]; rfl
theorem TpAll.strs : ∀ ns : List Str, TpAll H (ns.map V.str) (ns.map PyData.str)
  | [] => .nil
  | n :: ns => .cons (.str n) (TpAll.strs ns)
end

/-! ### what a call leaves: all but what stands at S stays, tuples stay, nothing vanishes -/
structure Kp (S : Addr → Prop) (H H' : Hp) : Prop where
  kp : ∀ b o, ¬ S b → H b = some o → H' b = some o
  tu : TK H H'
  fr : ∀ b, H' b = none → H b = none
abbrev No : Addr → Prop := fun _ => False
section
variable {S S' : Addr → Prop} {H H1 H2 : Hp} {a : Addr} {o : HO}
theorem Kp.refl (S : Addr → Prop) (H : Hp) : Kp S H H := ⟨fun _ _ _ e => e, fun _ _ e => e, fun _ e => e⟩
theorem Kp.trans (k : Kp S H H1) (k' : Kp S H1 H2) : Kp S H H2 := ⟨fun b o n e => k'.kp b o n (k.kp b o n e), fun b xs e => k'.tu b xs (k.tu b xs e), fun b e => k.fr b (k'.fr b e)⟩
theorem Kp.mono (k : Kp S H H1) (h : ∀ b, S b → S' b) : Kp S' H H1 := ⟨fun b o n e => k.kp b o (fun z => n (h b z)) e, k.tu, k.fr⟩
theorem Kp.no (k : Kp No H H1) : Kp S H H1 := k.mono fun _ z => z.elim
theorem Kp.at (k : Kp No H H1) (e : H a = some o) : H1 a = some o := k.kp a o (fun z => z) e
/-- a new object -/
theorem Kp.new (e : H a = none) : Kp S H (upd H a o) :=
  ⟨fun b u _ h => by rw [upd_ne (ne_of_none h e)]; exact h, fun b xs h => by rw [upd_ne (ne_of_none h e)]; exact h, fun b h => by
    unfold upd at h
    split at h
    · cases h
    · exact h⟩
/-- an object of S written, no tuple -/
theorem Kp.put {u : HO} (hS : S a) (e : H a = some u) (ht : ∀ xs, u ≠ .tup xs) : Kp S H (upd H a o) :=
  ⟨fun b v n h => by
    have hb : b ≠ a := fun z => n (by rw [z]; exact hS)
    rw [upd_ne hb]; exact h, fun b xs h => by
    have hb : b ≠ a := fun z => ht xs (Option.some.inj (e.symm.trans (by rw [← z]; exact h)))
    rw [upd_ne hb]; exact h, fun b h => by
    unfold upd at h
    split at h
    · cases h
    · exact h⟩
/-- an object written that was not there ahead -/
theorem Kp.own {u : HO} (k : Kp S H H1) (n : H a = none) (e : H1 a = some u) (ht : ∀ xs, u ≠ .tup xs) : Kp S H (upd H1 a o) :=
  ⟨fun b v m h => by rw [upd_ne (ne_of_none h n)]; exact k.kp b v m h, fun b xs h => by rw [upd_ne (ne_of_none h n)]; exact k.tu b xs h, fun b h => by
    unfold upd at h
    split at h
    · cases h
    · exact k.fr b h⟩
theorem Kp.same (k : Kp No H H1) : Same H H1 := fun b o e => k.at e
theorem TK.upd_lst {xs : List V} (e : H a = some (.lst xs)) : TK H (upd H a o) := fun b ys h => by
  rw [upd_ne (ne_of h e (by intro z; cases z))]; exact h
theorem TK.new (e : H a = none) : TK H (upd H a o) := fun b ys h => by rw [upd_ne (ne_of_none h e)]; exact h
theorem TK.trans (k : TK H H1) (k' : TK H1 H2) : TK H H2 := fun b xs e => k' b xs (k b xs e)
end

/-! ### defs by name -/
/-- a def of the text stands under its name -/
structure DefIn (K : PySem.W.Frag) (mg : Str → Option Value) (x : Str) (st : Stmt) (ps : List Str) (f : Addr) (fd : FuncData) : Prop where
  fn : Fun K x x st f fd
  mg : mg x = some (.ref f)
  bi : Binds K fd ps []
/-- a def that keeps a promise stands under its name -/
structure Def (P : Program) (w : World) (K : PySem.W.Frag) (mg : Str → Option Value) (base : Heap) (x : Str) (k : Nat) (ps : List Str) (sp : Sp) : Prop where
  ex : ∃ f fd, FnOk P w K mg base CX0 k f fd ps sp ∧ mg x = some (.ref f) ∧ PySem.W.keepIn K (.ref f) = true ∧ Binds K fd ps []
section
variable {P : Program} {w : World} {K : PySem.W.Frag} {mg : Str → Option Value} {base : Heap}
theorem DefIn.ok {x : Str} {st : Stmt} {f : Addr} {fd : FuncData} {N ps : List Str} {k : Nat} {sp : Sp} (D : DefIn K mg x st ps f fd) (S : FnScope N ps (defScope st)) (len : ∀ vs H Q E, sp vs H Q E → vs.length = ps.length)
    (body : ∀ (cdv : Value) (A : Around) (outer : List Env) (s : Shared) (H : Hp) (vs : List V) (Q : VK) (E : XK), Room k (A.deeper (envOfC x (defScope st) s.heap.objs.size f cdv)) → sp vs H Q E →
      ∃ t, PSs (cxOf CX0 P w K mg base N x (defScope st) f cdv A outer s H E).nox (defBody st) t ∧ t { nx := fun _ H' => Q .non H', rt := Q } (start N vs) H) : Def P w K mg base x (k + 1) ps sp :=
  ⟨f, fd, D.fn.ok S len body, D.mg, D.fn.kp, D.bi⟩
theorem Def.mono {x : Str} {j k : Nat} {ps : List Str} {sp : Sp} (D : Def P w K mg base x j ps sp) (h : j ≤ k) : Def P w K mg base x k ps sp := by
  obtain ⟨f, fd, F, h1, h2, h3⟩ := D
  exact ⟨f, fd, F.mono h, h1, h2, h3⟩
end
section
variable {X : Cx} {x : Str} {k : Nat} {ps : List Str} {sp : Sp} {p pos : Pos} {e : Expr} {es : List Expr} {t : TA}
/-- f(e, ..) -/
theorem pe_def (D : Def X.prog X.w X.K X.mg X.base x k ps sp) (hr : Room k X.A) (hg : Gl X x) (ha : PA X (e :: es) t) (hdb : (x == ("__debug__" : Str)) = false := by decide)
    (he : starEach (e :: es) X.env = (false, eval e X.env) :: starEach es X.env := by rfl) (hpl : (backTo pos (starEach es X.env)).any (·.1) = false := by rfl) : PE X (.Call (.Name x p) (e :: es) [] pos) (tCall sp [] E0 t) := by
  obtain ⟨f, fd, F, h1, h2, h3⟩ := D
  exact pe_call F hr hg h1 h2 h3 .nil pass0 ha hdb he hpl
end

/-! ### the rules that lean on the written part K, with K as a word of its own (so that they stand in a comprehension's block) -/
section
variable {X : Cx} (K : PySem.W.Frag)
theorem r_any (h : X.K = K := by rfl) (hc : X.calm = true := by rfl) : CallR X (.builtin "any") (rAny K) := h ▸ cr_any hc
theorem r_all (h : X.K = K := by rfl) (hc : X.calm = true := by rfl) : CallR X (.builtin "all") (rAll K) := h ▸ cr_all hc
theorem r_sum (h : X.K = K := by rfl) (hc : X.calm = true := by rfl) : CallR X (.builtin "sum") (rSum K) := h ▸ cr_sum hc
def rLen : List V → Hp → VK → Prop := fun xs H Q => ∃ p ys, xs = [.ref p] ∧ (SqL K H p ys ∨ SqT K H p ys) ∧ Q (.int ys.length) H
theorem r_len (h : X.K = K := by rfl) : CallR X (.builtin "len") (rLen K) := h ▸ call_len_seq
def rTupOf : List V → Hp → VK → Prop := fun xs H Q => ∃ p ys, xs = [.ref p] ∧ ((SqL K H p ys ∧ ∀ l, H l = none → Q (.ref l) (upd H l (.tup ys))) ∨ (SqT K H p ys ∧ Q (.ref p) H))
theorem r_tuple (h : X.K = K := by rfl) : CallR X (.type "tuple") (rTupOf K) := h ▸ call_tuple_of
def rLstOf : List V → Hp → VK → Prop := fun xs H Q => ∃ p ys, xs = [.ref p] ∧ (SqL K H p ys ∨ SqT K H p ys) ∧ ∀ l, H l = none → Q (.ref l) (upd H l (.lst ys))
theorem r_list (h : X.K = K := by rfl) : CallR X (.type "list") (rLstOf K) := h ▸ call_list_of
theorem x_tup (h : X.K = K := by rfl) : IxR X (rIxT K) := h ▸ ix_tup
theorem x_list (h : X.K = K := by rfl) : IxR X (rIxL K) := h ▸ ix_list
theorem pg_tupK {es : List Expr} {k : Nat} {pos : Pos} {t : TGs} (n : Nat) (h : PGs X es t) (hK : X.K = K := by rfl) (hc : X.calm = true := by rfl) (hn : (assignEach es X.env).length = n := by rfl) (hst : (assignEach es X.env).findIdx? (·.1) = none := by rfl) : PG X (.Tuple es k pos) (gTup K n t) := hK ▸ pg_tup hc h hn hst
theorem pi_tupK {tg l : Expr} {tl : TE} (hl : PE X l tl) (h : X.K = K := by rfl) : PI X tg l (iTup K tl) := h ▸ pi_tup hl
theorem pi_listK {tg l : Expr} {tl : TE} (hl : PE X l tl) (h : X.K = K := by rfl) : PI X tg l (iList K tl) := h ▸ pi_list hl
theorem r_max (h : X.K = K := by rfl) (hc : X.calm = true := by rfl) : CallR X (.builtin "max") (rMax K) := h ▸ cr_max hc
theorem r_min (h : X.K = K := by rfl) (hc : X.calm = true := by rfl) : CallR X (.builtin "min") (rMin K) := h ▸ cr_min hc
theorem o_in (h : X.K = K := by rfl) : OpR X (compareOp .In) (rIn K false) := h ▸ op_in_seq
theorem o_notIn (h : X.K = K := by rfl) : OpR X (compareOp .NotIn) (rIn K true) := h ▸ op_notIn_seq
theorem o_inD (hu : X.A.units + 65 < cLine) (h : X.K = K := by rfl) : OpR X (compareOp .In) (rInD K) := h ▸ op_inD hu
theorem o_notInD (hu : X.A.units + 65 < cLine) (h : X.K = K := by rfl) : OpR X (compareOp .NotIn) (rNotInD K) := h ▸ op_notInD hu
theorem o_catA (h : X.K = K := by rfl) : OpR X (binaryOp .Add) (rCatA K) := h ▸ op_catA
theorem s_tup (h : X.K = K := by rfl) : SlR X (rSlA K) := h ▸ sl_tupA
theorem s_list (h : X.K = K := by rfl) : SlR X (rSlL K) := h ▸ sl_list
theorem c_isi (h : X.K = K := by rfl) : CallR X (.builtin "isinstance") (rIsi K) := h ▸ call_isi
theorem o_eqD (hu : X.A.units + 64 < cLine) (h : X.K = K := by rfl) : OpR X (compareOp .Eq) (rEqD K) := h ▸ op_eqD hu
theorem o_neD (hu : X.A.units + 64 < cLine) (h : X.K = K := by rfl) : OpR X (compareOp .NotEq) (rNeD K) := h ▸ op_neD hu
end

theorem _root_.L2.Room.u65 {k : Nat} {A : Around} (r : Room k A) : A.units + 65 < cLine := by have := r.un; omega
/-! ### comprehensions that grow -/
theorem kp_lst {S : Addr → Prop} {H H' : Hp} {D : Addr} {xs : List V} (k : Kp S H H') (n : ¬ S D) (e : H D = some (.lst xs)) : H' D = some (.lst xs) := k.kp D _ n e
/-- a comprehension over a walk: each turn keeps all but S and either adds a value or does not; Rl tells the list by the turn, and stays while tuples stay -/
theorem lc_grow {S : Addr → Prop} {J : It} {n : Nat} {G : Hp → Prop} {Y : Nat → Hp → V → Hp → Prop} (w : Walk J n G Y) {g : TG} {tt : TT} {te : TE} {vs : List Nat} {σ : L2.St} {H1 : Hp} {D : Addr} {Qd : Hp → Prop} (hn : n < sizeLine) (hD : H1 D = none) (hS : ¬ S D)
    (Rl : Nat → List V → Hp → Prop) (mono : ∀ i acc H H', Kp S H1 H → Kp S H1 H' → TK H H' → Rl i acc H → Rl i acc H') (h0 : ∀ H, Kp S H1 H → Rl 0 [] H) (hG : ∀ H, Kp S H1 H → G H)
    (turn : ∀ i x H H' acc (N : V → Hp → Prop) (N0 : Hp → Prop), i < n → Kp S H1 H → H D = some (.lst acc) → Rl i acc H → Y i H x H' →
      (∀ y H4, Kp S H H4 → Rl (i + 1) (acc ++ [y]) H4 → N y H4) → (∀ H3, Kp S H H3 → Rl (i + 1) acc H3 → N0 H3) →
      g x (wipe σ vs) H' fun σ2 H2 => wipe σ2 vs = wipe σ vs ∧ tt σ2 H2 fun b H3 => if b = true then te σ2 H3 N else N0 H3)
    (hd : ∀ acc H, Kp S H1 H → H D = some (.lst acc) → acc.length ≤ n → Rl n acc H → Qd H) :
    ∃ W : Nat → Nat → Hp → Prop, (∃ m, W 0 m (upd H1 D (.lst []))) ∧ ∀ i m H, W i m H →
      (J.stop i H ∧ Qd H) ∨ (J.go i H ∧ ∃ Nx : Hp → Prop, (∀ H', Nx H' → ∃ m', m' < m ∧ W (i + 1) m' H') ∧ ∀ x H', J.yld i H x H' → g x (wipe σ vs) H' fun σ2 H2 => wipe σ2 vs = wipe σ vs ∧ tt σ2 H2 fun b H3 =>
        if b = true then te σ2 H3 fun y H4 => ∃ acc, H4 D = some (.lst acc) ∧ acc.length < sizeLine ∧ Nx (upd H4 D (.lst (acc ++ [y]))) else Nx H3) := by
  refine lc_it w (fun i H => ∃ acc, Kp S H1 H ∧ H D = some (.lst acc) ∧ acc.length ≤ i ∧ Rl i acc H) ⟨[], Kp.new hD, upd_same, Nat.le_refl _, h0 _ (Kp.new hD)⟩ (fun i H _ h => ?_) (fun i x H H' hi h hy => ?_) fun H h => ?_
  · obtain ⟨acc, k, _⟩ := h
    exact hG H k
  · obtain ⟨acc, k, hl, hle, hr⟩ := h
    refine turn i x H H' acc _ _ hi k hl hr hy (fun y H4 k4 r4 => ?_) fun H3 k3 r3 => ?_
    · have hl4 : H4 D = some (.lst acc) := kp_lst k4 hS hl
      have k4' : Kp S H1 (upd H4 D (.lst (acc ++ [y]))) := Kp.own (k.trans k4) hD hl4 (by intro xs z; cases z)
      refine ⟨acc, hl4, Nat.lt_of_le_of_lt hle (Nat.lt_trans hi hn), acc ++ [y], k4', upd_same, by rw [List.length_append, List.length_singleton]; omega, mono _ _ _ _ (k.trans k4) k4' (TK.upd_lst hl4) r4⟩
    · exact ⟨acc, k.trans k3, kp_lst k3 hS hl, Nat.le_succ_of_le hle, r3⟩
  · obtain ⟨acc, k, hl, hle, hr⟩ := h
    exact hd acc H k hl hle hr
/-- .. whose elements are data, one a turn -/
theorem lc_mapD {S : Addr → Prop} {J : It} {n : Nat} {G : Hp → Prop} {Y : Nat → Hp → V → Hp → Prop} (w : Walk J n G Y) {g : TG} {te : TE} {vs : List Nat} {σ : L2.St} {H1 : Hp} {D : Addr} {Qd : Hp → Prop} (hn : n < sizeLine) (hD : H1 D = none) (hS : ¬ S D)
    (ds : Nat → PyData) (hG : ∀ H, Kp S H1 H → G H)
    (turn : ∀ i x H H' acc (N : V → Hp → Prop), i < n → Kp S H1 H → H D = some (.lst acc) → Y i H x H' → (∀ y H4, Kp S H H4 → Tp H4 y (ds i) → N y H4) →
      g x (wipe σ vs) H' fun σ2 H2 => wipe σ2 vs = wipe σ vs ∧ te σ2 H2 N)
    (hd : ∀ acc H, Kp S H1 H → H D = some (.lst acc) → TpAll H acc ((List.range n).map ds) → Qd H) :
    ∃ W : Nat → Nat → Hp → Prop, (∃ m, W 0 m (upd H1 D (.lst []))) ∧ ∀ i m H, W i m H →
      (J.stop i H ∧ Qd H) ∨ (J.go i H ∧ ∃ Nx : Hp → Prop, (∀ H', Nx H' → ∃ m', m' < m ∧ W (i + 1) m' H') ∧ ∀ x H', J.yld i H x H' → g x (wipe σ vs) H' fun σ2 H2 => wipe σ2 vs = wipe σ vs ∧ tYes σ2 H2 fun b H3 =>
        if b = true then te σ2 H3 fun y H4 => ∃ acc, H4 D = some (.lst acc) ∧ acc.length < sizeLine ∧ Nx (upd H4 D (.lst (acc ++ [y]))) else Nx H3) :=
  lc_grow (tt := tYes) w hn hD hS (fun i acc H => TpAll H acc ((List.range i).map ds)) (fun _ _ _ _ _ _ k h => h.mono k) (fun _ _ => .nil) hG
    (fun i x H H' acc N N0 hi k hl hr hy hN _ => turn i x H H' acc N hi k hl hy fun y H4 k4 h4 => hN y H4 k4 (by
      rw [List.range_succ, List.map_append]
      exact (hr.mono k4.tu).snoc h4))
    (fun acc H k hl _ hr => hd acc H k hl hr)
/-- .. and a test: sel tells which turns add -/
theorem lc_filtD {S : Addr → Prop} {J : It} {n : Nat} {G : Hp → Prop} {Y : Nat → Hp → V → Hp → Prop} (w : Walk J n G Y) {g : TG} {tt : TT} {te : TE} {vs : List Nat} {σ : L2.St} {H1 : Hp} {D : Addr} {Qd : Hp → Prop} (hn : n < sizeLine) (hD : H1 D = none) (hS : ¬ S D)
    (sel : Nat → Bool) (ds : Nat → PyData) (hG : ∀ H, Kp S H1 H → G H)
    (turn : ∀ i x H H' acc (N : V → Hp → Prop) (N0 : Hp → Prop), i < n → Kp S H1 H → H D = some (.lst acc) → Y i H x H' → (∀ y H4, sel i = true → Kp S H H4 → Tp H4 y (ds i) → N y H4) → (∀ H3, sel i = false → Kp S H H3 → N0 H3) →
      g x (wipe σ vs) H' fun σ2 H2 => wipe σ2 vs = wipe σ vs ∧ tt σ2 H2 fun b H3 => if b = true then te σ2 H3 N else N0 H3)
    (hd : ∀ acc H, Kp S H1 H → H D = some (.lst acc) → TpAll H acc (((List.range n).filter sel).map ds) → Qd H) :
    ∃ W : Nat → Nat → Hp → Prop, (∃ m, W 0 m (upd H1 D (.lst []))) ∧ ∀ i m H, W i m H →
      (J.stop i H ∧ Qd H) ∨ (J.go i H ∧ ∃ Nx : Hp → Prop, (∀ H', Nx H' → ∃ m', m' < m ∧ W (i + 1) m' H') ∧ ∀ x H', J.yld i H x H' → g x (wipe σ vs) H' fun σ2 H2 => wipe σ2 vs = wipe σ vs ∧ tt σ2 H2 fun b H3 =>
        if b = true then te σ2 H3 fun y H4 => ∃ acc, H4 D = some (.lst acc) ∧ acc.length < sizeLine ∧ Nx (upd H4 D (.lst (acc ++ [y]))) else Nx H3) :=
  lc_grow (tt := tt) w hn hD hS (fun i acc H => TpAll H acc (((List.range i).filter sel).map ds)) (fun _ _ _ _ _ _ k h => h.mono k) (fun _ _ => .nil) hG
    (fun i x H H' acc N N0 hi k hl hr hy hN hN0 => turn i x H H' acc N N0 hi k hl hy (fun y H4 hs k4 h4 => hN y H4 k4 (by
      rw [List.range_succ, List.filter_append, List.map_append, List.filter_cons_of_pos hs, List.filter_nil]
      exact (hr.mono k4.tu).snoc h4)) fun H3 hs k3 => hN0 H3 k3 (by
      rw [List.range_succ, List.filter_append, List.map_append, List.filter_cons_of_neg (by rw [hs]; decide), List.filter_nil, List.map_nil, List.append_nil]
      exact hr.mono k3.tu))
    (fun acc H k hl _ hr => hd acc H k hl hr)
theorem TpAll.bls_inv {H : Hp} : ∀ {vs : List V} {bs : List Bool}, TpAll H vs (bs.map PyData.bool) → vs = bs.map V.bl
  | _, [], .nil => rfl
  | _, b :: bs, .cons h t => by
    rw [TpAll.bls_inv t]
    cases h
    rfl
theorem walk_range0 {n : Nat} : Walk (Itr 0 n) n (fun _ => True) (fun i H x H' => H' = H ∧ x = .int ((i : Nat) : Int)) :=
  ⟨fun _ _ hi _ => hi, fun _ _ => Nat.le_refl _, fun _ _ _ _ _ _ y => ⟨y.1, y.2.trans (by rw [Int.zero_add])⟩⟩
theorem TpAll.bls_map {H : Hp} {α : Type} (f : α → Bool) : ∀ {l : List α} {vs : List V}, TpAll H vs (l.map fun x => .bool (f x)) → vs = (l.map f).map V.bl
  | [], _, .nil => rfl
  | _ :: _, _, .cons h t => by
    rw [TpAll.bls_map f t]
    cases h
    rfl
theorem TpAll.ints_map {H : Hp} {α : Type} (f : α → Int) : ∀ {l : List α} {vs : List V}, TpAll H vs (l.map fun x => .int (f x)) → vs = (l.map f).map V.int
  | [], _, .nil => rfl
  | _ :: _, _, .cons h t => by
    rw [TpAll.ints_map f t]
    cases h
    rfl
theorem range_get {α β : Type} (l : List α) (f : α → β) (d : α) : (List.range l.length).map (fun i => f (l.getD i d)) = l.map f := by
  apply List.ext_getElem?
  intro i
  rw [List.getElem?_map, List.getElem?_map]
  by_cases h : i < l.length
  · rw [List.getElem?_range h, List.getElem?_eq_getElem h]
    show some (f (l.getD i d)) = some (f l[i])
    rw [List.getD_eq_getElem?_getD, List.getElem?_eq_getElem h]
    rfl
  · rw [List.getElem?_eq_none (by simpa using h), List.getElem?_eq_none (by simpa using h)]
    rfl
theorem getD_of {α : Type} {l : List α} {i : Nat} (h : i < l.length) (d : α) : l[i]? = some (l.getD i d) := by
  rw [List.getD_eq_getElem?_getD, List.getElem?_eq_getElem h]
  rfl
end AA

/-! ## En -/
set_option Elab.async false
set_option linter.all false
set_option maxRecDepth 100000
set_option maxHeartbeats 4000000
namespace AA
open PySem PySem.Spec PyProof.Rows L2
/-! ### enumerate(a tuple) -/
theorem enum_new1 {v : Value} {o : Obj} {R0 : Heap → Prop} (B : Begins v o R0) :
    Meets (Builtin.«enumerate.__new__» ⟨[.type "enumerate", v], []⟩) (fun _ R s => R0 s.heap ∧
      R (.ok (.ret (.ref (s.heap.push o).objs.size))) { s with heap := (s.heap.push o).push { cls := .type "enumerate", data := .fields #[.none, .bool false, .ref s.heap.objs.size, rawInt 0, .none, .none] } }) :=
  .of_wp fun prog w A R s h => by
    obtain ⟨hp, g, d, tk, os⟩ := s
    obtain ⟨h1, h⟩ := h
    have hsub := sub_enumerate
    have q1 : ∀ {A' : Around} {E Q : Value → Shared → Prop}, Q (.ref hp.objs.size) ⟨hp.push o, g, d, tk, os⟩ → wpAny (model prog w) A' (pyIter v) Q E ⟨hp, g, d, tk, os⟩ := fun q => B.iter prog w _ _ ⟨hp, g, d, tk, os⟩ _ h1 q
    wp_walk using q1
    refine wpAny_stack_any fun st => wpAny_pure ?_
    split
    · rename_i c _ _ _ _ _
      cases (c == Value.type "enumerate") <;> (wp_walk using q1; exact ⟨_, rfl, h⟩)
    · wp_walk using q1; exact ⟨_, rfl, h⟩
section
variable {prog : Program} {w : World} {A : Around} {E : Value → Shared → Prop} {s : Shared}
theorem enum_begins1 {v : Value} {o : Obj} {R0 : Heap → Prop} {Q : Value → Shared → Prop} (B : Begins v o R0) (h1 : R0 s.heap)
    (h : ∀ h', IsEnum h' (s.heap.objs.size + 1) s.heap.objs.size 0 .none → h'.get? s.heap.objs.size = some o → (∀ b u, s.heap.get? b = some u → h'.get? b = some u) → Q (.ref (s.heap.objs.size + 1)) { s with heap := h' }) :
    wpAny (model prog w) A (call (.type "enumerate") [v]) Q E s := by
  refine callType_new F.called_enumerate (by decide) (F.typeCall_enumerate_1 _) (F.newCall_enumerate_1 _) (fun obj => F.args_object_init_2 obj _) F.entry_enumerate_new (enum_new1 B) ⟨h1, ?_⟩
  have hz : (s.heap.push o).objs.size = s.heap.objs.size + 1 := Heap.size_push ..
  show _ ∧ _
  rw [hz]
  have he : IsEnum ((s.heap.push o).push { cls := .type "enumerate", data := .fields #[.none, .bool false, .ref s.heap.objs.size, rawInt 0, .none, .none] }) (s.heap.objs.size + 1) s.heap.objs.size 0 .none := by
    have q := Heap.get?_push_size (s.heap.push o) (o := { cls := .type "enumerate", data := .fields #[.none, .bool false, .ref s.heap.objs.size, rawInt 0, .none, .none] }) rfl
    rw [hz] at q
    exact q
  exact ⟨⟨_, he, rfl⟩, h _ he (Heap.get?_push_of_some _ (Heap.get?_push_size _ B.free)) fun b u x => Heap.get?_push_of_some _ (Heap.get?_push_of_some _ x)⟩
end
def IteT (K : PySem.W.Frag) (a : Addr) : It :=
  ⟨fun i H => ∃ (xs : List V) (x : V), SqT K H a xs ∧ xs[i]? = some x, fun i H v H' => ∃ T x, v = .ref T ∧ H T = none ∧ H' = upd H T (.tup [.int ((i : Nat) : Int), x]) ∧ ∀ xs, SqT K H a xs → xs[i]? = some x, fun i H => ∃ xs : List V, SqT K H a xs ∧ xs.length = i⟩
theorem tup_ne_it {h : Heap} {a it : Addr} {i : Nat} {items : Array Value} (p : IsTup h a items) (q : h.IsTupleIter it a i) : a ≠ it := fun e => by
  obtain ⟨o, ho, hc, _⟩ := p
  obtain ⟨o', ho', hc', _⟩ := q
  rw [e, ho'] at ho
  cases ho
  rw [hc] at hc'
  exact absurd hc' (by decide +kernel)
theorem tup_ne_enum {h : Heap} {a e it : Addr} {c : Int} {old : Value} {items : Array Value} (p : IsTup h a items) (q : IsEnum h e it c old) : e ≠ a := fun z => by
  obtain ⟨o, ho, hc, _⟩ := p
  have q' : h.get? e = some _ := q
  rw [z, ho] at q'
  have z2 : o.cls = Value.type "enumerate" := congrArg Obj.cls (Option.some.inj q')
  rw [hc] at z2
  exact absurd z2 (by decide +kernel)
theorem turn_enumT {P : Program} {w : World} {K : PySem.W.Frag} {elts : List Expr} {kk : Nat} {tpos : Pos} (a e it : Addr) :
    Turn P w K (.Tuple elts kk tpos) (IteT K a) [e, it] e (fun i h => (∃ old, IsEnum h e it ((i : Nat) : Int) old) ∧ h.IsTupleIter it a i ∧ e ≠ it) where
  mem := List.mem_cons_self
  obj := by
    rintro i h ⟨⟨old, he⟩, ⟨o, ho, hc, hd⟩, _⟩ b hb
    rcases List.mem_cons.mp hb with rfl | hb
    · exact ⟨_, he, fun v q => nomatch q⟩
    · rw [List.mem_singleton.mp hb]
      exact ⟨o, ho, fun v q => by rw [hd] at q; cases q⟩
  keep := fun i h h' ⟨⟨old, he⟩, hi, hne⟩ k => ⟨⟨old, k e List.mem_cons_self _ he⟩, hi.at fun o q => k it (List.mem_cons_of_mem _ List.mem_cons_self) o q, hne⟩
  item := by
    intro X hP hw hK hc i pins s σ H E I hf st hg
    subst hP hw hK
    obtain ⟨⟨old, he⟩, hit, hne⟩ := st
    obtain ⟨xs, x, hq, hx⟩ := hg
    obtain ⟨its, rv, p, hz⟩ := I.tuple hq
    obtain ⟨u, hu, ru⟩ := rv.get hx
    have hai := tup_ne_it p hit
    have hea := tup_ne_enum p he
    have hel : e < s.heap.objs.size := Heap.lt_size he
    have hil : it < s.heap.objs.size := by obtain ⟨_, q, _⟩ := hit; exact Heap.lt_size q
    have hlt : i < its.toArray.size := by
      rw [List.size_toArray]
      exact (List.getElem?_eq_some_iff.mp hu).1
    refine wpAny_pyNext_enum_itemD (Draws.tuple (prog := X.prog) (w := X.w) (A := X.A.in1) (I.ok.hd hc) it a hai its.toArray) he ⟨hit, p⟩ hlt hne (fun z => ?_) fun y h' tk hy ho hst hT hsz hk => ?_
    · rcases List.mem_cons.mp z with z | z
      · exact hne z
      · exact hea (List.mem_singleton.mp z)
    · have ey : y = u := by
        have hy' : its[i]? = some y := by simpa using hy
        exact Option.some.inj (hy'.symm.trans hu)
      subst ey
      obtain ⟨hit', _⟩ := hst
      refine ⟨_, rfl, wpAny_letOwnedTupleGo_enum (s := { s with heap := h', toks := tk + 1 }) ho fun h'' he' sb => ?_⟩
      have hT2 : h''.get? s.heap.objs.size = some { cls := .type "tuple", data := .seq #[.int i tk, y] } := (sb.2 _ (Nat.ne_of_gt hel)).trans hT
      have I1 : Inv X pins σ (upd H s.heap.objs.size (.tup [.int ((i : Nat) : Int), x])) { s with heap := h'', toks := tk + 1 } :=
        I.turnedNew (ch := [e, it]) (fun b ob hb q => (sb.2 b (fun z => hb (by rw [z]; exact List.mem_cons_self))).trans (hk b ob (fun z => hb (by rw [z]; exact List.mem_cons_self)) (fun z => hb (by rw [z]; exact List.mem_cons_of_mem _ List.mem_cons_self)) q)) hf (Nat.le_refl _)
          ⟨by show 2 ≤ sizeLine; decide, [.int i tk, y], .cons ⟨_, rfl⟩ (.cons ru .nil), ⟨_, hT2, rfl, _, rfl⟩⟩
      refine ⟨.ref s.heap.objs.size, _, I1, rfl, ⟨_, x, rfl, I.hok.fresh (Nat.le_refl _), rfl, fun ys hy => by rw [I.tuple_inj hy hq]; exact hx⟩, ⟨⟨y, ?_⟩, hit'.at fun o q => (sb.2 it (Ne.symm hne)).trans q, hne⟩, fun b hb => ?_⟩
      · rw [show ((i + 1 : Nat) : Int) = (i : Int) + 1 from by omega]
        exact he'
      · have hb' : b < s.heap.objs.size := by
          rcases List.mem_cons.mp hb with rfl | hb
          · exact hel
          · rw [List.mem_singleton.mp hb]; exact hil
        rw [upd_ne (Nat.ne_of_lt hb')]
        exact (hf b hb).1
  done := by
    intro X hP hw hK hc i pins s σ H E I hf st hg
    subst hP hw hK
    obtain ⟨⟨old, he⟩, hit, hne⟩ := st
    obtain ⟨xs, hq, hx⟩ := hg
    obtain ⟨its, rv, p, hz⟩ := I.tuple hq
    obtain ⟨f0, f1, f2, f3, f4, f5⟩ := hf it (List.mem_cons_of_mem _ List.mem_cons_self)
    have el : its.toArray.size = i := by rw [List.size_toArray, ← rv.length, hx]
    exact wpAny_pyNext_enum_endD (Draws.tuple (prog := X.prog) (w := X.w) (A := X.A.in1) (I.ok.hd hc) it a (tup_ne_it p hit) its.toArray) he ⟨by rw [el]; exact hit, p⟩ fun h' eb => ⟨rfl, I.turned (t' := s.toks) (fun b o hb q => eb b o hb q) f0 f1 f3 f4 f5⟩
  self := fun A i s Q E st h => wpAny_pyIter_enum st.1.choose_spec h
def iEnumT (K : PySem.W.Frag) (ta : TA) : TI := fun σ H R => ta σ H fun vs H1 => ∃ a xs, vs = [.ref a] ∧ SqT K H1 a xs ∧ R (IteT K a) H1
theorem pi_enumT {X : Cx} (K : PySem.W.Frag) {e : Expr} {ta : TA} {p pos tpos : Pos} {elts : List Expr} {kk : Nat} (hg : Gl X "enumerate") (hm : X.mg "enumerate" = none) (ha : PA X [e] ta) (hK : X.K = K := by rfl) (hs : starEach [e] X.env = [(false, eval e X.env)] := by rfl) :
    PI X (.Tuple elts kk tpos) (.Call (.Name "enumerate" p) [e] [] pos) (iEnumT K ta) := by
  subst hK
  refine ⟨fun pins s σ H R I h => ?_⟩
  refine Call_ (ld_blt I hg hm boot_enumerate (PyProof.Rows.callWith_type1 (thn (ha.run pos pins s σ H _ I h) fun us s1 ⟨vs, H1, I1, r1, q1⟩ => ?_) hs rfl))
  obtain ⟨a, xs, ex, hq, q⟩ := q1
  subst ex
  cases r1 with
  | cons r rr =>
    cases rr
    cases r
    obtain ⟨its, rv, p', hz⟩ := I1.tuple hq
    refine enum_begins1 (begins_tuple a its.toArray) (show s1.heap.IsTuple a its.toArray from p') fun h' he hit hk => wpAny_pyIter_enum he ?_
    have I2 : Inv X pins σ H1 { s1 with heap := h' } := I1.kept (t' := s1.toks) hk
    refine ⟨s1.heap.objs.size + 1, [s1.heap.objs.size + 1, s1.heap.objs.size], _, _, H1, rfl, I2, turn_enumT a (s1.heap.objs.size + 1) s1.heap.objs.size, ⟨⟨.none, he⟩, ⟨_, hit, rfl, rfl⟩, Nat.succ_ne_self _⟩, fun b hb => ?_, q⟩
    have hle : s1.heap.objs.size ≤ b := by
      rcases List.mem_cons.mp hb with rfl | hb
      · exact Nat.le_add_right _ _
      · rw [List.mem_singleton.mp hb]; exact Nat.le_refl _
    exact I1.fpOk hle (I1.hok.fresh hle)
theorem walk_enumT {K : PySem.W.Frag} {a : Addr} {xs : List V} : Walk (IteT K a) xs.length (fun H => SqT K H a xs) (YPair (fun i => some (.int ((i : Nat) : Int))) (fun i => xs[i]?)) := by
  refine ⟨fun i _ hi q => ⟨xs, xs[i], q, by simp [hi]⟩, fun _ q => ⟨xs, q, rfl⟩, fun i H v H' _ q y => ?_⟩
  obtain ⟨T, x, h1, h2, h3, h4⟩ := y
  exact ⟨T, .int ((i : Nat) : Int), x, h1, h2, h3, rfl, h4 xs q⟩
end AA

/-! ## Rx -/
set_option Elab.async false
set_option linter.all false
set_option maxRecDepth 100000
set_option maxHeartbeats 4000000
/-! Rx: further rules over the layer HandS: in of a tuple of data, repr, min and max of data, sorted of data. -/
namespace AA
open PySem PySem.Spec PyProof.Rows L2 PySem.W

/-! ### x in t, t a tuple of data -/
section
variable {X : Cx} (K : PySem.W.Frag)
def rInT : R2 := fun x y H Q => ∃ d ds, Dp K H x d ∧ Dp K H y (.tuple ds) ∧ SeqAt.shaped d = true ∧ SeqAt.shaped (.tuple ds) = true ∧ Q (.bl (ds.any fun z => PyData.eqv z d)) H
theorem o_inT (hu : X.A.units + 65 < cLine) (hK : X.K = K := by rfl) : OpR X (compareOp .In) (rInT K) := by
  subst hK
  rintro pins s σ H x y v u Q I rx ry ⟨d, ds, hd, he, sd, se, q⟩
  obtain ⟨as, r1⟩ := Dp.reads I d x v hd rx
  obtain ⟨bs, r2⟩ := Dp.reads I (.tuple ds) y u he ry
  exact SeqAt.in_tuple_reads r2 r1 (SeqAt.canLay_of_shaped se) (SeqAt.canLay_of_shaped sd) (room_in_shaped sd hu) ⟨.bl _, H, I, rfl, q⟩
end

/-! ### repr of data -/
def rRepr (K : PySem.W.Frag) : List V → Hp → VK → Prop := fun xs H Q => ∃ a d, xs = [.ref a] ∧ Dp K H (.ref a) d ∧ d.hasDict = false ∧ d.showable = true ∧ d.depth ≤ 60 ∧ d.shown.length ≤ sizeLine ∧ Q (.str d.shown) H
theorem r_repr {X : Cx} (K : PySem.W.Frag) (hg : X.A.guards = some []) (hu : X.A.units + 64 < cLine) (hK : X.K = K := by rfl) : CallR X (.builtin "repr") (rRepr K) := by
  subst hK
  rintro pins s σ H xs us Q I r ⟨a, d, rfl, hd, nd, hs, hdep, hz, q⟩
  obtain ⟨u, rfl, ru⟩ := vals1 r
  cases ru
  obtain ⟨as, rd⟩ := Dp.reads I d _ _ hd rfl
  refine repr_of_reads' rd hs (PyData.noDict_hsm nd) hg (by omega) (fun _ _ e => e) (fun h' u tk hk => ?_) hz
  exact ⟨.str d.shown, H, I.kept hk, ⟨_, rfl⟩, q⟩

/-! ### min and max of two values that are data -/
section
variable {prog : Program} {w : World} {A : Around} {E : Value → Shared → Prop} {s : Shared}
theorem pick_two {u v x : Value} {bt : Nat → Nat → Bool} (h : (#[u, v] : Array Value)[argBest bt 1]? = some x) : x = if bt 1 0 = true then v else u := by
  by_cases hb : bt 1 0 = true
  · have e : argBest bt 1 = 1 := if_pos hb
    rw [e] at h
    rw [if_pos hb]
    exact (Option.some.inj h).symm
  · have e : argBest bt 1 = 0 := if_neg hb
    rw [e] at h
    rw [if_neg hb]
    exact (Option.some.inj h).symm
theorem two_reads {h : Heap} {u v : Value} {d e : PyData} (r1 : ∃ as, Reads h u d as) (r2 : ∃ as, Reads h v e as) : ∃ as, ReadsAll h (#[u, v] : Array Value).toList [d, e] as := by
  obtain ⟨as, r1⟩ := r1
  obtain ⟨bs, r2⟩ := r2
  exact ⟨_, .cons r1 (.cons r2 .nil)⟩
theorem min2_data {u v : Value} {d e : PyData} {Q : Value → Shared → Prop} (hh : A.handled = none) (r1 : ∃ as, Reads s.heap u d as) (r2 : ∃ as, Reads s.heap v e as) (ha : AlikeAll [d, e]) (hu : A.units + 1 + PyData.depthAll [d, e] < cLine)
    (h : ∀ h' tk, (∀ b o, s.heap.get? b = some o → h'.get? b = some o) → Q (if dataLt e d = true then v else u) { s with heap := h', toks := tk }) : wpAny (model prog w) A (call (.builtin "min") [u, v]) Q E s := by
  have nm : (toString "min" ++ toString ".loop" : String) = "min.loop" := by decide
  refine call_function_tree F.kind_min F.plain_min F.entry_min (F.args_min2 _ _) ?_
  show wpAny _ A.in1 (Builtin.Builtins.bindParams "min" ["key", "default"] 0 ⟨[], []⟩ >>= _) _ _ s
  refine wpAny_bind (wpAny_of_eq (a := [none, none]) rfl ?_)
  show wpAny _ A.in1 (newTuple [u, v] >>= _) _ _ s
  refine wpAny_bind (wpAny_newObj_type ?_)
  have hT : (s.heap.push { cls := .type "tuple", data := .seq #[u, v] }).IsTuple s.heap.objs.size #[u, v] := ⟨_, Heap.get?_push_size _ rfl, rfl, 0, rfl⟩
  have k1 : ∀ b o, s.heap.get? b = some o → (s.heap.push { cls := .type "tuple", data := .seq #[u, v] }).get? b = some o := fun b o z => Heap.get?_push_of_some _ z
  obtain ⟨as, rr⟩ := two_reads (r1.imp fun _ r => reads_keeps k1 r) (r2.imp fun _ r => reads_keeps k1 r)
  refine wpAny_bind (iter_tupleW (s := { s with heap := s.heap.push { cls := .type "tuple", data := .seq #[u, v] } }) (A := A.in1) hh hT fun s₂ e2 W st hfp hw hk => ?_)
  refine wpAny_bind (wpAny_newObj_type ?_)
  rw [nm]
  refine wpAny_pure ⟨plainId_quiet F.plain_min_loop _, codeAny_min_loop_firstH W _ hw _ (cmpIn_lt rr ha hu) s₂.heap.objs.size (fun z => Nat.lt_irrefl _ (hfp _ z)) (fresh_in hk) _ (Nat.zero_lt_succ 1) (fun b o z => Heap.get?_push_of_some _ (hk b o z)) (W.frame 0 s₂ _ s₂.toks st (Nat.le_refl _) fun b _ o z => Heap.get?_push_of_some _ z) (Heap.get?_push_size _ rfl) fun x s' hP hm => ?_⟩
  obtain ⟨h', tk, rfl, hk'⟩ := moved_old e2 rfl (Moved.drop_new (tk := s₂.toks) hm (Nat.le_refl _))
  rw [pick_two hP]
  exact h h' tk fun b o z => hk' b o (k1 b o z)
theorem max2_data {u v : Value} {d e : PyData} {Q : Value → Shared → Prop} (hh : A.handled = none) (r1 : ∃ as, Reads s.heap u d as) (r2 : ∃ as, Reads s.heap v e as) (ha : AlikeAll [d, e]) (hu : A.units + 1 + PyData.depthAll [d, e] < cLine)
    (h : ∀ h' tk, (∀ b o, s.heap.get? b = some o → h'.get? b = some o) → Q (if dataLt d e = true then v else u) { s with heap := h', toks := tk }) : wpAny (model prog w) A (call (.builtin "max") [u, v]) Q E s := by
  have nm : (toString "max" ++ toString ".loop" : String) = "max.loop" := by decide
  refine call_function_tree F.kind_max F.plain_max F.entry_max (F.args_max2 _ _) ?_
  show wpAny _ A.in1 (Builtin.Builtins.bindParams "max" ["key", "default"] 0 ⟨[], []⟩ >>= _) _ _ s
  refine wpAny_bind (wpAny_of_eq (a := [none, none]) rfl ?_)
  show wpAny _ A.in1 (newTuple [u, v] >>= _) _ _ s
  refine wpAny_bind (wpAny_newObj_type ?_)
  have hT : (s.heap.push { cls := .type "tuple", data := .seq #[u, v] }).IsTuple s.heap.objs.size #[u, v] := ⟨_, Heap.get?_push_size _ rfl, rfl, 0, rfl⟩
  have k1 : ∀ b o, s.heap.get? b = some o → (s.heap.push { cls := .type "tuple", data := .seq #[u, v] }).get? b = some o := fun b o z => Heap.get?_push_of_some _ z
  obtain ⟨as, rr⟩ := two_reads (r1.imp fun _ r => reads_keeps k1 r) (r2.imp fun _ r => reads_keeps k1 r)
  refine wpAny_bind (iter_tupleW (s := { s with heap := s.heap.push { cls := .type "tuple", data := .seq #[u, v] } }) (A := A.in1) hh hT fun s₂ e2 W st hfp hw hk => ?_)
  refine wpAny_bind (wpAny_newObj_type ?_)
  rw [nm]
  refine wpAny_pure ⟨plainId_quiet F.plain_max_loop _, codeAny_max_loop_firstH W _ hw _ (cmpIn_gt rr ha hu) s₂.heap.objs.size (fun z => Nat.lt_irrefl _ (hfp _ z)) (fresh_in hk) _ (Nat.zero_lt_succ 1) (fun b o z => Heap.get?_push_of_some _ (hk b o z)) (W.frame 0 s₂ _ s₂.toks st (Nat.le_refl _) fun b _ o z => Heap.get?_push_of_some _ z) (Heap.get?_push_size _ rfl) fun x s' hP hm => ?_⟩
  obtain ⟨h', tk, rfl, hk'⟩ := moved_old e2 rfl (Moved.drop_new (tk := s₂.toks) hm (Nat.le_refl _))
  rw [pick_two hP]
  exact h h' tk fun b o z => hk' b o (k1 b o z)
end
section
variable {X : Cx}
def rMin2 : List V → Hp → VK → Prop := fun xs H Q => ∃ x y d e, xs = [x, y] ∧ Tp H x d ∧ Tp H y e ∧ AlikeAll [d, e] ∧ PyData.depthAll [d, e] ≤ 60 ∧ Q (if dataLt e d = true then y else x) H
def rMax2 : List V → Hp → VK → Prop := fun xs H Q => ∃ x y d e, xs = [x, y] ∧ Tp H x d ∧ Tp H y e ∧ AlikeAll [d, e] ∧ PyData.depthAll [d, e] ≤ 60 ∧ Q (if dataLt d e = true then y else x) H
theorem r_min2 (hu : X.A.units + 64 < cLine) (hc : X.calm = true := by rfl) : CallR X (.builtin "min") rMin2 := by
  rintro pins s σ H xs us Q I r ⟨x, y, d, e, rfl, hx, hy, ha, hd, q⟩
  obtain ⟨u, v, rfl, ru, rv⟩ := vals2 r
  refine min2_data (I.ok.hd hc) (Dp.reads I d x u (hx.dp _) ru) (Dp.reads I e y v (hy.dp _) rv) ha (by omega) fun h' tk k => ⟨_, H, I.kept k, ?_, q⟩
  split
  · exact rv
  · exact ru
theorem r_max2 (hu : X.A.units + 64 < cLine) (hc : X.calm = true := by rfl) : CallR X (.builtin "max") rMax2 := by
  rintro pins s σ H xs us Q I r ⟨x, y, d, e, rfl, hx, hy, ha, hd, q⟩
  obtain ⟨u, v, rfl, ru, rv⟩ := vals2 r
  refine max2_data (I.ok.hd hc) (Dp.reads I d x u (hx.dp _) ru) (Dp.reads I e y v (hy.dp _) rv) ha (by omega) fun h' tk k => ⟨_, H, I.kept k, ?_, q⟩
  split
  · exact rv
  · exact ru
/-- min(xs), xs a list of data: the first of the least -/
def rMinD (K : PySem.W.Frag) : List V → Hp → VK → Prop := fun vs H Q => ∃ (a : Addr) (xs : List V) (d : PyData) (ds : List PyData), vs = [V.ref a] ∧ SqL K H a xs ∧ TpAll H xs (d :: ds) ∧ AlikeAll (d :: ds) ∧ PyData.depthAll (d :: ds) ≤ 60 ∧ ∀ v, Tp H v (minD d ds) → Q v H
theorem r_minD (K : PySem.W.Frag) (hu : X.A.units + 64 < cLine) (hK : X.K = K := by rfl) (hc : X.calm = true := by rfl) : CallR X (.builtin "min") (rMinD K) := by
  subst hK
  rintro pins s σ H xs us Q I r ⟨a, zs, d, ds, rfl, hl, hall, ha, hd, q⟩
  obtain ⟨u, rfl, ru⟩ := vals1 r
  cases ru
  obtain ⟨its, rv, p, hz⟩ := I.list hl
  obtain ⟨as, rd⟩ := Dp.readsAll I (d :: ds) zs its (hall.dp _) rv
  refine min_list_data (I.ok.hd hc) p.isList (vs := its.toArray) rd ha (by omega) fun i v h' tk bs hv rm k => ?_
  have hv' : its[i]? = some v := by simpa using hv
  have hi : i < zs.length := by rw [rv.length]; exact (List.getElem?_eq_some_iff.mp hv').1
  obtain ⟨u', hu', ru'⟩ := rv.get (List.getElem?_eq_getElem hi)
  rw [hv'] at hu'
  cases hu'
  obtain ⟨e, he, te⟩ := hall.get (List.getElem?_eq_getElem hi)
  obtain ⟨cs, rc⟩ := Dp.reads I e _ v (te.dp _) ru'
  obtain ⟨e1, _⟩ := reads_det (fun b o z _ => k b o z) rc rm
  rw [← e1] at te
  exact ⟨_, H, I.kept k, ru', q _ te⟩
/-- sorted(xs), xs a list of data -/
def rSortD (K : PySem.W.Frag) {β : Type} (enc : β → PyData) : List V → Hp → VK → Prop := fun vs H Q => ∃ (a : Addr) (xs : List V) (bs : List β), vs = [V.ref a] ∧ SqL K H a xs ∧ TpAll H xs (bs.map enc) ∧ AllAlike (bs.map enc) ∧ Sortable (bs.map enc) ∧ (∀ b ∈ bs, (enc b).depth ≤ 60) ∧
  ∀ ys p, H p = none → TpAll H ys ((bs.mergeSort (dataLe false enc)).map enc) → Q (.ref p) (upd H p (.lst ys))
theorem each_of {β : Type} {enc : β → PyData} {H : Hp} : ∀ {xs : List V} {us : List Value} {bs : List β}, TpAll H xs (bs.map enc) → Vals xs us → EachIs (fun v b => ∃ x, RelV x v ∧ Tp H x (enc b)) us bs
  | _, _, [], .nil, .nil => .nil
  | _, _, _ :: _, .cons h t, .cons r s => .cons ⟨_, r, h⟩ (each_of t s)
theorem of_each {β : Type} {enc : β → PyData} {H : Hp} : ∀ {us : List Value} {bs : List β}, EachIs (fun v b => ∃ x, RelV x v ∧ Tp H x (enc b)) us bs → ∃ xs, Vals xs us ∧ TpAll H xs (bs.map enc)
  | _, _, .nil => ⟨[], .nil, .nil⟩
  | _, _, .cons ⟨x, r, h⟩ t => by
    obtain ⟨xs, r', h'⟩ := of_each t
    exact ⟨x :: xs, .cons r r', .cons h h'⟩
theorem r_sortD (K : PySem.W.Frag) {β : Type} (enc : β → PyData) (hu : X.A.units + 64 < cLine) (hK : X.K = K := by rfl) : CallR X (.builtin "sorted") (rSortD K enc) := by
  subst hK
  rintro pins s σ H vs us Q I r ⟨a, xs, bs, rfl, hl, hall, ha, hs, hd, q⟩
  obtain ⟨u, rfl, ru⟩ := vals1 r
  cases ru
  obtain ⟨its, rv, p, hz⟩ := I.list hl
  have e := each_of hall rv
  have hlb : bs.length = xs.length := by rw [hall.length, List.length_map]
  refine sorted_data (enc := enc) p.isList e (e.mono fun v b ⟨x, r1, h1⟩ => Dp.reads I _ x v (h1.dp _) r1) ha hs (by rw [hlb]; exact hz) (fun b hb => by have := hd b hb; omega) fun out hlen eo => ?_
  obtain ⟨ys, ry, hy⟩ := of_each eo
  obtain ⟨ep, he⟩ := PyProof.Rows.sortedAll_at s.heap its out.toArray
  have hyl : ys.length ≤ sizeLine := by rw [ry.length, hlen, hlb]; exact hz
  exact ⟨.ref _, upd H (s.heap.objs.size + 1) (.lst ys), I.laid (t' := s.toks) (fun _ _ => PyProof.Rows.sortedAll_old) (Nat.le_succ _) ⟨hyl, out, ep, ry, he⟩, rfl, q _ _ (I.hok.fresh (Nat.le_succ _)) hy⟩
end
end AA

/-! ## Dn -/
set_option Elab.async false
set_option linter.all false
set_option maxRecDepth 100000
set_option maxHeartbeats 4000000
/-! Dn: dicts whose keys are tuples of any depth, over the layer HandS: what stands at d is told by its entries (key, the key's own tuple, value). -/
namespace AA
open PySem PySem.Spec PyProof.Rows L2 PySem.W
abbrev NKey := NestedKey
abbrev Ent := NKey × Addr × V
def EntR (p : Ent) (q : NKey × Addr × Value) : Prop := p.1 = q.1 ∧ p.2.1 = q.2.1 ∧ RelV p.2.2 q.2.2
/-- the object at d is a dict of the entries xs -/
def DnX (P : Program) (w : World) (d : Addr) (xs : List Ent) (h : Heap) : Prop :=
  (d == sysModules) = false ∧ xs.length ≤ sizeLine ∧ (xs.map (·.1)).Nodup ∧ ∃ vs, Paired EntR xs vs ∧ ∃ es ep, h.DictRaw d es ep ∧ es.toList = vs.map (entryOfKey (nestedKind P w))
def DnO (P : Program) (w : World) (d : Addr) (xs : List Ent) : HO := .ext (DnX P w d xs)
/-- where the keys' tuples stand -/
def DnK (H : Hp) (xs : List Ent) : Prop := ∀ x ∈ xs, Tp H (.ref x.2.1) x.1.data ∧ x.1.depth ≤ 8
theorem DnK.mono {H H' : Hp} {xs : List Ent} (k : TK H H') (h : DnK H xs) : DnK H' xs := fun x hx => ⟨(h x hx).1.mono k, (h x hx).2⟩
theorem DnK.nil {H : Hp} : DnK H [] := fun _ h => absurd h List.not_mem_nil
theorem DnK.snoc {H : Hp} {xs : List Ent} {k : NKey} {a : Addr} {v : V} (h : DnK H xs) (t : Tp H (.ref a) k.data) (hd : k.depth ≤ 8) : DnK H (xs ++ [(k, a, v)]) := fun x hx => by
  rcases List.mem_append.mp hx with hx | hx
  · exact h x hx
  · rw [List.mem_singleton.mp hx]
    exact ⟨t, hd⟩
def atV (xs : List Ent) (k : NKey) : Option V := (xs.find? fun x => decide (x.1 = k)).map (·.2.2)
theorem pairs_keys : ∀ {xs : List Ent} {vs : List (NKey × Addr × Value)}, Paired EntR xs vs → xs.map (·.1) = vs.map (·.1)
  | _, _, .nil => rfl
  | _, _, .cons h t => by
    rw [List.map_cons, List.map_cons, h.1, pairs_keys t]
theorem pairs_at {k : NKey} : ∀ {xs : List Ent} {vs : List (NKey × Addr × Value)}, Paired EntR xs vs → (atV xs k = none ∧ atKey vs k = none) ∨ ∃ v a u, atV xs k = some v ∧ atKey vs k = some (a, u) ∧ RelV v u
  | _, _, .nil => .inl ⟨rfl, rfl⟩
  | x :: xs, y :: vs, .cons h t => by
    by_cases e : x.1 = k
    · refine .inr ⟨x.2.2, y.2.1, y.2.2, ?_, ?_, h.2.2⟩
      · unfold atV
        rw [List.find?_cons_of_pos (p := fun x : Ent => decide (x.1 = k)) (decide_eq_true e)]
        rfl
      · unfold atKey
        rw [List.find?_cons_of_pos (p := fun x : NKey × Addr × Value => decide (x.1 = k)) (decide_eq_true (h.1.symm.trans e))]
        rfl
    · have e' : ¬ y.1 = k := fun z => e (h.1.trans z)
      have r := pairs_at (k := k) t
      unfold atV atKey at r ⊢
      rw [List.find?_cons_of_neg (p := fun x : Ent => decide (x.1 = k)) (by rw [decide_eq_false e]; decide), List.find?_cons_of_neg (p := fun x : NKey × Addr × Value => decide (x.1 = k)) (by rw [decide_eq_false e']; decide)]
      exact r
theorem pairs_mem {k : NKey} {xs : List Ent} {vs : List (NKey × Addr × Value)} (p : Paired EntR xs vs) : (atKey vs k).isSome = decide (k ∈ xs.map (·.1)) := by
  rw [pairs_keys p]
  unfold atKey
  rw [Option.isSome_map, Bool.eq_iff_iff, List.find?_isSome, decide_eq_true_eq, List.mem_map]
  constructor
  · rintro ⟨x, hx, e⟩
    exact ⟨x, hx, of_decide_eq_true e⟩
  · rintro ⟨x, hx, e⟩
    exact ⟨x, hx, decide_eq_true e⟩
theorem atV_some {k : NKey} {xs : List Ent} : (∃ v, atV xs k = some v) ↔ k ∈ xs.map (·.1) := by
  unfold atV
  rw [List.mem_map]
  constructor
  · rintro ⟨v, h⟩
    obtain ⟨x, hx, _⟩ := Option.map_eq_some_iff.mp h
    exact ⟨x, List.mem_of_find?_eq_some hx, of_decide_eq_true (List.find?_some (p := fun x : Ent => decide (x.1 = k)) hx)⟩
  · rintro ⟨x, hx, e⟩
    cases h : xs.find? fun x => decide (x.1 = k) with
    | none => exact absurd (decide_eq_true e) (List.find?_eq_none.mp h x hx)
    | some y => exact ⟨_, rfl⟩
theorem atV_mem {k : NKey} {v : V} {xs : List Ent} (h : atV xs k = some v) : ∃ a, (k, a, v) ∈ xs := by
  unfold atV at h
  obtain ⟨x, hx, e⟩ := Option.map_eq_some_iff.mp h
  have e1 := of_decide_eq_true (List.find?_some (p := fun x : Ent => decide (x.1 = k)) hx)
  have e2 := List.mem_of_find?_eq_some hx
  obtain ⟨k', a, u⟩ := x
  cases e1
  cases e
  exact ⟨a, e2⟩
theorem atV_of {k : NKey} {a : Addr} {v : V} : ∀ {xs : List Ent}, (xs.map (·.1)).Nodup → (k, a, v) ∈ xs → atV xs k = some v
  | x :: xs, nd, h => by
    obtain ⟨n1, n2⟩ := List.nodup_cons.mp nd
    unfold atV
    by_cases e : x.1 = k
    · rw [List.find?_cons_of_pos (p := fun x : Ent => decide (x.1 = k)) (decide_eq_true e)]
      rcases List.mem_cons.mp h with h | h
      · rw [← h]; rfl
      · exact absurd (List.mem_map.mpr ⟨_, h, e.symm⟩) n1
    · rw [List.find?_cons_of_neg (p := fun x : Ent => decide (x.1 = k)) (by rw [decide_eq_false e]; decide)]
      rcases List.mem_cons.mp h with h | h
      · exact absurd (by rw [← h]) e
      · exact atV_of n2 h

section
variable {X : Cx} {pins : List (Addr × Obj)} {σ : L2.St} {H : Hp} {s : Shared}
mutual
theorem nested_is (I : Inv X pins σ H s) : ∀ (k : NKey) (v : V) (u : Value), Tp H v k.data → RelV v u → NestedIs s.heap k u
  | .none, v, u, h, r => by
    rw [NestedKey.data] at h
    cases h
    cases r
    exact .none
  | .num i, v, u, h, r => by
    rw [NestedKey.data] at h
    cases h
    obtain ⟨t, rfl⟩ := r
    exact .int i t
  | .text x, v, u, h, r => by
    rw [NestedKey.data] at h
    cases h
    obtain ⟨t, rfl⟩ := r
    exact .text x t
  | .tup ks, v, u, h, r => by
    rw [NestedKey.data] at h
    obtain ⟨a, xs, rfl, ha, hall⟩ := h.tuple
    cases r
    obtain ⟨_, its, rv, o, h1, h2, n, h3⟩ := (show ObjOk X.prog X.w H s.heap a (.tup xs) from I.hok a _ ha)
    exact .tup h1 h2 h3 (nested_all I ks xs its hall rv)
theorem nested_all (I : Inv X pins σ H s) : ∀ (ks : List NKey) (vs : List V) (us : List Value), TpAll H vs (NestedKey.datas ks) → Vals vs us → NestedAll s.heap ks us
  | [], vs, us, h, r => by
    rw [NestedKey.datas] at h
    cases h
    cases r
    exact .nil
  | k :: ks, vs, us, h, r => by
    rw [NestedKey.datas] at h
    cases h with
    | cons h t =>
      cases r with
      | cons r1 r2 => exact .cons (nested_is I k _ _ h r1) (nested_all I ks _ _ t r2)
end
theorem key_is (I : Inv X pins σ H s) {k : NKey} {a : Addr} (h : Tp H (.ref a) k.data) (hd : k.depth ≤ 8) : (nestedKind X.prog X.w).is s.heap k a := ⟨nested_is I k _ _ h rfl, hd⟩
/-- a dict of ours, as the library tells it -/
theorem dict_of (I : Inv X pins σ H s) {d : Addr} {xs : List Ent} (r : Rd H d (DnO X.prog X.w d xs)) (hk : DnK H xs) :
    (d == sysModules) = false ∧ xs.length ≤ sizeLine ∧ (xs.map (·.1)).Nodup ∧ ∃ vs, Paired EntR xs vs ∧ s.heap.DictOfH (nestedKind X.prog X.w) d vs := by
  obtain ⟨⟨h1, h2, h3, vs, hp, es, ep, ⟨o, ho, hx, hdt⟩, he⟩, _⟩ := (show ObjOk X.prog X.w H s.heap d (DnO X.prog X.w d xs) from r.ok I.hok)
  refine ⟨h1, h2, h3, vs, hp, o, es, ep, ho, hx, hdt, he, fun y hy => ?_, by rw [← pairs_keys hp]; exact h3⟩
  obtain ⟨j, hj⟩ := List.getElem?_of_mem hy
  have hlen := Paired.length hp
  have hjx : j < xs.length := by rw [hlen]; exact (List.getElem?_eq_some_iff.mp hj).1
  obtain ⟨y', hy', e1, e2, _⟩ := paired_get hp (List.getElem?_eq_getElem hjx)
  rw [hj] at hy'
  cases hy'
  obtain ⟨t, hd⟩ := hk _ (List.getElem_mem hjx)
  rw [e1, e2] at t
  rw [e1] at hd
  exact key_is I t hd
theorem dn_ok {P : Program} {w : World} {H : Hp} {h : Heap} {d : Addr} {xs : List Ent} (x : DnX P w d xs h) : ObjOk P w H h d (DnO P w d xs) := by
  refine ⟨x, ?_, ?_⟩
  · obtain ⟨_, _, _, _, _, _, _, ⟨o, ho, _⟩, _⟩ := x
    exact ⟨o, ho⟩
  · rintro h1 h2 ⟨a1, a2, a3, vs, a4, es, ep, a5, a6⟩ k
    exact ⟨a1, a2, a3, vs, a4, es, ep, a5.at k, a6⟩
end

/-! ### the rules; P and w stand apart, so that they may stand in a comprehension's block -/
section
variable {X : Cx} (P : Program) (w : World)
def tDNew : TE := fun _ H Q => ∀ p, H p = none → Q (.ref p) (upd H p (DnO P w p []))
theorem pe_dnewN {pos : Pos} (hP : X.prog = P := by rfl) (hw : X.w = w := by rfl) : PE X (.Dict [] [] pos) (tDNew P w) := by
  subst hP hw
  refine ⟨fun pins s σ H Q I h => ?_⟩
  refine wpAny_Dict_empty ⟨.ref s.heap.objs.size, _, I.laid (a := s.heap.objs.size) (o := DnO X.prog X.w s.heap.objs.size []) (t' := s.toks) (fun _ _ q => Heap.get?_push_of_some _ q) (Nat.le_refl _) (dn_ok ?_), rfl, h _ (I.hok.fresh (Nat.le_refl _))⟩
  exact ⟨beq_eq_false_iff_ne.mpr (Ne.symm (Nat.ne_of_lt I.big)), Nat.zero_le _, List.nodup_nil, [], .nil, #[], 0, ⟨_, Heap.get?_push_size _ rfl, ⟨rfl, rfl, rfl⟩, rfl⟩, rfl⟩
/-- k in d, k not in d -/
def rDnIn (neg : Bool) : R2 := fun x y H Q => ∃ (a d : Addr) (k : NKey) (xs : List Ent), x = .ref a ∧ y = .ref d ∧ Tp H (.ref a) k.data ∧ k.depth ≤ 8 ∧ Rd H d (DnO P w d xs) ∧ DnK H xs ∧ Q (.bl (neg != decide (k ∈ xs.map (·.1)))) H
theorem o_dnIn (hu : X.A.units + 64 < cLine) (hP : X.prog = P := by rfl) (hw : X.w = w := by rfl) : OpR X (compareOp .In) (rDnIn P w false) := by
  subst hP hw
  rintro pins s σ H x y v u Q I rx ry ⟨a, d, k, xs, rfl, rfl, hk, hd, hD, hK, q⟩
  cases rx
  cases ry
  obtain ⟨h1, h2, h3, vs, hp, hm⟩ := dict_of I hD hK
  refine wpAny_in_heap (knd := nestedKind X.prog X.w) (by show X.A.units + 1 + 8 < cLine; omega) (key_is I hk hd) h1 hm ?_
  rw [pairs_mem hp]
  exact ⟨.bl _, H, I.tok _, rfl, by rw [Bool.false_bne] at q; exact q⟩
theorem o_dnNotIn (hu : X.A.units + 64 < cLine) (hP : X.prog = P := by rfl) (hw : X.w = w := by rfl) : OpR X (compareOp .NotIn) (rDnIn P w true) := by
  subst hP hw
  rintro pins s σ H x y v u Q I rx ry ⟨a, d, k, xs, rfl, rfl, hk, hd, hD, hK, q⟩
  cases rx
  cases ry
  obtain ⟨h1, h2, h3, vs, hp, hm⟩ := dict_of I hD hK
  refine notIn_keyed (knd := nestedKind X.prog X.w) (kvs := pairsH vs) (by show X.A.units + 1 + 8 < cLine; omega) (key_is I hk hd) h1 ⟨vs, hm, rfl⟩ ?_
  rw [valueAt_pairsH, Option.isSome_map, pairs_mem hp]
  exact ⟨.bl _, H, I.tok _, rfl, by rw [Bool.true_bne] at q; exact q⟩
/-- d[k] -/
def rDnGet : R2 := fun x y H Q => ∃ (a d : Addr) (k : NKey) (xs : List Ent) (v : V), x = .ref d ∧ y = .ref a ∧ Tp H (.ref a) k.data ∧ k.depth ≤ 8 ∧ Rd H d (DnO P w d xs) ∧ DnK H xs ∧ atV xs k = some v ∧ Q v H
theorem x_dn (hu : X.A.units + 64 < cLine) (hP : X.prog = P := by rfl) (hw : X.w = w := by rfl) : IxR X (rDnGet P w) := by
  subst hP hw
  rintro value slice pins s σ H x y v u Q I rx ry ⟨a, d, k, xs, z, rfl, rfl, hk, hd, hD, hK, hz, q⟩ hs
  cases rx
  cases ry
  obtain ⟨h1, h2, h3, vs, hp, hm⟩ := dict_of I hD hK
  rcases pairs_at (k := k) hp with ⟨e, _⟩ | ⟨z', b, u', e1, e2, ru⟩
  · rw [e] at hz; cases hz
  · rw [hz] at e1
    cases e1
    refine subscriptTail_builtinR (x := u') hm.typeIs F.slot_dict_getitem.lookup ?_ hs
    exact wpAny_getItem_heap (knd := nestedKind X.prog X.w) (by show X.A.units + 1 + 8 < cLine; omega) (key_is I hk hd) hm e2 ⟨rfl, z, H, I.tok _, ru, q⟩
/-- d[k] = v, a key that is not there yet -/
def rDnSet : TSet := fun o i v H Q => ∃ (a d : Addr) (k : NKey) (xs : List Ent), o = .ref d ∧ i = .ref a ∧ Tp H (.ref a) k.data ∧ k.depth ≤ 8 ∧ H d = some (DnO P w d xs) ∧ DnK H xs ∧ k ∉ xs.map (·.1) ∧ xs.length < sizeLine ∧ Q (upd H d (DnO P w d (xs ++ [(k, a, v)])))
theorem set_dn (hu : X.A.units + 64 < cLine) (hP : X.prog = P := by rfl) (hw : X.w = w := by rfl) : PSet X (rDnSet P w) := by
  subst hP hw
  rintro pins s σ H o i v ov iv u Q I ro ri rv ⟨a, d, k, xs, rfl, rfl, hk, hd, hD, hK, hn, hz, q⟩
  cases ro
  cases ri
  obtain ⟨h1, h2, h3, vs, hp, hm⟩ := dict_of I (.inl hD) hK
  have hlen := Paired.length hp
  have hno : atKey vs k = none := by
    rw [← Option.isSome_eq_false_iff.trans Option.isNone_iff_eq_none, pairs_mem hp]
    exact decide_eq_false hn
  refine wpAny_setItem_heap (hsz := by rw [← hlen]; exact h2) (knd := nestedKind X.prog X.w) (by show X.A.units + 1 + 8 < cLine; omega) (key_is I hk hd) hm fun h' hm' sb => ?_
  rw [storedH_new hno] at hm'
  obtain ⟨o', es, ep, ho', hx', hd', he', _, hnd'⟩ := hm'
  have ekeys : (xs ++ [(k, a, v)]).map (·.1) = (vs ++ [(k, a, u)]).map (·.1) := by rw [List.map_append, List.map_append, pairs_keys hp]; rfl
  refine ⟨_, I.write (t' := s.toks + (nestedKind X.prog X.w).draws k) (x := d) (e := d) (by rw [hD]; exact True.intro) (.inl rfl) (fun b ob hb e => (sb.2 b hb).trans e) ⟨o', ho'⟩ (dn_ok ⟨h1, ?_, ?_, vs ++ [(k, a, u)], Paired.snoc hp ⟨rfl, rfl, rv⟩, es, ep, ⟨o', ho', hx', hd'⟩, he'⟩), q⟩
  · rw [List.length_append, List.length_singleton]
    omega
  · rw [ekeys]
    exact hnd'
/-- len(d) -/
def rDnLen : List V → Hp → VK → Prop := fun vs H Q => ∃ (d : Addr) (xs : List Ent), vs = [.ref d] ∧ Rd H d (DnO P w d xs) ∧ DnK H xs ∧ Q (.int ((xs.length : Nat) : Int)) H
theorem r_dnLen (hP : X.prog = P := by rfl) (hw : X.w = w := by rfl) : CallR X (.builtin "len") (rDnLen P w) := by
  subst hP hw
  rintro pins s σ H vs us Q I r ⟨d, xs, rfl, hD, hK, q⟩
  obtain ⟨u, rfl, ru⟩ := vals1 r
  cases ru
  obtain ⟨h1, h2, _, vs, hp, hm⟩ := dict_of I hD hK
  have hl := Paired.length hp
  have hz := sizeLine_eq
  refine call_len_dictH (knd := nestedKind X.prog X.w) h1 hm (by omega) ?_
  rw [← hl]
  exact ⟨.int ((xs.length : Nat) : Int), H, I.tok _, ⟨_, rfl⟩, q⟩
end

/-! ### the walks -/
section
variable {prog : Program} {w : World} {A : Around} {E : Value → Shared → Prop} {s : Shared}
theorem alive_any {a : Addr} {Q : Option Obj → Shared → Prop} (h : Q (s.heap.get? a) s) : wpAny (model prog w) A (loadIfAlive a) Q E s := fun _ _ _ => h
/-- the next pair where the pair that was given out last may be held -/
theorem next_held {it d a : Addr} {f : Bool} {i ep : Nat} {es : Array DictEntry} {ok ov : Value} {Q : Option Value → Shared → Prop} (hit : KdxIt s.heap it d i es.size ep ok ov a f) (hm : s.heap.DictRaw d es ep) (hlt : i < es.size)
    (hQ : ∀ h' ok' ov' a' f', KdxIt h' it d (i + 1) es.size ep ok' ov' a' f' → h'.get? s.heap.objs.size = some { cls := .type "tuple", data := .seq #[es[i].key, es[i].val] } →
      (∀ b o, b ≠ it → s.heap.get? b = some o → h'.get? b = some o) → Q (some (.ref s.heap.objs.size)) { s with heap := h' }) : wpAny (model prog w) A (pyNext (.ref it)) Q E s := by
  obtain ⟨hp, g, dr, tk, os⟩ := s
  obtain ⟨od, hod, hcd, hdd⟩ := id hm
  have hT : Shared.TypeIs ⟨hp, g, dr, tk, os⟩ (.ref it) "dict_itemiterator" := ⟨_, hit, rfl⟩
  have own1 : Builtin.Dict_items.ownsTuple "dict_itemiterator" = true := by decide
  unfold pyNext
  refine wpAny_bind (wpAny_attempt (wpAny_callSpecial?_slot (name := Str.ofString "__next__") hT F.slot_dict_itemiterator_next (wpAny_call_entry F.slot_dict_itemiterator_next hT F.entry_dict_itemiterator_next ?_ (F.args_dict_itemiterator_next_1 _))))
  refine wpAny_bind (wpAny_pure ?_)
  refine wpAny_bind (wpAny_bind (wpAny_bind (wpAny_typeNameOfWhole_itemiter hT (wpAny_pure ?_))))
  refine wpAny_bind (wpAny_fieldsOf hit rfl ?_)
  simp only [own1, if_true]
  show wpAny _ _ (if (Value.ref d == Value.none) = true then _ else _) _ _ _
  rw [if_neg (show ¬ (Value.ref d == Value.none) = true from Bool.false_ne_true)]
  refine wpAny_bind (wpAny_pure (wpAny_bind (wpAny_dictEntries hod hdd ?_)))
  rw [if_neg (by simp)]
  refine wpAny_bind (wpAny_pure (wpAny_bind (wpAny_dictEpoch hod hdd ?_)))
  rw [if_neg (by simp)]
  refine wpAny_pure ?_
  simp only [show ¬ (i : Int) < 0 from by omega, if_false, Int.toNat_natCast, Array.getElem?_eq_getElem hlt]
  refine wpAny_bind (wpAny_bind (wpAny_typeNameOfWhole_itemiter hT (wpAny_pure (wpAny_bind (wpAny_isOneOf_itemiter hT ?_)))))
  show wpAny _ _ (setField (.ref it) 3 (rawInt ((i : Int) + 1)) >>= _) _ _ (⟨hp, g, dr, tk, os⟩ : Shared)
  refine wpAny_bind (wpAny_setField_rec hit (by simp) fun g1 e1 s1 => ?_)
  replace s1 : Heap.SameBut it hp g1 := s1
  replace e1 : KdxIt g1 it d (i + 1) es.size ep ok ov a f := by
    have e : ((i + 1 : Nat) : Int) = (i : Int) + 1 := by omega
    show g1.get? it = some { cls := .type "dict_itemiterator", dict := none, data := .fields #[rawInt a, .bool f, .ref d, .int ((i + 1 : Nat) : Int) 0, .int es.size 0, .int ep 0, ok, ov], slots := #[] }
    rw [e]
    simpa [rawInt] using e1
  have T1 : Shared.TypeIs ⟨g1, g, dr, tk, os⟩ (.ref it) "dict_itemiterator" := ⟨_, e1, rfl⟩
  refine wpAny_bind (wpAny_holding (wpAny_bind (wpAny_isOneOf_itemiter T1 (wpAny_bind (wpAny_isOneOf_itemiter T1 ?_)))))
  show wpAny _ _ (Builtin.Dict_items.pairFromOwner (.ref it) 6 es[i].key es[i].val) _ _ (⟨g1, g, dr, tk, os⟩ : Shared)
  unfold Builtin.Dict_items.pairFromOwner
  refine wpAny_bind (wpAny_newTuple ?_)
  have z1 : g1.objs.size = hp.objs.size := s1.1
  have e2 : KdxIt (g1.push { cls := .type "tuple", data := .seq #[es[i].key, es[i].val] }) it d (i + 1) es.size ep ok ov a f := Heap.get?_push_of_some _ e1
  have t2 : (g1.push { cls := .type "tuple", data := .seq #[es[i].key, es[i].val] }).get? hp.objs.size = some { cls := .type "tuple", data := .seq #[es[i].key, es[i].val] } := by
    rw [← z1]
    exact Heap.get?_push_size _ rfl
  have k2 : ∀ b o, b ≠ it → hp.get? b = some o → (g1.push { cls := .type "tuple", data := .seq #[es[i].key, es[i].val] }).get? b = some o := fun b o hb e => Heap.get?_push_of_some _ (s1.extBut b o hb e)
  have hil : it < hp.objs.size := Heap.lt_size hit
  generalize g1.push { cls := .type "tuple", data := .seq #[es[i].key, es[i].val] } = g2 at e2 t2 k2
  show wpAny _ _ (Builtin.Dict_items.ownedTupleIsFree (.ref it) >>= _) _ _ (⟨g2, g, dr, tk, os⟩ : Shared)
  rw [z1]
  clear e1 s1 T1 z1 g1
  unfold Builtin.Dict_items.ownedTupleIsFree
  refine wpAny_bind (wpAny_bind (wpAny_field e2 rfl (x := rawInt a) rfl ?_))
  show wpAny _ _ (loadIfAlive ((a : Int).toNat) >>= _) _ _ _
  rw [Int.toNat_natCast]
  refine wpAny_bind (alive_any ?_)
  show wpAny _ _ _ _ _ (⟨g2, g, dr, tk, os⟩ : Shared)
  cases hal : (⟨g2, g, dr, tk, os⟩ : Shared).heap.get? a with
  | none =>
    simp only [Option.isNone_none, if_true]
    refine wpAny_pure ?_
    simp only [if_true]
    refine wpAny_bind (wpAny_field e2 rfl (x := ok) rfl (wpAny_bind (wpAny_field e2 rfl (x := ov) rfl ?_)))
    refine wpAny_bind (wpAny_setField_rec e2 (by simp) fun g3 e3 s3 => ?_)
    replace s3 : Heap.SameBut it g2 g3 := s3
    replace e3 : KdxIt g3 it d (i + 1) es.size ep es[i].key ov a f := e3
    refine wpAny_bind (wpAny_setField_rec e3 (by simp) fun g4 e4 s4 => ?_)
    replace s4 : Heap.SameBut it g3 g4 := s4
    replace e4 : KdxIt g4 it d (i + 1) es.size ep es[i].key es[i].val a f := e4
    refine wpAny_bind (wpAny_setField_rec e4 (by simp) fun g5 e5 s5 => ?_)
    replace s5 : Heap.SameBut it g4 g5 := s5
    replace e5 : KdxIt g5 it d (i + 1) es.size ep es[i].key es[i].val hp.objs.size f := e5
    refine wpAny_bind (wpAny_setField_rec e5 (by simp) fun g6 e6 s6 => ?_)
    replace s6 : Heap.SameBut it g5 g6 := s6
    replace e6 : KdxIt g6 it d (i + 1) es.size ep es[i].key es[i].val hp.objs.size false := e6
    have up : ∀ b o, b ≠ it → g2.get? b = some o → g6.get? b = some o := fun b o hb e => s6.extBut b o hb (s5.extBut b o hb (s4.extBut b o hb (s3.extBut b o hb e)))
    refine wpAny_bind (wpAny_letGo (wpAny_pure (wpAny_pure ⟨_, rfl, wpAny_pure (hQ g6 _ _ _ _ e6 ?_ ?_)⟩)))
    · exact up _ _ (Nat.ne_of_gt hil) t2
    · exact fun b o hb e => up b o hb (k2 b o hb e)
  | some oa =>
    simp only [Option.isNone_some, Bool.false_eq_true, if_false]
    refine wpAny_bind (wpAny_field e2 rfl (x := .bool f) rfl ?_)
    cases f with
    | true =>
      rw [if_neg (show ¬ (Value.bool true != Value.bool true) = true from Bool.false_ne_true)]
      refine wpAny_pure ?_
      simp only [Bool.false_eq_true, if_false]
      exact wpAny_pure (wpAny_pure ⟨_, rfl, wpAny_pure (hQ g2 _ _ _ _ e2 t2 k2)⟩)
    | false =>
      rw [if_pos (show (Value.bool false != Value.bool true) = true from rfl)]
      refine wpAny_bind (wpAny_setField_rec e2 (by simp) fun g3 e3 s3 => ?_)
      replace s3 : Heap.SameBut it g2 g3 := s3
      replace e3 : KdxIt g3 it d (i + 1) es.size ep ok ov a true := e3
      refine wpAny_pure ?_
      simp only [Bool.false_eq_true, if_false]
      exact wpAny_pure (wpAny_pure ⟨_, rfl, wpAny_pure (hQ g3 _ _ _ _ e3 (s3.extBut _ _ (Nat.ne_of_gt hil) t2) fun b o hb e => s3.extBut b o hb (k2 b o hb e))⟩)
end
section
variable {X : Cx} {pins : List (Addr × Obj)} {σ : L2.St} {H : Hp} {s : Shared} {d : Addr} {o : Obj} {xs : List Ent}
/-- the entries of a locked dict -/
theorem frzN (I : Inv X pins σ H s) (h : H d = some (.frz o (DnO X.prog X.w d xs))) :
    (d == sysModules) = false ∧ s.heap.get? d = some o ∧ ∃ es ep, o.data = .dict es ep ∧ s.heap.DictRaw d es ep ∧ es.size = xs.length ∧ ∀ (i : Nat) (hi : i < es.size), ∃ k a v, xs[i]? = some (k, a, v) ∧ es[i].key = .ref a ∧ RelV v es[i].val := by
  obtain ⟨ho, ⟨h1, _, _, vs, hp, es, ep, hr, he⟩, _⟩ := (show ObjOk X.prog X.w H s.heap d (.frz o (DnO X.prog X.w d xs)) from I.hok d _ h)
  obtain ⟨o', ho', hx, hdt⟩ := id hr
  rw [ho] at ho'
  cases ho'
  have hlen := Paired.length hp
  have hsz := size_of_entries he
  refine ⟨h1, ho, es, ep, hdt, hr, by omega, fun i hi => ?_⟩
  have hix : i < xs.length := by omega
  obtain ⟨y, hy, e1, e2, e3⟩ := paired_get hp (List.getElem?_eq_getElem hix)
  have q := entry_at he i
  rw [hy, Array.getElem?_eq_getElem hi] at q
  have q' : es[i] = entryOfKey (nestedKind X.prog X.w) y := Option.some.inj q
  refine ⟨xs[i].1, xs[i].2.1, xs[i].2.2, List.getElem?_eq_getElem hix, ?_, ?_⟩
  · rw [q', e2]; rfl
  · rw [q']; exact e3
end
/-- the keys (their own tuples), the pairs (new tuples) of a locked dict -/
def ItK (P : Program) (w : World) (d : Addr) (o : Obj) (xs : List Ent) : It :=
  ⟨fun i H => H d = some (.frz o (DnO P w d xs)) ∧ i < xs.length, fun i H x H' => H' = H ∧ ∃ k a v, xs[i]? = some (k, a, v) ∧ x = .ref a, fun i H => H d = some (.frz o (DnO P w d xs)) ∧ xs.length ≤ i⟩
def ItP (P : Program) (w : World) (d : Addr) (o : Obj) (xs : List Ent) : It :=
  ⟨fun i H => H d = some (.frz o (DnO P w d xs)) ∧ i < xs.length, fun i H x H' => ∃ T k a v, xs[i]? = some (k, a, v) ∧ x = .ref T ∧ H T = none ∧ H' = upd H T (.tup [.ref a, v]), fun i H => H d = some (.frz o (DnO P w d xs)) ∧ xs.length ≤ i⟩
def Held (h : Heap) (it d : Addr) (i n ep : Nat) : Prop := (∃ ok ov, IsItemIter h it d i n ep ok ov) ∨ ∃ ok ov a f, KdxIt h it d i n ep ok ov a f
section
variable {P : Program} {w : World} {K : PySem.W.Frag} {tg : Expr} {d : Addr} {o : Obj} {es : Array DictEntry} {ep : Nat} {xs : List Ent}
theorem turn_keysN (it : Addr) (hod : o.data = .dict es ep) : Turn P w K tg (ItK P w d o xs) [it] it (fun i h => h.IsKeyIter it d i xs.length ep) where
  mem := List.mem_cons_self
  obj := by
    rintro i h ⟨oi, e, c, dd⟩ b hb
    rw [List.mem_singleton.mp hb]
    exact ⟨oi, e, fun v z => by rw [dd] at z; cases z⟩
  keep := fun i h h' ⟨oi, e, c, dd⟩ k => ⟨oi, k it List.mem_cons_self _ e, c, dd⟩
  item := by
    intro X hP hw hK hc i pins s σ H E I hf st hg
    subst hP hw hK
    obtain ⟨hd, hi⟩ := hg
    obtain ⟨f0, f1, f2, f3, f4, f5⟩ := hf it List.mem_cons_self
    obtain ⟨hs, hgd, es', ep', hdt, hr, hsz, ent⟩ := frzN I hd
    obtain ⟨rfl, rfl⟩ := dict_ep hod hdt
    have hi' : i < es'.size := by omega
    obtain ⟨k, a, v, hx, hk, _⟩ := ent i hi'
    rw [← hsz] at st
    refine wpAny_pyNext_keys_item_raw st hr hi' fun h' st' sb => ?_
    rw [hk]
    have I1 : Inv X pins σ H { s with heap := h' } := I.turned (t' := s.toks) (fun b ob hb e => (sb.2 b hb).trans e) f0 f1 f3 f4 f5
    obtain ⟨oi, e, c, dd⟩ := id st'
    refine ⟨.ref a, rfl, go_of (s := { s with heap := h' }) e c dd (by decide) ⟨.ref a, H, I1, rfl, ⟨rfl, k, a, v, hx, rfl⟩, ?_, fun b hb => (hf b hb).1⟩⟩
    show h'.IsKeyIter it d (i + 1) xs.length _
    rw [← hsz]
    exact st'
  done := by
    intro X hP hw hK hc i pins s σ H E I hf st hg
    subst hP hw hK
    obtain ⟨hd, hi⟩ := hg
    obtain ⟨f0, f1, f2, f3, f4, f5⟩ := hf it List.mem_cons_self
    obtain ⟨hs, hgd, es', ep', hdt, hr, hsz, ent⟩ := frzN I hd
    obtain ⟨rfl, rfl⟩ := dict_ep hod hdt
    rw [← hsz] at st
    exact wpAny_pyNext_keys_end_raw (I.ok.hd hc) st hr (by omega) fun h' eb => ⟨rfl, I.turned (t' := s.toks) (fun b ob hb e => eb b ob hb e) f0 f1 f3 f4 f5⟩
  self := fun A i s Q E st h => wpAny_pyIter_keyiter st h
theorem pair_new {X : Cx} {pins : List (Addr × Obj)} {σ : L2.St} {H : Hp} {s : Shared} {it a : Addr} {v : V} {key val : Value} {h' : Heap} (I : Inv X pins σ H s) (hf : ∀ b ∈ [it], FpOk X pins H b) (hk : ∀ b o, b ≠ it → s.heap.get? b = some o → h'.get? b = some o)
    (hT : h'.get? s.heap.objs.size = some { cls := .type "tuple", data := .seq #[key, val] }) (e1 : key = .ref a) (rv : RelV v val) : Inv X pins σ (upd H s.heap.objs.size (.tup [.ref a, v])) { s with heap := h' } :=
  I.turnedNew (t' := s.toks) (ch := [it]) (fun b ob hb e => hk b ob (fun z => hb (by rw [z]; exact List.mem_cons_self)) e) hf (Nat.le_refl _) ⟨by show 2 ≤ sizeLine; decide, [key, val], .cons e1 (.cons rv .nil), ⟨_, hT, rfl, _, rfl⟩⟩
theorem turn_itemsN {elts : List Expr} {kk : Nat} {tpos : Pos} (it : Addr) (hod : o.data = .dict es ep) : Turn P w K (.Tuple elts kk tpos) (ItP P w d o xs) [it] it (fun i h => ∃ ok ov, IsItemIter h it d i xs.length ep ok ov) where
  mem := List.mem_cons_self
  obj := by
    rintro i h ⟨ok, ov, e⟩ b hb
    rw [List.mem_singleton.mp hb]
    exact ⟨_, e, fun v z => nomatch z⟩
  keep := fun i h h' ⟨ok, ov, e⟩ k => ⟨ok, ov, k it List.mem_cons_self _ e⟩
  item := by
    intro X hP hw hK hc i pins s σ H E I hf st hg
    subst hP hw hK
    obtain ⟨hd, hi⟩ := hg
    obtain ⟨hs, hgd, es', ep', hdt, hr, hsz, ent⟩ := frzN I hd
    obtain ⟨rfl, rfl⟩ := dict_ep hod hdt
    have hi' : i < es'.size := by omega
    obtain ⟨k, a, v, hx, hk, rv⟩ := ent i hi'
    obtain ⟨ok, ov, he⟩ := st
    rw [← hsz] at he
    have hlt : it < s.heap.objs.size := Heap.lt_size he
    refine wpAny_pyNext_items_item_raw he hr hi' fun h' ho hT hz hkp => ?_
    refine ⟨_, rfl, wpAny_letOwnedTupleGo_items (s := { s with heap := h' }) ho fun h'' he' sb => ?_⟩
    have I1 := pair_new (h' := h'') I hf (fun b ob hb e => (sb.2 b hb).trans (hkp b ob hb e)) ((sb.2 _ (Nat.ne_of_gt hlt)).trans hT) hk rv
    refine ⟨.ref s.heap.objs.size, _, I1, rfl, ⟨_, k, a, v, hx, rfl, I.hok.fresh (Nat.le_refl _), rfl⟩, ⟨es'[i].key, es'[i].val, ?_⟩, fun b hb => ?_⟩
    · rw [← hsz]; exact he'
    · rw [List.mem_singleton.mp hb, upd_ne (Nat.ne_of_lt hlt)]
      exact (hf it List.mem_cons_self).1
  done := by
    intro X hP hw hK hc i pins s σ H E I hf st hg
    subst hP hw hK
    obtain ⟨hd, hi⟩ := hg
    obtain ⟨f0, f1, f2, f3, f4, f5⟩ := hf it List.mem_cons_self
    obtain ⟨hs, hgd, es', ep', hdt, hr, hsz, ent⟩ := frzN I hd
    obtain ⟨rfl, rfl⟩ := dict_ep hod hdt
    obtain ⟨ok, ov, he⟩ := st
    rw [← hsz] at he
    exact wpAny_pyNext_items_end_raw (I.ok.hd hc) he hr (by omega) fun h' eb => ⟨rfl, I.turned (t' := s.toks) (fun b ob hb e => eb b ob hb e) f0 f1 f3 f4 f5⟩
  self := fun A i s Q E st h => let ⟨_, _, e⟩ := st; wpAny_pyIter_itemiter e h
theorem held_iter {s : Shared} {A : Around} {it d : Addr} {i n ep : Nat} {Q : Value → Shared → Prop} {E : Value → Shared → Prop} (st : Held s.heap it d i n ep) (h : Q (.ref it) s) : wpAny (model P w) A (pyIter (.ref it)) Q E s := by
  have hT : s.TypeIs (.ref it) "dict_itemiterator" := by
    rcases st with ⟨_, _, e⟩ | ⟨_, _, _, _, e⟩
    · exact ⟨_, e, rfl⟩
    · exact ⟨_, e, rfl⟩
  refine wpAny_pyIter_slot hT F.slot_dict_itemiterator_iter (wpAny_call_entry F.slot_dict_itemiterator_iter hT entry_dict_itemiterator_iter ?_ (F.args_dict_itemiterator_iter_1 _))
  show wpAny _ _ (ret (.ref it)) _ _ s
  exact wpAny_pure ⟨_, rfl, "dict_itemiterator", _, hT, F.slot_dict_itemiterator_next.lookup, h⟩
/-- the pairs given to one name -/
theorem turn_itemsH {x : Str} {tpos : Pos} (it : Addr) (hod : o.data = .dict es ep) : Turn P w K (.Name x tpos) (ItP P w d o xs) [it] it (fun i h => Held h it d i xs.length ep) where
  mem := List.mem_cons_self
  obj := by
    intro i h st b hb
    rw [List.mem_singleton.mp hb]
    rcases st with ⟨_, _, e⟩ | ⟨_, _, _, _, e⟩
    · exact ⟨_, e, fun v z => nomatch z⟩
    · exact ⟨_, e, fun v z => nomatch z⟩
  keep := by
    intro i h h' st k
    rcases st with ⟨ok, ov, e⟩ | ⟨ok, ov, a, f, e⟩
    · exact .inl ⟨ok, ov, k it List.mem_cons_self _ e⟩
    · exact .inr ⟨ok, ov, a, f, k it List.mem_cons_self _ e⟩
  item := by
    intro X hP hw hK hc i pins s σ H E I hf st hg
    subst hP hw hK
    obtain ⟨hd, hi⟩ := hg
    obtain ⟨hs, hgd, es', ep', hdt, hr, hsz, ent⟩ := frzN I hd
    obtain ⟨rfl, rfl⟩ := dict_ep hod hdt
    have hi' : i < es'.size := by omega
    obtain ⟨k, a, v, hx, hk, rv⟩ := ent i hi'
    rw [← hsz] at st
    have fin : it < s.heap.objs.size → ∀ h' : Heap, Held h' it d (i + 1) es'.size ep' → h'.get? s.heap.objs.size = some { cls := .type "tuple", data := .seq #[es'[i].key, es'[i].val] } → (∀ b o, b ≠ it → s.heap.get? b = some o → h'.get? b = some o) →
        ∃ u, some (Value.ref s.heap.objs.size) = some u ∧ wpAny (model X.prog X.w) X.A (letOwnedTupleGo (.Name x tpos) (.ref it) u) (fun _ s2 => ∃ x H', Inv X pins σ H' s2 ∧ RelV x u ∧ (ItP X.prog X.w d o xs).yld i H x H' ∧ Held s2.heap it d (i + 1) xs.length ep' ∧ ∀ b ∈ [it], H' b = none) E { s with heap := h' } := fun hlt h' st' hT hkp => by
      refine ⟨_, rfl, wpAny_pure ⟨.ref s.heap.objs.size, _, pair_new (h' := h') I hf hkp hT hk rv, rfl, ⟨_, k, a, v, hx, rfl, I.hok.fresh (Nat.le_refl _), rfl⟩, by rw [← hsz]; exact st', fun b hb => ?_⟩⟩
      rw [List.mem_singleton.mp hb, upd_ne (Nat.ne_of_lt hlt)]
      exact (hf it List.mem_cons_self).1
    rcases st with ⟨ok, ov, he⟩ | ⟨ok, ov, b, f, he⟩
    · exact wpAny_pyNext_items_item_raw he hr hi' fun h' ho hT hz hkp => fin (Heap.lt_size he) h' (.inr ⟨_, _, _, false, ho⟩) hT hkp
    · exact next_held he hr hi' fun h' _ _ _ _ ho hT hkp => fin (Heap.lt_size he) h' (.inr ⟨_, _, _, _, ho⟩) hT hkp
  done := by
    intro X hP hw hK hc i pins s σ H E I hf st hg
    subst hP hw hK
    obtain ⟨hd, hi⟩ := hg
    obtain ⟨f0, f1, f2, f3, f4, f5⟩ := hf it List.mem_cons_self
    obtain ⟨hs, hgd, es', ep', hdt, hr, hsz, ent⟩ := frzN I hd
    obtain ⟨rfl, rfl⟩ := dict_ep hod hdt
    rw [← hsz] at st
    rcases st with ⟨ok, ov, he⟩ | ⟨ok, ov, b, f, he⟩
    · exact wpAny_pyNext_items_end_raw (I.ok.hd hc) he hr (by omega) fun h' eb => ⟨rfl, I.turned (t' := s.toks) (fun b ob hb e => eb b ob hb e) f0 f1 f3 f4 f5⟩
    · exact wpAny_pyNext_items_end_out_raw (I.ok.hd hc) he hr (by omega) fun h' eb => ⟨rfl, I.turned (t' := s.toks) (fun b ob hb e => eb b ob hb e) f0 f1 f3 f4 f5⟩
  self := fun A i s Q E st h => held_iter st h
end
section
variable {X : Cx} (P : Program) (w : World) {tg e : Expr} {td : TE} {apos cpos : Pos}
def iKeysN (td : TE) : TI := fun σ H R => td σ H fun x H1 => ∃ d o xs, x = .ref d ∧ H1 d = some (.frz o (DnO P w d xs)) ∧ R (ItK P w d o xs) H1
def iItemsN (td : TE) : TI := fun σ H R => td σ H fun x H1 => ∃ d o xs, x = .ref d ∧ H1 d = some (.frz o (DnO P w d xs)) ∧ R (ItP P w d o xs) H1
/-- for k in d -/
theorem pi_keysN (he : PE X e td) (hP : X.prog = P := by rfl) (hw : X.w = w := by rfl) : PI X tg e (iKeysN P w td) := by
  subst hP hw
  refine ⟨fun pins s σ H R I h => ?_⟩
  refine thn (he.run pins s σ H _ I h) fun u s1 ⟨x, H1, I1, rx, d, o, xs, ex, hd, q⟩ => ?_
  subst ex
  cases rx
  obtain ⟨hs, hgd, es, ep, hdt, hr, hsz, ent⟩ := frzN I1 hd
  refine wpAny_pyIter_dict_raw hs hr (pi_one (tk := s1.toks) I1 _ (turn_keysN _ hdt) ⟨_, Heap.get?_push_size _ rfl, rfl, ?_⟩ q)
  rw [hsz] <;> rfl
/-- for k, v in d.items() -/
theorem pi_itemsN {elts : List Expr} {kk : Nat} {tpos : Pos} (he : PE X e td) (hP : X.prog = P := by rfl) (hw : X.w = w := by rfl) (hbase : attributeBase e "items" X.env (eval e X.env) = eval e X.env := by rfl) (hline : (apos.endLine == cpos.line) = true := by rfl) :
    PI X (.Tuple elts kk tpos) (.Call (.Attribute e "items" apos) [] [] cpos) (iItemsN P w td) := by
  subst hP hw
  refine ⟨fun pins s σ H R I h => ?_⟩
  refine wpAny_Call_method (T := "dict") (id := "dict.items") hbase rfl hline F.plainAttrs_dict F.slot_dict_items F.type_dict_items (thn (he.run pins s σ H _ I h) fun u s1 ⟨x, H1, I1, rx, d, o, xs, ex, hd, q⟩ => ?_)
  subst ex
  cases rx
  obtain ⟨hs, hgd, es, ep, hdt, hr, hsz, ent⟩ := frzN I1 hd
  obtain ⟨o', ho', hx', hd'⟩ := id hr
  refine ⟨hr.typeIs, (fun _ z => by cases z; exact ⟨o', ho', hx'.2.1⟩), ?_⟩
  have I2 : Inv X pins σ H1 { s1 with heap := s1.heap.push { cls := .type "dict_items", data := .fields #[.ref d] } } := I1.kept (t' := s1.toks) fun b ob q => Heap.get?_push_of_some _ q
  have fin : wpAny (model X.prog X.w) X.A (pyIter (.ref s1.heap.objs.size)) (PIE X pins σ (.Tuple elts kk tpos) R) X.xe { s1 with heap := s1.heap.push { cls := .type "dict_items", data := .fields #[.ref d] } } := by
    refine wpAny_pyIter_items_raw (d := d) ⟨_, Heap.get?_push_size _ rfl, rfl, rfl⟩ (hr.at fun o e => Heap.get?_push_of_some _ e) (pi_one (tk := s1.toks) I2 _ (turn_itemsN _ hdt) ⟨.none, .none, ?_⟩ q)
    rw [← hsz]
    exact Heap.get?_push_size _ rfl
  show wpAny _ _ (callWith cpos (.builtin "dict.items") [.ref d] [] []) _ X.xe s1
  exact method_meetsIn F.slot_dict_items F.entry_dict_items rfl (PySem.evalArgs_none ⟨rfl, hr.typeIs, F.args_dict_items_1 _, _, meets_dict_items_raw d hs, ⟨es, ep, hr⟩, fin⟩)
/-- for p in d.items() -/
theorem pi_itemsH {x : Str} {tpos : Pos} (he : PE X e td) (hP : X.prog = P := by rfl) (hw : X.w = w := by rfl) (hbase : attributeBase e "items" X.env (eval e X.env) = eval e X.env := by rfl) (hline : (apos.endLine == cpos.line) = true := by rfl) :
    PI X (.Name x tpos) (.Call (.Attribute e "items" apos) [] [] cpos) (iItemsN P w td) := by
  subst hP hw
  refine ⟨fun pins s σ H R I h => ?_⟩
  refine wpAny_Call_method (T := "dict") (id := "dict.items") hbase rfl hline F.plainAttrs_dict F.slot_dict_items F.type_dict_items (thn (he.run pins s σ H _ I h) fun u s1 ⟨y, H1, I1, rx, d, o, xs, ex, hd, q⟩ => ?_)
  subst ex
  cases rx
  obtain ⟨hs, hgd, es, ep, hdt, hr, hsz, ent⟩ := frzN I1 hd
  obtain ⟨o', ho', hx', hd'⟩ := id hr
  refine ⟨hr.typeIs, (fun _ z => by cases z; exact ⟨o', ho', hx'.2.1⟩), ?_⟩
  have I2 : Inv X pins σ H1 { s1 with heap := s1.heap.push { cls := .type "dict_items", data := .fields #[.ref d] } } := I1.kept (t' := s1.toks) fun b ob q => Heap.get?_push_of_some _ q
  have fin : wpAny (model X.prog X.w) X.A (pyIter (.ref s1.heap.objs.size)) (PIE X pins σ (.Name x tpos) R) X.xe { s1 with heap := s1.heap.push { cls := .type "dict_items", data := .fields #[.ref d] } } := by
    refine wpAny_pyIter_items_raw (d := d) ⟨_, Heap.get?_push_size _ rfl, rfl, rfl⟩ (hr.at fun o e => Heap.get?_push_of_some _ e) (pi_one (tk := s1.toks) I2 _ (turn_itemsH _ hdt) (.inl ⟨.none, .none, ?_⟩) q)
    rw [← hsz]
    exact Heap.get?_push_size _ rfl
  show wpAny _ _ (callWith cpos (.builtin "dict.items") [.ref d] [] []) _ X.xe s1
  exact method_meetsIn F.slot_dict_items F.entry_dict_items rfl (PySem.evalArgs_none ⟨rfl, hr.typeIs, F.args_dict_items_1 _, _, meets_dict_items_raw d hs, ⟨es, ep, hr⟩, fin⟩)
end
section
variable {P : Program} {w : World} {d : Addr} {o : Obj} {xs : List Ent}
theorem walk_keysN : Walk (ItK P w d o xs) xs.length (fun H => H d = some (.frz o (DnO P w d xs))) (fun i H x H' => H' = H ∧ ∃ k a v, xs[i]? = some (k, a, v) ∧ x = .ref a) :=
  ⟨fun _ _ hi q => ⟨q, hi⟩, fun _ q => ⟨q, Nat.le_refl _⟩, fun _ _ _ _ _ _ y => y⟩
theorem walk_itemsN : Walk (ItP P w d o xs) xs.length (fun H => H d = some (.frz o (DnO P w d xs))) (fun i H x H' => ∃ T k a v, xs[i]? = some (k, a, v) ∧ x = .ref T ∧ H T = none ∧ H' = upd H T (.tup [.ref a, v])) :=
  ⟨fun _ _ hi q => ⟨q, hi⟩, fun _ q => ⟨q, Nat.le_refl _⟩, fun _ _ _ _ _ _ y => y⟩
end
end AA

/-! ## Mb -/
set_option linter.all false
set_option maxRecDepth 100000
/-! Mb: the data of the program (lots, pairs, rows, ways) and their order. -/
namespace AA
open PySem PySem.Spec PyProof.Rows L2 PySem.W
def rowD (r : List Int) : PyData := .tuple (r.map .int)
def wayD (rows : Rows) : PyData := .tuple (rows.map rowD)
def lotD (l : List Nat) : PyData := .tuple (l.map fun (k : Nat) => PyData.int (k : Int))
def pairD (p : Lot × Lot) : PyData := .tuple [lotD p.1, lotD p.2]
def waysD (ways : List Rows) : PyData := .tuple (ways.map wayD)
theorem lot_vals (l : List Nat) : (l.map fun (k : Nat) => PyData.int (k : Int)) = (l.map fun (k : Nat) => (k : Int)).map PyData.int := by rw [List.map_map]; rfl
theorem lotD_row (l : List Nat) : lotD l = rowD (l.map fun (k : Nat) => (k : Int)) := by unfold lotD rowD; rw [lot_vals]
/-- lots as keys -/
def lotK (l : List Nat) : NKey := .tup (l.map fun (k : Nat) => NestedKey.num (k : Int))
def pairK (p : Lot × Lot) : NKey := .tup [lotK p.1, lotK p.2]
theorem datas_map {α : Type} (f : α → NKey) : ∀ l : List α, NestedKey.datas (l.map f) = l.map fun x => (f x).data
  | [] => by rw [List.map_nil, List.map_nil, NestedKey.datas]
  | x :: l => by rw [List.map_cons, List.map_cons, NestedKey.datas, datas_map f l]
theorem lotK_data (l : List Nat) : (lotK l).data = lotD l := by
  unfold lotK lotD
  rw [NestedKey.data, datas_map]
  simp only [NestedKey.data]
theorem pairK_data (p : Lot × Lot) : (pairK p).data = pairD p := by
  unfold pairK pairD
  rw [NestedKey.data, NestedKey.datas, NestedKey.datas, NestedKey.datas, lotK_data, lotK_data]
theorem depthAll_nums : ∀ l : List Nat, NestedKey.depthAll (l.map fun (k : Nat) => NestedKey.num (k : Int)) ≤ 1
  | [] => by rw [List.map_nil, NestedKey.depthAll]; omega
  | x :: l => by
    rw [List.map_cons, NestedKey.depthAll]
    have := depthAll_nums l
    have h : (NestedKey.num (x : Int)).depth ≤ 1 := by rw [NestedKey.depth]; omega
    omega
theorem lotK_depth (l : List Nat) : (lotK l).depth ≤ 2 := by
  unfold lotK
  rw [NestedKey.depth]
  have := depthAll_nums l
  omega
theorem pairK_depth (p : Lot × Lot) : (pairK p).depth ≤ 8 := by
  unfold pairK
  rw [NestedKey.depth, NestedKey.depthAll, NestedKey.depthAll, NestedKey.depthAll]
  have := lotK_depth p.1
  have := lotK_depth p.2
  omega
theorem nums_inj : ∀ {l m : List Nat}, (l.map fun (k : Nat) => NestedKey.num (k : Int)) = (m.map fun (k : Nat) => NestedKey.num (k : Int)) → l = m
  | [], [], _ => rfl
  | [], _ :: _, h => by simp at h
  | _ :: _, [], h => by simp at h
  | x :: l, y :: m, h => by
    rw [List.map_cons, List.map_cons, List.cons.injEq] at h
    have h1 : (x : Int) = (y : Int) := NestedKey.num.inj h.1
    rw [nums_inj h.2, Int.ofNat.inj h1]
theorem lotK_inj {l m : List Nat} (h : lotK l = lotK m) : l = m := nums_inj (NestedKey.tup.inj h)
theorem pairK_inj {p q : Lot × Lot} (h : pairK p = pairK q) : p = q := by
  have h1 := NestedKey.tup.inj h
  rw [List.cons.injEq, List.cons.injEq] at h1
  exact Prod.ext (lotK_inj h1.1) (lotK_inj h1.2.1)
/-- pairs of numbers as keys -/
def bitD (x : Nat × Nat) : PyData := .tuple [.int (x.1 : Int), .int (x.2 : Int)]
def bitK (x : Nat × Nat) : NKey := .tup [.num (x.1 : Int), .num (x.2 : Int)]
theorem bitK_data (x : Nat × Nat) : (bitK x).data = bitD x := by
  unfold bitK bitD
  rw [NestedKey.data, NestedKey.datas, NestedKey.datas, NestedKey.datas, NestedKey.data, NestedKey.data]
theorem bitK_depth (x : Nat × Nat) : (bitK x).depth ≤ 8 := by
  unfold bitK
  rw [NestedKey.depth, NestedKey.depthAll, NestedKey.depthAll, NestedKey.depthAll, NestedKey.depth, NestedKey.depth]
  omega
theorem bitK_inj {p q : Nat × Nat} (h : bitK p = bitK q) : p = q := by
  have h1 := NestedKey.tup.inj h
  rw [List.cons.injEq, List.cons.injEq] at h1
  exact Prod.ext (Int.ofNat.inj (NestedKey.num.inj h1.1)) (Int.ofNat.inj (NestedKey.num.inj h1.2.1))

/-! ### the order of lots -/
theorem lexLtN_anti : ∀ {A B : Lot}, lexLtN A B = true → lexLtN B A = false
  | [], [], h => by simp [lexLtN] at h
  | [], _ :: _, _ => rfl
  | _ :: _, [], h => by simp [lexLtN] at h
  | a :: as, b :: bs, h => by
    unfold lexLtN at h ⊢
    by_cases e : a = b
    · rw [if_pos e] at h
      rw [if_pos e.symm]
      exact lexLtN_anti h
    · rw [if_neg e] at h
      rw [if_neg (Ne.symm e)]
      have := of_decide_eq_true h
      exact decide_eq_false (by omega)
theorem lexLtN_tri : ∀ {A B : Lot}, lexLtN A B = false → lexLtN B A = false → A = B
  | [], [], _, _ => rfl
  | [], _ :: _, h, _ => by simp [lexLtN] at h
  | _ :: _, [], _, h => by simp [lexLtN] at h
  | a :: as, b :: bs, h, h' => by
    unfold lexLtN at h h'
    by_cases e : a = b
    · rw [if_pos e] at h
      rw [if_pos e.symm] at h'
      rw [e, lexLtN_tri h h']
    · rw [if_neg e] at h
      rw [if_neg (Ne.symm e)] at h'
      have := of_decide_eq_false h
      have := of_decide_eq_false h'
      omega
theorem lexAll_lots : ∀ A B : Lot, PyProof.Rows.lexLt itemOrd (keyToksAll (A.map fun (k : Nat) => PyData.int (k : Int))) (keyToksAll (B.map fun (k : Nat) => PyData.int (k : Int))) = lexLtN A B
  | [], [] => lex_irrefl _
  | [], y :: ys => by
    rw [List.map_nil, List.map_cons, toks_all_cons]
    simp only [keyToksAll]
    rw [lex_diff (O := itemOrd) (by simp)]
    rfl
  | x :: xs, [] => by
    rw [List.map_nil, List.map_cons, toks_all_cons]
    simp only [keyToksAll]
    rw [lex_diff (O := itemOrd) (by simp)]
    rfl
  | x :: xs, y :: ys => by
    rw [List.map_cons, List.map_cons, dataLt_cons (by simp [alike]), lexAll_lots xs ys, dataLt_int, show lexLtN (x :: xs) (y :: ys) = if x = y then lexLtN xs ys else decide (x < y) from rfl]
    by_cases h : x = y
    · rw [if_pos (by simp [PyData.eqv, h]), if_pos h]
    · rw [if_neg (by simp [PyData.eqv]; omega), if_neg h]
      simp
theorem dataLt_lot (A B : Lot) : dataLt (lotD A) (lotD B) = lexLtN A B := by
  unfold lotD
  rw [dataLt_tuple, lexAll_lots]
theorem alike_lots : ∀ A B : Lot, alikeAll (A.map fun (k : Nat) => PyData.int (k : Int)) (B.map fun (k : Nat) => PyData.int (k : Int)) = true
  | [], _ => by rw [List.map_nil, alikeAll]
  | _ :: _, [] => by rw [List.map_nil, List.map_cons, alikeAll]
  | x :: xs, y :: ys => by
    rw [List.map_cons, List.map_cons, alikeAll, alike_lots xs ys]
    simp [alike]
theorem alike_lot (A B : Lot) : alike (lotD A) (lotD B) = true := by
  unfold lotD
  rw [alike]
  exact alike_lots A B
theorem depth_ints : ∀ l : List Int, PyData.depthAll (l.map PyData.int) ≤ 1
  | [] => by rw [List.map_nil, PyData.depthAll]; omega
  | x :: l => by
    rw [List.map_cons, PyData.depthAll]
    have := depth_ints l
    have h : (PyData.int x).depth ≤ 1 := by rw [PyData.depth]; omega
    omega
theorem rowD_depth (r : List Int) : (rowD r).depth ≤ 2 := by
  unfold rowD
  rw [PyData.depth]
  have := depth_ints r
  omega
theorem lotD_depth (l : Lot) : (lotD l).depth ≤ 2 := by rw [lotD_row]; exact rowD_depth _
theorem alikeAll_lots (A B : Lot) : AlikeAll [lotD A, lotD B] := by
  constructor
  · intro x hx y hy
    rcases List.mem_cons.mp hx with rfl | hx <;> rcases List.mem_cons.mp hy with rfl | hy
    · exact alike_lot _ _
    · rw [List.mem_singleton.mp hy]; exact alike_lot _ _
    · rw [List.mem_singleton.mp hx]; exact alike_lot _ _
    · rw [List.mem_singleton.mp hx, List.mem_singleton.mp hy]; exact alike_lot _ _
  · intro x hx e
    rcases List.mem_cons.mp hx with rfl | hx
    · cases e
    · rw [List.mem_singleton.mp hx] at e; cases e
theorem depthAll_lots (A B : Lot) : PyData.depthAll [lotD A, lotD B] ≤ 60 := by
  rw [PyData.depthAll, PyData.depthAll, PyData.depthAll]
  have := lotD_depth A
  have := lotD_depth B
  omega
theorem joined_fst (A B : Lot) : (if dataLt (lotD B) (lotD A) = true then lotD B else lotD A) = lotD (joinedN A B).1 := by
  rw [dataLt_lot]
  unfold joinedN
  split <;> rfl
theorem joined_snd (A B : Lot) : (if dataLt (lotD A) (lotD B) = true then lotD B else lotD A) = lotD (joinedN A B).2 := by
  rw [dataLt_lot]
  unfold joinedN
  cases h1 : lexLtN A B with
  | true =>
    rw [lexLtN_anti h1]
    rfl
  | false =>
    cases h2 : lexLtN B A with
    | true => rfl
    | false =>
      rw [lexLtN_tri h1 h2]
      rfl

/-! ### what can be compared -/
theorem shaped_of {d : PyData} (h : d.canLay0 = true) (h2 : d.depth ≤ 64) : SeqAt.shaped d = true := by
  unfold SeqAt.shaped
  rw [h, decide_eq_true h2]
  rfl
theorem layAll_map {α : Type} (f : α → PyData) : ∀ l : List α, (∀ x ∈ l, (f x).canLay0 = true) → PyData.canLayAll0 (l.map f) = true
  | [], _ => by rw [List.map_nil, PyData.canLayAll0]
  | x :: l, h => by rw [List.map_cons, PyData.canLayAll0, h x List.mem_cons_self, layAll_map f l fun y hy => h y (List.mem_cons_of_mem _ hy)]; rfl
theorem depthAll_map {α : Type} (f : α → PyData) (b : Nat) : ∀ l : List α, (∀ x ∈ l, (f x).depth ≤ b) → PyData.depthAll (l.map f) ≤ b
  | [], _ => by rw [List.map_nil, PyData.depthAll]; omega
  | x :: l, h => by
    rw [List.map_cons, PyData.depthAll]
    have := h x List.mem_cons_self
    have := depthAll_map f b l fun y hy => h y (List.mem_cons_of_mem _ hy)
    omega
theorem rowD_lay (r : List Int) : (rowD r).canLay0 = true := by
  unfold rowD
  rw [PyData.canLay0]
  exact layAll_map _ _ fun x _ => by rw [PyData.canLay0]
theorem lotD_lay (l : Lot) : (lotD l).canLay0 = true := by rw [lotD_row]; exact rowD_lay _
theorem pairD_lay (p : Lot × Lot) : (pairD p).canLay0 = true := by
  unfold pairD
  rw [PyData.canLay0, PyData.canLayAll0, PyData.canLayAll0, PyData.canLayAll0, lotD_lay, lotD_lay]
  rfl
theorem pairD_depth (p : Lot × Lot) : (pairD p).depth ≤ 3 := by
  unfold pairD
  rw [PyData.depth, PyData.depthAll, PyData.depthAll, PyData.depthAll]
  have := lotD_depth p.1
  have := lotD_depth p.2
  omega
theorem wayD_lay (w : Rows) : (wayD w).canLay0 = true := by
  unfold wayD
  rw [PyData.canLay0]
  exact layAll_map _ _ fun x _ => rowD_lay x
theorem wayD_depth (w : Rows) : (wayD w).depth ≤ 3 := by
  unfold wayD
  rw [PyData.depth]
  have := depthAll_map rowD 2 w fun x _ => rowD_depth x
  omega
theorem waysD_lay (ws : List Rows) : (waysD ws).canLay0 = true := by
  unfold waysD
  rw [PyData.canLay0]
  exact layAll_map _ _ fun x _ => wayD_lay x
theorem waysD_depth (ws : List Rows) : (waysD ws).depth ≤ 4 := by
  unfold waysD
  rw [PyData.depth]
  have := depthAll_map wayD 3 ws fun x _ => wayD_depth x
  omega
theorem list_shaped {α : Type} (f : α → PyData) (l : List α) (b : Nat) (hb : b ≤ 60) (h : ∀ x ∈ l, (f x).canLay0 = true ∧ (f x).depth ≤ b) : SeqAt.shaped (.list (l.map f)) = true :=
  shaped_of (by rw [PyData.canLay0]; exact layAll_map _ _ fun x hx => (h x hx).1) (by
    rw [PyData.depth]
    have := depthAll_map f b l fun x hx => (h x hx).2
    omega)
theorem tup_shaped {α : Type} (f : α → PyData) (l : List α) (b : Nat) (hb : b ≤ 60) (h : ∀ x ∈ l, (f x).canLay0 = true ∧ (f x).depth ≤ b) : SeqAt.shaped (.tuple (l.map f)) = true :=
  shaped_of (by rw [PyData.canLay0]; exact layAll_map _ _ fun x hx => (h x hx).1) (by
    rw [PyData.depth]
    have := depthAll_map f b l fun x hx => (h x hx).2
    omega)
theorem nil_shaped : SeqAt.shaped (.list []) = true := list_shaped (α := Nat) (fun _ => .none) [] 0 (by decide) (fun _ h => absurd h List.not_mem_nil)
theorem nilT_shaped : SeqAt.shaped (.tuple []) = true := tup_shaped (α := Nat) (fun _ => .none) [] 0 (by decide) (fun _ h => absurd h List.not_mem_nil)
theorem eqv_nilL (ds : List PyData) : PyData.eqv (.list ds) (.list []) = ds.isEmpty := by
  cases ds <;> simp [PyData.eqv, PyData.eqvAll]
theorem eqv_nilT (ds : List PyData) : PyData.eqv (.tuple ds) (.tuple []) = ds.isEmpty := by
  cases ds <;> simp [PyData.eqv, PyData.eqvAll]
theorem range_filt {α β : Type} (l : List α) (f : α → Bool) (g : α → β) (d : α) : ((List.range l.length).filter fun i => f (l.getD i d)).map (fun i => g (l.getD i d)) = (l.filter f).map g := by
  have e : (List.range l.length).map (fun i => l.getD i d) = l := by
    have := range_get l id d
    rw [List.map_id] at this
    exact this
  have e2 : l.filter f = ((List.range l.length).filter fun i => f (l.getD i d)).map fun i => l.getD i d := by
    have h := congrArg (List.filter f) e
    rw [List.filter_map] at h
    exact h.symm
  rw [e2, List.map_map]
  rfl
theorem cut1 (xs : List V) : cutV xs (some 1) none = xs.drop 1 := by
  unfold cutV
  have e1 : HT.sIx xs.length 0 (some 1) = min 1 xs.length := HT.sIx_nat _ _ 1
  rw [e1, HT.sIx_none]
  cases xs with
  | nil => rfl
  | cons x l =>
    have e : min 1 (x :: l).length = 1 := by rw [List.length_cons]; omega
    rw [e]
    exact List.take_of_length_le (by rw [List.length_drop]; omega)

/-! ### the lots of n minds -/
def lots : Nat → List Lot
  | 0 => [[]]
  | n + 1 => lots n ++ (lots n).map (· ++ [n])
theorem lots_length : ∀ n, (lots n).length = 2 ^ n
  | 0 => rfl
  | n + 1 => by
    show (lots n ++ (lots n).map (· ++ [n])).length = _
    rw [List.length_append, List.length_map, lots_length n, Nat.pow_succ]
    omega
theorem lots_filter (f : Nat → Bool) : ∀ n, (List.range n).filter f ∈ lots n
  | 0 => List.mem_cons_self
  | n + 1 => by
    show _ ∈ lots n ++ (lots n).map (· ++ [n])
    rw [List.range_succ, List.filter_append]
    cases h : f n with
    | true =>
      rw [List.filter_cons_of_pos h, List.filter_nil]
      exact List.mem_append_right _ (List.mem_map.mpr ⟨_, lots_filter f n, rfl⟩)
    | false =>
      rw [List.filter_cons_of_neg (by rw [h]; decide), List.filter_nil, List.append_nil]
      exact List.mem_append_left _ (lots_filter f n)
theorem lots_lt : ∀ {n : Nat} {A : Lot}, A ∈ lots n → (∀ m ∈ A, m < n) ∧ A.length ≤ n
  | 0, A, h => by
    have e : A = [] := List.mem_singleton.mp h
    subst e
    exact ⟨fun _ h => absurd h List.not_mem_nil, Nat.le_refl _⟩
  | n + 1, A, h => by
    rcases List.mem_append.mp (show A ∈ lots n ++ (lots n).map (· ++ [n]) from h) with h | h
    · obtain ⟨h1, h2⟩ := lots_lt h
      exact ⟨fun m hm => Nat.lt_succ_of_lt (h1 m hm), Nat.le_succ_of_le h2⟩
    · obtain ⟨B, hB, rfl⟩ := List.mem_map.mp h
      obtain ⟨h1, h2⟩ := lots_lt hB
      refine ⟨fun m hm => ?_, by rw [List.length_append, List.length_singleton]; omega⟩
      rcases List.mem_append.mp hm with hm | hm
      · exact Nat.lt_succ_of_lt (h1 m hm)
      · rw [List.mem_singleton.mp hm]; exact Nat.lt_succ_self n
theorem lots_one : ∀ {n j : Nat}, j < n → [j] ∈ lots n
  | 0, _, h => absurd h (Nat.not_lt_zero _)
  | n + 1, j, h => by
    show _ ∈ lots n ++ (lots n).map (· ++ [n])
    by_cases e : j = n
    · subst e
      refine List.mem_append_right _ (List.mem_map.mpr ⟨[], ?_, rfl⟩)
      have := lots_filter (fun _ => false) j
      rwa [List.filter_eq_nil_iff.mpr (fun _ _ => by decide)] at this
    · exact List.mem_append_left _ (lots_one (by omega))
def univ (n : Nat) : List (Lot × Lot) := (lots n).flatMap fun A => (lots n).map fun B => (A, B)
theorem mem_univ {n : Nat} {p : Lot × Lot} : p ∈ univ n ↔ p.1 ∈ lots n ∧ p.2 ∈ lots n := by
  unfold univ
  rw [List.mem_flatMap]
  constructor
  · rintro ⟨A, hA, h⟩
    obtain ⟨B, hB, rfl⟩ := List.mem_map.mp h
    exact ⟨hA, hB⟩
  · rintro ⟨h1, h2⟩
    exact ⟨p.1, h1, List.mem_map.mpr ⟨p.2, h2, rfl⟩⟩
theorem univ_length (n : Nat) : (univ n).length = 2 ^ n * 2 ^ n := by
  unfold univ
  rw [List.length_flatMap]
  have : ((lots n).map fun A => ((lots n).map fun B => (A, B)).length) = (lots n).map fun _ => 2 ^ n := by
    exact List.map_congr_left fun A _ => by rw [List.length_map, lots_length]
  rw [this, List.map_const', List.sum_replicate_nat, lots_length]
theorem univ_few {n : Nat} (h : n ≤ 6) : (univ n).length ≤ 4096 := by
  rw [univ_length]
  have : 2 ^ n ≤ 2 ^ 6 := Nat.pow_le_pow_right (by decide) h
  exact Nat.mul_le_mul this this
theorem univ_start {n : Nat} : ∀ p ∈ startsN n, p ∈ univ n := fun p hp => by
  obtain ⟨j, k, h1, h2, rfl⟩ := mem_startsN.mp hp
  exact mem_univ.mpr ⟨lots_one (by omega), lots_one h2⟩
theorem univ_step {n : Nat} {ways : List Rows} (W : ∀ rows ∈ ways, WayOk n rows) (p : Lot × Lot) : ∀ q ∈ succN ways p, q ∈ univ n := fun q hq => by
  obtain ⟨rows, hr, e⟩ := List.mem_filterMap.mp hq
  unfold stepN at e
  split at e
  · cases e
  · obtain rfl := Option.some.inj e
    have l1 : ∀ A, ears rows A ∈ lots n := fun A => by
      unfold ears
      rw [(W rows hr).len]
      exact lots_filter _ n
    rcases joinedN_or (ears rows p.1) (ears rows p.2) with e | e <;> rw [e]
    · exact mem_univ.mpr ⟨l1 _, l1 _⟩
    · exact mem_univ.mpr ⟨l1 _, l1 _⟩
end AA

/-! ## Dv -/
set_option Elab.async false
set_option linter.all false
set_option maxRecDepth 100000
set_option maxHeartbeats 4000000
/-! Dv: list(d.values()), dict(d) and dict([(k, v), ..]) for dicts whose keys are tuples of any depth. -/
namespace AA
open PySem PySem.Spec PyProof.Rows L2 PySem.W
theorem vals_of : ∀ {vs : List V} {us : List Value}, vs.length = us.length → (∀ (i : Nat) v u, vs[i]? = some v → us[i]? = some u → RelV v u) → Vals vs us
  | [], [], _, _ => .nil
  | [], _ :: _, h, _ => by simp at h
  | _ :: _, [], h, _ => by simp at h
  | v :: vs, u :: us, h, r => .cons (r 0 v u rfl rfl) (vals_of (by simpa using h) fun i v' u' h1 h2 => r (i + 1) v' u' (by simpa using h1) (by simpa using h2))
section
variable {X : Cx} {pins : List (Addr × Obj)} {σ : L2.St} {H : Hp} {s : Shared} {d : Addr} {xs : List Ent}
theorem rdN (I : Inv X pins σ H s) (r : Rd H d (DnO X.prog X.w d xs)) :
    (d == sysModules) = false ∧ xs.length ≤ sizeLine ∧ ∃ es ep, s.heap.DictRaw d es ep ∧ es.size = xs.length ∧ ∀ (i : Nat) (hi : i < es.size), ∃ k a v, xs[i]? = some (k, a, v) ∧ es[i].key = .ref a ∧ RelV v es[i].val := by
  obtain ⟨⟨h1, h2, _, vs, hp, es, ep, hr, he⟩, _⟩ := (show ObjOk X.prog X.w H s.heap d (DnO X.prog X.w d xs) from r.ok I.hok)
  have hlen := Paired.length hp
  have hsz := size_of_entries he
  refine ⟨h1, h2, es, ep, hr, by omega, fun i hi => ?_⟩
  have hix : i < xs.length := by omega
  obtain ⟨y, hy, e1, e2, e3⟩ := paired_get hp (List.getElem?_eq_getElem hix)
  have q := entry_at he i
  rw [hy, Array.getElem?_eq_getElem hi] at q
  have q' : es[i] = entryOfKey (nestedKind X.prog X.w) y := Option.some.inj q
  refine ⟨xs[i].1, xs[i].2.1, xs[i].2.2, List.getElem?_eq_getElem hix, ?_, ?_⟩
  · rw [q', e2]; rfl
  · rw [q']; exact e3
end
section
variable {X : Cx} (P : Program) (w : World) {e : Expr} {te : TE} {apos cpos p pos : Pos}
def tListVals (te : TE) : TE := fun σ H Q => te σ H fun x H1 => ∃ (d : Addr) (xs : List Ent), x = .ref d ∧ Rd H1 d (DnO P w d xs) ∧ ∀ p, H1 p = none → Q (.ref p) (upd H1 p (.lst (xs.map (·.2.2))))
/-- list(e.values()) -/
theorem pe_listVals (he : PE X e te) (hg : Gl X "list") (hm : X.mg "list" = none) (hv : bootBuiltins "list" = some (.type "list") := by decide +kernel) (hc : X.calm = true := by rfl) (hP : X.prog = P := by rfl) (hw : X.w = w := by rfl) (hbase : attributeBase e "values" X.env (eval e X.env) = eval e X.env := by rfl) (hline : (apos.endLine == cpos.line) = true := by rfl)
    (hs : starEach [.Call (.Attribute e "values" apos) [] [] cpos] X.env = (false, eval (.Call (.Attribute e "values" apos) [] [] cpos) X.env) :: starEach [] X.env := by rfl) :
    PE X (.Call (.Name "list" p) [.Call (.Attribute e "values" apos) [] [] cpos] [] pos) (tListVals P w te) := by
  subst hP hw
  refine ⟨fun pins s σ H Q I hq => ?_⟩
  refine wpAny_Call_Name_kw (ld_blt I hg hm hv ?_)
  refine PyProof.Rows.callWith_type1 ?_ hs rfl
  rw [hs]
  show wpAny _ _ (spliced ((false, eval (.Call (.Attribute e "values" apos) [] [] cpos) X.env) :: backTo pos (starEach [] X.env))) _ _ s
  refine Calls.spliced_cons ?_
  refine wpAny_Call_method (T := "dict") (id := "dict.values") hbase rfl hline F.plainAttrs_dict F.slot_dict_values F.type_dict_values (thn (he.run pins s σ H _ I hq) fun u s1 ⟨x, H1, I1, rx, d, xs, ex, hd, q⟩ => ?_)
  subst ex
  cases rx
  obtain ⟨h1, hz, es, ep, hr, hsz, ent⟩ := rdN I1 hd
  obtain ⟨o', ho', hx', hd'⟩ := id hr
  have k2 : ∀ b ob, s1.heap.get? b = some ob → (s1.heap.push { cls := .type "dict_values", data := .fields #[.ref d] }).get? b = some ob := fun b ob q => Heap.get?_push_of_some _ q
  have I2 : Inv X pins σ H1 { s1 with heap := s1.heap.push { cls := .type "dict_values", data := .fields #[.ref d] } } := I1.kept (t' := s1.toks) k2
  refine ⟨hr.typeIs, (fun _ z => by cases z; exact ⟨o', ho', hx'.2.1⟩), ?_⟩
  show wpAny _ _ (callWith cpos (.builtin "dict.values") [.ref d] [] []) _ X.xe s1
  refine method_meetsIn F.slot_dict_values F.entry_dict_values rfl (PySem.evalArgs_none ⟨rfl, hr.typeIs, F.args_dict_values_1 _, _, meets_dict_values_raw d h1, ⟨es, ep, hr⟩, ?_⟩)
  refine Calls.spliced_nil ?_
  refine kdl_call (KdlSrc.rawValues (r := s1.heap.objs.size) (d := d) (es := es) (ep := ep)) (I1.ok.hd hc) ⟨⟨_, Heap.get?_push_size _ rfl, rfl, rfl⟩, hr.at fun o q => k2 _ _ q⟩ (by omega) fun h' tk acc c hk hS hacc => ?_
  have rv : Vals (xs.map (·.2.2)) acc.toList := by
    refine vals_of (by
      have e1 : acc.toList.length = acc.size := Array.length_toList
      have e2 := hacc.1
      rw [List.length_map]
      omega) fun i v u hv hu => ?_
    rw [Array.getElem?_toList] at hu
    obtain ⟨hi, rfl⟩ := hacc.2 i u hu
    obtain ⟨k, a, v', hx, _, r⟩ := ent i hi
    rw [List.getElem?_map, hx] at hv
    cases hv
    exact r
  refine ⟨.ref _, upd H1 _ (.lst (xs.map (·.2.2))), I2.laid (t' := tk) (fun b u q => hk b u q) (Nat.le_refl _) ⟨by rw [List.length_map]; exact hz, acc.toList, c, rv, by rw [Array.toArray_toList]; exact hS⟩, rfl, q _ (I2.hok.fresh (Nat.le_refl _))⟩
end
end AA

/-! ## Dc -/
set_option Elab.async false
set_option linter.all false
set_option maxRecDepth 100000
set_option maxHeartbeats 4000000
/-! Dc: dict(d) and dict([(k, v), ..]) for dicts whose keys are tuples of any depth. -/
namespace AA
open PySem PySem.Spec PyProof.Rows L2 PySem.W
section
variable {prog : Program} {w : World} {K : Type} [DecidableEq K] {knd : HeapKind prog w K} {A : Around} {E : Value → Shared → Prop} {s : Shared}
/-- dict(o), the keys' hashes all apart -/
theorem dict_copy {o : Addr} {more : List (K × Addr × Value)} {Q : Value → Shared → Prop} (hu : knd.room A.in1.in1) (hoS : (o == sysModules) = false) (ho : s.heap.DictOfH knd o more) (hst : ∀ x ∈ more, ∀ h', (∀ b o, s.heap.get? b = some o → h'.get? b = some o) → knd.is h' x.1 x.2.1)
    (hty : ∀ x ∈ more, s.TypeIs (.ref x.2.1) "tuple") (hap : (more.map fun x => knd.hash x.1).Nodup) (hsz : more.length ≤ sizeLine)
    (h : ∀ h', h'.DictOfH knd s.heap.objs.size more → (∀ b o, s.heap.get? b = some o → h'.get? b = some o) → Q (.ref s.heap.objs.size) { s with heap := h' }) :
    wpAny (model prog w) A (call (.type "dict") [.ref o]) Q E s := by
  refine callType_codes (Q₁ := fun obj s₁ => obj = .ref s.heap.objs.size ∧ s₁ = { s with heap := s.heap.push { cls := .type "dict", data := .dict #[] } }) F.kt_called_dict (F.kt_typeCall_dict_1 _) F.entry_dict_init (kt_code_dict_new _ ⟨rfl, rfl⟩) ?_
  rintro obj s₁ ⟨rfl, rfl⟩
  have kk : ∀ b u, s.heap.get? b = some u → (s.heap.push { cls := .type "dict", data := .dict #[] }).get? b = some u := fun b u e => Heap.get?_push_of_some _ e
  have hT : Shared.TypeIs { s with heap := s.heap.push { cls := .type "dict", data := .dict #[] } } (.ref s.heap.objs.size) "dict" := ⟨_, Heap.get?_push_size _ rfl, rfl⟩
  refine ⟨hT, F.args_dict_init_2 _ _, ?_⟩
  unfold Builtin.«dict.__init__»
  refine wpAny_bind ?_
  unfold Builtin.Dict.selfAndRest
  refine wpAny_bind (wpAny_notOrdered_dict hT ?_)
  show wpAny _ _ (pure (s.heap.objs.size, [Value.ref o])) _ _ _
  refine wpAny_pure ?_
  obtain ⟨oo, es, ep, hoo, hc, hd, he, his, hn⟩ := id ho
  have hdo : s.heap.objs.size ≠ o := fun e => absurd (Heap.lt_size hoo) (by rw [e]; exact Nat.lt_irrefl _)
  have ho2 : (s.heap.push { cls := .type "dict", data := .dict #[] }).DictOfH knd o more := ⟨oo, es, ep, kk _ _ hoo, hc, hd, he, fun x hx => hst x hx _ kk, hn⟩
  have fin := updateFrom_dictH (A := A.in1) (s := { s with heap := s.heap.push { cls := .type "dict", data := .dict #[] } }) (R := wants (fun r s₂ => r = .none ∧ Q (.ref s.heap.objs.size) s₂) E) (nm := "dict.__init__") (knd := knd) (d := s.heap.objs.size) (o := o) (kvs := []) (more := more) .none hu hdo hoS (Heap.DictOfH.new s.heap) ho2 (.inr ⟨fun x hx => by
      obtain ⟨u, hu, hc⟩ := hty x hx
      exact ⟨u, kk _ _ hu, hc⟩, hap⟩) (by simpa using hsz) fun h' hd' _ sb => ⟨rfl, h h' (by rw [storedAllH_nil_of_nodup more hn] at hd'; exact hd') fun b u e => (sb.2 b (Nat.ne_of_lt (Heap.lt_size e))).trans (kk b u e)⟩
  exact fin
end
section
variable {X : Cx} (P : Program) (w : World)
theorem dn_new {h : Heap} {d : Addr} {xs : List Ent} {vs : List (NKey × Addr × Value)} (h0 : (d == sysModules) = false) (hz : xs.length ≤ sizeLine) (hn : (xs.map (·.1)).Nodup) (hp : Paired EntR xs vs) (hd : h.DictOfH (nestedKind P w) d vs) : DnX P w d xs h := by
  obtain ⟨o, es, ep, ho, hc, hdt, he, _, _⟩ := hd
  exact ⟨h0, hz, hn, vs, hp, es, ep, ⟨o, ho, hc, hdt⟩, he⟩
def rDnCopy : List V → Hp → VK → Prop := fun vs H Q => ∃ (d : Addr) (xs : List Ent), vs = [.ref d] ∧ Rd H d (DnO P w d xs) ∧ DnK H xs ∧ (xs.map fun x => x.1.hash w).Nodup ∧ ∀ p, H p = none → Q (.ref p) (upd H p (DnO P w p xs))
theorem r_dnCopy (hu : X.A.units + 64 < cLine) (hP : X.prog = P := by rfl) (hw : X.w = w := by rfl) : CallR X (.type "dict") (rDnCopy P w) := by
  subst hP hw
  rintro pins s σ H vs us Q I r ⟨d, xs, rfl, hD, hK, hap, q⟩
  obtain ⟨u, rfl, ru⟩ := vals1 r
  cases ru
  obtain ⟨h1, h2, h3, ys, hp, hm⟩ := dict_of I hD hK
  have hl := Paired.length hp
  obtain ⟨_, _, _, _, _, _, _, his, _⟩ := id hm
  have eh : (ys.map fun x => (nestedKind X.prog X.w).hash x.1) = xs.map fun x => x.1.hash X.w := by
    have e := congrArg (List.map fun k : NKey => k.hash X.w) (pairs_keys hp)
    rw [List.map_map, List.map_map] at e
    exact e.symm
  refine dict_copy (knd := nestedKind X.prog X.w) (show X.A.units + 1 + 1 + 8 < cLine by omega) h1 hm (fun x hx h' hk => nestedKind_stays.stays (fun b o _ _ e _ => hk b o e) (his x hx)) (fun x hx => nestedKind_stays.tuple (his x hx)) (by rw [eh]; exact hap) (by omega) fun h' hd' hk => ?_
  exact ⟨.ref _, upd H _ (DnO X.prog X.w _ xs), I.laid (t' := s.toks) hk (Nat.le_refl _) (dn_ok (dn_new _ _ (beq_eq_false_iff_ne.mpr (Ne.symm (Nat.ne_of_lt I.big))) h2 h3 hp hd')), rfl, q _ (I.hok.fresh (Nat.le_refl _))⟩
/-- the pairs of a list, as values -/
theorem pairs_laid {pins : List (Addr × Obj)} {σ : L2.St} {H : Hp} {s : Shared} (I : Inv X pins σ H s) : ∀ {xs : List Ent} {ts : List Addr}, ts.length = xs.length → (∀ (i : Nat) (x : Ent) (T : Addr), xs[i]? = some x → ts[i]? = some T → H T = some (.tup [.ref x.2.1, x.2.2])) →
    ∃ ys, Paired EntR xs ys ∧ ∀ (i : Nat) (y : NKey × Addr × Value) T, ys[i]? = some y → ts[i]? = some T → IsTup s.heap T #[.ref y.2.1, y.2.2]
  | [], _, _, _ => ⟨[], .nil, fun i y T h => by simp at h⟩
  | x :: xs, [], h, _ => by simp at h
  | x :: xs, T :: ts, h, ht => by
    obtain ⟨ys, hp, hy⟩ := pairs_laid I (xs := xs) (ts := ts) (by simpa using h) fun i x' T' h1 h2 => ht (i + 1) x' T' (by simpa using h1) (by simpa using h2)
    obtain ⟨its, rv, p, _⟩ := I.tuple (SqT.of (ht 0 x T rfl rfl))
    obtain ⟨u, v, rfl, ru, rv2⟩ := vals2 rv
    cases ru
    refine ⟨(x.1, x.2.1, v) :: ys, .cons ⟨rfl, rfl, rv2⟩ hp, fun i y T' h1 h2 => ?_⟩
    cases i with
    | zero =>
      cases h1
      cases h2
      exact p
    | succ i => exact hy i y T' (by simpa using h1) (by simpa using h2)
def rDnPairs : List V → Hp → VK → Prop := fun vs H Q => ∃ (l : Addr) (ts : List Addr) (xs : List Ent), vs = [.ref l] ∧ H l = some (.lst (ts.map V.ref)) ∧ ts.length = xs.length ∧ (∀ (i : Nat) (x : Ent) (T : Addr), xs[i]? = some x → ts[i]? = some T → H T = some (.tup [.ref x.2.1, x.2.2])) ∧ DnK H xs ∧ (xs.map (·.1)).Nodup ∧
  ∀ p, H p = none → Q (.ref p) (upd H p (DnO P w p xs))
theorem r_dnPairs (hu : X.A.units + 64 < cLine) (hP : X.prog = P := by rfl) (hw : X.w = w := by rfl) (hc : X.calm = true := by rfl) : CallR X (.type "dict") (rDnPairs P w) := by
  subst hP hw
  rintro pins s σ H vs us Q I r ⟨l, ts, xs, rfl, hl, htl, hts, hK, hn, q⟩
  obtain ⟨u, rfl, ru⟩ := vals1 r
  cases ru
  obtain ⟨its, rv, pl, hz⟩ := I.list (SqL.of (K := X.K) hl)
  obtain ⟨ys, hp, hy⟩ := pairs_laid I htl hts
  have hyl := Paired.length hp
  have hil : its.length = ts.length := by rw [← rv.length, List.length_map]
  rw [List.length_map] at hz
  have his : ∀ x ∈ ys, (nestedKind X.prog X.w).is s.heap x.1 x.2.1 := fun y hy' => by
    obtain ⟨j, hj⟩ := List.getElem?_of_mem hy'
    have hjx : j < xs.length := by rw [hyl]; exact (List.getElem?_eq_some_iff.mp hj).1
    obtain ⟨y', hy'', e1, e2, _⟩ := paired_get hp (List.getElem?_eq_getElem hjx)
    rw [hj] at hy''
    cases hy''
    obtain ⟨t, hd⟩ := hK _ (List.getElem_mem hjx)
    rw [e1, e2] at t
    rw [e1] at hd
    exact key_is I t hd
  have hT : ∀ j, j < ts.length → ts[j]? = some (ts.getD j 0) := fun j h => getD_of h 0
  refine call_dict_pairsH (knd := nestedKind X.prog X.w) (ps := ys) (PairArg.list l its.toArray (fun j => ts.getD j 0) (ys.map fun y => (Value.ref y.2.1, y.2.2))) (I.ok.hd hc) (show X.A.units + 1 + 1 + 8 < cLine by omega)
    ⟨?_, by rw [List.size_toArray, List.length_map]; omega, fun j k v hj => ?_⟩ ⟨by rw [List.length_map], fun i k v hi => ?_⟩ (fun h' hk x hx => nestedKind_stays.stays (fun b o _ _ e _ => hk b o (Nat.ne_of_lt (Heap.lt_size e)) (fun q => nomatch q) e) (his x hx)) (by rw [List.length_map]; omega) fun h' tk hd' hk => ?_
  · obtain ⟨o, n, h1, h2, h3, h4⟩ := pl
    exact ⟨o, n, h1, h2, h3, h4⟩
  · rw [List.getElem?_map] at hj
    obtain ⟨y, hyj, e⟩ := Option.map_eq_some_iff.mp hj
    cases e
    have hjl : j < ts.length := by
      have := (List.getElem?_eq_some_iff.mp hyj).1
      omega
    have hjt := hT j hjl
    have hji : j < its.length := by omega
    refine ⟨?_, .inl (hy j y _ hyj hjt)⟩
    obtain ⟨u', hu', ru'⟩ := rv.get (show (ts.map V.ref)[j]? = some (.ref (ts.getD j 0)) by rw [List.getElem?_map, hjt]; rfl)
    cases ru'
    rw [← hu']
    simp
  · have hi' : (ys.map fun y => (Value.ref y.2.1, y.2.2))[i]? = some (k, v) := hi
    rw [List.getElem?_map] at hi'
    obtain ⟨y, hyj, e⟩ := Option.map_eq_some_iff.mp hi'
    cases e
    exact ⟨y.1, y.2.1, hyj, rfl⟩
  · rw [storedAllH_nil_of_nodup ys (by rw [← pairs_keys hp]; exact hn)] at hd'
    exact ⟨.ref _, upd H _ (DnO X.prog X.w _ xs), I.laid (t' := tk) (fun b o e => hk b o (fun q => nomatch q) e) (Nat.le_refl _) (dn_ok (dn_new _ _ (beq_eq_false_iff_ne.mpr (Ne.symm (Nat.ne_of_lt I.big))) (by omega) hn hp hd')), rfl, q _ (I.hok.fresh (Nat.le_refl _))⟩
end
end AA

/-! ## Lp -/
set_option Elab.async false
set_option linter.all false
set_option maxRecDepth 100000
set_option maxHeartbeats 4000000
/-! Lp: data of lists and tuples; the lists stand apart from N. -/
namespace AA
open PySem PySem.Spec PyProof.Rows L2 PySem.W
mutual
inductive Lp (N : Addr → Prop) (H : Hp) : V → PyData → Prop
  | non : Lp N H .non .none
  | bl (b : Bool) : Lp N H (.bl b) (.bool b)
  | int (i : Int) : Lp N H (.int i) (.int i)
  | str (x : Str) : Lp N H (.str x) (.str x)
  | tup {a : Addr} {xs : List V} {ds : List PyData} : H a = some (.tup xs) → LpAll N H xs ds → Lp N H (.ref a) (.tuple ds)
  | lst {a : Addr} {xs : List V} {ds : List PyData} : ¬ N a → H a = some (.lst xs) → LpAll N H xs ds → Lp N H (.ref a) (.list ds)
inductive LpAll (N : Addr → Prop) (H : Hp) : List V → List PyData → Prop
  | nil : LpAll N H [] []
  | cons {v : V} {vs : List V} {d : PyData} {ds : List PyData} : Lp N H v d → LpAll N H vs ds → LpAll N H (v :: vs) (d :: ds)
end
section
variable {N N' S : Addr → Prop} {H H' : Hp}
mutual
theorem Lp.mono (k : Kp S H H') (hs : ∀ b, S b → N b) : ∀ {v : V} {d : PyData}, Lp N H v d → Lp N H' v d
  | _, _, .non => .non
  | _, _, .bl b => .bl b
  | _, _, .int i => .int i
  | _, _, .str x => .str x
  | _, _, .tup h t => .tup (k.tu _ _ h) (LpAll.mono k hs t)
  | _, _, .lst n h t => .lst n (k.kp _ _ (fun z => n (hs _ z)) h) (LpAll.mono k hs t)
theorem LpAll.mono (k : Kp S H H') (hs : ∀ b, S b → N b) : ∀ {vs : List V} {ds : List PyData}, LpAll N H vs ds → LpAll N H' vs ds
  | _, _, .nil => .nil
  | _, _, .cons h t => .cons (Lp.mono k hs h) (LpAll.mono k hs t)
end
mutual
theorem Lp.weak (hs : ∀ b, N' b → N b) : ∀ {v : V} {d : PyData}, Lp N H v d → Lp N' H v d
  | _, _, .non => .non
  | _, _, .bl b => .bl b
  | _, _, .int i => .int i
  | _, _, .str x => .str x
  | _, _, .tup h t => .tup h (LpAll.weak hs t)
  | _, _, .lst n h t => .lst (fun z => n (hs _ z)) h (LpAll.weak hs t)
theorem LpAll.weak (hs : ∀ b, N' b → N b) : ∀ {vs : List V} {ds : List PyData}, LpAll N H vs ds → LpAll N' H vs ds
  | _, _, .nil => .nil
  | _, _, .cons h t => .cons (Lp.weak hs h) (LpAll.weak hs t)
end
mutual
theorem Tp.lp : ∀ {v : V} {d : PyData}, Tp H v d → Lp N H v d
  | _, _, .non => .non
  | _, _, .bl b => .bl b
  | _, _, .int i => .int i
  | _, _, .str x => .str x
  | _, _, .tup h t => .tup h (TpAll.lp t)
theorem TpAll.lp : ∀ {vs : List V} {ds : List PyData}, TpAll H vs ds → LpAll N H vs ds
  | _, _, .nil => .nil
  | _, _, .cons h t => .cons (Tp.lp h) (TpAll.lp t)
end
mutual
theorem Lp.dp (K : PySem.W.Frag) : ∀ {v : V} {d : PyData}, Lp N H v d → Dp K H v d
  | _, _, .non => .non
  | _, _, .bl b => .bl b
  | _, _, .int i => .int i
  | _, _, .str x => .str x
  | _, _, .tup h t => .tup (SqT.of h) (LpAll.dp K t)
  | _, _, .lst _ h t => .lst (SqL.of h) (LpAll.dp K t)
theorem LpAll.dp (K : PySem.W.Frag) : ∀ {vs : List V} {ds : List PyData}, LpAll N H vs ds → DpAll K H vs ds
  | _, _, .nil => .nil
  | _, _, .cons h t => .cons (Lp.dp K h) (LpAll.dp K t)
end
theorem LpAll.length : ∀ {vs : List V} {ds : List PyData}, LpAll N H vs ds → vs.length = ds.length
  | _, _, .nil => rfl
  | _, _, .cons _ t => by rw [List.length_cons, List.length_cons, LpAll.length t]
theorem LpAll.get : ∀ {vs : List V} {ds : List PyData} {i : Nat} {v : V}, LpAll N H vs ds → vs[i]? = some v → ∃ d, ds[i]? = some d ∧ Lp N H v d
  | _, _, _, _, .nil, e => by simp at e
  | _, _, 0, v, .cons h _, e => by
    simp at e
    subst e
    exact ⟨_, rfl, h⟩
  | _, _, i + 1, v, .cons _ t, e => by
    obtain ⟨d, h1, h2⟩ := LpAll.get (i := i) t (by simpa using e)
    exact ⟨d, by simpa using h1, h2⟩
theorem LpAll.get' : ∀ {vs : List V} {ds : List PyData} {i : Nat} {d : PyData}, LpAll N H vs ds → ds[i]? = some d → ∃ v, vs[i]? = some v ∧ Lp N H v d
  | _, _, _, _, .nil, e => by simp at e
  | _, _, 0, d, .cons h _, e => by
    simp at e
    subst e
    exact ⟨_, rfl, h⟩
  | _, _, i + 1, d, .cons _ t, e => by
    obtain ⟨v, h1, h2⟩ := LpAll.get' (i := i) t (by simpa using e)
    exact ⟨v, by simpa using h1, h2⟩
theorem LpAll.snoc : ∀ {vs : List V} {ds : List PyData} {v : V} {d : PyData}, LpAll N H vs ds → Lp N H v d → LpAll N H (vs ++ [v]) (ds ++ [d])
  | _, _, _, _, .nil, h => .cons h .nil
  | _, _, _, _, .cons h t, h' => .cons h (LpAll.snoc t h')
theorem LpAll.app : ∀ {vs ws : List V} {ds es : List PyData}, LpAll N H vs ds → LpAll N H ws es → LpAll N H (vs ++ ws) (ds ++ es)
  | _, _, _, _, .nil, h => h
  | _, _, _, _, .cons h t, h' => .cons h (LpAll.app t h')
theorem Lp.list {v : V} {ds : List PyData} (h : Lp N H v (.list ds)) : ∃ a xs, v = .ref a ∧ ¬ N a ∧ H a = some (.lst xs) ∧ LpAll N H xs ds := by
  cases h with
  | lst n h t => exact ⟨_, _, rfl, n, h, t⟩
theorem Lp.tuple {v : V} {ds : List PyData} (h : Lp N H v (.tuple ds)) : ∃ a xs, v = .ref a ∧ H a = some (.tup xs) ∧ LpAll N H xs ds := by
  cases h with
  | tup h t => exact ⟨_, _, rfl, h, t⟩
theorem Lp.int_inv {v : V} {i : Int} (h : Lp N H v (.int i)) : v = .int i := by cases h; rfl
theorem LpAll.ints_inv : ∀ {vs : List V} {ns : List Int}, LpAll N H vs (ns.map PyData.int) → vs = ns.map V.int
  | _, [], .nil => rfl
  | _, n :: ns, .cons h t => by rw [h.int_inv, LpAll.ints_inv t]; rfl
theorem LpAll.ints : ∀ ns : List Int, LpAll N H (ns.map V.int) (ns.map PyData.int)
  | [] => .nil
  | n :: ns => .cons (.int n) (LpAll.ints ns)
end
/-- a comprehension whose elements are data with lists, one a turn -/
theorem lc_mapL {N : Addr → Prop} {S : Addr → Prop} {J : It} {n : Nat} {G : Hp → Prop} {Y : Nat → Hp → V → Hp → Prop} (w : Walk J n G Y) {g : TG} {te : TE} {vs : List Nat} {σ : L2.St} {H1 : Hp} {D : Addr} {Qd : Hp → Prop} (hn : n < sizeLine) (hD : H1 D = none) (hS : ¬ S D) (hN : ∀ b, S b → N b) (hND : N D)
    (ds : Nat → PyData) (hG : ∀ H, Kp S H1 H → G H)
    (turn : ∀ i x H H' acc (Nx : V → Hp → Prop), i < n → Kp S H1 H → H D = some (.lst acc) → Y i H x H' → (∀ y H4, Kp S H H4 → Lp N H4 y (ds i) → Nx y H4) →
      g x (wipe σ vs) H' fun σ2 H2 => wipe σ2 vs = wipe σ vs ∧ te σ2 H2 Nx)
    (hd : ∀ acc H, Kp S H1 H → H D = some (.lst acc) → LpAll N H acc ((List.range n).map ds) → Qd H) :
    ∃ W : Nat → Nat → Hp → Prop, (∃ m, W 0 m (upd H1 D (.lst []))) ∧ ∀ i m H, W i m H →
      (J.stop i H ∧ Qd H) ∨ (J.go i H ∧ ∃ Nx : Hp → Prop, (∀ H', Nx H' → ∃ m', m' < m ∧ W (i + 1) m' H') ∧ ∀ x H', J.yld i H x H' → g x (wipe σ vs) H' fun σ2 H2 => wipe σ2 vs = wipe σ vs ∧ tYes σ2 H2 fun b H3 =>
        if b = true then te σ2 H3 fun y H4 => ∃ acc, H4 D = some (.lst acc) ∧ acc.length < sizeLine ∧ Nx (upd H4 D (.lst (acc ++ [y]))) else Nx H3) := by
  refine lc_it w (fun i H => ∃ acc, Kp S H1 H ∧ H D = some (.lst acc) ∧ acc.length ≤ i ∧ LpAll N H acc ((List.range i).map ds)) ⟨[], Kp.new hD, upd_same, Nat.le_refl _, .nil⟩ (fun i H _ h => ?_) (fun i x H H' hi h hy => ?_) fun H h => ?_
  · obtain ⟨acc, k, _⟩ := h
    exact hG H k
  · obtain ⟨acc, k, hl, hle, hr⟩ := h
    have tn := turn i x H H' acc (fun y H4 => ∃ acc, H4 D = some (.lst acc) ∧ acc.length < sizeLine ∧ ∃ acc', Kp S H1 (upd H4 D (.lst (acc ++ [y]))) ∧ upd H4 D (.lst (acc ++ [y])) D = some (.lst acc') ∧ acc'.length ≤ i + 1 ∧ LpAll N (upd H4 D (.lst (acc ++ [y]))) acc' ((List.range (i + 1)).map ds)) hi k hl hy (fun y H4 k4 hy4 => by
      have hl4 : H4 D = some (.lst acc) := kp_lst k4 hS hl
      have kd : Kp (fun b => b = D) H4 (upd H4 D (.lst (acc ++ [y]))) := Kp.put rfl hl4 (by intro xs z; cases z)
      refine ⟨acc, hl4, Nat.lt_of_le_of_lt hle (Nat.lt_trans hi hn), acc ++ [y], Kp.own (k.trans k4) hD hl4 (by intro xs z; cases z), upd_same, by rw [List.length_append, List.length_singleton]; omega, ?_⟩
      rw [List.range_succ, List.map_append]
      refine LpAll.mono kd (fun b hb => by rw [show b = D from hb]; exact hND) ?_
      exact (hr.mono k4 hN).snoc hy4)
    exact tn
  · obtain ⟨acc, k, hl, hle, hr⟩ := h
    exact hd acc H k hl hr
end AA

/-! ## T1 -/
set_option Elab.async false
set_option linter.all false
set_option maxRecDepth 100000
set_option maxHeartbeats 4000000
namespace AA
open PySem PySem.Spec PyProof.Rows L2 PySem.W
def top (i : Nat) : Stmt := PySem.Challenge.pw_alwaysagree_k37_whole_mendings_and_doubt.main.body.getD i (.Pass ⟨0, 0, 0, 0⟩)
/-- the built-in names that no text of the module takes -/
structure Bt (mg : Str → Option Value) : Prop where
  len : mg "len" = none
  isinstance : mg "isinstance" = none
  range : mg "range" = none
  enumerate : mg "enumerate" = none
  all : mg "all" = none
  any : mg "any" = none
  sum : mg "sum" = none
  tuple : mg "tuple" = none
  list : mg "list" = none
  min : mg "min" = none
  max : mg "max" = none
  sorted : mg "sorted" = none
  int : mg "int" = none
  bool : mg "bool" = none
  str : mg "str" = none
  abs : mg "abs" = none
  divmod : mg "divmod" = none
  repr : mg "repr" = none
  dict : mg "dict" = none

section
variable {P : Program} {w : World} {K : PySem.W.Frag} {mg : Str → Option Value} {base : Heap}
abbrev s_ears_of : Stmt := top 34
abbrev n_ears_of : List Str := ["rows", "lot", "at", "mind"]
theorem sc_ears_of : FnScope n_ears_of ["rows", "lot"] (defScope s_ears_of) := ⟨rfl, rfl, rfl, by decide +kernel, rfl, by decide +kernel, by decide +kernel⟩
/-- a row's weight by minds -/
theorem way_at {H : Hp} {r : V} {rows : Rows} {n : Nat} (h : Tp H r (wayD rows)) (W : WayOk n rows) : ∃ a xs, r = .ref a ∧ H a = some (.tup xs) ∧ xs.length = n ∧
    ∀ m, m < n → ∃ b, xs[m]? = some (.ref b) ∧ H b = some (.tup ((rows.getD m []).map V.int)) ∧ (rows.getD m []).length = n := by
  obtain ⟨a, xs, rfl, ha, hall⟩ := h.tuple
  have hlen : xs.length = n := by rw [hall.length, List.length_map, W.len]
  refine ⟨a, xs, rfl, ha, hlen, fun m hm => ?_⟩
  have hm' : m < rows.length := by rw [W.len]; exact hm
  have e1 : (rows.map rowD)[m]? = some (rowD (rows.getD m [])) := by
    rw [List.getElem?_map, List.getElem?_eq_getElem hm', List.getD_eq_getElem?_getD, List.getElem?_eq_getElem hm']
    rfl
  obtain ⟨v, hv, hd⟩ := hall.get' e1
  obtain ⟨b, ys, rfl, hb, hall2⟩ := hd.tuple
  refine ⟨b, hv, by rw [hb, hall2.ints_inv], ?_⟩
  have : rows.getD m [] ∈ rows := by
    rw [List.getD_eq_getElem?_getD, List.getElem?_eq_getElem hm']
    exact List.getElem_mem hm'
  exact W.row _ this
def spEars : Sp := fun vs H Q _ => ∃ (r l : V) (rows : Rows) (lot : Lot) (n : Nat), vs = [r, l] ∧ Tp H r (wayD rows) ∧ Tp H l (lotD lot) ∧ WayOk n rows ∧ (∀ m ∈ lot, m < n) ∧ n ≤ 1000 ∧ lot.length ≤ 1000 ∧
  ∀ v H', Kp No H H' → Tp H' v (lotD (ears rows lot)) → Q v H'
theorem ok_ears_of {f : Addr} {fd : FuncData} (F : DefIn K mg "ears_of" s_ears_of ["rows", "lot"] f fd) (B : Bt mg) : Def P w K mg base "ears_of" 1 ["rows", "lot"] spEars := by
  refine F.ok sc_ears_of (fun vs H Q E h => ?_) (fun cdv A outer s H vs Q E hr h => ?_)
  · obtain ⟨r, l, _, _, _, rfl, _⟩ := h
    rfl
  · obtain ⟨r, l, rows, lot, n, rfl, hrows, hlot, W, hA, hn, hl, q⟩ := h
    refine ⟨_, (pss_one (ps_ret (pe_callTy (r_tuple K) (by rfl) B.tuple (by decide +kernel) (pa_cons (pe_lc rfl sc_ears_of.nd (pi_range1 rfl B.range (pa_cons (pe_callB (r_len K) (by rfl) B.len (by decide +kernel) (pa_cons (pv 0) pa_nil)) pa_nil)) (blkOk_by (own := [("at", 2)]) (N := n_ears_of) (sc := defScope s_ears_of) (by decide +kernel)) (fun _ _ _ _ _ => (pg_name (i := 2) sc_ears_of.nd rfl (by first | exact Or.inl rfl | exact Or.inr rfl))) (fun _ _ _ _ _ => (pts_one (pt_val (pe_callB (r_any K) (by rfl) B.any (by decide +kernel) (pa_cons (pe_lc rfl sc_ears_of.nd (pi_tupK K (pv 1)) (blkOk_by (own := [("mind", 3)]) (N := n_ears_of) (sc := relS _ (defScope s_ears_of)) (by decide +kernel)) (fun _ _ _ _ _ => (pg_name (i := 3) sc_ears_of.nd rfl (by first | exact Or.inl rfl | exact Or.inr rfl))) (fun _ _ _ _ _ => pts_nil) (fun _ _ _ _ _ => (pe_cmpR op_gt (pe_ix (x_tup K) (pe_ix (x_tup K) (pv 0) (pv 3) (fun _ _ => rfl)) (pv 2) (fun _ _ => rfl)) pe_int (nomark _)))) pa_nil))))) (fun _ _ _ _ _ => (pv 2))) pa_nil)))), ?_⟩
    obtain ⟨a, xs, rfl, ha, hx, hrow⟩ := way_at hrows W
    obtain ⟨b, ys, rfl, hb, hys⟩ := hlot.tuple
    have hyl : ys.length = lot.length := by rw [hys.length, List.length_map]
    have hsz : (1000 : Nat) < sizeLine := by decide
    refine ⟨_, rfl, a, xs, rfl, .inr (SqT.of ha), (xs.length : Int), rfl, by omega, by omega, fun D hD => ?_⟩
    rw [Int.toNat_natCast]
    refine lc_filtD (S := No) walk_range0 (by omega) hD (fun z => z) (fun k => lot.any fun m => hearsB rows m k) (fun k => .int (k : Int)) (fun _ _ => True.intro) (fun i x H1 H2 acc N N0 hi k hl hy hN hN0 => ?_) (fun acc H1 k hl hr => ?_)
    · obtain ⟨rfl, rfl⟩ := hy
      refine ⟨rfl, _, rfl, b, rfl, ⟨_, SqT.of (k.tu _ _ hb)⟩, fun D2 hD2 => ?_⟩
      refine lc_mapD (S := No) walk_tup (by omega) hD2 (fun z => z) (fun j => .bool (hearsB rows (lot.getD j 0) i)) (fun H3 k3 => SqT.of (k3.tu _ _ (k.tu _ _ hb))) (fun j x H3 H4 acc2 N2 hj k3 hl3 hy3 hN2 => ?_) (fun acc2 H3 k3 hl3 hr3 => ?_)
      · obtain ⟨rfl, hx3⟩ := hy3
        have hj' : j < lot.length := by omega
        obtain ⟨d, hd, hxd⟩ := hys.get hx3
        rw [List.getElem?_map, getD_of hj' 0] at hd
        obtain rfl := Option.some.inj hd
        obtain rfl := hxd.int_inv
        have hm : lot.getD j 0 < n := hA _ (List.mem_of_getElem? (getD_of hj' 0))
        obtain ⟨c, hc1, hc2, hc3⟩ := hrow _ hm
        have hki : i < (rows.getD (lot.getD j 0) []).length := by omega
        refine ⟨rfl, _, rfl, _, rfl, a, xs, _, _, rfl, rfl, SqT.of (k3.tu _ _ (k.tu _ _ ha)), atI_nat hc1, _, rfl, c, _, (i : Int), _, rfl, rfl, SqT.of (k3.tu _ _ (k.tu _ _ hc2)), atI_nat (by rw [List.getElem?_map, getD_of hki 0]; rfl), _, _, rfl, rfl, hN2 _ _ (Kp.refl _ _) (.bl _)⟩
      · rw [hyl, range_get lot (fun m => PyData.bool (hearsB rows m i)) 0] at hr3
        obtain rfl := hr3.bls_map _
        refine ⟨D2, _, rfl, SqL.of hl3, _, rfl, ?_⟩
        rw [List.any_map]
        refine ite2 (fun h => ?_) (fun h => ?_)
        · exact ⟨_, rfl, hN _ _ h k3 (.int _)⟩
        · exact hN0 _ (Bool.eq_false_iff.mpr h) k3
    · refine ⟨D, acc, rfl, .inl ⟨SqL.of hl, fun l hl' => ?_⟩⟩
      refine q _ _ (k.trans (Kp.new hl')) (.tup upd_same ?_)
      rw [hx, ← W.len] at hr
      exact hr.mono (TK.new hl')
/-! ### joined, start_pairs -/
theorem startsN_succ (n : Nat) : startsN (n + 1) = startsN n ++ (List.range n).map fun one => ([one], [n]) := by
  unfold startsN
  rw [List.range_succ, List.flatMap_append, List.flatMap_singleton]
theorem starts_length : ∀ n, (startsN n).length ≤ n * n
  | 0 => Nat.le_refl _
  | n + 1 => by
    rw [startsN_succ, List.length_append, List.length_map, List.length_range]
    have := starts_length n
    have e : (n + 1) * (n + 1) = n * n + 2 * n + 1 := by rw [Nat.add_mul, Nat.mul_add]; omega
    omega
abbrev s_joined : Stmt := top 35
abbrev n_joined : List Str := ["one", "other"]
theorem sc_joined : FnScope n_joined ["one", "other"] (defScope s_joined) := ⟨rfl, rfl, rfl, by decide +kernel, rfl, by decide +kernel, by decide +kernel⟩
def spJoined : Sp := fun vs H Q _ => ∃ (x y : V) (A B' : Lot), vs = [x, y] ∧ Tp H x (lotD A) ∧ Tp H y (lotD B') ∧ ∀ v H', Kp No H H' → Tp H' v (pairD (joinedN A B')) → Q v H'
theorem ok_joined {f : Addr} {fd : FuncData} (F : DefIn K mg "joined" s_joined ["one", "other"] f fd) (B : Bt mg) : Def P w K mg base "joined" 1 ["one", "other"] spJoined := by
  refine F.ok sc_joined (fun vs H Q E h => ?_) (fun cdv A outer s H vs Q E hr h => ?_)
  · obtain ⟨x, y, _, _, rfl, _⟩ := h
    rfl
  · obtain ⟨x, y, L, M, rfl, hx, hy, q⟩ := h
    refine ⟨_, (pss_one (ps_ret (pe_tup (pa_cons (pe_callB (r_min2 hr.units) (by rfl) B.min (by decide +kernel) (pa_cons (pv 0) (pa_cons (pv 1) pa_nil))) (pa_cons (pe_callB (r_max2 hr.units) (by rfl) B.max (by decide +kernel) (pa_cons (pv 0) (pa_cons (pv 1) pa_nil))) pa_nil))))), ?_⟩
    refine ⟨_, rfl, _, rfl, x, y, _, _, rfl, hx, hy, alikeAll_lots _ _, depthAll_lots _ _, ?_⟩
    refine ⟨_, rfl, _, rfl, x, y, _, _, rfl, hx, hy, alikeAll_lots _ _, depthAll_lots _ _, ?_⟩
    have m1 : Tp H (if dataLt (lotD M) (lotD L) = true then y else x) (lotD (joinedN L M).1) := by
      rw [← joined_fst]
      split
      · exact hy
      · exact hx
    have m2 : Tp H (if dataLt (lotD L) (lotD M) = true then y else x) (lotD (joinedN L M).2) := by
      rw [← joined_snd]
      split
      · exact hy
      · exact hx
    exact ⟨(show 2 ≤ sizeLine by decide), fun p hp => q _ _ (Kp.new hp) (.tup upd_same (.cons (m1.mono (TK.new hp)) (.cons (m2.mono (TK.new hp)) .nil)))⟩

abbrev s_start_pairs : Stmt := top 36
abbrev n_start_pairs : List Str := ["count", "other", "one"]
theorem sc_start_pairs : FnScope n_start_pairs ["count"] (defScope s_start_pairs) := ⟨rfl, rfl, rfl, by decide +kernel, rfl, by decide +kernel, by decide +kernel⟩
def spStarts : Sp := fun vs H Q _ => ∃ (n : Nat), vs = [.int (n : Int)] ∧ n ≤ 6 ∧ ∀ r ys H', Kp No H H' → H r = none → H' r = some (.lst ys) → TpAll H' ys ((startsN n).map pairD) → Q (.ref r) H'
theorem ok_start_pairs {f : Addr} {fd : FuncData} (F : DefIn K mg "start_pairs" s_start_pairs ["count"] f fd) (B : Bt mg) : Def P w K mg base "start_pairs" 1 ["count"] spStarts := by
  refine F.ok sc_start_pairs (fun vs H Q E h => ?_) (fun cdv A outer s H vs Q E hr h => ?_)
  · obtain ⟨n, rfl, _⟩ := h
    rfl
  · obtain ⟨n, rfl, hn, q⟩ := h
    refine ⟨_, (pss_one (ps_ret (pe_lc2 (vs1 := [2]) rfl sc_start_pairs.nd (pi_range1 rfl B.range (pa_cons (pv 0) pa_nil)) (blkOk_by (own := [("other", 1), ("one", 2)]) (N := n_start_pairs) (sc := defScope s_start_pairs) (by decide +kernel)) (by decide) (fun _ _ _ _ _ => (pg_name (i := 1) sc_start_pairs.nd rfl (by first | exact Or.inl rfl | exact Or.inr rfl))) (fun _ _ _ _ _ => pts_nil) (fun _ _ _ _ _ => (pi_range1 rfl B.range (pa_cons (pv 1) pa_nil))) (fun _ _ _ _ _ => (pg_name (i := 2) sc_start_pairs.nd rfl (by first | exact Or.inl rfl | exact Or.inr rfl))) (fun _ _ _ _ _ => pts_nil) (fun _ _ _ _ _ => (pe_tup (pa_cons (pe_tup (pa_cons (pv 2) pa_nil)) (pa_cons (pe_tup (pa_cons (pv 1) pa_nil)) pa_nil))))))), ?_⟩
    refine ⟨_, rfl, (n : Int), rfl, by omega, by omega, fun D hD => ?_⟩
    rw [Int.toNat_natCast]
    refine ⟨fun i m H1 => m = n - i ∧ i ≤ n ∧ Kp No H H1 ∧ ∃ acc, H1 D = some (.lst acc) ∧ TpAll H1 acc ((startsN i).map pairD), ⟨n, by omega, by omega, Kp.new hD, [], upd_same, .nil⟩, ?_⟩
    rintro i m H1 ⟨rfl, hi, k1, acc, hl, hacc⟩
    by_cases hlt : i < n
    · refine .inr ⟨walk_range0.goes i H1 hlt True.intro, fun H2 => n - (i + 1) = n - (i + 1) ∧ i + 1 ≤ n ∧ Kp No H H2 ∧ ∃ acc, H2 D = some (.lst acc) ∧ TpAll H2 acc ((startsN (i + 1)).map pairD), fun H2 h2 => ⟨n - (i + 1), by omega, h2⟩, fun x H2 hy => ?_⟩
      obtain ⟨rfl, rfl⟩ := walk_range0.yields i H1 x H2 hlt True.intro hy
      refine ⟨rfl, _, rfl, (i : Int), rfl, by omega, by omega, ?_⟩
      rw [Int.toNat_natCast]
      refine ⟨fun j k H2 => k = i - j ∧ j ≤ i ∧ Kp No H H2 ∧ ∃ acc, H2 D = some (.lst acc) ∧ TpAll H2 acc ((startsN i ++ (List.range j).map fun one => ([one], [i])).map pairD), ⟨i, by omega, by omega, k1, acc, hl, by rw [List.range_zero, List.map_nil, List.append_nil]; exact hacc⟩, ?_⟩
      rintro j k H2 ⟨rfl, hj, k2, acc2, hl2, hacc2⟩
      by_cases hlt2 : j < i
      · refine .inr ⟨walk_range0.goes j H2 hlt2 True.intro, fun H3 => i - (j + 1) = i - (j + 1) ∧ j + 1 ≤ i ∧ Kp No H H3 ∧ ∃ acc, H3 D = some (.lst acc) ∧ TpAll H3 acc ((startsN i ++ (List.range (j + 1)).map fun one => ([one], [i])).map pairD), fun H3 h3 => ⟨i - (j + 1), by omega, h3⟩, fun x H3 hy3 => ?_⟩
        obtain ⟨rfl, rfl⟩ := walk_range0.yields j H2 x H3 hlt2 True.intro hy3
        refine ⟨rfl, _, rfl, (show 1 ≤ sizeLine by decide), fun p1 hp1 => ⟨_, rfl, (show 1 ≤ sizeLine by decide), fun p2 hp2 => ?_⟩⟩
        refine ⟨(show 2 ≤ sizeLine by decide), fun p3 hp3 => ?_⟩
        have n1 : D ≠ p1 := ne_of_none hl2 hp1
        have e2 : upd H3 p1 (.tup [V.int (j : Int)]) D = some (.lst acc2) := by rw [upd_ne n1]; exact hl2
        have n2 : D ≠ p2 := ne_of_none e2 hp2
        have e3 : upd (upd H3 p1 (.tup [V.int (j : Int)])) p2 (.tup [V.int (i : Int)]) D = some (.lst acc2) := by rw [upd_ne n2]; exact e2
        have n3 : D ≠ p3 := ne_of_none e3 hp3
        have kk : Kp No H (upd (upd (upd H3 p1 (.tup [V.int (j : Int)])) p2 (.tup [V.int (i : Int)])) p3 (.tup [.ref p1, .ref p2])) := ((k2.trans (Kp.new hp1)).trans (Kp.new hp2)).trans (Kp.new hp3)
        have tk : TK H3 (upd (upd (upd H3 p1 (.tup [V.int (j : Int)])) p2 (.tup [V.int (i : Int)])) p3 (.tup [.ref p1, .ref p2])) := ((TK.new hp1).trans (TK.new hp2)).trans (TK.new hp3)
        have e4 : upd (upd (upd H3 p1 (.tup [V.int (j : Int)])) p2 (.tup [V.int (i : Int)])) p3 (.tup [.ref p1, .ref p2]) D = some (.lst acc2) := by rw [upd_ne n3]; exact e3
        have hp12 : p1 ≠ p2 := ne_of_none upd_same hp2
        have h1 : upd (upd H3 p1 (.tup [V.int (j : Int)])) p2 (.tup [V.int (i : Int)]) p1 = some (.tup [V.int (j : Int)]) := by rw [upd_ne hp12]; exact upd_same
        have h1' : upd (upd (upd H3 p1 (.tup [V.int (j : Int)])) p2 (.tup [V.int (i : Int)])) p3 (.tup [.ref p1, .ref p2]) p1 = some (.tup [V.int (j : Int)]) := by rw [upd_ne (ne_of_none h1 hp3)]; exact h1
        have h2' : upd (upd (upd H3 p1 (.tup [V.int (j : Int)])) p2 (.tup [V.int (i : Int)])) p3 (.tup [.ref p1, .ref p2]) p2 = some (.tup [V.int (i : Int)]) := by rw [upd_ne (ne_of_none upd_same hp3)]; exact upd_same
        have al : acc2.length < sizeLine := by
          have h1 := hacc2.length
          have h2 : (startsN i).length ≤ i * i := starts_length i
          rw [List.length_map, List.length_append, List.length_map, List.length_range] at h1
          have : i * i ≤ 6 * 6 := Nat.mul_le_mul (by omega) (by omega)
          have hz : (1000 : Nat) < sizeLine := by decide
          omega
        refine ⟨acc2, e4, al, rfl, hlt2, Kp.own kk hD e4 (by intro xs z; cases z), _, upd_same, ?_⟩
        rw [List.range_succ, List.map_append, List.map_append, List.map_append, ← List.append_assoc, ← List.map_append]
        refine TpAll.snoc ((hacc2.mono tk).mono (TK.upd_lst e4)) ?_
        exact (Tp.tup upd_same (.cons (.tup (by rw [upd_ne (ne_of_none h1 hp3)]; exact h1) (.cons (.int _) .nil)) (.cons (.tup (by rw [upd_ne (ne_of_none upd_same hp3)]; exact upd_same) (.cons (.int _) .nil)) .nil)) : Tp (upd (upd (upd H3 p1 (.tup [V.int (j : Int)])) p2 (.tup [V.int (i : Int)])) p3 (.tup [.ref p1, .ref p2])) (.ref p3) (pairD ([j], [i]))).mono (TK.upd_lst e4)
      · obtain rfl : j = i := by omega
        refine .inl ⟨walk_range0.stops H2 True.intro, rfl, hlt, k2, acc2, hl2, ?_⟩
        rw [startsN_succ]
        exact hacc2
    · obtain rfl : i = n := by omega
      exact .inl ⟨walk_range0.stops H1 True.intro, q _ _ _ k1 hD hl hacc⟩
end
end AA

/-! ## T2 -/
set_option Elab.async false
set_option linter.all false
set_option maxRecDepth 100000
set_option maxHeartbeats 4000000
namespace AA
open PySem PySem.Spec PyProof.Rows L2 PySem.W
/-- one way and where it leads -/
def entD (e : Nat × (Lot × Lot)) : PyData := .tuple [.int (e.1 : Int), pairD e.2]
/-- the list of a pair's steps -/
def StepRow (H : Hp) (r : Addr) (qs : List (Lot × Lot)) : Prop := ∃ (ys : List V) (es : List (Nat × (Lot × Lot))), H r = some (.lst ys) ∧ es.map (·.2) = qs ∧ TpAll H ys (es.map entD)
structure WaysOk (n : Nat) (ways : List Rows) : Prop where
  way : ∀ rows ∈ ways, WayOk n rows
  few : ways.length ≤ 6
  n6 : n ≤ 6
theorem inV_lot (m : Nat) (l : List Nat) : inV (.int (m : Int)) ((l.map fun (k : Nat) => (k : Int)).map V.int) = decide (m ∈ l) := by
  unfold inV
  rw [List.any_map, List.any_map, Bool.eq_iff_iff, List.any_eq_true, decide_eq_true_eq]
  constructor
  · rintro ⟨x, hx, e⟩
    have e2 : ((x : Nat) : Int) = (m : Int) := by simpa [eqV, Function.comp] using e
    rw [← Int.ofNat.inj e2]
    exact hx
  · intro h
    exact ⟨m, h, by simp [eqV, Function.comp]⟩
theorem flat_ints (l : List Int) : (l.map V.int).all flatV = true := by
  rw [List.all_eq_true]
  intro x hx
  obtain ⟨i, _, rfl⟩ := List.mem_map.mp hx
  rfl
theorem ears_length (rows : Rows) (lot : Lot) : (ears rows lot).length ≤ rows.length := by
  unfold ears
  have := List.length_filter_le (fun k => lot.any fun m => hearsB rows m k) (List.range rows.length)
  rw [List.length_range] at this
  exact this
theorem lot_of {H : Hp} {v : V} {l : List Nat} (h : Tp H v (lotD l)) : ∃ a, v = .ref a ∧ H a = some (.tup ((l.map fun (k : Nat) => (k : Int)).map V.int)) := by
  unfold lotD at h
  rw [lot_vals] at h
  obtain ⟨a, xs, rfl, ha, hall⟩ := h.tuple
  exact ⟨a, rfl, by rw [ha, hall.ints_inv]⟩
section
variable {P : Program} {w : World} {K : PySem.W.Frag} {mg : Str → Option Value} {base : Heap}
abbrev s_steps_from : Stmt := top 37
abbrev n_steps_from : List Str := ["ways", "pair", "found", "at", "rows", "one", "other", "mind"]
theorem sc_steps_from : FnScope n_steps_from ["ways", "pair"] (defScope s_steps_from) := ⟨rfl, rfl, rfl, by decide +kernel, rfl, by decide +kernel, by decide +kernel⟩
def spSteps : Sp := fun vs H Q _ => ∃ (x y : V) (n : Nat) (ways : List Rows) (p : Lot × Lot), vs = [x, y] ∧ Tp H x (waysD ways) ∧ Tp H y (pairD p) ∧ WaysOk n ways ∧ (∀ m ∈ p.1, m < n) ∧ (∀ m ∈ p.2, m < n) ∧ p.1.length ≤ 6 ∧ p.2.length ≤ 6 ∧
  ∀ r H', Kp No H H' → H r = none → StepRow H' r (succN ways p) → Q (.ref r) H'
theorem ok_steps_from {f : Addr} {fd : FuncData} (F : DefIn K mg "steps_from" s_steps_from ["ways", "pair"] f fd) (B : Bt mg) (D_ears_of : Def P w K mg base "ears_of" 1 ["rows", "lot"] spEars) (D_joined : Def P w K mg base "joined" 1 ["one", "other"] spJoined) :
    Def P w K mg base "steps_from" 2 ["ways", "pair"] spSteps := by
  refine F.ok sc_steps_from (fun vs H Q E h => ?_) (fun cdv A outer s H vs Q E hr h => ?_)
  · obtain ⟨x, y, _, _, _, rfl, _⟩ := h
    rfl
  · obtain ⟨x, y, n, ways, p, rfl, hx, hy, W, h1, h2, l1, l2, q⟩ := h
    refine ⟨_, (pss_cons (ps_set (i := 2) sc_steps_from.nd rfl (by first | exact Or.inl rfl | exact Or.inr rfl) (pe_lst pa_nil))
      (pss_cons (ps_for PassesOwn.never rfl (pi_enumT K (by rfl) B.enumerate (pa_cons (pv 0) pa_nil)) (pg_tupK K 2 (pgs_cons (pg_name (i := 3) sc_steps_from.nd rfl (by first | exact Or.inl rfl | exact Or.inr rfl)) (pgs_cons (pg_name (i := 4) sc_steps_from.nd rfl (by first | exact Or.inl rfl | exact Or.inr rfl)) pgs_nil)))
      (pss_cons (ps_asg (pe_tup (pa_cons (pe_def (D_ears_of.mono (by decide)) hr (by rfl) (pa_cons (pv 4) (pa_cons (pe_ix (x_tup K) (pv 1) pe_int (fun _ _ => rfl)) pa_nil))) (pa_cons (pe_def (D_ears_of.mono (by decide)) hr (by rfl) (pa_cons (pv 4) (pa_cons (pe_ix (x_tup K) (pv 1) pe_int (fun _ _ => rfl)) pa_nil))) pa_nil))) (pg_tupK K 2 (pgs_cons (pg_name (i := 5) sc_steps_from.nd rfl (by first | exact Or.inl rfl | exact Or.inr rfl)) (pgs_cons (pg_name (i := 6) sc_steps_from.nd rfl (by first | exact Or.inl rfl | exact Or.inr rfl)) pgs_nil))))
        (pss_one (ps_if (pt_not (pt_val (pe_callB (r_any K) (by rfl) B.any (by decide +kernel) (pa_cons (pe_lc rfl sc_steps_from.nd (pi_tupK K (pv 5)) (blkOk_by (own := [("mind", 7)]) (N := n_steps_from) (sc := defScope s_steps_from) (by decide +kernel)) (fun _ _ _ _ _ => (pg_name (i := 7) sc_steps_from.nd rfl (by first | exact Or.inl rfl | exact Or.inr rfl))) (fun _ _ _ _ _ => pts_nil) (fun _ _ _ _ _ => (pe_cmpR (o_in K) (pv 7) (pv 6) (by rfl)))) pa_nil))))
        (pss_one (ps_expr (pe_bm PySem.F.plainAttrs_list PySem.F.slot_list_append PySem.F.type_list_append mt_append (pv 2) (pa_cons (pe_tup (pa_cons (pv 3) (pa_cons (pe_def (D_joined.mono (by decide)) hr (by rfl) (pa_cons (pv 5) (pa_cons (pv 6) pa_nil))) pa_nil))) pa_nil))))
        pss_nil))))
      (pss_one (ps_ret (pv 2))))), ?_⟩
    obtain ⟨a, xs, rfl, ha, hall⟩ := hx.tuple
    have hxl : xs.length = ways.length := by rw [hall.length, List.length_map]
    obtain ⟨b, ys, rfl, hb, hbl⟩ := hy.tuple
    obtain ⟨v1, v2, rfl, t1, t2⟩ : ∃ v1 v2, ys = [v1, v2] ∧ Tp H v1 (lotD p.1) ∧ Tp H v2 (lotD p.2) := by
      cases hbl with
      | cons h1 hbl =>
        cases hbl with
        | cons h2 hbl =>
          cases hbl
          exact ⟨_, _, rfl, h1, h2⟩
    have hsz : (1000 : Nat) < sizeLine := by decide
    have n6 := W.n6
    have few := W.few
    refine ⟨(show 0 ≤ sizeLine by decide), fun r hr0 => ?_⟩
    refine ⟨_, rfl, a, xs, rfl, SqT.of (by rw [upd_ne (ne_of_none ha hr0)]; exact ha), ?_⟩
    refine for_it walk_enumT (fun i σ H1 => Kp No H H1 ∧ ∃ o3 o4 o5 o6 o7, σ = [some (.ref a), some (.ref b), some (.ref r), o3, o4, o5, o6, o7] ∧ ∃ (zs : List V) (es : List (Nat × (Lot × Lot))), H1 r = some (.lst zs) ∧ es.map (·.2) = succN (ways.take i) p ∧ es.length ≤ i ∧ TpAll H1 zs (es.map entD))
      ⟨Kp.new hr0, _, _, _, _, _, rfl, [], [], upd_same, rfl, Nat.le_refl _, .nil⟩ (fun i σ H1 _ h => SqT.of (h.1.tu _ _ ha)) (fun i x σ H1 H2 hi h hy => ?_) (fun σ H1 h => ?_)
    · obtain ⟨k, o3, o4, o5, o6, o7, rfl, zs, es, hz, he, hle, ht⟩ := h
      obtain ⟨T, u, v, rfl, hT, rfl, e1, e2⟩ := hy
      obtain rfl := Option.some.inj e1
      have hi' : i < ways.length := by omega
      obtain ⟨d, hd, hv⟩ := hall.get e2
      rw [List.getElem?_map, getD_of hi' []] at hd
      obtain rfl := Option.some.inj hd
      have hW := W.way _ (List.mem_of_getElem? (getD_of hi' []))
      have k1 : Kp No H (upd H1 T (.tup [.int ((i : Nat) : Int), v])) := k.trans (Kp.new hT)
      have hz1 : upd H1 T (.tup [.int ((i : Nat) : Int), v]) r = some (.lst zs) := by rw [upd_ne (ne_of_none hz hT)]; exact hz
      refine ⟨T, _, rfl, SqT.of upd_same, rfl, _, _, rfl, _, _, rfl, rfl, ?_⟩
      refine ⟨_, rfl, _, rfl, b, _, 0, _, rfl, rfl, SqT.of (k1.tu _ _ hb), rfl, _, _, ways.getD i [], p.1, n, rfl, hv.mono k1.tu, t1.mono k1.tu, hW, h1, by omega, by omega, fun w1 H2 k2 hw1 => ?_⟩
      refine ⟨_, rfl, _, rfl, b, _, 1, _, rfl, rfl, SqT.of ((k1.trans k2).tu _ _ hb), rfl, _, _, ways.getD i [], p.2, n, rfl, hv.mono (k1.trans k2).tu, t2.mono (k1.trans k2).tu, hW, h2, by omega, by omega, fun w2 H3 k3 hw2 => ?_⟩
      refine ⟨(show 2 ≤ sizeLine by decide), fun T2 hT2 => ?_⟩
      refine ⟨T2, _, rfl, SqT.of upd_same, rfl, _, _, rfl, _, _, rfl, rfl, ?_⟩
      have k4 : Kp No H (upd H3 T2 (.tup [w1, w2])) := ((k1.trans k2).trans k3).trans (Kp.new hT2)
      have kz : Kp No (upd H1 T (.tup [.int ((i : Nat) : Int), v])) (upd H3 T2 (.tup [w1, w2])) := (k2.trans k3).trans (Kp.new hT2)
      have hz4 := kz.at hz1
      have ht4 : TpAll (upd H3 T2 (.tup [w1, w2])) zs (es.map entD) := (ht.mono (TK.new hT)).mono kz.tu
      have hw1' : Tp (upd H3 T2 (.tup [w1, w2])) w1 (lotD (ears (ways.getD i []) p.1)) := (hw1.mono k3.tu).mono (TK.new hT2)
      have hw2' : Tp (upd H3 T2 (.tup [w1, w2])) w2 (lotD (ears (ways.getD i []) p.2)) := hw2.mono (TK.new hT2)
      generalize upd H3 T2 (.tup [w1, w2]) = H4 at *
      have kk : Kp No H H4 := k4
      obtain ⟨c1, rfl, hc1⟩ := lot_of hw1'
      obtain ⟨c2, rfl, hc2⟩ := lot_of hw2'
      have le1 : (ears (ways.getD i []) p.1).length ≤ 6 := by
        have := ears_length (ways.getD i []) p.1
        rw [hW.len] at this
        omega
      have htk : succN (ways.take (i + 1)) p = succN (ways.take i) p ++ (stepN p (ways.getD i [])).toList := by
        rw [List.take_succ, getD_of hi' []]
        unfold succN
        rw [List.filterMap_append]
        show _ ++ List.filterMap (stepN p) [ways.getD i []] = _
        rw [List.filterMap_cons, List.filterMap_nil]
        cases stepN p (ways.getD i []) <;> rfl
      refine ⟨_, rfl, c1, rfl, ⟨_, SqT.of hc1⟩, fun D hD => ?_⟩
      refine lc_mapD (S := No) walk_tup (by rw [List.length_map, List.length_map]; omega) hD (fun z => z) (fun j => .bool (decide ((ears (ways.getD i []) p.1).getD j 0 ∈ ears (ways.getD i []) p.2))) (fun H5 k5 => SqT.of (k5.tu _ _ hc1)) (fun j x H5 H6 acc N hj k5 hl hy5 hN => ?_) (fun acc H5 k5 hl hr5 => ?_)
      · obtain ⟨rfl, hx5⟩ := hy5
        rw [List.length_map, List.length_map] at hj
        rw [List.getElem?_map, List.getElem?_map, getD_of hj 0] at hx5
        obtain rfl := Option.some.inj hx5
        refine ⟨rfl, _, rfl, _, rfl, c2, _, rfl, .inr (SqT.of (k5.tu _ _ hc2)), rfl, flat_ints _, ?_⟩
        refine hN _ _ (Kp.refl _ _) ?_
        show Tp H6 (.bl (inV _ _)) _
        rw [inV_lot]
        exact .bl _
      · rw [List.length_map, List.length_map, range_get _ (fun m => PyData.bool (decide (m ∈ ears (ways.getD i []) p.2))) 0] at hr5
        obtain rfl := hr5.bls_map _
        refine ⟨D, _, rfl, SqL.of hl, _, rfl, ?_⟩
        rw [List.any_map]
        have kk5 : Kp No H H5 := kk.trans k5
        refine ite2 (fun h => ?_) (fun h => ?_)
        · have hany : (ears (ways.getD i []) p.1).any (fun m => decide (m ∈ ears (ways.getD i []) p.2)) = false := by simpa using h
          have hz5 : H5 r = some (.lst zs) := k5.at hz4
          refine ⟨_, rfl, .inl ⟨rfl, _, SqL.of hz5⟩, _, rfl, _, rfl, _, rfl, _, _, _, _, rfl, hw1'.mono k5.tu, hw2'.mono k5.tu, fun u H6 k6 hu => ⟨(show 2 ≤ sizeLine by decide), fun T3 hT3 => ?_⟩⟩
          have hz6 : H6 r = some (.lst zs) := k6.at hz5
          have k7 : Kp No H (upd H6 T3 (.tup [.int ((i : Nat) : Int), u])) := (kk5.trans k6).trans (Kp.new hT3)
          have hz7 : upd H6 T3 (.tup [.int ((i : Nat) : Int), u]) r = some (.lst zs) := by rw [upd_ne (ne_of_none hz6 hT3)]; exact hz6
          have hzl : zs.length ≤ 6 := by
            have := ht.length
            rw [List.length_map] at this
            omega
          refine ⟨r, zs, _, rfl, rfl, hz7, by omega, Kp.own k7 hr0 hz7 (by intro xs z; cases z), _, _, _, _, _, rfl, _, es ++ [(i, joinedN (ears (ways.getD i []) p.1) (ears (ways.getD i []) p.2))], upd_same, ?_, by rw [List.length_append, List.length_singleton]; omega, ?_⟩
          · rw [List.map_append, he, htk]
            congr 1
            unfold stepN
            rw [hany]
            rfl
          · rw [List.map_append]
            refine TpAll.snoc ((((ht4.mono k5.tu).mono k6.tu).mono (TK.new hT3)).mono (TK.upd_lst hz7)) ?_
            exact (Tp.tup upd_same (.cons (.int _) (.cons (hu.mono (TK.new hT3)) .nil)) : Tp (upd H6 T3 (.tup [.int ((i : Nat) : Int), u])) (.ref T3) (entD (i, joinedN (ears (ways.getD i []) p.1) (ears (ways.getD i []) p.2)))).mono (TK.upd_lst hz7)
        · have hany : (ears (ways.getD i []) p.1).any (fun m => decide (m ∈ ears (ways.getD i []) p.2)) = true := by simpa using h
          refine ⟨kk5, _, _, _, _, _, rfl, zs, es, k5.at hz4, ?_, by omega, ht4.mono k5.tu⟩
          rw [he, htk]
          unfold stepN
          rw [if_pos hany]
          show _ = _ ++ []
          rw [List.append_nil]
    · obtain ⟨k, o3, o4, o5, o6, o7, rfl, zs, es, hz, he, hle, ht⟩ := h
      refine ⟨_, rfl, q r H1 k hr0 ⟨zs, es, hz, ?_, ht⟩⟩
      rw [he, hxl, List.take_length]
end
end AA

/-! ## T3 -/
set_option Elab.async false
set_option linter.all false
set_option maxRecDepth 100000
set_option maxHeartbeats 4000000
namespace AA
open PySem PySem.Spec PyProof.Rows L2 PySem.W
theorem StepRow.mono {H H' : Hp} {r : Addr} {qs : List (Lot × Lot)} (k : Kp No H H') (h : StepRow H r qs) : StepRow H' r qs := by
  obtain ⟨ys, es, h1, h2, h3⟩ := h
  exact ⟨ys, es, k.at h1, h2, h3.mono k.tu⟩
theorem StepRow.put {H : Hp} {d r : Addr} {o u : HO} {qs : List (Lot × Lot)} (e : H d = some u) (h1 : ∀ xs, u ≠ .lst xs) (h2 : ∀ xs, u ≠ .tup xs) (h : StepRow H r qs) : StepRow (upd H d o) r qs := by
  obtain ⟨ys, es, e1, e2, e3⟩ := h
  have hn : r ≠ d := fun z => h1 ys (Option.some.inj (e.symm.trans (by rw [← z]; exact e1)))
  refine ⟨ys, es, by rw [upd_ne hn]; exact e1, e2, e3.mono fun b xs hb => ?_⟩
  rw [upd_ne (fun z => h2 xs (Option.some.inj (e.symm.trans (by rw [← z]; exact hb))))]
  exact hb
/-- a dict of pairs with their steps -/
structure StepsAt (H : Hp) (ways : List Rows) (xs : List Ent) (keys : List (Lot × Lot)) : Prop where
  dk : DnK H xs
  ks : xs.map (·.1) = keys.map pairK
  row : ∀ (i : Nat) (p : Lot × Lot), keys[i]? = some p → ∃ a r, xs[i]? = some (pairK p, a, .ref r) ∧ StepRow H r (succN ways p)
theorem StepsAt.mono {H H' : Hp} {ways : List Rows} {xs : List Ent} {keys : List (Lot × Lot)} (k : Kp No H H') (h : StepsAt H ways xs keys) : StepsAt H' ways xs keys :=
  ⟨h.dk.mono k.tu, h.ks, fun i p e => by
    obtain ⟨a, r, h1, h2⟩ := h.row i p e
    exact ⟨a, r, h1, h2.mono k⟩⟩
theorem mem_pairK {p : Lot × Lot} {xs : List Ent} {keys : List (Lot × Lot)} (h : xs.map (·.1) = keys.map pairK) : decide (pairK p ∈ xs.map (·.1)) = decide (p ∈ keys) := by
  rw [h, Bool.eq_iff_iff, decide_eq_true_eq, decide_eq_true_eq, List.mem_map]
  constructor
  · rintro ⟨q, hq, e⟩
    rw [← pairK_inj e]
    exact hq
  · exact fun h => ⟨p, h, rfl⟩
/-- half way: the keys found, the pairs that wait -/
structure Half (n : Nat) (ways : List Rows) (keys rest : List (Lot × Lot)) : Prop where
  nd : keys.Nodup
  st : ∀ p ∈ startsN n, p ∈ keys ∨ p ∈ rest
  cl : ∀ p ∈ keys, ∀ q ∈ succN ways p, q ∈ keys ∨ q ∈ rest
  rk : ∀ p ∈ keys, Reach (startsN n) (succN ways) p
  rr : ∀ p ∈ rest, Reach (startsN n) (succN ways) p
  uk : ∀ p ∈ keys, p ∈ univ n
  ur : ∀ p ∈ rest, p ∈ univ n
theorem Half.start (n : Nat) (ways : List Rows) : Half n ways [] (startsN n) :=
  ⟨List.nodup_nil, fun p h => .inr h, fun p h => absurd h List.not_mem_nil, fun p h => absurd h List.not_mem_nil, fun p h => .start h, fun p h => absurd h List.not_mem_nil, univ_start⟩
theorem Half.found {n : Nat} {ways : List Rows} {keys : List (Lot × Lot)} (h : Half n ways keys []) : Found (startsN n) (succN ways) keys :=
  ⟨h.nd, fun p hp => (h.st p hp).resolve_right List.not_mem_nil, fun p hp q hq => (h.cl p hp q hq).resolve_right List.not_mem_nil, h.rk⟩
theorem Half.skip {n : Nat} {ways : List Rows} {keys rest : List (Lot × Lot)} {p : Lot × Lot} (h : Half n ways keys (p :: rest)) (hp : p ∈ keys) : Half n ways keys rest :=
  ⟨h.nd, fun q hq => (h.st q hq).elim .inl fun z => (List.mem_cons.mp z).elim (fun e => .inl (e ▸ hp)) .inr, fun q hq r hr => (h.cl q hq r hr).elim .inl fun z => (List.mem_cons.mp z).elim (fun e => .inl (e ▸ hp)) .inr,
    h.rk, fun q hq => h.rr q (List.mem_cons_of_mem _ hq), h.uk, fun q hq => h.ur q (List.mem_cons_of_mem _ hq)⟩
theorem Half.take {n : Nat} {ways : List Rows} (W : ∀ rows ∈ ways, WayOk n rows) {keys rest : List (Lot × Lot)} {p : Lot × Lot} (h : Half n ways keys (p :: rest)) (hp : p ∉ keys) :
    Half n ways (keys ++ [p]) (rest ++ (succN ways p).filter fun q => decide (q ∉ keys ++ [p])) := by
  have rp : Reach (startsN n) (succN ways) p := h.rr p List.mem_cons_self
  have mk : ∀ q, q ∈ keys ∨ q ∈ p :: rest → q ∈ keys ++ [p] ∨ q ∈ rest ++ (succN ways p).filter fun q => decide (q ∉ keys ++ [p]) := by
    rintro q (h | h)
    · exact .inl (List.mem_append_left _ h)
    · rcases List.mem_cons.mp h with rfl | h
      · exact .inl (List.mem_append_right _ List.mem_cons_self)
      · exact .inr (List.mem_append_left _ h)
  refine ⟨?_, fun q hq => mk q (h.st q hq), fun q hq r hr => ?_, fun q hq => ?_, fun q hq => ?_, fun q hq => ?_, fun q hq => ?_⟩
  · rw [List.nodup_append]
    exact ⟨h.nd, List.nodup_cons.mpr ⟨List.not_mem_nil, List.nodup_nil⟩, fun a ha b hb e => hp (by rw [List.mem_singleton.mp hb] at e; rw [← e]; exact ha)⟩
  · rcases List.mem_append.mp hq with hq | hq
    · exact mk r (h.cl q hq r hr)
    · rw [List.mem_singleton.mp hq] at hr
      by_cases hk : r ∈ keys ++ [p]
      · exact .inl hk
      · exact .inr (List.mem_append_right _ (List.mem_filter.mpr ⟨hr, decide_eq_true hk⟩))
  · rcases List.mem_append.mp hq with hq | hq
    · exact h.rk q hq
    · rw [List.mem_singleton.mp hq]; exact rp
  · rcases List.mem_append.mp hq with hq | hq
    · exact h.rr q (List.mem_cons_of_mem _ hq)
    · exact .step rp (List.mem_filter.mp hq).1
  · rcases List.mem_append.mp hq with hq | hq
    · exact h.uk q hq
    · rw [List.mem_singleton.mp hq]; exact h.ur p List.mem_cons_self
  · rcases List.mem_append.mp hq with hq | hq
    · exact h.ur q (List.mem_cons_of_mem _ hq)
    · exact univ_step W p q (List.mem_filter.mp hq).1
theorem Half.few {n : Nat} {ways : List Rows} {keys rest : List (Lot × Lot)} (h : Half n ways keys rest) (hn : n ≤ 6) : keys.length ≤ 4096 := Nat.le_trans (nodup_le keys (univ n) h.nd h.uk) (univ_few hn)
section
variable {P : Program} {w : World} {K : PySem.W.Frag} {mg : Str → Option Value} {base : Heap}
abbrev s_all_steps : Stmt := top 38
abbrev n_all_steps : List Str := ["count", "ways", "found", "rest", "pair", "way", "later"]
theorem sc_all_steps : FnScope n_all_steps ["count", "ways"] (defScope s_all_steps) := ⟨rfl, rfl, rfl, by decide +kernel, rfl, by decide +kernel, by decide +kernel⟩
def AllInv (P : Program) (w : World) (H : Hp) (n : Nat) (a d : Addr) (ways : List Rows) (m : Nat) (σ : L2.St) (H3 : Hp) : Prop :=
  ∃ (keys rest : List (Lot × Lot)) (xs : List Ent) (l : Addr) (zs : List V) (o4 o5 o6 : Option V), m = 7 * (4096 - keys.length) + rest.length ∧ m ≤ 30000 ∧ Kp No H H3 ∧ σ = [some (.int (n : Int)), some (.ref a), some (.ref d), some (.ref l), o4, o5, o6] ∧
    H3 d = some (DnO P w d xs) ∧ H3 l = some (.lst zs) ∧ TpAll H3 zs (rest.map pairD) ∧ StepsAt H3 ways xs keys ∧ Half n ways keys rest
theorem dn_notup {P : Program} {w : World} {d : Addr} {xs : List Ent} : ∀ zs, DnO P w d xs ≠ .tup zs := fun zs z => by cases z
theorem dn_nolst {P : Program} {w : World} {d : Addr} {xs : List Ent} : ∀ zs, DnO P w d xs ≠ .lst zs := fun zs z => by cases z
theorem StepsAt.snoc {H : Hp} {d av r : Addr} {o u : HO} {ways : List Rows} {xs : List Ent} {keys : List (Lot × Lot)} {p : Lot × Lot} (S : StepsAt H ways xs keys) (e : H d = some u) (h1 : ∀ xs, u ≠ .lst xs) (h2 : ∀ xs, u ≠ .tup xs) (hp : Tp H (.ref av) (pairK p).data)
    (hr : StepRow H r (succN ways p)) : StepsAt (upd H d o) ways (xs ++ [(pairK p, av, .ref r)]) (keys ++ [p]) := by
  have tk : TK H (upd H d o) := fun b ys hb => by
    rw [upd_ne (fun z => h2 ys (Option.some.inj (e.symm.trans (by rw [← z]; exact hb))))]
    exact hb
  have hl : xs.length = keys.length := by have := congrArg List.length S.ks; rwa [List.length_map, List.length_map] at this
  refine ⟨(S.dk.mono tk).snoc (hp.mono tk) (pairK_depth p), by rw [List.map_append, List.map_append, S.ks]; rfl, fun i q hq => ?_⟩
  rw [List.getElem?_append] at hq
  split at hq
  · rename_i hi
    obtain ⟨a, r', h3, h4⟩ := S.row i q hq
    exact ⟨a, r', by rw [List.getElem?_append_left (by omega)]; exact h3, h4.put e h1 h2⟩
  · rename_i hi
    have hi0 : i - keys.length = 0 := by
      rcases Nat.eq_zero_or_pos (i - keys.length) with z | z
      · exact z
      · rw [List.getElem?_eq_none (by rw [List.length_singleton]; exact z)] at hq
        cases hq
    rw [hi0] at hq
    obtain rfl := Option.some.inj hq
    refine ⟨av, r, ?_, hr.put e h1 h2⟩
    rw [List.getElem?_append_right (by omega), show i - xs.length = 0 by omega]
    rfl
def spAll (P : Program) (w : World) : Sp := fun vs H Q _ => ∃ (y : V) (n : Nat) (ways : List Rows), vs = [.int (n : Int), y] ∧ Tp H y (waysD ways) ∧ WaysOk n ways ∧
  ∀ d xs keys H', Kp No H H' → H d = none → H' d = some (DnO P w d xs) → StepsAt H' ways xs keys → Found (startsN n) (succN ways) keys → keys.length ≤ 4096 → Q (.ref d) H'
theorem ok_all_steps {f : Addr} {fd : FuncData} (F : DefIn K mg "all_steps" s_all_steps ["count", "ways"] f fd) (B : Bt mg) (D_start_pairs : Def P w K mg base "start_pairs" 1 ["count"] spStarts) (D_steps_from : Def P w K mg base "steps_from" 2 ["ways", "pair"] spSteps) :
    Def P w K mg base "all_steps" 3 ["count", "ways"] (spAll P w) := by
  refine F.ok sc_all_steps (fun vs H Q E h => ?_) (fun cdv A outer s H vs Q E hr h => ?_)
  · obtain ⟨y, _, _, rfl, _⟩ := h
    rfl
  · obtain ⟨y, n, ways, rfl, hy, W, q⟩ := h
    refine ⟨_, (pss_cons (ps_asg (pe_tup (pa_cons (pe_dnewN P w) (pa_cons (pe_def (D_start_pairs.mono (by decide)) hr (by rfl) (pa_cons (pv 0) pa_nil)) pa_nil))) (pg_tupK K 2 (pgs_cons (pg_name (i := 2) sc_all_steps.nd rfl (by first | exact Or.inl rfl | exact Or.inr rfl)) (pgs_cons (pg_name (i := 3) sc_all_steps.nd rfl (by first | exact Or.inl rfl | exact Or.inr rfl)) pgs_nil))))
      (pss_cons (ps_while PassesOwn.never (pt_cmpR (o_neD K hr.units) (pv 3) (pe_lst pa_nil) (nomark _))
      (pss_cons (ps_set (i := 4) sc_all_steps.nd rfl (by first | exact Or.inl rfl | exact Or.inr rfl) (pe_ix (x_list K) (pv 3) pe_int (fun _ _ => rfl)))
        (pss_cons (ps_set (i := 3) sc_all_steps.nd rfl (by first | exact Or.inl rfl | exact Or.inr rfl) (pe_slice (s_list K) (pv 3) (po_some pe_int) po_none))
        (pss_one (ps_if (pt_cmpR (o_dnNotIn P w hr.units) (pv 4) (pv 2) (by rfl))
        (pss_cons (ps_asg (pe_def (D_steps_from.mono (by decide)) hr (by rfl) (pa_cons (pv 1) (pa_cons (pv 4) pa_nil))) (pg_sub (pv 2) (pv 4) (set_dn P w hr.units)))
          (pss_one (ps_set (i := 3) sc_all_steps.nd rfl (by first | exact Or.inl rfl | exact Or.inr rfl) (pe_op op_cat (pv 3) (pe_lc rfl sc_all_steps.nd (pi_listK K (pe_ix (x_dn P w hr.units) (pv 2) (pv 4) (fun _ _ => rfl))) (blkOk_by (own := [("way", 5), ("later", 6)]) (N := n_all_steps) (sc := defScope s_all_steps) (by decide +kernel)) (fun _ _ _ _ _ => (pg_tupK K 2 (pgs_cons (pg_name (i := 5) sc_all_steps.nd rfl (by first | exact Or.inl rfl | exact Or.inr rfl)) (pgs_cons (pg_name (i := 6) sc_all_steps.nd rfl (by first | exact Or.inl rfl | exact Or.inr rfl)) pgs_nil)))) (fun _ _ _ _ _ => (pts_one (pt_cmpR (o_dnNotIn P w hr.units) (pv 6) (pv 2) (by rfl)))) (fun _ _ _ _ _ => (pv 6)))))))
        pss_nil)))))
      (pss_one (ps_ret (pv 2))))), ?_⟩
    obtain ⟨a, ws, rfl, ha, hall⟩ := hy.tuple
    have n6 := W.n6
    have few := W.few
    have hsz : (40000 : Nat) < sizeLine := by decide
    refine fun d hd => ⟨_, rfl, n, rfl, n6, fun l zs H1 k1 hl0 hl hzs => ⟨(show 2 ≤ sizeLine by decide), fun T hT => ⟨T, _, rfl, SqT.of upd_same, rfl, _, _, rfl, _, _, rfl, rfl, ?_⟩⟩⟩
    have ks : Kp No H (upd H1 T (.tup [.ref d, .ref l])) := ((Kp.new hd).trans k1).trans (Kp.new hT)
    have hd1 : H1 d = some (DnO P w d []) := k1.at upd_same
    refine ⟨AllInv P w H n a d ways, ⟨7 * 4096 + (startsN n).length, [], startsN n, [], l, zs, _, _, _, by simp, ?_, ks, rfl, by rw [upd_ne (ne_of_none hd1 hT)]; exact hd1, by rw [upd_ne (ne_of_none hl hT)]; exact hl, hzs.mono (TK.new hT), ⟨DnK.nil, rfl, fun i p e => by simp at e⟩, Half.start n ways⟩, fun m σ H3 h => ?_⟩
    · have := starts_length n
      have : n * n ≤ 6 * 6 := Nat.mul_le_mul n6 n6
      omega
    obtain ⟨keys, rest, xs, l, zs, o4, o5, o6, rfl, hm, k3, rfl, hd3, hl3, hz3, S3, hf⟩ := h
    have kf := hf.few n6
    refine ⟨_, rfl, (show 0 ≤ sizeLine by decide), fun p0 hp0 => ⟨.list (rest.map pairD), .list [], .lst (SqL.of (by rw [upd_ne (ne_of_none hl3 hp0)]; exact hl3)) ((hz3.mono (TK.new hp0)).dp K), .lst (SqL.of upd_same) .nil, list_shaped pairD rest 3 (by decide) (fun p _ => ⟨pairD_lay p, pairD_depth p⟩), nil_shaped, _, rfl, ?_⟩⟩
    have k4 : Kp No H3 (upd H3 p0 (.lst [])) := Kp.new hp0
    have kk4 := k3.trans k4
    have hd4 := k4.at hd3
    have hl4 := k4.at hl3
    have hz4 := hz3.mono k4.tu
    have S4 := S3.mono k4
    generalize upd H3 p0 (.lst []) = H4 at *
    rw [eqv_nilL]
    cases rest with
    | nil =>
      refine ite2 (fun h => absurd h (by simp)) (fun _ => ?_)
      exact ⟨_, rfl, q d xs keys H4 kk4 hd hd4 S4 hf.found kf⟩
    | cons p rest =>
      refine ite2 (fun _ => ?_) (fun h => absurd rfl h)
      refine ⟨fun σ' H' => ∃ m', m' < 7 * (4096 - keys.length) + (p :: rest).length ∧ AllInv P w H n a d ways m' σ' H', fun _ _ h => h, ?_⟩
      rw [List.length_cons] at hm ⊢
      rw [List.map_cons] at hz4
      cases hz4 with
      | @cons v zs _ _ hv hz4 =>
      obtain ⟨av, vs2, rfl, hav, hvs⟩ := hv.tuple
      refine ⟨_, rfl, l, _, 0, _, rfl, rfl, SqL.of hl4, atI_nat (j := 0) rfl, ?_⟩
      refine ⟨_, rfl, 1, rfl, l, _, rfl, SqL.of hl4, fun l2 hl2 => ?_⟩
      rw [show cutV (V.ref av :: zs) (some 1) none = zs from cut1 _]
      have k5 : Kp No H4 (upd H4 l2 (.lst zs)) := Kp.new hl2
      have hl5 : upd H4 l2 (.lst zs) l2 = some (.lst zs) := upd_same
      have kk5 := kk4.trans k5
      have hd5 := k5.at hd4
      have hz5 := hz4.mono k5.tu
      have S5 := S4.mono k5
      have hp5 : Tp (upd H4 l2 (.lst zs)) (.ref av) (pairK p).data := by rw [pairK_data]; exact hv.mono k5.tu
      generalize upd H4 l2 (.lst zs) = H5 at *
      refine ⟨_, rfl, _, rfl, av, d, pairK p, xs, rfl, rfl, hp5, pairK_depth p, Rd.of hd5, S5.dk, _, rfl, ?_⟩
      rw [mem_pairK S5.ks]
      have ⟨hu1, hu2⟩ := mem_univ.mp (hf.ur p List.mem_cons_self)
      have ⟨g1, g2⟩ := lots_lt hu1
      have ⟨g3, g4⟩ := lots_lt hu2
      refine ite2 (fun h => ?_) (fun h => ?_)
      · have hpk : p ∉ keys := by simpa using h
        have hf2 := hf.take W.way hpk
        refine ⟨_, rfl, _, rfl, _, _, n, ways, p, rfl, hy.mono kk5.tu, by rw [← pairK_data]; exact hp5, W, g1, g3, by omega, by omega, fun r H6 k6 hr6 hrow => ?_⟩
        have hd6 := k6.at hd5
        have hxl : xs.length = keys.length := by have := congrArg List.length S5.ks; rwa [List.length_map, List.length_map] at this
        have hnot : pairK p ∉ xs.map (·.1) := by
          have := mem_pairK (p := p) S5.ks
          rw [decide_eq_false hpk] at this
          exact of_decide_eq_false this
        refine ⟨_, rfl, _, rfl, av, d, pairK p, xs, rfl, rfl, hp5.mono k6.tu, pairK_depth p, hd6, (S5.dk.mono k6.tu), hnot, by omega, ?_⟩
        have S7 : StepsAt (upd H6 d (DnO P w d (xs ++ [(pairK p, av, V.ref r)]))) ways (xs ++ [(pairK p, av, .ref r)]) (keys ++ [p]) := (S5.mono k6).snoc hd6 dn_nolst dn_notup (hp5.mono k6.tu) hrow
        have tk7 : TK H6 (upd H6 d (DnO P w d (xs ++ [(pairK p, av, V.ref r)]))) := fun b ys hb => by
          rw [upd_ne (fun z => dn_notup ys (Option.some.inj (hd6.symm.trans (by rw [← z]; exact hb))))]
          exact hb
        have kk7 : Kp No H (upd H6 d (DnO P w d (xs ++ [(pairK p, av, V.ref r)]))) := Kp.own (kk5.trans k6) hd hd6 dn_notup
        have hd7 : upd H6 d (DnO P w d (xs ++ [(pairK p, av, V.ref r)])) d = some (DnO P w d (xs ++ [(pairK p, av, V.ref r)])) := upd_same
        have hl7 : upd H6 d (DnO P w d (xs ++ [(pairK p, av, V.ref r)])) l2 = some (.lst zs) := by
          rw [upd_ne (fun z => dn_nolst zs (Option.some.inj (hd6.symm.trans (by rw [← z]; exact k6.at hl5))))]
          exact k6.at hl5
        have hz7 := (hz5.mono k6.tu).mono tk7
        have hp7 := (hp5.mono k6.tu).mono tk7
        have hrow7 := hrow.put (o := DnO P w d (xs ++ [(pairK p, av, V.ref r)])) hd6 dn_nolst dn_notup
        generalize upd H6 d (DnO P w d (xs ++ [(pairK p, av, V.ref r)])) = H7 at *
        obtain ⟨ys, es, hr7, hes, hys⟩ := hrow7
        have hyl : ys.length = es.length := by rw [hys.length, List.length_map]
        have hel : es.length ≤ 6 := by
          have h1 := congrArg List.length hes
          rw [List.length_map] at h1
          have : (succN ways p).length ≤ ways.length := List.length_filterMap_le _ _
          omega
        have hat : atV (xs ++ [(pairK p, av, V.ref r)]) (pairK p) = some (.ref r) := atV_of (a := av) (by
          rw [S7.ks]
          exact List.Pairwise.map _ (fun a b h e => h (pairK_inj e)) hf2.nd) (List.mem_append_right _ List.mem_cons_self)
        refine ⟨_, rfl, _, rfl, _, rfl, av, d, pairK p, _, _, rfl, rfl, hp7, pairK_depth p, Rd.of hd7, S7.dk, hat, r, rfl, ⟨_, SqL.of hr7⟩, fun D hD => ?_⟩
        refine lc_filtD (S := No) walk_list (by omega) hD (fun z => z) (fun i => decide ((es.getD i (0, [], [])).2 ∉ keys ++ [p])) (fun i => pairD (es.getD i (0, [], [])).2) (fun H8 k8 => SqL.of (k8.at hr7)) (fun i x H8 H9 acc N N0 hi k8 hacc hy8 hN hN0 => ?_) (fun acc H8 k8 hacc hr8 => ?_)
        · obtain ⟨rfl, hx8⟩ := hy8
          obtain ⟨e, he, hxe⟩ := hys.get hx8
          rw [List.getElem?_map, getD_of (show i < es.length by omega) (0, [], [])] at he
          obtain rfl := Option.some.inj he
          generalize es.getD i (0, [], []) = ei at *
          obtain ⟨bx, us, rfl, hbx, hus⟩ := (hxe.mono k8.tu).tuple
          cases hus with
          | cons u1 hus =>
            cases hus with
            | cons u2 hus =>
              cases hus
              obtain ⟨b2, us2, rfl, hb2, hus2⟩ := id u2.tuple
              have hkey : Tp H9 (.ref b2) (pairK ei.2).data := by rw [pairK_data]; exact u2
              refine ⟨bx, _, rfl, SqT.of hbx, rfl, _, _, rfl, _, _, rfl, rfl, rfl, _, rfl, _, rfl, b2, d, pairK ei.2, _, rfl, rfl, hkey, pairK_depth _, Rd.of (k8.at hd7), S7.dk.mono k8.tu, _, rfl, ?_⟩
              rw [mem_pairK S7.ks]
              refine ite2 (fun h => ⟨_, rfl, hN _ _ ?_ (Kp.refl _ _) u2⟩) (fun h => hN0 _ ?_ (Kp.refl _ _))
              · simpa using h
              · simpa using h
        · rw [hyl, range_filt es (fun e => decide (e.2 ∉ keys ++ [p])) (fun e => pairD e.2) (0, [], [])] at hr8
          have hacc2 : TpAll H8 acc (((succN ways p).filter fun q => decide (q ∉ keys ++ [p])).map pairD) := by
            rw [← hes, List.filter_map, List.map_map]
            exact hr8
          have hfl : ((succN ways p).filter fun q => decide (q ∉ keys ++ [p])).length ≤ 6 := by
            refine Nat.le_trans (List.length_filter_le _ _) ?_
            rw [← hes, List.length_map]
            exact hel
          have hal : acc.length = ((succN ways p).filter fun q => decide (q ∉ keys ++ [p])).length := by rw [hacc2.length, List.length_map]
          have hzl : zs.length = rest.length := by rw [hz7.length, List.length_map]
          have kf2 := hf2.few n6
          rw [List.length_append, List.length_singleton] at kf2
          refine ⟨l2, D, zs, acc, rfl, rfl, k8.at hl7, hacc, by omega, fun l3 hl3 => ⟨7 * (4096 - (keys ++ [p]).length) + (rest ++ (succN ways p).filter fun q => decide (q ∉ keys ++ [p])).length, ?_, keys ++ [p], rest ++ (succN ways p).filter fun q => decide (q ∉ keys ++ [p]), _, l3, zs ++ acc, _, _, _, rfl, ?_, (kk7.trans k8).trans (Kp.new hl3), rfl, (Kp.new hl3).at (k8.at hd7), upd_same, ?_, (S7.mono k8).mono (Kp.new hl3), hf2⟩⟩
          · rw [List.length_append, List.length_append, List.length_singleton]
            omega
          · rw [List.length_append, List.length_append, List.length_singleton]
            omega
          · rw [List.map_append]
            exact ((hz7.mono k8.tu).app hacc2).mono (TK.new hl3)
      · have hpk : p ∈ keys := by simpa using h
        exact ⟨_, by omega, keys, rest, xs, l2, zs, _, _, _, rfl, by omega, kk5, rfl, hd5, hl5, hz5, S5, hf.skip hpk⟩
end
end AA

/-! ## T4 -/
set_option Elab.async false
set_option linter.all false
set_option maxRecDepth 100000
set_option maxHeartbeats 4000000
namespace AA
open PySem PySem.Spec PyProof.Rows L2 PySem.W
/-- the pair within an entry of a row of steps -/
theorem ent_at {H : Hp} {ys : List V} {es : List (Nat × (Lot × Lot))} {i : Nat} {x : V} (h : TpAll H ys (es.map entD)) (hi : i < es.length) (hx : ys[i]? = some x) :
    ∃ b u c, x = .ref b ∧ H b = some (.tup [u, .ref c]) ∧ Tp H (.ref c) (pairK (es.getD i (0, [], [])).2).data := by
  obtain ⟨e, he, hxe⟩ := h.get hx
  rw [List.getElem?_map, getD_of hi (0, [], [])] at he
  obtain rfl := Option.some.inj he
  obtain ⟨b, us, rfl, hb, hus⟩ := hxe.tuple
  cases hus with
  | cons u1 hus =>
    cases hus with
    | cons u2 hus =>
      cases hus
      obtain ⟨c, _, rfl, _, _⟩ := id u2.tuple
      exact ⟨b, _, c, rfl, hb, by rw [pairK_data]; exact u2⟩
abbrev At (d : Addr) : Addr → Prop := fun b => b = d
theorem StepRow.monoS {H H' : Hp} {d r : Addr} {u : HO} {qs : List (Lot × Lot)} (k : Kp (At d) H H') (e : H d = some u) (h1 : ∀ xs, u ≠ .lst xs) (h : StepRow H r qs) : StepRow H' r qs := by
  obtain ⟨ys, es, e1, e2, e3⟩ := h
  exact ⟨ys, es, k.kp r _ (fun z => h1 ys (Option.some.inj (e.symm.trans (by rw [← (z : r = d)]; exact e1)))) e1, e2, e3.mono k.tu⟩
theorem StepsAt.monoS {H H' : Hp} {d : Addr} {u : HO} {ways : List Rows} {xs : List Ent} {keys : List (Lot × Lot)} (k : Kp (At d) H H') (e : H d = some u) (h1 : ∀ xs, u ≠ .lst xs) (h : StepsAt H ways xs keys) : StepsAt H' ways xs keys :=
  ⟨h.dk.mono k.tu, h.ks, fun i p q => by
    obtain ⟨a, r, z1, z2⟩ := h.row i p q
    exact ⟨a, r, z1, z2.monoS k e h1⟩⟩
theorem Kp.back {H H' : Hp} {d : Addr} {u : HO} (k : Kp (At d) H H') (e : H d = some u) (e' : H' d = some u) : Kp No H H' :=
  ⟨fun b o _ h => by
    by_cases hb : b = d
    · rw [hb] at h ⊢
      rw [e', ← e, h]
    · exact k.kp b o hb h, k.tu, k.fr⟩
/-- a dict of pairs with a whole number each -/
structure IntsAt (H : Hp) (ys : List Ent) (got : List (Lot × Lot)) : Prop where
  dk : DnK H ys
  ks : ys.map (·.1) = got.map pairK
  int : ∀ y ∈ ys, ∃ i : Int, y.2.2 = .int i
theorem IntsAt.mono {H H' : Hp} {ys : List Ent} {got : List (Lot × Lot)} (k : TK H H') (h : IntsAt H ys got) : IntsAt H' ys got := ⟨h.dk.mono k, h.ks, h.int⟩
theorem IntsAt.at_ {H : Hp} {ys : List Ent} {got : List (Lot × Lot)} (h : IntsAt H ys got) {q : Lot × Lot} (hq : q ∈ got) : ∃ i : Int, atV ys (pairK q) = some (.int i) := by
  obtain ⟨v, hv⟩ := atV_some.mpr (show pairK q ∈ ys.map (·.1) by rw [h.ks]; exact List.mem_map.mpr ⟨q, hq, rfl⟩)
  obtain ⟨a, ha⟩ := atV_mem hv
  obtain ⟨i, hi⟩ := h.int _ ha
  exact ⟨i, by rw [hv, ← hi]⟩
def intV (ys : List Ent) (q : Lot × Lot) : Int := match atV ys (pairK q) with
  | some (.int i) => i
  | _ => 0
theorem IntsAt.at2 {H : Hp} {ys : List Ent} {got : List (Lot × Lot)} (h : IntsAt H ys got) {q : Lot × Lot} (hq : q ∈ got) : atV ys (pairK q) = some (.int (intV ys q)) := by
  obtain ⟨i, hi⟩ := h.at_ hq
  unfold intV
  rw [hi]
/-- within a pass: what is found so far -/
def LongIn (P : Program) (w : World) (H : Hp) (d e : Addr) (od : Obj) (ways : List Rows) (xs : List Ent) (keys got0 : List (Lot × Lot)) (i : Nat) (σ : L2.St) (H3 : Hp) : Prop :=
  ∃ (got : List (Lot × Lot)) (ys : List Ent) (g : Bool) (o3 o4 o5 o6 : Option V), Kp (At d) H H3 ∧ σ = [some (.ref d), some (.ref e), some (.bl g), o3, o4, o5, o6] ∧ H3 d = some (.frz od (DnO P w d xs)) ∧ H3 e = some (DnO P w e ys) ∧ IntsAt H3 ys got ∧
    Grown (succN ways) keys got ∧ got0.length ≤ got.length ∧ (g = true → got0.length < got.length) ∧ (g = false → got = got0 ∧ ∀ j p, j < i → keys[j]? = some p → (∀ q ∈ succN ways p, q ∈ got) → p ∈ got)
/-- between passes -/
def LongOut (P : Program) (w : World) (H : Hp) (d e : Addr) (ways : List Rows) (xs : List Ent) (keys : List (Lot × Lot)) (m : Nat) (σ : L2.St) (H3 : Hp) : Prop :=
  ∃ (got : List (Lot × Lot)) (ys : List Ent) (g : Bool) (o3 o4 o5 o6 : Option V), m = 2 * (5000 - got.length) + (if g = true then 1 else 0) ∧ Kp (At d) H H3 ∧ σ = [some (.ref d), some (.ref e), some (.bl g), o3, o4, o5, o6] ∧ H3 d = some (DnO P w d xs) ∧ H3 e = some (DnO P w e ys) ∧ IntsAt H3 ys got ∧
    Grown (succN ways) keys got ∧ (g = false → ∀ p ∈ keys, (∀ q ∈ succN ways p, q ∈ got) → p ∈ got)
section
variable {P : Program} {w : World} {K : PySem.W.Frag} {mg : Str → Option Value} {base : Heap}
abbrev s_longest_rows : Stmt := top 39
abbrev n_longest_rows : List Str := ["steps", "found", "grows", "pair", "row", "way", "later"]
theorem sc_longest_rows : FnScope n_longest_rows ["steps"] (defScope s_longest_rows) := ⟨rfl, rfl, rfl, by decide +kernel, rfl, by decide +kernel, by decide +kernel⟩
def spLong (P : Program) (w : World) : Sp := fun vs H Q _ => ∃ (d : Addr) (xs : List Ent) (keys starts : List (Lot × Lot)) (ways : List Rows), vs = [.ref d] ∧ H d = some (DnO P w d xs) ∧ StepsAt H ways xs keys ∧ Found starts (succN ways) keys ∧ keys.length ≤ 4096 ∧ ways.length ≤ 6 ∧
  ∀ e ys got H', Kp No H H' → H e = none → H' e = some (DnO P w e ys) → IntsAt H' ys got → Grown (succN ways) keys got → (∀ p ∈ keys, (∀ q ∈ succN ways p, q ∈ got) → p ∈ got) → Q (.ref e) H'
theorem ok_longest_rows {f : Addr} {fd : FuncData} (F : DefIn K mg "longest_rows" s_longest_rows ["steps"] f fd) (B : Bt mg) : Def P w K mg base "longest_rows" 1 ["steps"] (spLong P w) := by
  refine F.ok sc_longest_rows (fun vs H Q E h => ?_) (fun cdv A outer s H vs Q E hr h => ?_)
  · obtain ⟨d, _, _, _, _, rfl, _⟩ := h
    rfl
  · obtain ⟨d, xs, keys, starts, ways, rfl, hd, S, Fo, few, wf, q⟩ := h
    refine ⟨_, (pss_cons (ps_asg (pe_tup (pa_cons (pe_dnewN P w) (pa_cons pe_bl pa_nil))) (pg_tupK K 2 (pgs_cons (pg_name (i := 1) sc_longest_rows.nd rfl (by first | exact Or.inl rfl | exact Or.inr rfl)) (pgs_cons (pg_name (i := 2) sc_longest_rows.nd rfl (by first | exact Or.inl rfl | exact Or.inr rfl)) pgs_nil))))
      (pss_cons (ps_while PassesOwn.never (pt_val (pv 2))
      (pss_cons (ps_set (i := 2) sc_longest_rows.nd rfl (by first | exact Or.inl rfl | exact Or.inr rfl) pe_bl)
        (pss_one (ps_lock (ps_for PassesOwn.never rfl (pi_itemsN P w (pv 0)) (pg_tupK K 2 (pgs_cons (pg_name (i := 3) sc_longest_rows.nd rfl (by first | exact Or.inl rfl | exact Or.inr rfl)) (pgs_cons (pg_name (i := 4) sc_longest_rows.nd rfl (by first | exact Or.inl rfl | exact Or.inr rfl)) pgs_nil)))
        (pss_one (ps_if (PW.pt (pw_and (pt_cmpR (o_dnNotIn P w hr.units) (pv 3) (pv 1) (by rfl)) (pw_and1 (pt_val (pe_callB (r_all K) (by rfl) B.all (by decide +kernel) (pa_cons (pe_lc rfl sc_longest_rows.nd (pi_listK K (pv 4)) (blkOk_by (own := [("way", 5), ("later", 6)]) (N := n_longest_rows) (sc := defScope s_longest_rows) (by decide +kernel)) (fun _ _ _ _ _ => (pg_tupK K 2 (pgs_cons (pg_name (i := 5) sc_longest_rows.nd rfl (by first | exact Or.inl rfl | exact Or.inr rfl)) (pgs_cons (pg_name (i := 6) sc_longest_rows.nd rfl (by first | exact Or.inl rfl | exact Or.inr rfl)) pgs_nil)))) (fun _ _ _ _ _ => pts_nil) (fun _ _ _ _ _ => (pe_cmpR (o_dnIn P w hr.units) (pv 6) (pv 1) (by rfl)))) pa_nil))))))
          (pss_one (ps_asg (pe_tup (pa_cons (pe_callB (r_max K) (by rfl) B.max (by decide +kernel) (pa_cons (pe_op op_cat (pe_lst (pa_cons pe_int pa_nil)) (pe_lc rfl sc_longest_rows.nd (pi_listK K (pv 4)) (blkOk_by (own := [("way", 5), ("later", 6)]) (N := n_longest_rows) (sc := defScope s_longest_rows) (by decide +kernel)) (fun _ _ _ _ _ => (pg_tupK K 2 (pgs_cons (pg_name (i := 5) sc_longest_rows.nd rfl (by first | exact Or.inl rfl | exact Or.inr rfl)) (pgs_cons (pg_name (i := 6) sc_longest_rows.nd rfl (by first | exact Or.inl rfl | exact Or.inr rfl)) pgs_nil)))) (fun _ _ _ _ _ => pts_nil) (fun _ _ _ _ _ => (pe_op op_add pe_int (pe_ix (x_dn P w hr.units) (pv 1) (pv 6) (fun _ _ => rfl)))))) pa_nil)) (pa_cons pe_bl pa_nil))) (pg_tupK K 2 (pgs_cons (pg_sub (pv 1) (pv 3) (set_dn P w hr.units)) (pgs_cons (pg_name (i := 2) sc_longest_rows.nd rfl (by first | exact Or.inl rfl | exact Or.inr rfl)) pgs_nil)))))
          pss_nil)))))))
      (pss_one (ps_ret (pv 1))))), ?_⟩
    have hsz : (40000 : Nat) < sizeLine := by decide
    have hxl : xs.length = keys.length := by have := congrArg List.length S.ks; rwa [List.length_map, List.length_map] at this
    refine fun e he => ⟨(show 2 ≤ sizeLine by decide), fun T hT => ⟨T, _, rfl, SqT.of upd_same, rfl, _, _, rfl, _, _, rfl, rfl, ?_⟩⟩
    have k1 : Kp (At d) H (upd (upd H e (DnO P w e [])) T (.tup [.ref e, .bl true])) := (Kp.new he).trans (Kp.new hT)
    have kd1 : Kp No H (upd (upd H e (DnO P w e [])) T (.tup [.ref e, .bl true])) := (Kp.new he).trans (Kp.new hT)
    refine ⟨LongOut P w H d e ways xs keys, ⟨2 * 5000 + 1, [], [], true, _, _, _, _, rfl, k1, rfl, kd1.at hd, by rw [upd_ne (ne_of_none upd_same hT)]; exact upd_same, ⟨DnK.nil, rfl, fun y h => absurd h List.not_mem_nil⟩, ⟨List.nodup_nil, fun p h => absurd h List.not_mem_nil, fun p h => absurd h List.not_mem_nil⟩, fun z => by cases z⟩, fun m σ H3 h => ?_⟩
    obtain ⟨got, ys, g, o3, o4, o5, o6, rfl, k3, rfl, hd3, he3, I3, G3, st3⟩ := h
    refine ⟨_, rfl, _, rfl, ?_⟩
    refine ite2 (fun hg => ?_) (fun hg => ?_)
    · subst hg
      refine ⟨fun σ' H' => ∃ m', m' < 2 * (5000 - got.length) + (if true = true then 1 else 0) ∧ LongOut P w H d e ways xs keys m' σ' H', fun _ _ h => h, ?_⟩
      refine ⟨d, DnO P w d xs, hd3, True.intro, fun od => ?_⟩
      have hed : e ≠ d := fun z => by rw [z] at he; rw [hd] at he; cases he
      have kl : Kp (At d) H (upd H3 d (.frz od (DnO P w d xs))) := k3.trans (Kp.put rfl hd3 dn_notup)
      have tkl : TK H3 (upd H3 d (.frz od (DnO P w d xs))) := fun b zs hb => by
        rw [upd_ne (fun z => dn_notup zs (Option.some.inj (hd3.symm.trans (by rw [← z]; exact hb))))]
        exact hb
      refine ⟨_, rfl, d, od, xs, rfl, upd_same, ?_⟩
      refine for_it walk_itemsN (LongIn P w H d e od ways xs keys got) ⟨got, ys, false, _, _, _, _, kl, rfl, upd_same, by rw [upd_ne hed]; exact he3, I3.mono tkl, G3, Nat.le_refl _, (fun z => by cases z), fun _ => ⟨rfl, fun j p hj => absurd hj (Nat.not_lt_zero _)⟩⟩ (fun i σ H4 _ h => by
        obtain ⟨_, _, _, _, _, _, _, _, _, h, _⟩ := h
        exact h) (fun i x σ H4 H5 hi h hy => ?_) (fun σ H4 h => ?_)
      · obtain ⟨got4, ys4, g4, o3, o4, o5, o6, k4, rfl, hd4, he4, I4, G4, hle, hg1, hg2⟩ := h
        obtain ⟨T, ky, av, rv, hxi, rfl, hT4, rfl⟩ := hy
        have hi' : i < keys.length := by omega
        obtain ⟨av2, r, hxr, hrow⟩ := (S.monoS k4 hd dn_nolst).row i _ (getD_of hi' ([], []))
        rw [hxi] at hxr
        obtain ⟨rfl, rfl, rfl⟩ : ky = pairK (keys.getD i ([], [])) ∧ av = av2 ∧ rv = .ref r := by
          have e1 := Option.some.inj hxr
          exact ⟨congrArg (·.1) e1, congrArg (·.2.1) e1, congrArg (·.2.2) e1⟩
        have hpk : keys[i]? = some (keys.getD i ([], [])) := getD_of hi' ([], [])
        have hpm : keys.getD i ([], []) ∈ keys := List.mem_of_getElem? hpk
        have hkey4 : Tp H4 (.ref av) (pairK (keys.getD i ([], []))).data := ((S.monoS k4 hd dn_nolst).dk _ (List.mem_of_getElem? hxi)).1
        generalize keys.getD i ([], []) = p at *
        have k5 : Kp No H4 (upd H4 T (.tup [.ref av, .ref r])) := Kp.new hT4
        have kk5 := k4.trans (k5.no (S := At d))
        have hd5 := k5.at hd4
        have he5 := k5.at he4
        have I5 := I4.mono k5.tu
        have hkey5 := hkey4.mono k5.tu
        have hrow5 := hrow.mono k5
        refine ⟨T, _, rfl, SqT.of upd_same, rfl, _, _, rfl, _, _, rfl, rfl, ?_⟩
        generalize upd H4 T (.tup [.ref av, .ref r]) = H5 at *
        refine ⟨_, rfl, _, rfl, av, e, pairK p, ys4, rfl, rfl, hkey5, pairK_depth p, Rd.of he5, I5.dk, _, rfl, ?_⟩
        rw [mem_pairK I5.ks]
        -- nothing is added
        have none_added : ∀ (H6 : Hp) (o3 o4 o5 o6 : Option V), Kp No H5 H6 → (p ∈ got4 ∨ ∃ q ∈ succN ways p, q ∉ got4) → LongIn P w H d e od ways xs keys got (i + 1) [some (.ref d), some (.ref e), some (.bl g4), o3, o4, o5, o6] H6 := fun H6 o3 o4 o5 o6 k6 hor =>
          ⟨got4, ys4, g4, o3, o4, o5, o6, kk5.trans k6.no, rfl, k6.at hd5, k6.at he5, I5.mono k6.tu, G4, hle, hg1, fun hz => ⟨(hg2 hz).1, fun j p' hj hp' hall => by
            rcases Nat.lt_succ_iff_lt_or_eq.mp hj with hj | rfl
            · exact (hg2 hz).2 j p' hj hp' hall
            · rw [hpk] at hp'
              obtain rfl := Option.some.inj hp'
              rcases hor with h | ⟨q, hq, hn⟩
              · exact h
              · exact absurd (hall q hq) hn⟩⟩
        obtain ⟨zs, es, hr5, hes, hzs⟩ := id hrow5
        have hzl : zs.length = es.length := by rw [hzs.length, List.length_map]
        have hel : es.length ≤ 6 := by
          have h1 := congrArg List.length hes
          rw [List.length_map] at h1
          have : (succN ways p).length ≤ ways.length := List.length_filterMap_le _ _
          omega
        refine ite2 (fun h => ?_) (fun h => ?_)
        · have hpn : p ∉ got4 := by simpa using h
          refine ⟨_, rfl, r, rfl, ⟨_, SqL.of hr5⟩, fun D hD => ?_⟩
          refine lc_mapD (S := No) walk_list (by omega) hD (fun z => z) (fun j => .bool (decide ((es.getD j (0, [], [])).2 ∈ got4))) (fun H6 k6 => SqL.of (k6.at hr5)) (fun j x H6 H7 acc N hj k6 hl hy6 hN => ?_) (fun acc H6 k6 hl hr6 => ?_)
          · obtain ⟨rfl, hx6⟩ := hy6
            obtain ⟨bx, u, c, rfl, hbx, hc⟩ := ent_at (hzs.mono k6.tu) (by omega) hx6
            refine ⟨bx, _, rfl, SqT.of hbx, rfl, _, _, rfl, _, _, rfl, rfl, rfl, _, rfl, _, rfl, c, e, pairK (es.getD j (0, [], [])).2, ys4, rfl, rfl, hc, pairK_depth _, Rd.of (k6.at he5), I5.dk.mono k6.tu, hN _ _ (Kp.refl _ _) ?_⟩
            rw [mem_pairK I5.ks, Bool.false_bne]
            exact .bl _
          · rw [hzl, range_get es (fun z => PyData.bool (decide (z.2 ∈ got4))) (0, [], [])] at hr6
            obtain rfl := hr6.bls_map _
            refine ⟨D, _, rfl, SqL.of hl, _, rfl, ?_⟩
            have kk6 := kk5.trans (k6.no (S := At d))
            rw [List.all_map]
            refine ite2 (fun ht => ?_) (fun hf => ?_)
            · have hall : ∀ q ∈ succN ways p, q ∈ got4 := fun q hq => by
                rw [← hes] at hq
                obtain ⟨z, hz, rfl⟩ := List.mem_map.mp hq
                have := List.all_eq_true.mp ht z hz
                simpa using this
              have he6 := k6.at he5
              have hd6 := k6.at hd5
              have hr6 := k6.at hr5
              have hzs6 := hzs.mono k6.tu
              have I6 := I5.mono k6.tu
              have hkey6 := hkey5.mono k6.tu
              refine ⟨(show 1 ≤ sizeLine by decide), fun l0 hl0 => ?_⟩
              have k7 : Kp No H6 (upd H6 l0 (.lst [.int 0])) := Kp.new hl0
              have hl07 : upd H6 l0 (.lst [.int 0]) l0 = some (.lst [.int 0]) := upd_same
              generalize upd H6 l0 (.lst [.int 0]) = H7 at *
              refine ⟨_, rfl, r, rfl, ⟨_, SqL.of (k7.at hr6)⟩, fun D2 hD2 => ?_⟩
              refine lc_mapD (S := No) walk_list (by omega) hD2 (fun z => z) (fun j => .int (1 + intV ys4 (es.getD j (0, [], [])).2)) (fun H8 k8 => SqL.of (k8.at (k7.at hr6))) (fun j x H8 H9 acc N hj k8 hl8 hy8 hN => ?_) (fun acc2 H8 k8 hl8 hr8 => ?_)
              · obtain ⟨rfl, hx8⟩ := hy8
                have hj' : j < es.length := by omega
                obtain ⟨bx, u, c, rfl, hbx, hc⟩ := ent_at (hzs6.mono (k7.tu.trans k8.tu)) hj' hx8
                have hqg : (es.getD j (0, [], [])).2 ∈ got4 := hall _ (by rw [← hes]; exact List.mem_map.mpr ⟨_, List.mem_of_getElem? (getD_of hj' (0, [], [])), rfl⟩)
                exact ⟨bx, _, rfl, SqT.of hbx, rfl, _, _, rfl, _, _, rfl, rfl, rfl, _, rfl, _, rfl, c, e, pairK (es.getD j (0, [], [])).2, ys4, _, rfl, rfl, hc, pairK_depth _, Rd.of (k8.at (k7.at he6)), I6.dk.mono (k7.tu.trans k8.tu), I6.at2 hqg, 1, _, rfl, rfl, hN _ _ (Kp.refl _ _) (.int _)⟩
              · rw [hzl, range_get es (fun z => PyData.int (1 + intV ys4 z.2)) (0, [], [])] at hr8
                obtain rfl := hr8.ints_map _
                have kk8 := k7.trans k8
                refine ⟨l0, D2, [.int 0], _, rfl, rfl, k8.at hl07, hl8, by rw [List.length_map, List.length_map, List.length_singleton]; omega, fun l3 hl3 => ?_⟩
                refine ⟨l3, 0 :: es.map (fun z => 1 + intV ys4 z.2), rfl, SqL.of upd_same, Nat.succ_pos _, fun m _ _ => ⟨(show 2 ≤ sizeLine by decide), fun T2 hT2 => ?_⟩⟩
                have k9 : Kp No H8 (upd (upd H8 l3 (.lst ([V.int 0] ++ (es.map fun z => 1 + intV ys4 z.2).map V.int))) T2 (.tup [.int m, .bl true])) := (Kp.new hl3).trans (Kp.new hT2)
                have hT29 : upd (upd H8 l3 (.lst ([V.int 0] ++ (es.map fun z => 1 + intV ys4 z.2).map V.int))) T2 (.tup [.int m, .bl true]) T2 = some (.tup [.int m, .bl true]) := upd_same
                have k69 := kk8.trans k9
                generalize upd (upd H8 l3 (.lst ([V.int 0] ++ (es.map fun z => 1 + intV ys4 z.2).map V.int))) T2 (.tup [.int m, .bl true]) = H9 at *
                have he9 := k69.at he6
                have gl : got4.length ≤ keys.length := nodup_le _ _ G4.nd G4.sub
                have hyl : ys4.length = got4.length := by have := congrArg List.length I6.ks; rwa [List.length_map, List.length_map] at this
                have hnot : pairK p ∉ ys4.map (·.1) := by
                  have := mem_pairK (p := p) I6.ks
                  rw [decide_eq_false hpn] at this
                  exact of_decide_eq_false this
                have tke : TK H9 (upd H9 e (DnO P w e (ys4 ++ [(pairK p, av, .int m)]))) := fun b zs hb => by
                  rw [upd_ne (fun z => dn_notup zs (Option.some.inj (he9.symm.trans (by rw [← z]; exact hb))))]
                  exact hb
                have hde : d ≠ e := fun z => hed z.symm
                refine ⟨T2, _, rfl, SqT.of hT29, rfl, _, _, rfl, _, rfl, _, rfl, av, e, pairK p, ys4, rfl, rfl, hkey6.mono k69.tu, pairK_depth p, he9, I6.dk.mono k69.tu, hnot, by omega, _, _, rfl, rfl, ?_⟩
                refine ⟨got4 ++ [p], _, true, _, _, _, _, Kp.own (kk6.trans (k69.no (S := At d))) he he9 dn_notup, rfl, by rw [upd_ne hde]; exact k69.at hd6, upd_same, ⟨((I6.dk.mono k69.tu).mono tke).snoc ((hkey6.mono k69.tu).mono tke) (pairK_depth p), by rw [List.map_append, List.map_append, I6.ks]; rfl, fun y hy => ?_⟩, ⟨?_, fun q hq => ?_, fun q hq => ?_⟩, by rw [List.length_append]; omega, fun _ => by rw [List.length_append, List.length_singleton]; omega, fun z => by cases z⟩
                · rcases List.mem_append.mp hy with hy | hy
                  · exact I6.int y hy
                  · rw [List.mem_singleton.mp hy]
                    exact ⟨m, rfl⟩
                · rw [List.nodup_append]
                  exact ⟨G4.nd, List.nodup_cons.mpr ⟨List.not_mem_nil, List.nodup_nil⟩, fun a ha b hb z => hpn (by rw [List.mem_singleton.mp hb] at z; rw [← z]; exact ha)⟩
                · rcases List.mem_append.mp hq with hq | hq
                  · exact G4.sub q hq
                  · rw [List.mem_singleton.mp hq]; exact hpm
                · rcases List.mem_append.mp hq with hq | hq
                  · exact G4.ok q hq
                  · rw [List.mem_singleton.mp hq]
                    exact Ends.of fun q' hq' => G4.ok q' (hall q' hq')
            · refine none_added H6 _ _ _ _ k6 (.inr ?_)
              have hf' : ¬ ∀ z ∈ es, z.2 ∈ got4 := fun hz => hf (List.all_eq_true.mpr fun z hzm => by simpa using hz z hzm)
              have : ∃ z ∈ es, z.2 ∉ got4 := by
                apply Classical.byContradiction
                intro hn
                exact hf' fun z hz => Classical.byContradiction fun h => hn ⟨z, hz, h⟩
              obtain ⟨z, hz, hzn⟩ := this
              exact ⟨z.2, by rw [← hes]; exact List.mem_map.mpr ⟨z, hz, rfl⟩, hzn⟩
        · have hpk' : p ∈ got4 := by simpa using h
          exact none_added H5 _ _ _ _ (Kp.refl _ _) (.inl hpk')
      · obtain ⟨got4, ys4, g4, o3, o4, o5, o6, k4, rfl, hd4, he4, I4, G4, hle, hg1, hg2⟩ := h
        have gl : got4.length ≤ keys.length := nodup_le _ _ G4.nd G4.sub
        refine ⟨hd4, 2 * (5000 - got4.length) + (if g4 = true then 1 else 0), ?_, got4, ys4, g4, _, _, _, _, rfl, k4.trans (Kp.put rfl hd4 (by intro xs z; cases z)), rfl, upd_same, by rw [upd_ne hed]; exact he4, I4.mono (fun b zs hb => ?_), G4, fun hz p hp hall => ?_⟩
        · cases g4 with
          | true =>
            have := hg1 rfl
            show _ + 1 < _ + 1
            omega
          | false =>
            show _ + 0 < _ + 1
            omega
        · rw [upd_ne (fun z => by rw [z, hd4] at hb; cases hb)]
          exact hb
        · obtain ⟨j, hj⟩ := List.getElem?_of_mem hp
          exact (hg2 hz).2 j p (by have := (List.getElem?_eq_some_iff.mp hj).1; omega) hj hall
    · have hgf : g = false := by simpa using hg
      exact ⟨_, rfl, q e ys got H3 (k3.back hd hd3) he he3 I3 G3 (st3 hgf)⟩
end
end AA

/-! ## T5 -/
set_option Elab.async false
set_option linter.all false
set_option maxRecDepth 100000
set_option maxHeartbeats 4000000
namespace AA
open PySem PySem.Spec PyProof.Rows L2 PySem.W
theorem vals_ints : ∀ {ys : List Ent}, (∀ y ∈ ys, ∃ i : Int, y.2.2 = .int i) → ∃ ns : List Int, ys.map (·.2.2) = ns.map V.int ∧ ns.length = ys.length
  | [], _ => ⟨[], rfl, rfl⟩
  | y :: ys, h => by
    obtain ⟨ns, h1, h2⟩ := vals_ints fun z hz => h z (List.mem_cons_of_mem _ hz)
    obtain ⟨i, hi⟩ := h y List.mem_cons_self
    exact ⟨i :: ns, by rw [List.map_cons, List.map_cons, h1, hi], by rw [List.length_cons, List.length_cons, h2]⟩
theorem agree_one (ways : List Rows) : Agree 1 ways := fun p hp => by
  obtain ⟨j, k, h1, h2, _⟩ := mem_startsN.mp hp
  omega
section
variable {P : Program} {w : World} {K : PySem.W.Frag} {mg : Str → Option Value} {base : Heap}
abbrev s_days_of : Stmt := top 40
abbrev n_days_of : List Str := ["count", "ways", "steps", "found"]
theorem sc_days_of : FnScope n_days_of ["count", "ways"] (defScope s_days_of) := ⟨rfl, rfl, rfl, by decide +kernel, rfl, by decide +kernel, by decide +kernel⟩
def spDays : Sp := fun vs H Q _ => ∃ (y : V) (n : Nat) (ways : List Rows), vs = [.int (n : Int), y] ∧ Tp H y (waysD ways) ∧ WaysOk n ways ∧ 1 ≤ n ∧
  ∀ v H', Kp No H H' → ((∃ i, v = .int i) ∧ Agree n ways ∨ v = .non ∧ ¬ Agree n ways) → Q v H'
theorem ok_days_of {f : Addr} {fd : FuncData} (F : DefIn K mg "days_of" s_days_of ["count", "ways"] f fd) (B : Bt mg) (D_all_steps : Def P w K mg base "all_steps" 3 ["count", "ways"] (spAll P w)) (D_longest_rows : Def P w K mg base "longest_rows" 1 ["steps"] (spLong P w)) :
    Def P w K mg base "days_of" 4 ["count", "ways"] spDays := by
  refine F.ok sc_days_of (fun vs H Q E h => ?_) (fun cdv A outer s H vs Q E hr h => ?_)
  · obtain ⟨y, _, _, rfl, _⟩ := h
    rfl
  · obtain ⟨y, n, ways, rfl, hy, W, hn, q⟩ := h
    refine ⟨_, (pss_cons (ps_if (pt_cmpR op_eq (pv 0) pe_int (nomark _))
      (pss_one (ps_ret pe_int))
      pss_nil)
      (pss_cons (ps_set (i := 2) sc_days_of.nd rfl (by first | exact Or.inl rfl | exact Or.inr rfl) (pe_def (D_all_steps.mono (by decide)) hr (by rfl) (pa_cons (pv 0) (pa_cons (pv 1) pa_nil))))
      (pss_cons (ps_set (i := 3) sc_days_of.nd rfl (by first | exact Or.inl rfl | exact Or.inr rfl) (pe_def (D_longest_rows.mono (by decide)) hr (by rfl) (pa_cons (pv 2) pa_nil)))
      (pss_one (ps_ret (pe_ifExp (pt_cmpR op_lt (pe_callB (r_dnLen P w) (by rfl) B.len (by decide +kernel) (pa_cons (pv 3) pa_nil)) (pe_callB (r_dnLen P w) (by rfl) B.len (by decide +kernel) (pa_cons (pv 2) pa_nil)) (nomark _)) pe_non (pe_op op_add pe_int (pe_callB (r_max K) (by rfl) B.max (by decide +kernel) (pa_cons (pe_listVals P w (pv 3) (by rfl) B.list) pa_nil))))))))), ?_⟩
    refine ⟨_, rfl, rfl, _, rfl, ?_⟩
    refine ite2 (fun h => ?_) (fun h => ?_)
    · have hn1 : n = 1 := by
        have := V.int.inj (of_decide_eq_true h)
        omega
      subst hn1
      exact q _ _ (Kp.refl _ _) (.inl ⟨⟨_, rfl⟩, agree_one ways⟩)
    · have hn2 : 2 ≤ n := by
        have : ¬ ((n : Int) = 1) := fun e => h (decide_eq_true (congrArg V.int e))
        omega
      refine ⟨_, rfl, _, rfl, _, n, ways, rfl, hy, W, fun d xs keys H1 k1 hd0 hd S Fo few => ?_⟩
      refine ⟨_, rfl, d, xs, keys, startsN n, ways, rfl, hd, S, Fo, few, W.few, fun e ys got H2 k2 he0 he I G st => ?_⟩
      have hxl : xs.length = keys.length := by have := congrArg List.length S.ks; rwa [List.length_map, List.length_map] at this
      have hyl : ys.length = got.length := by have := congrArg List.length I.ks; rwa [List.length_map, List.length_map] at this
      have cnt := G.count Fo st
      have S2 := S.mono k2
      refine ⟨_, rfl, e, ys, rfl, Rd.of he, I.dk, _, rfl, d, xs, rfl, Rd.of (k2.at hd), S2.dk, ?_⟩
      refine ⟨_, _, rfl, rfl, _, rfl, ?_⟩
      refine ite2 (fun h => ?_) (fun h => ?_)
      · refine q _ _ (k1.trans k2) (.inr ⟨rfl, cnt.mp ?_⟩)
        have := of_decide_eq_true h
        omega
      · have hge : ¬ got.length < keys.length := fun z => h (decide_eq_true (by omega))
        have hag : Agree n ways := Classical.byContradiction fun z => hge (cnt.mpr z)
        have hk0 : 0 < keys.length := List.length_pos_of_mem (Fo.st ([0], [1]) (mem_startsN.mpr ⟨0, 1, by omega, by omega, rfl⟩))
        obtain ⟨ns, hns, hnl⟩ := vals_ints I.int
        refine ⟨_, rfl, e, ys, rfl, Rd.of he, fun l hl => ?_⟩
        refine ⟨l, ns, rfl, SqL.of (by rw [← hns]; exact upd_same), by omega, fun m _ _ => ?_⟩
        refine ⟨_, _, rfl, rfl, q _ _ ((k1.trans k2).trans (Kp.new hl)) (.inl ⟨⟨_, rfl⟩, hag⟩)⟩

abbrev s_is_good : Stmt := top 50
abbrev n_is_good : List Str := ["count", "ways"]
theorem sc_is_good : FnScope n_is_good ["count", "ways"] (defScope s_is_good) := ⟨rfl, rfl, rfl, by decide +kernel, rfl, by decide +kernel, by decide +kernel⟩
def spGood : Sp := fun vs H Q _ => ∃ (y : V) (n : Nat) (ways : List Rows), vs = [.int (n : Int), y] ∧ Tp H y (waysD ways) ∧ WaysOk n ways ∧ 1 ≤ n ∧
  ∀ b H', Kp No H H' → (b = true ↔ ways ≠ [] ∧ Agree n ways) → Q (.bl b) H'
theorem ok_is_good {f : Addr} {fd : FuncData} (F : DefIn K mg "is_good" s_is_good ["count", "ways"] f fd) (B : Bt mg) (D_days_of : Def P w K mg base "days_of" 4 ["count", "ways"] spDays) :
    Def P w K mg base "is_good" 5 ["count", "ways"] spGood := by
  refine F.ok sc_is_good (fun vs H Q E h => ?_) (fun cdv A outer s H vs Q E hr h => ?_)
  · obtain ⟨y, _, _, rfl, _⟩ := h
    rfl
  · obtain ⟨y, n, ways, rfl, hy, W, hn, q⟩ := h
    refine ⟨_, (pss_one (ps_ret (pe_and (pe_cmpR (o_neD K hr.units) (pv 1) (pe_tup pa_nil) (nomark _)) (pe_one (pe_cmpR op_notN (pe_def (D_days_of.mono (by decide)) hr (by rfl) (pa_cons (pv 0) (pa_cons (pv 1) pa_nil))) pe_non (nomark _)))))), ?_⟩
    refine ⟨_, rfl, (show 0 ≤ sizeLine by decide), fun p0 hp0 => ⟨waysD ways, .tuple [], (hy.mono (TK.new hp0)).dp K, .tup (SqT.of upd_same) .nil, shaped_of (waysD_lay _) (by have := waysD_depth ways; omega), nilT_shaped, _, rfl, ?_⟩⟩
    have k1 : Kp No H (upd H p0 (.tup [])) := Kp.new hp0
    generalize upd H p0 (.tup []) = H1 at *
    unfold waysD
    rw [eqv_nilT]
    refine ite2 (fun h => ?_) (fun h => ?_)
    · have hw : ways ≠ [] := fun e => by subst e; cases h
      refine ⟨_, rfl, _, rfl, _, n, ways, rfl, hy.mono k1.tu, W, hn, fun v H2 k2 hv => ⟨rfl, ?_⟩⟩
      rcases hv with ⟨⟨i, rfl⟩, hag⟩ | ⟨rfl, hna⟩
      · exact q _ _ (k1.trans k2) ⟨fun _ => ⟨hw, hag⟩, fun _ => rfl⟩
      · exact q _ _ (k1.trans k2) ⟨(fun z => by cases z), fun z => absurd z.2 hna⟩
    · have hw : ways = [] := by
        cases ways with
        | nil => rfl
        | cons x l => exact absurd rfl h
      exact q _ _ k1 ⟨(fun z => by cases z), fun z => absurd hw z.1⟩
end
end AA

/-! ## T6 -/
set_option Elab.async false
set_option linter.all false
set_option maxRecDepth 100000
set_option maxHeartbeats 4000000
namespace AA
open PySem PySem.Spec PyProof.Rows L2 PySem.W
def natsD (l : List Nat) : PyData := .list (l.map fun (k : Nat) => PyData.int (k : Int))
def heardD (ways : List Rows) : PyData := .list (ways.map fun rows => .list (rows.map fun row => natsD (heardRow row)))
def bitsD (ways : List Rows) : PyData := .list (ways.map fun rows => natsD (bitsWay rows))
theorem take_map {α β : Type} (l : List α) (f : α → β) (d : α) {i : Nat} (h : i < l.length) : (l.take (i + 1)).map f = (l.take i).map f ++ [f (l.getD i d)] := by
  rw [List.take_succ, getD_of h d, List.map_append]
  rfl
section
variable {P : Program} {w : World} {K : PySem.W.Frag} {mg : Str → Option Value} {base : Heap}
abbrev s__law_heard : Stmt := top 63
abbrev n__law_heard : List Str := ["_law_ways_here", "_law_found", "_law_rows", "_law_lines_here", "_law_row_here", "_law_k"]
theorem sc__law_heard : FnScope n__law_heard ["_law_ways_here"] (defScope s__law_heard) := ⟨rfl, rfl, rfl, by decide +kernel, rfl, by decide +kernel, by decide +kernel⟩
def spHeard : Sp := fun vs H Q _ => ∃ (y : V) (n : Nat) (ways : List Rows), vs = [y] ∧ Tp H y (waysD ways) ∧ WaysOk n ways ∧
  ∀ a H', Kp No H H' → H a = none → Lp No H' (.ref a) (heardD ways) → Q (.ref a) H'
theorem ok__law_heard {f : Addr} {fd : FuncData} (F : DefIn K mg "_law_heard" s__law_heard ["_law_ways_here"] f fd) (B : Bt mg) : Def P w K mg base "_law_heard" 1 ["_law_ways_here"] spHeard := by
  refine F.ok sc__law_heard (fun vs H Q E h => ?_) (fun cdv A outer s H vs Q E hr h => ?_)
  · obtain ⟨y, _, _, rfl, _⟩ := h
    rfl
  · obtain ⟨y, n, ways, rfl, hy, W, q⟩ := h
    refine ⟨_, (pss_cons (ps_set (i := 1) sc__law_heard.nd rfl (by first | exact Or.inl rfl | exact Or.inr rfl) (pe_lst pa_nil))
      (pss_cons (ps_for PassesOwn.never rfl (pi_tupK K (pv 0)) (pg_name (i := 2) sc__law_heard.nd rfl (by first | exact Or.inl rfl | exact Or.inr rfl))
      (pss_cons (ps_set (i := 3) sc__law_heard.nd rfl (by first | exact Or.inl rfl | exact Or.inr rfl) (pe_lst pa_nil))
        (pss_cons (ps_for PassesOwn.never rfl (pi_tupK K (pv 2)) (pg_name (i := 4) sc__law_heard.nd rfl (by first | exact Or.inl rfl | exact Or.inr rfl))
        (pss_one (ps_expr (pe_bm PySem.F.plainAttrs_list PySem.F.slot_list_append PySem.F.type_list_append mt_append (pv 3) (pa_cons (pe_lc rfl sc__law_heard.nd (pi_range1 rfl B.range (pa_cons (pe_callB (r_len K) (by rfl) B.len (by decide +kernel) (pa_cons (pv 4) pa_nil)) pa_nil)) (blkOk_by (own := [("_law_k", 5)]) (N := n__law_heard) (sc := defScope s__law_heard) (by decide +kernel)) (fun _ _ _ _ _ => (pg_name (i := 5) sc__law_heard.nd rfl (by first | exact Or.inl rfl | exact Or.inr rfl))) (fun _ _ _ _ _ => (pts_one (pt_cmpR op_gt (pe_ix (x_tup K) (pv 4) (pv 5) (fun _ _ => rfl)) pe_int (nomark _)))) (fun _ _ _ _ _ => (pv 5))) pa_nil)))))
        (pss_one (ps_expr (pe_bm PySem.F.plainAttrs_list PySem.F.slot_list_append PySem.F.type_list_append mt_append (pv 1) (pa_cons (pv 3) pa_nil)))))))
      (pss_one (ps_ret (pv 1))))), ?_⟩
    obtain ⟨a, xs, rfl, ha, hall⟩ := hy.tuple
    have hxl : xs.length = ways.length := by rw [hall.length, List.length_map]
    have n6 := W.n6
    have few := W.few
    have hsz : (1000 : Nat) < sizeLine := by decide
    refine ⟨(show 0 ≤ sizeLine by decide), fun r hr0 => ?_⟩
    refine ⟨_, rfl, a, rfl, ⟨xs, SqT.of ((Kp.new (S := No) hr0).at ha)⟩, ?_⟩
    refine for_it walk_tup (fun i σ H3 => Kp No H H3 ∧ ∃ o2 o3 o4 o5 vs, σ = [some (.ref a), some (.ref r), o2, o3, o4, o5] ∧ H3 r = some (.lst vs) ∧ LpAll (At r) H3 vs ((ways.take i).map fun rows => .list (rows.map fun row => natsD (heardRow row))))
      ⟨Kp.new hr0, _, _, _, _, _, rfl, upd_same, .nil⟩ (fun i σ H3 _ h => SqT.of (h.1.tu _ _ ha)) (fun i x σ H3 H3' hi h hy => ?_) (fun σ H3 h => ?_)
    · obtain ⟨k, o2, o3, o4, o5, vs, rfl, hr3, hvs⟩ := h
      obtain ⟨rfl, hx⟩ := hy
      have hi' : i < ways.length := by omega
      obtain ⟨d, hd, hv⟩ := hall.get hx
      rw [List.getElem?_map, getD_of hi' []] at hd
      obtain rfl := Option.some.inj hd
      have hW := W.way _ (List.mem_of_getElem? (getD_of hi' []))
      rw [take_map ways _ [] hi']
      generalize ways.getD i [] = rows at *
      have hv3 := hv.mono k.tu
      have hvl : vs.length ≤ 6 := by
        rw [hvs.length, List.length_map, List.length_take]
        omega
      obtain ⟨c, zs, rfl, hc, hzs⟩ := hv3.tuple
      have hzl : zs.length = rows.length := by rw [hzs.length, List.length_map]
      have hrl := hW.len
      refine ⟨(show 0 ≤ sizeLine by decide), fun l hl0 => ?_⟩
      have hrl0 : r ≠ l := ne_of_none hr3 hl0
      refine ⟨_, rfl, c, rfl, ⟨zs, SqT.of ((Kp.new (S := No) hl0).at hc)⟩, ?_⟩
      refine for_it walk_tup (fun j σ H5 => Kp No H3' H5 ∧ ∃ o4 o5 us, σ = [some (.ref a), some (.ref r), some (.ref c), some (.ref l), o4, o5] ∧ H5 l = some (.lst us) ∧ LpAll (fun b => b = r ∨ b = l) H5 us ((rows.take j).map fun row => natsD (heardRow row)))
        ⟨Kp.new hl0, _, _, _, rfl, upd_same, .nil⟩ (fun j σ H5 _ h => SqT.of (h.1.tu _ _ hc)) (fun j x σ H5 H5' hj h hy => ?_) (fun σ H5 h => ?_)
      · obtain ⟨k5, o4, o5, us, rfl, hl5, hus⟩ := h
        obtain ⟨rfl, hx⟩ := hy
        have hj' : j < rows.length := by omega
        obtain ⟨d, hd, hv⟩ := hzs.get hx
        rw [List.getElem?_map, getD_of hj' []] at hd
        obtain rfl := Option.some.inj hd
        have hR := hW.row _ (List.mem_of_getElem? (getD_of hj' []))
        rw [take_map rows _ [] hj']
        generalize rows.getD j [] = row at *
        have hul : us.length ≤ 6 := by
          rw [hus.length, List.length_map, List.length_take]
          omega
        obtain ⟨b, ws, rfl, hb, hws⟩ := (hv.mono k5.tu).tuple
        obtain rfl := hws.ints_inv
        have hr5 := k5.at hr3
        refine ⟨_, rfl, .inl ⟨rfl, _, SqL.of hl5⟩, _, rfl, b, _, rfl, .inr (SqT.of hb), ((row.map V.int).length : Int), rfl, by rw [List.length_map]; omega, by rw [List.length_map]; omega, fun D hD => ?_⟩
        rw [Int.toNat_natCast, List.length_map]
        refine lc_filtD (S := No) walk_range0 (by omega) hD (fun z => z) (fun k => decide (0 < row.getD k 0)) (fun k => .int (k : Int)) (fun _ _ => True.intro) (fun m x H6 H7 acc N N0 hm k6 hacc hy hN hN0 => ?_) (fun acc H6 k6 hacc hr6 => ?_)
        · obtain ⟨rfl, rfl⟩ := hy
          refine ⟨rfl, _, rfl, _, rfl, b, _, (m : Int), _, rfl, rfl, SqT.of (k6.tu _ _ hb), atI_nat (by rw [List.getElem?_map, getD_of hm 0]; rfl), _, _, rfl, rfl, _, rfl, ?_⟩
          exact ite2 (fun h => ⟨_, rfl, hN _ _ h (Kp.refl _ _) (.int _)⟩) fun h => hN0 _ (Bool.eq_false_iff.mpr h) (Kp.refl _ _)
        · have hDr : D ≠ r := fun z => by rw [z, hr5] at hD; cases hD
          have hDl : D ≠ l := fun z => by rw [z, hl5] at hD; cases hD
          have hl6 := k6.at hl5
          have kp : Kp (fun b => b = r ∨ b = l) H6 (upd H6 l (.lst (us ++ [.ref D]))) := Kp.put (.inr rfl) hl6 (by intro xs z; cases z)
          refine ⟨l, us, _, rfl, rfl, hl6, by omega, Kp.own (k5.trans k6) hl0 hl6 (by intro xs z; cases z), _, _, _, rfl, upd_same, ?_⟩
          refine LpAll.mono kp (fun b h => h) ?_
          refine (hus.mono k6.no fun b h => h).snoc (.lst (fun z => z.elim hDr hDl) hacc ?_)
          exact TpAll.lp hr6
      · obtain ⟨k5, o4, o5, us, rfl, hl5, hus⟩ := h
        have hr5 := k5.at hr3
        have kp : Kp (At r) H5 (upd H5 r (.lst (vs ++ [.ref l]))) := Kp.put rfl hr5 (by intro xs z; cases z)
        refine ⟨_, rfl, .inl ⟨rfl, _, SqL.of hr5⟩, _, rfl, r, vs, _, rfl, rfl, hr5, by omega, Kp.own (k.trans k5) hr0 hr5 (by intro xs z; cases z), _, _, _, _, _, rfl, upd_same, ?_⟩
        refine LpAll.mono kp (fun b h => h) ?_
        refine (hvs.mono k5.no fun b h => h).snoc (.lst (fun z => hrl0 z.symm) hl5 ?_)
        rw [hzl, List.take_length] at hus
        exact hus.weak fun b h => .inl h
    · obtain ⟨k, o2, o3, o4, o5, vs, rfl, hr3, hvs⟩ := h
      rw [hxl, List.take_length] at hvs
      exact ⟨_, rfl, q r H3 k hr0 (.lst (fun z => z) hr3 (hvs.weak fun b h => h.elim))⟩

abbrev s__law_bits : Stmt := top 64
abbrev n__law_bits : List Str := ["_law_heard_here", "_law_rows", "_law_powers", "_law_found", "_law_row_here", "_law_k"]
theorem sc__law_bits : FnScope n__law_bits ["_law_heard_here"] (defScope s__law_bits) := ⟨rfl, rfl, rfl, by decide +kernel, rfl, by decide +kernel, by decide +kernel⟩
def spBits : Sp := fun vs H Q _ => ∃ (y : V) (n : Nat) (ways : List Rows), vs = [y] ∧ Lp No H y (heardD ways) ∧ WaysOk n ways ∧
  ∀ a H', Kp No H H' → H a = none → Lp No H' (.ref a) (bitsD ways) → Q (.ref a) H'
theorem ok__law_bits {f : Addr} {fd : FuncData} (F : DefIn K mg "_law_bits" s__law_bits ["_law_heard_here"] f fd) (B : Bt mg) : Def P w K mg base "_law_bits" 1 ["_law_heard_here"] spBits := by
  refine F.ok sc__law_bits (fun vs H Q E h => ?_) (fun cdv A outer s H vs Q E hr h => ?_)
  · obtain ⟨y, _, _, rfl, _⟩ := h
    rfl
  · obtain ⟨y, n, ways, rfl, hy, W, q⟩ := h
    refine ⟨_, (pss_cons (ps_asg (pe_tup (pa_cons (pe_lst (pa_cons pe_int (pa_cons pe_int (pa_cons pe_int (pa_cons pe_int (pa_cons pe_int (pa_cons pe_int pa_nil))))))) (pa_cons (pe_lst pa_nil) pa_nil))) (pg_tupK K 2 (pgs_cons (pg_name (i := 2) sc__law_bits.nd rfl (by first | exact Or.inl rfl | exact Or.inr rfl)) (pgs_cons (pg_name (i := 3) sc__law_bits.nd rfl (by first | exact Or.inl rfl | exact Or.inr rfl)) pgs_nil))))
      (pss_cons (ps_for PassesOwn.never rfl (pi_listK K (pv 0)) (pg_name (i := 1) sc__law_bits.nd rfl (by first | exact Or.inl rfl | exact Or.inr rfl))
      (pss_one (ps_expr (pe_bm PySem.F.plainAttrs_list PySem.F.slot_list_append PySem.F.type_list_append mt_append (pv 3) (pa_cons (pe_lc rfl sc__law_bits.nd (pi_listK K (pv 1)) (blkOk_by (own := [("_law_row_here", 4)]) (N := n__law_bits) (sc := defScope s__law_bits) (by decide +kernel)) (fun _ _ _ _ _ => (pg_name (i := 4) sc__law_bits.nd rfl (by first | exact Or.inl rfl | exact Or.inr rfl))) (fun _ _ _ _ _ => pts_nil) (fun _ _ _ _ _ => (pe_callB (r_sum K) (by rfl) B.sum (by decide +kernel) (pa_cons (pe_lc rfl sc__law_bits.nd (pi_listK K (pv 4)) (blkOk_by (own := [("_law_k", 5)]) (N := n__law_bits) (sc := relS _ (defScope s__law_bits)) (by decide +kernel)) (fun _ _ _ _ _ => (pg_name (i := 5) sc__law_bits.nd rfl (by first | exact Or.inl rfl | exact Or.inr rfl))) (fun _ _ _ _ _ => pts_nil) (fun _ _ _ _ _ => (pe_ix (x_list K) (pv 2) (pv 5) (fun _ _ => rfl)))) pa_nil)))) pa_nil)))))
      (pss_one (ps_ret (pv 3))))), ?_⟩
    obtain ⟨a, xs, rfl, _, ha, hall⟩ := hy.list
    have hxl : xs.length = ways.length := by rw [hall.length, List.length_map]
    have n6 := W.n6
    have few := W.few
    have hsz : (1000 : Nat) < sizeLine := by decide
    refine ⟨(show 6 ≤ sizeLine by decide), fun g hg0 => ⟨(show 0 ≤ sizeLine by decide), fun r hr0 => ⟨(show 2 ≤ sizeLine by decide), fun T hT => ⟨T, _, rfl, SqT.of upd_same, rfl, _, _, rfl, _, _, rfl, rfl, ?_⟩⟩⟩⟩
    have hr00 : H r = none := (Kp.new (S := No) hg0).fr r hr0
    have k1 : Kp No H (upd (upd (upd H g (.lst [.int 1, .int 2, .int 4, .int 8, .int 16, .int 32])) r (.lst [])) T (.tup [.ref g, .ref r])) := ((Kp.new hg0).trans (Kp.new hr0)).trans (Kp.new hT)
    have hg1 : upd (upd (upd H g (.lst [.int 1, .int 2, .int 4, .int 8, .int 16, .int 32])) r (.lst [])) T (.tup [.ref g, .ref r]) g = some (.lst [.int 1, .int 2, .int 4, .int 8, .int 16, .int 32]) := (Kp.new (S := No) hT).at ((Kp.new (S := No) hr0).at upd_same)
    have hr1 : upd (upd (upd H g (.lst [.int 1, .int 2, .int 4, .int 8, .int 16, .int 32])) r (.lst [])) T (.tup [.ref g, .ref r]) r = some (.lst []) := (Kp.new (S := No) hT).at upd_same
    generalize upd (upd (upd H g (.lst [.int 1, .int 2, .int 4, .int 8, .int 16, .int 32])) r (.lst [])) T (.tup [.ref g, .ref r]) = H1 at *
    have hgr : g ≠ r := fun z => by
      rw [z, hr1] at hg1
      cases hg1
    refine ⟨_, rfl, a, rfl, ⟨xs, SqL.of (k1.at ha)⟩, ?_⟩
    refine for_it walk_list (fun i σ H3 => Kp No H H3 ∧ H3 g = some (.lst [.int 1, .int 2, .int 4, .int 8, .int 16, .int 32]) ∧ ∃ o1 o4 o5 vs, σ = [some (.ref a), o1, some (.ref g), some (.ref r), o4, o5] ∧ H3 r = some (.lst vs) ∧ LpAll (At r) H3 vs ((ways.take i).map fun rows => natsD (bitsWay rows)))
      ⟨k1, hg1, _, _, _, _, rfl, hr1, .nil⟩ (fun i σ H3 _ h => SqL.of (h.1.at ha)) (fun i x σ H3 H3' hi h hy => ?_) (fun σ H3 h => ?_)
    · obtain ⟨k, hg3, o1, o4, o5, vs, rfl, hr3, hvs⟩ := h
      obtain ⟨rfl, hx⟩ := hy
      have hi' : i < ways.length := by omega
      obtain ⟨d, hd, hv⟩ := hall.get hx
      rw [List.getElem?_map, getD_of hi' []] at hd
      obtain rfl := Option.some.inj hd
      have hW := W.way _ (List.mem_of_getElem? (getD_of hi' []))
      rw [take_map ways _ [] hi']
      generalize ways.getD i [] = rows at *
      have hv3 := hv.mono k fun b h => h
      have hvl : vs.length ≤ 6 := by
        rw [hvs.length, List.length_map, List.length_take]
        omega
      obtain ⟨c, zs, rfl, _, hc, hzs⟩ := hv3.list
      have hzl : zs.length = rows.length := by rw [hzs.length, List.length_map]
      have hrl := hW.len
      refine ⟨_, rfl, .inl ⟨rfl, _, SqL.of hr3⟩, _, rfl, c, rfl, ⟨zs, SqL.of hc⟩, fun D hD => ?_⟩
      refine lc_mapD (S := No) walk_list (by omega) hD (fun z => z) (fun j => .int ((bitsRow (rows.getD j []) : Nat) : Int)) (fun H5 k5 => SqL.of (k5.at hc)) (fun j x H5 H6 acc N hj k5 hl hy5 hN => ?_) (fun acc H5 k5 hl5 hr5 => ?_)
      · obtain ⟨rfl, hx⟩ := hy5
        have hj' : j < rows.length := by omega
        obtain ⟨d, hd, hv⟩ := hzs.get hx
        rw [List.getElem?_map, getD_of hj' []] at hd
        obtain rfl := Option.some.inj hd
        have hR := hW.row _ (List.mem_of_getElem? (getD_of hj' []))
        generalize rows.getD j [] = row at *
        obtain ⟨b, ws, rfl, _, hb, hws⟩ := (hv.mono k5 fun b h => h).list
        rw [lot_vals] at hws
        obtain rfl := hws.ints_inv
        have hhl : (heardRow row).length ≤ 6 := by
          unfold heardRow
          refine Nat.le_trans (List.length_filter_le _ _) ?_
          rw [List.length_range]
          omega
        refine ⟨rfl, _, rfl, b, rfl, ⟨_, SqL.of hb⟩, fun D2 hD2 => ?_⟩
        refine lc_mapD (S := No) walk_list (by rw [List.length_map, List.length_map]; omega) hD2 (fun z => z) (fun m => .int ((2 ^ ((heardRow row).getD m 0) : Nat) : Int)) (fun H7 k7 => SqL.of (k7.at hb)) (fun m x H7 H8 acc2 N2 hm k7 hl7 hy7 hN2 => ?_) (fun acc2 H7 k7 hl7 hr7 => ?_)
        · obtain ⟨rfl, hx⟩ := hy7
          rw [List.length_map, List.length_map] at hm
          rw [List.getElem?_map, List.getElem?_map, getD_of hm 0] at hx
          obtain rfl := Option.some.inj hx
          have hk6 : (heardRow row).getD m 0 < 6 := by
            have := (List.mem_filter.mp (List.mem_of_getElem? (getD_of hm 0))).1
            have := List.mem_range.mp this
            omega
          generalize (heardRow row).getD m 0 = e at *
          have hat : ∀ e : Nat, e < 6 → ([V.int 1, .int 2, .int 4, .int 8, .int 16, .int 32])[e]? = some (.int ((2 ^ e : Nat) : Int)) := by
            intro e he
            match e, he with
            | 0, _ => rfl
            | 1, _ => rfl
            | 2, _ => rfl
            | 3, _ => rfl
            | 4, _ => rfl
            | 5, _ => rfl
          exact ⟨rfl, _, rfl, _, rfl, g, _, (e : Int), _, rfl, rfl, SqL.of ((k5.trans k7).at hg3), atI_nat (hat e hk6), hN2 _ _ (Kp.refl _ _) (.int _)⟩
        · rw [List.length_map, List.length_map, range_get (heardRow row) (fun e => PyData.int ((2 ^ e : Nat) : Int)) 0] at hr7
          obtain rfl := hr7.ints_map _
          refine ⟨D2, _, rfl, SqL.of hl7, hN _ _ k7 ?_⟩
          have hsum : ((heardRow row).map fun e => ((2 ^ e : Nat) : Int)).sum = ((bitsRow row : Nat) : Int) := by
            unfold bitsRow
            generalize heardRow row = l
            induction l with
            | nil => rfl
            | cons x l ih => rw [List.map_cons, List.map_cons, List.sum_cons, List.sum_cons, ih, Int.natCast_add]
          rw [hsum]
          exact .int _
      · have hr5' := k5.at hr3
        have hDr : D ≠ r := fun z => by rw [z, hr3] at hD; cases hD
        have hgr5 : g ≠ r := hgr
        have kp : Kp (At r) H5 (upd H5 r (.lst (vs ++ [.ref D]))) := Kp.put rfl hr5' (by intro xs z; cases z)
        refine ⟨r, vs, _, rfl, rfl, hr5', by omega, Kp.own (k.trans k5) hr00 hr5' (by intro xs z; cases z), by rw [upd_ne hgr]; exact k5.at hg3, _, _, _, _, rfl, upd_same, ?_⟩
        refine LpAll.mono kp (fun b h => h) ?_
        refine (hvs.mono k5.no fun b h => h).snoc (.lst (fun z => hDr z) hl5 ?_)
        rw [hzl, range_get rows (fun row => PyData.int ((bitsRow row : Nat) : Int)) []] at hr5
        have e : (rows.map fun row => PyData.int ((bitsRow row : Nat) : Int)) = (bitsWay rows).map fun (k : Nat) => PyData.int (k : Int) := by
          unfold bitsWay
          rw [List.map_map]
          rfl
        rw [e] at hr5
        exact TpAll.lp hr5
    · obtain ⟨k, hg3, o1, o4, o5, vs, rfl, hr3, hvs⟩ := h
      rw [hxl, List.take_length] at hvs
      exact ⟨_, rfl, q r H3 k hr00 (.lst (fun z => z) hr3 (hvs.weak fun b h => h.elim))⟩
end
end AA

/-! ## T7 -/
set_option Elab.async false
set_option linter.all false
set_option maxRecDepth 100000
set_option maxHeartbeats 4000000
namespace AA
open PySem PySem.Spec PyProof.Rows L2 PySem.W
section
variable {P : Program} {w : World} {K : PySem.W.Frag} {mg : Str → Option Value} {base : Heap}
abbrev s__law_ears : Stmt := top 65
abbrev n__law_ears : List Str := ["_law_rows", "_law_herd", "_law_tally", "_law_at", "_law_found", "_law_power"]
theorem sc__law_ears : FnScope n__law_ears ["_law_rows", "_law_herd", "_law_tally"] (defScope s__law_ears) := ⟨rfl, rfl, rfl, by decide +kernel, rfl, by decide +kernel, by decide +kernel⟩
def spLEars : Sp := fun vs H Q _ => ∃ (y : V) (n herd : Nat) (bits : List Nat), vs = [y, .int (herd : Int), .int (n : Int)] ∧ Lp No H y (natsD bits) ∧ bits.length = n ∧ n ≤ 6 ∧
  ∀ H', Kp No H H' → Q (.int ((earsUpto bits herd n : Nat) : Int)) H'
theorem ok__law_ears {f : Addr} {fd : FuncData} (F : DefIn K mg "_law_ears" s__law_ears ["_law_rows", "_law_herd", "_law_tally"] f fd) (B : Bt mg) : Def P w K mg base "_law_ears" 1 ["_law_rows", "_law_herd", "_law_tally"] spLEars := by
  refine F.ok sc__law_ears (fun vs H Q E h => ?_) (fun cdv A outer s H vs Q E hr h => ?_)
  · obtain ⟨y, _, _, _, rfl, _⟩ := h
    rfl
  · obtain ⟨y, n, herd, bits, rfl, hy, hb, n6, q⟩ := h
    refine ⟨_, (pss_cons (ps_asg (pe_tup (pa_cons pe_int (pa_cons pe_int pa_nil))) (pg_tupK K 2 (pgs_cons (pg_name (i := 4) sc__law_ears.nd rfl (by first | exact Or.inl rfl | exact Or.inr rfl)) (pgs_cons (pg_name (i := 5) sc__law_ears.nd rfl (by first | exact Or.inl rfl | exact Or.inr rfl)) pgs_nil))))
      (pss_cons (ps_for PassesOwn.never rfl (pi_range1 rfl B.range (pa_cons (pv 2) pa_nil)) (pg_name (i := 3) sc__law_ears.nd rfl (by first | exact Or.inl rfl | exact Or.inr rfl))
      (pss_cons (ps_if (pt_cmpR op_eq (pe_op op_mod (pe_callTy call_int1 (by rfl) B.int (by decide +kernel) (pa_cons (pe_op op_fdiv (pv 1) (pv 5)) pa_nil)) pe_int) pe_int (nomark _))
        (pss_one (ps_set (i := 4) sc__law_ears.nd rfl (by first | exact Or.inl rfl | exact Or.inr rfl) (pe_op op_or (pv 4) (pe_ix (x_list K) (pv 0) (pv 3) (fun _ _ => rfl)))))
        pss_nil)
        (pss_one (ps_set (i := 5) sc__law_ears.nd rfl (by first | exact Or.inl rfl | exact Or.inr rfl) (pe_op op_mul pe_int (pv 5))))))
      (pss_one (ps_ret (pv 4))))), ?_⟩
    obtain ⟨a, xs, rfl, _, ha, hall⟩ := hy.list
    rw [lot_vals] at hall
    obtain rfl := hall.ints_inv
    have pw6 : ∀ e : Nat, e ≤ 6 → 2 ^ e ≤ 64 := fun e he => by
      have : 2 ^ e ≤ 2 ^ 6 := Nat.pow_le_pow_right (by decide) he
      exact this
    refine ⟨(show 2 ≤ sizeLine by decide), fun T hT => ⟨T, _, rfl, SqT.of upd_same, rfl, _, _, rfl, _, _, rfl, rfl, ?_⟩⟩
    refine ⟨_, rfl, (n : Int), rfl, by omega, by omega, ?_⟩
    rw [Int.toNat_natCast]
    refine for_it walk_range0 (fun i σ H3 => Kp No H H3 ∧ ∃ o3, σ = [some (.ref a), some (.int (herd : Int)), some (.int (n : Int)), o3, some (.int ((earsUpto bits herd i : Nat) : Int)), some (.int ((2 ^ i : Nat) : Int))])
      ⟨Kp.new hT, _, rfl⟩ (fun _ _ _ _ _ => True.intro) (fun i x σ H3 H4 hi h hy => ?_) (fun σ H3 h => ?_)
    · obtain ⟨k, o3, rfl⟩ := h
      obtain ⟨rfl, rfl⟩ := hy
      have pw := pw6 i (by omega)
      have pp : 0 < 2 ^ i := Nat.two_pow_pos i
      refine ⟨_, rfl, _, rfl, _, _, rfl, rfl, ⟨by omega, by omega⟩, .inl ⟨_, rfl, _, _, rfl, rfl, (by decide : (0 : Int) < 2), rfl, _, rfl, ?_⟩⟩
      have e1 : ((herd : Int) / ((2 ^ i : Nat) : Int)) % 2 = ((herd / 2 ^ i % 2 : Nat) : Int) := rfl
      have hbi : i < bits.length := by omega
      have e2 : (2 : Int) * ((2 ^ i : Nat) : Int) = ((2 ^ (i + 1) : Nat) : Int) := by rw [Nat.pow_succ]; omega
      have eu : earsUpto bits herd (i + 1) = if herd / 2 ^ i % 2 = 1 then earsUpto bits herd i ||| bits.getD i 0 else earsUpto bits herd i := rfl
      refine ite2 (fun h => ?_) (fun h => ?_)
      · have hbit : herd / 2 ^ i % 2 = 1 := by
          have := V.int.inj (of_decide_eq_true h)
          rw [e1] at this
          omega
        refine ⟨_, rfl, _, rfl, _, rfl, a, _, (i : Int), _, rfl, rfl, SqL.of (k.at ha), atI_nat (v := .int ((bits.getD i 0 : Nat) : Int)) (by rw [List.getElem?_map, List.getElem?_map, getD_of hbi 0]; rfl), _, _, rfl, rfl, ?_⟩
        have eb : Builtin.bitOr ((earsUpto bits herd i : Nat) : Int) ((bits.getD i 0 : Nat) : Int) = ((earsUpto bits herd (i + 1) : Nat) : Int) := by
          rw [Bits.bitOr_pp (Int.natCast_nonneg _) (Int.natCast_nonneg _), Int.toNat_natCast, Int.toNat_natCast, eu, if_pos hbit]
        refine ⟨_, rfl, _, _, rfl, rfl, .inl ⟨by decide, by decide⟩, k, some (.int (i : Int)), ?_⟩
        rw [← e2, ← eb]
        rfl
      · have hbit : ¬ herd / 2 ^ i % 2 = 1 := fun z => h (decide_eq_true (congrArg V.int (by rw [e1, z]; rfl)))
        refine ⟨_, rfl, _, _, rfl, rfl, .inl ⟨by decide, by decide⟩, k, some (.int (i : Int)), ?_⟩
        rw [← e2, eu, if_neg hbit]
        rfl
    · obtain ⟨k, o3, rfl⟩ := h
      exact ⟨_, rfl, q _ k⟩
end
end AA

/-! ## T8 -/
set_option Elab.async false
set_option linter.all false
set_option maxRecDepth 100000
set_option maxHeartbeats 4000000
namespace AA
open PySem PySem.Spec PyProof.Rows L2 PySem.W
/-! ### plain: the graph of numbers -/
theorem band_nat (a b : Nat) : Builtin.bitAnd (a : Int) (b : Int) = ((a &&& b : Nat) : Int) := by
  have h : Builtin.bitAnd (a : Int) (b : Int) = (((a : Int).toNat &&& (b : Int).toNat : Nat) : Int)   := bitAnd_pp (Int.natCast_nonneg a) (Int.natCast_nonneg b)
  rw [h, Int.toNat_natCast, Int.toNat_natCast]
theorem heardRow_lt (row : List Int) : ∀ k ∈ heardRow row, k < row.length := fun k hk => List.mem_range.mp (List.mem_filter.mp hk).1
theorem bitsRow_lt {n : Nat} {row : List Int} (h : row.length = n) : bitsRow row < 2 ^ n :=
  sum_lt_pow _ _ ((heardRow_sorted row).imp fun h => Nat.ne_of_lt h) fun k hk => by have := heardRow_lt row k hk; omega
theorem earsUpto_lt {bits : List Nat} {n : Nat} (h : ∀ b ∈ bits, b < 2 ^ n) (herd : Nat) : ∀ i, earsUpto bits herd i < 2 ^ n
  | 0 => Nat.two_pow_pos n
  | i + 1 => by
    show (if herd / 2 ^ i % 2 = 1 then earsUpto bits herd i ||| bits.getD i 0 else earsUpto bits herd i) < _
    split
    · refine Nat.or_lt_two_pow (earsUpto_lt h herd i) ?_
      rw [List.getD_eq_getElem?_getD]
      cases e : bits[i]? with
      | none => exact Nat.two_pow_pos n
      | some b => exact h b (List.mem_of_getElem? e)
    · exact earsUpto_lt h herd i
def univB (n : Nat) : List (Nat × Nat) := (List.range (2 ^ n)).flatMap fun a => (List.range (2 ^ n)).map fun b => (a, b)
theorem mem_univB {n : Nat} {x : Nat × Nat} : x ∈ univB n ↔ x.1 < 2 ^ n ∧ x.2 < 2 ^ n := by
  unfold univB
  rw [List.mem_flatMap]
  constructor
  · rintro ⟨a, ha, h⟩
    obtain ⟨b, hb, rfl⟩ := List.mem_map.mp h
    exact ⟨List.mem_range.mp ha, List.mem_range.mp hb⟩
  · rintro ⟨h1, h2⟩
    exact ⟨x.1, List.mem_range.mpr h1, List.mem_map.mpr ⟨x.2, List.mem_range.mpr h2, rfl⟩⟩
theorem univB_few {n : Nat} (h : n ≤ 6) : (univB n).length ≤ 4096 := by
  unfold univB
  rw [List.length_flatMap]
  have : ((List.range (2 ^ n)).map fun a => ((List.range (2 ^ n)).map fun b => (a, b)).length) = (List.range (2 ^ n)).map fun _ => 2 ^ n := List.map_congr_left fun A _ => by rw [List.length_map, List.length_range]
  rw [this, List.map_const', List.sum_replicate_nat, List.length_range]
  have : 2 ^ n ≤ 2 ^ 6 := Nat.pow_le_pow_right (by decide) h
  exact Nat.mul_le_mul this this
theorem univB_start {n : Nat} : ∀ x ∈ startsB n, x ∈ univB n := fun x hx => by
  obtain ⟨j, k, h1, h2, rfl⟩ := mem_startsB.mp hx
  exact mem_univB.mpr ⟨Nat.pow_lt_pow_right (by decide) (by omega), Nat.pow_lt_pow_right (by decide) h2⟩
theorem univB_step {n : Nat} {ways : List Rows} (W : ∀ rows ∈ ways, WayOk n rows) (x : Nat × Nat) : ∀ y ∈ succB n (ways.map bitsWay) x, y ∈ univB n := fun y hy => by
  obtain ⟨bs, hb, e⟩ := List.mem_filterMap.mp hy
  obtain ⟨rows, hr, rfl⟩ := List.mem_map.mp hb
  have hl : ∀ b ∈ bitsWay rows, b < 2 ^ n := fun b hb => by
    obtain ⟨row, hrow, rfl⟩ := List.mem_map.mp hb
    exact bitsRow_lt ((W rows hr).row row hrow)
  unfold stepB at e
  split at e
  · obtain rfl := Option.some.inj e
    have h1 := earsUpto_lt hl x.1 n
    have h2 := earsUpto_lt hl x.2 n
    exact mem_univB.mpr ⟨by show min _ _ < _; omega, by show max _ _ < _; omega⟩
  · cases e
theorem startsB_succ (n : Nat) : startsB (n + 1) = startsB n ++ (List.range n).map fun j => (2 ^ j, 2 ^ n) := by
  unfold startsB
  rw [List.range_succ, List.flatMap_append, List.flatMap_singleton]
theorem startsB_length : ∀ n, (startsB n).length ≤ n * n
  | 0 => Nat.le_refl _
  | n + 1 => by
    rw [startsB_succ, List.length_append, List.length_map, List.length_range]
    have := startsB_length n
    have e : (n + 1) * (n + 1) = n * n + 2 * n + 1 := by rw [Nat.add_mul, Nat.mul_add]; omega
    omega
structure HalfB (n : Nat) (ways : List Rows) (keys rest : List (Nat × Nat)) : Prop where
  nd : keys.Nodup
  st : ∀ p ∈ startsB n, p ∈ keys ∨ p ∈ rest
  cl : ∀ p ∈ keys, ∀ q ∈ succB n (ways.map bitsWay) p, q ∈ keys ∨ q ∈ rest
  rk : ∀ p ∈ keys, Reach (startsB n) (succB n (ways.map bitsWay)) p
  rr : ∀ p ∈ rest, Reach (startsB n) (succB n (ways.map bitsWay)) p
  uk : ∀ p ∈ keys, p ∈ univB n
  ur : ∀ p ∈ rest, p ∈ univB n
theorem HalfB.start (n : Nat) (ways : List Rows) : HalfB n ways [] (startsB n) :=
  ⟨List.nodup_nil, fun p h => .inr h, fun p h => absurd h List.not_mem_nil, fun p h => absurd h List.not_mem_nil, fun p h => .start h, fun p h => absurd h List.not_mem_nil, univB_start⟩
theorem HalfB.found {n : Nat} {ways : List Rows} {keys : List (Nat × Nat)} (h : HalfB n ways keys []) : Found (startsB n) (succB n (ways.map bitsWay)) keys :=
  ⟨h.nd, fun p hp => (h.st p hp).resolve_right List.not_mem_nil, fun p hp q hq => (h.cl p hp q hq).resolve_right List.not_mem_nil, h.rk⟩
theorem HalfB.skip {n : Nat} {ways : List Rows} {keys rest : List (Nat × Nat)} {p : Nat × Nat} (h : HalfB n ways keys (rest ++ [p])) (hp : p ∈ keys) : HalfB n ways keys rest :=
  ⟨h.nd, fun q hq => (h.st q hq).elim .inl fun z => (List.mem_append.mp z).elim .inr fun e => .inl (by rw [List.mem_singleton.mp e]; exact hp), fun q hq r hr => (h.cl q hq r hr).elim .inl fun z => (List.mem_append.mp z).elim .inr fun e => .inl (by rw [List.mem_singleton.mp e]; exact hp),
    h.rk, fun q hq => h.rr q (List.mem_append_left _ hq), h.uk, fun q hq => h.ur q (List.mem_append_left _ hq)⟩
theorem HalfB.take {n : Nat} {ways : List Rows} (W : ∀ rows ∈ ways, WayOk n rows) {keys rest : List (Nat × Nat)} {p : Nat × Nat} (h : HalfB n ways keys (rest ++ [p])) (hp : p ∉ keys) :
    HalfB n ways (keys ++ [p]) (rest ++ succB n (ways.map bitsWay) p) := by
  have pm : p ∈ rest ++ [p] := List.mem_append_right _ List.mem_cons_self
  have rp : Reach (startsB n) (succB n (ways.map bitsWay)) p := h.rr p pm
  have mk : ∀ q, q ∈ keys ∨ q ∈ rest ++ [p] → q ∈ keys ++ [p] ∨ q ∈ rest ++ succB n (ways.map bitsWay) p := by
    rintro q (h | h)
    · exact .inl (List.mem_append_left _ h)
    · rcases List.mem_append.mp h with h | h
      · exact .inr (List.mem_append_left _ h)
      · exact .inl (List.mem_append_right _ h)
  refine ⟨?_, fun q hq => mk q (h.st q hq), fun q hq r hr => ?_, fun q hq => ?_, fun q hq => ?_, fun q hq => ?_, fun q hq => ?_⟩
  · rw [List.nodup_append]
    exact ⟨h.nd, List.nodup_cons.mpr ⟨List.not_mem_nil, List.nodup_nil⟩, fun a ha b hb e => hp (by rw [List.mem_singleton.mp hb] at e; rw [← e]; exact ha)⟩
  · rcases List.mem_append.mp hq with hq | hq
    · exact mk r (h.cl q hq r hr)
    · rw [List.mem_singleton.mp hq] at hr
      exact .inr (List.mem_append_right _ hr)
  · rcases List.mem_append.mp hq with hq | hq
    · exact h.rk q hq
    · rw [List.mem_singleton.mp hq]; exact rp
  · rcases List.mem_append.mp hq with hq | hq
    · exact h.rr q (List.mem_append_left _ hq)
    · exact .step rp hq
  · rcases List.mem_append.mp hq with hq | hq
    · exact h.uk q hq
    · rw [List.mem_singleton.mp hq]; exact h.ur p pm
  · rcases List.mem_append.mp hq with hq | hq
    · exact h.ur q (List.mem_append_left _ hq)
    · exact univB_step W p q hq
theorem HalfB.few {n : Nat} {ways : List Rows} {keys rest : List (Nat × Nat)} (h : HalfB n ways keys rest) (hn : n ≤ 6) : keys.length ≤ 4096 := Nat.le_trans (nodup_le keys (univB n) h.nd h.uk) (univB_few hn)
/-! ### where it stands -/
def BRow (H : Hp) (r : Addr) (ys : List (Nat × Nat)) : Prop := ∃ zs : List V, H r = some (.lst zs) ∧ TpAll H zs (ys.map bitD)
theorem BRow.monoS {H H' : Hp} {d r : Addr} {u : HO} {qs : List (Nat × Nat)} (k : Kp (At d) H H') (e : H d = some u) (h1 : ∀ xs, u ≠ .lst xs) (h : BRow H r qs) : BRow H' r qs := by
  obtain ⟨ys, e1, e3⟩ := h
  exact ⟨ys, k.kp r _ (fun z => h1 ys (Option.some.inj (e.symm.trans (by rw [← (z : r = d)]; exact e1)))) e1, e3.mono k.tu⟩
theorem BRow.mono {H H' : Hp} {r : Addr} {qs : List (Nat × Nat)} (k : Kp No H H') (h : BRow H r qs) : BRow H' r qs := by
  obtain ⟨ys, e1, e3⟩ := h
  exact ⟨ys, k.at e1, e3.mono k.tu⟩
structure BStepsAt (H : Hp) (succ : Nat × Nat → List (Nat × Nat)) (xs : List Ent) (keys : List (Nat × Nat)) : Prop where
  dk : DnK H xs
  ks : xs.map (·.1) = keys.map bitK
  row : ∀ (i : Nat) (p : Nat × Nat), keys[i]? = some p → ∃ a r, xs[i]? = some (bitK p, a, .ref r) ∧ BRow H r (succ p)
theorem BStepsAt.monoS {H H' : Hp} {d : Addr} {u : HO} {succ : Nat × Nat → List (Nat × Nat)} {xs : List Ent} {keys : List (Nat × Nat)} (k : Kp (At d) H H') (e : H d = some u) (h1 : ∀ xs, u ≠ .lst xs) (h : BStepsAt H succ xs keys) : BStepsAt H' succ xs keys :=
  ⟨h.dk.mono k.tu, h.ks, fun i p q => by
    obtain ⟨a, r, z1, z2⟩ := h.row i p q
    exact ⟨a, r, z1, z2.monoS k e h1⟩⟩
theorem BStepsAt.mono {H H' : Hp} {succ : Nat × Nat → List (Nat × Nat)} {xs : List Ent} {keys : List (Nat × Nat)} (k : Kp No H H') (h : BStepsAt H succ xs keys) : BStepsAt H' succ xs keys :=
  ⟨h.dk.mono k.tu, h.ks, fun i p q => by
    obtain ⟨a, r, z1, z2⟩ := h.row i p q
    exact ⟨a, r, z1, z2.mono k⟩⟩
theorem mem_bitK {p : Nat × Nat} {xs : List Ent} {keys : List (Nat × Nat)} (h : xs.map (·.1) = keys.map bitK) : decide (bitK p ∈ xs.map (·.1)) = decide (p ∈ keys) := by
  rw [h, Bool.eq_iff_iff, decide_eq_true_eq, decide_eq_true_eq, List.mem_map]
  constructor
  · rintro ⟨q, hq, e⟩
    rw [← bitK_inj e]
    exact hq
  · exact fun h => ⟨p, h, rfl⟩
theorem BStepsAt.snoc {H : Hp} {av r : Addr} {succ : Nat × Nat → List (Nat × Nat)} {xs : List Ent} {keys : List (Nat × Nat)} {p : Nat × Nat} (S : BStepsAt H succ xs keys) (hp : Tp H (.ref av) (bitK p).data) (hr : BRow H r (succ p)) :
    BStepsAt H succ (xs ++ [(bitK p, av, .ref r)]) (keys ++ [p]) := by
  have hl : xs.length = keys.length := by have := congrArg List.length S.ks; rwa [List.length_map, List.length_map] at this
  refine ⟨S.dk.snoc hp (bitK_depth p), by rw [List.map_append, List.map_append, S.ks]; rfl, fun i q hq => ?_⟩
  rw [List.getElem?_append] at hq
  split at hq
  · rename_i hi
    obtain ⟨a, r', h3, h4⟩ := S.row i q hq
    exact ⟨a, r', by rw [List.getElem?_append_left (by omega)]; exact h3, h4⟩
  · rename_i hi
    have hi0 : i - keys.length = 0 := by
      rcases Nat.eq_zero_or_pos (i - keys.length) with z | z
      · exact z
      · rw [List.getElem?_eq_none (by rw [List.length_singleton]; exact z)] at hq
        cases hq
    rw [hi0] at hq
    obtain rfl := Option.some.inj hq
    refine ⟨av, r, ?_, hr⟩
    rw [List.getElem?_append_right (by omega), show i - xs.length = 0 by omega]
    rfl
theorem bitD_lay (p : Nat × Nat) : (bitD p).canLay0 = true := by
  unfold bitD
  simp [PyData.canLay0, PyData.canLayAll0]
theorem bitD_depth (p : Nat × Nat) : (bitD p).depth ≤ 2 := by
  unfold bitD
  rw [PyData.depth, PyData.depthAll, PyData.depthAll, PyData.depthAll, PyData.depth, PyData.depth]
  omega
def pows (n : Nat) : List V := (List.range n).map fun e => V.int ((2 ^ e : Nat) : Int)
theorem cut_pows : ∀ {n : Nat}, n ≤ 6 → cutV [.int 1, .int 2, .int 4, .int 8, .int 16, .int 32] none (some (n : Int)) = pows n
  | 0, _ => rfl
  | 1, _ => rfl
  | 2, _ => rfl
  | 3, _ => rfl
  | 4, _ => rfl
  | 5, _ => rfl
  | 6, _ => rfl
  | n + 7, h => absurd h (by omega)
theorem pows_at {n e : Nat} (h : e < n) : (pows n)[e]? = some (.int ((2 ^ e : Nat) : Int)) := by
  unfold pows
  rw [List.getElem?_map, List.getElem?_range h]
  rfl
theorem cut_last (zs : List V) (v : V) : cutV (zs ++ [v]) none (some (-1)) = zs := by
  unfold cutV
  have e1 : HT.sIx (zs ++ [v]).length (zs ++ [v]).length (some (-1)) = zs.length := by
    show (if (-1 : Int) < 0 then ((-1 : Int) + ((zs ++ [v]).length : Nat)).toNat else min (-1 : Int).toNat (zs ++ [v]).length) = _
    rw [if_pos (by decide), List.length_append, List.length_singleton]
    omega
  have e2 : HT.sIx (zs ++ [v]).length 0 none = 0 := rfl
  rw [e1, e2]
  simp
theorem TpAll.last {H : Hp} : ∀ {zs : List V} {ds : List PyData} {d : PyData}, TpAll H zs (ds ++ [d]) → ∃ ws v, zs = ws ++ [v] ∧ TpAll H ws ds ∧ Tp H v d
  | _, [], _, .cons h .nil => ⟨[], _, rfl, .nil, h⟩
  | _, e :: ds, d, .cons h t => by
    obtain ⟨ws, v, rfl, h1, h2⟩ := TpAll.last (ds := ds) t
    exact ⟨_ :: ws, v, rfl, .cons h h1, h2⟩
section
variable {H : Hp} {d : Addr} {u : HO}
mutual
theorem Lp.off (e : H d = some u) (h1 : ∀ xs, u ≠ .lst xs) : ∀ {v : V} {x : PyData}, Lp No H v x → Lp (At d) H v x
  | _, _, .non => .non
  | _, _, .bl b => .bl b
  | _, _, .int i => .int i
  | _, _, .str x => .str x
  | _, _, .tup h t => .tup h (LpAll.off e h1 t)
  | _, _, .lst (xs := xs) _ h t => .lst (fun z => h1 xs (Option.some.inj (e.symm.trans (by rw [← (show _ = d from z)]; exact h)))) h (LpAll.off e h1 t)
theorem LpAll.off (e : H d = some u) (h1 : ∀ xs, u ≠ .lst xs) : ∀ {vs : List V} {ds : List PyData}, LpAll No H vs ds → LpAll (At d) H vs ds
  | _, _, .nil => .nil
  | _, _, .cons h t => .cons (Lp.off e h1 h) (LpAll.off e h1 t)
end
end
theorem alike_ints (a b : Int) : AlikeAll [.int a, .int b] := by
  constructor
  · intro x hx y hy
    rcases List.mem_cons.mp hx with rfl | hx <;> rcases List.mem_cons.mp hy with rfl | hy
    · simp [alike]
    · rw [List.mem_singleton.mp hy]; simp [alike]
    · rw [List.mem_singleton.mp hx]; simp [alike]
    · rw [List.mem_singleton.mp hx, List.mem_singleton.mp hy]; simp [alike]
  · intro x hx e
    rcases List.mem_cons.mp hx with rfl | hx
    · cases e
    · rw [List.mem_singleton.mp hx] at e; cases e
theorem depthAll_ints2 (a b : Int) : PyData.depthAll [.int a, .int b] ≤ 60 := by
  have := depth_ints [a, b]
  rw [List.map_cons, List.map_cons, List.map_nil] at this
  omega
theorem pick_min (a b : Nat) : (if dataLt (.int (b : Int)) (.int (a : Int)) = true then V.int (b : Int) else V.int (a : Int)) = V.int ((min a b : Nat) : Int) := by
  rw [dataLt_int]
  by_cases h : b < a
  · rw [if_pos (decide_eq_true (by omega)), show min a b = b by omega]
  · rw [if_neg (by rw [decide_eq_true_eq]; omega), show min a b = a by omega]
theorem pick_max (a b : Nat) : (if dataLt (.int (a : Int)) (.int (b : Int)) = true then V.int (b : Int) else V.int (a : Int)) = V.int ((max a b : Nat) : Int) := by
  rw [dataLt_int]
  by_cases h : a < b
  · rw [if_pos (decide_eq_true (by omega)), show max a b = b by omega]
  · rw [if_neg (by rw [decide_eq_true_eq]; omega), show max a b = a by omega]
theorem succB_take {n : Nat} {ways : List Rows} (x : Nat × Nat) {i : Nat} (hi : i < ways.length) : succB n ((ways.take (i + 1)).map bitsWay) x = succB n ((ways.take i).map bitsWay) x ++ (stepB n x (bitsWay (ways.getD i []))).toList := by
  rw [take_map ways bitsWay [] hi]
  unfold succB
  rw [List.filterMap_append]
  show _ ++ List.filterMap (stepB n x) [bitsWay (ways.getD i [])] = _
  rw [List.filterMap_cons, List.filterMap_nil]
  cases stepB n x (bitsWay (ways.getD i [])) <;> rfl
def GInv (P : Program) (w : World) (H : Hp) (n : Nat) (a b d g : Addr) (ways : List Rows) (m : Nat) (σ : L2.St) (H3 : Hp) : Prop :=
  ∃ (keys rest : List (Nat × Nat)) (xs : List Ent) (l : Addr) (zs : List V) (o2 o7 o8 o9 o10 o11 : Option V), m = 7 * (4096 - keys.length) + rest.length ∧ m ≤ 30000 ∧ Kp No H H3 ∧ σ = [some (.ref a), some (.ref g), o2, some (.int (n : Int)), some (.ref b), some (.ref l), some (.ref d), o7, o8, o9, o10, o11] ∧
    H3 d = some (DnO P w d xs) ∧ H3 l = some (.lst zs) ∧ TpAll H3 zs (rest.map bitD) ∧ BStepsAt H3 (succB n (ways.map bitsWay)) xs keys ∧ HalfB n ways keys rest ∧ Lp No H3 (.ref b) (bitsD ways)
section
variable {P : Program} {w : World} {K : PySem.W.Frag} {mg : Str → Option Value} {base : Heap}
abbrev s__law_graph : Stmt := top 66
abbrev n__law_graph : List Str := ["_law_heard_here", "_law_powers", "_law_k", "_law_tally", "_law_bits_here", "_law_rest", "_law_found", "_law_pair", "_law_rows", "_law_j", "_law_fore", "_law_aft"]
theorem sc__law_graph : FnScope n__law_graph ["_law_heard_here"] (defScope s__law_graph) := ⟨rfl, rfl, rfl, by decide +kernel, rfl, by decide +kernel, by decide +kernel⟩
def spGraph (P : Program) (w : World) : Sp := fun vs H Q _ => ∃ (y : V) (n : Nat) (ways : List Rows), vs = [y] ∧ Lp No H y (heardD ways) ∧ WaysOk n ways ∧ ways ≠ [] ∧
  ∀ d xs keys H', Kp No H H' → H d = none → H' d = some (DnO P w d xs) → BStepsAt H' (succB n (ways.map bitsWay)) xs keys → Found (startsB n) (succB n (ways.map bitsWay)) keys → keys.length ≤ 4096 → Q (.ref d) H'
theorem ok__law_graph {f : Addr} {fd : FuncData} (F : DefIn K mg "_law_graph" s__law_graph ["_law_heard_here"] f fd) (B : Bt mg) (D__law_bits : Def P w K mg base "_law_bits" 1 ["_law_heard_here"] spBits) (D__law_ears : Def P w K mg base "_law_ears" 1 ["_law_rows", "_law_herd", "_law_tally"] spLEars) :
    Def P w K mg base "_law_graph" 2 ["_law_heard_here"] (spGraph P w) := by
  refine F.ok sc__law_graph (fun vs H Q E h => ?_) (fun cdv A outer s H vs Q E hr h => ?_)
  · obtain ⟨y, _, _, rfl, _⟩ := h
    rfl
  · obtain ⟨y, n, ways, rfl, hy, W, hne, q⟩ := h
    refine ⟨_, (pss_cons (ps_par (i := 3) (j := 4) rfl sc__law_graph.nd rfl rfl (by decide) rfl rfl (pa_cons (pe_callB (r_len K) (by rfl) B.len (by decide +kernel) (pa_cons (pe_ix (x_list K) (pv 0) pe_int (fun _ _ => rfl)) pa_nil)) (pa_cons (pe_def (D__law_bits.mono (by decide)) hr (by rfl) (pa_cons (pv 0) pa_nil)) pa_nil)) (by rfl))
      (pss_cons (ps_set (i := 1) sc__law_graph.nd rfl (by first | exact Or.inl rfl | exact Or.inr rfl) (pe_slice (s_list K) (pe_lst (pa_cons pe_int (pa_cons pe_int (pa_cons pe_int (pa_cons pe_int (pa_cons pe_int (pa_cons pe_int pa_nil))))))) po_none (po_some (pv 3))))
      (pss_cons (ps_par (i := 5) (j := 6) rfl sc__law_graph.nd rfl rfl (by decide) rfl rfl (pa_cons (pe_lst pa_nil) (pa_cons (pe_dnewN P w) pa_nil)) (by rfl))
      (pss_cons (ps_for PassesOwn.never rfl (pi_range1 rfl B.range (pa_cons (pv 3) pa_nil)) (pg_name (i := 2) sc__law_graph.nd rfl (by first | exact Or.inl rfl | exact Or.inr rfl))
      (pss_one (ps_set (i := 5) sc__law_graph.nd rfl (by first | exact Or.inl rfl | exact Or.inr rfl) (pe_op op_cat (pv 5) (pe_lc rfl sc__law_graph.nd (pi_range1 rfl B.range (pa_cons (pv 2) pa_nil)) (blkOk_by (own := [("_law_j", 9)]) (N := n__law_graph) (sc := defScope s__law_graph) (by decide +kernel)) (fun _ _ _ _ _ => (pg_name (i := 9) sc__law_graph.nd rfl (by first | exact Or.inl rfl | exact Or.inr rfl))) (fun _ _ _ _ _ => pts_nil) (fun _ _ _ _ _ => (pe_tup (pa_cons (pe_ix (x_list K) (pv 1) (pv 9) (fun _ _ => rfl)) (pa_cons (pe_ix (x_list K) (pv 1) (pv 2) (fun _ _ => rfl)) pa_nil)))))))))
      (pss_cons (ps_while PassesOwn.never (pt_cmpR (o_neD K hr.units) (pv 5) (pe_lst pa_nil) (nomark _))
      (pss_cons (ps_par (i := 7) (j := 5) rfl sc__law_graph.nd rfl rfl (by decide) rfl rfl (pa_cons (pe_ix (x_list K) (pv 5) (pe_un un_neg pe_int) (fun _ _ => rfl)) (pa_cons (pe_slice (s_list K) (pv 5) po_none (po_some (pe_un un_neg pe_int))) pa_nil)) (by rfl))
        (pss_one (ps_if (pt_cmpR (o_dnNotIn P w hr.units) (pv 7) (pv 6) (by rfl))
        (pss_cons (ps_asg (pe_lst pa_nil) (pg_sub (pv 6) (pv 7) (set_dn P w hr.units)))
          (pss_cons (ps_for PassesOwn.never rfl (pi_listK K (pv 4)) (pg_name (i := 8) sc__law_graph.nd rfl (by first | exact Or.inl rfl | exact Or.inr rfl))
          (pss_cons (ps_par (i := 10) (j := 11) rfl sc__law_graph.nd rfl rfl (by decide) rfl rfl (pa_cons (pe_def (D__law_ears.mono (by decide)) hr (by rfl) (pa_cons (pv 8) (pa_cons (pe_ix (x_tup K) (pv 7) pe_int (fun _ _ => rfl)) (pa_cons (pv 3) pa_nil)))) (pa_cons (pe_def (D__law_ears.mono (by decide)) hr (by rfl) (pa_cons (pv 8) (pa_cons (pe_ix (x_tup K) (pv 7) pe_int (fun _ _ => rfl)) (pa_cons (pv 3) pa_nil)))) pa_nil)) (by rfl))
            (pss_one (ps_if (pt_cmpR op_eq (pe_op op_and (pv 10) (pv 11)) pe_int (nomark _))
            (pss_one (ps_expr (pe_bm PySem.F.plainAttrs_list PySem.F.slot_list_append PySem.F.type_list_append mt_append (pe_ix (x_dn P w hr.units) (pv 6) (pv 7) (fun _ _ => rfl)) (pa_cons (pe_tup (pa_cons (pe_callB (r_min2 hr.units) (by rfl) B.min (by decide +kernel) (pa_cons (pv 10) (pa_cons (pv 11) pa_nil))) (pa_cons (pe_callB (r_max2 hr.units) (by rfl) B.max (by decide +kernel) (pa_cons (pv 10) (pa_cons (pv 11) pa_nil))) pa_nil))) pa_nil))))
            pss_nil))))
          (pss_one (ps_set (i := 5) sc__law_graph.nd rfl (by first | exact Or.inl rfl | exact Or.inr rfl) (pe_op op_cat (pv 5) (pe_ix (x_dn P w hr.units) (pv 6) (pv 7) (fun _ _ => rfl)))))))
        pss_nil))))
      (pss_one (ps_ret (pv 6)))))))), ?_⟩
    obtain ⟨a, xs, rfl, _, ha, hall⟩ := id hy.list
    have hxl : xs.length = ways.length := by rw [hall.length, List.length_map]
    have n6 := W.n6
    have few := W.few
    have hsz : (40000 : Nat) < sizeLine := by decide
    have hw0 : 0 < ways.length := List.length_pos_iff.mpr hne
    obtain ⟨v0, hv0, hd0⟩ := hall.get' (i := 0) (d := .list ((ways.getD 0 []).map fun row => natsD (heardRow row))) (by rw [List.getElem?_map, getD_of hw0 []]; rfl)
    obtain ⟨c, zs, rfl, _, hc, hzs⟩ := hd0.list
    have hzl : zs.length = n := by rw [hzs.length, List.length_map]; exact (W.way _ (List.mem_of_getElem? (getD_of hw0 []))).len
    refine ⟨_, rfl, a, xs, 0, _, rfl, rfl, SqL.of ha, atI_nat (j := 0) hv0, c, zs, rfl, .inl (SqL.of hc), _, rfl, _, n, ways, rfl, hy, W, fun b H1 k1 hb0 hb => ⟨_, _, rfl, ?_⟩⟩
    rw [hzl]
    refine ⟨(show 6 ≤ sizeLine by decide), fun l0 hl0 => ⟨_, rfl, (n : Int), rfl, l0, _, rfl, SqL.of upd_same, fun g hg => ?_⟩⟩
    rw [cut_pows n6]
    refine ⟨(show 0 ≤ sizeLine by decide), fun l hl => fun d hd => ⟨_, _, rfl, ?_⟩⟩
    have k2 : Kp No H1 (upd H1 l0 (.lst [.int 1, .int 2, .int 4, .int 8, .int 16, .int 32])) := Kp.new hl0
    have k3 : Kp No _ (upd (upd H1 l0 (.lst [.int 1, .int 2, .int 4, .int 8, .int 16, .int 32])) g (.lst (pows n))) := k2.trans (Kp.new hg)
    have k4 := k3.trans (Kp.new (o := .lst []) hl)
    have k5 := k4.trans (Kp.new (o := DnO P w d []) hd)
    have hg5 : upd (upd (upd (upd H1 l0 (.lst [.int 1, .int 2, .int 4, .int 8, .int 16, .int 32])) g (.lst (pows n))) l (.lst [])) d (DnO P w d []) g = some (.lst (pows n)) := (Kp.new (S := No) hd).at ((Kp.new (S := No) hl).at upd_same)
    have hl5 : upd (upd (upd (upd H1 l0 (.lst [.int 1, .int 2, .int 4, .int 8, .int 16, .int 32])) g (.lst (pows n))) l (.lst [])) d (DnO P w d []) l = some (.lst []) := (Kp.new (S := No) hd).at upd_same
    have hd5 : upd (upd (upd (upd H1 l0 (.lst [.int 1, .int 2, .int 4, .int 8, .int 16, .int 32])) g (.lst (pows n))) l (.lst [])) d (DnO P w d []) d = some (DnO P w d []) := upd_same
    have hdH : H d = none := k1.fr d (k4.fr d hd)
    have hb5 := hb.mono k5 fun _ h => h
    have kk5 := k1.trans k5
    generalize upd (upd (upd (upd H1 l0 (.lst [.int 1, .int 2, .int 4, .int 8, .int 16, .int 32])) g (.lst (pows n))) l (.lst [])) d (DnO P w d []) = H5 at *
    refine ⟨_, rfl, (n : Int), rfl, by omega, by omega, ?_⟩
    rw [Int.toNat_natCast]
    refine for_it walk_range0 (fun i σ H6 => Kp No H5 H6 ∧ ∃ o2 o7 o8 o9 o10 o11 l zs, σ = [some (.ref a), some (.ref g), o2, some (.int (n : Int)), some (.ref b), some (.ref l), some (.ref d), o7, o8, o9, o10, o11] ∧ H6 l = some (.lst zs) ∧ TpAll H6 zs ((startsB i).map bitD))
      ⟨Kp.refl _ _, _, _, _, _, _, _, l, [], rfl, hl5, .nil⟩ (fun _ _ _ _ _ => True.intro) (fun i x σ H6 H7 hi h hy => ?_) (fun σ H6 h => ?_)
    · obtain ⟨k6, o2, o7, o8, o9, o10, o11, l6, zs6, rfl, hl6, hz6⟩ := h
      obtain ⟨rfl, rfl⟩ := hy
      refine ⟨_, rfl, _, rfl, (i : Int), rfl, by omega, by omega, fun D hD => ?_⟩
      rw [Int.toNat_natCast]
      refine lc_mapD (S := No) walk_range0 (by omega) hD (fun z => z) (fun j => bitD (2 ^ j, 2 ^ i)) (fun _ _ => True.intro) (fun j x H8 H9 acc N hj k8 hacc hy8 hN => ?_) (fun acc H8 k8 hacc hr8 => ?_)
      · obtain ⟨rfl, rfl⟩ := hy8
        have hg8 := (k6.trans k8).at hg5
        refine ⟨rfl, _, rfl, _, rfl, g, _, (j : Int), _, rfl, rfl, SqL.of hg8, atI_nat (pows_at (by omega)), _, rfl, _, rfl, g, _, (i : Int), _, rfl, rfl, SqL.of hg8, atI_nat (pows_at hi), (show 2 ≤ sizeLine by decide), fun T hT => hN _ _ (Kp.new hT) (.tup upd_same (.cons (.int _) (.cons (.int _) .nil)))⟩
      · have zl : zs6.length ≤ 36 := by
          rw [hz6.length, List.length_map]
          have := startsB_length i
          have : i * i ≤ 6 * 6 := Nat.mul_le_mul (by omega) (by omega)
          omega
        have al : acc.length = i := by rw [hr8.length, List.length_map, List.length_range]
        refine ⟨l6, D, zs6, acc, rfl, rfl, k8.at hl6, hacc, by omega, fun l9 hl9 => ⟨(k6.trans k8).trans (Kp.new hl9), _, _, _, _, _, _, l9, _, rfl, upd_same, ?_⟩⟩
        rw [startsB_succ, List.map_append, List.map_map]
        exact ((hz6.mono k8.tu).app hr8).mono (TK.new hl9)
    · obtain ⟨k6, o2, o7, o8, o9, o10, o11, l6, zs6, rfl, hl6, hz6⟩ := h
      refine ⟨GInv P w H n a b d g ways, ⟨7 * 4096 + (startsB n).length, [], startsB n, [], l6, zs6, _, _, _, _, _, _, by simp, ?_, kk5.trans k6, rfl, k6.at hd5, hl6, hz6, ⟨DnK.nil, rfl, fun i p e => by simp at e⟩, HalfB.start n ways, hb5.mono k6 fun _ h => h⟩, fun m σ H7 h => ?_⟩
      · have := startsB_length n
        have : n * n ≤ 6 * 6 := Nat.mul_le_mul n6 n6
        omega
      clear k6 hl6 hz6
      obtain ⟨keys, rest, xs7, l7, zs7, o2, o7, o8, o9, o10, o11, rfl, hm, k7, rfl, hd7, hl7, hz7, S7, hf, hb7⟩ := h
      have kf := hf.few n6
      refine ⟨_, rfl, (show 0 ≤ sizeLine by decide), fun p0 hp0 => ⟨.list (rest.map bitD), .list [], .lst (SqL.of ((Kp.new (S := No) hp0).at hl7)) ((hz7.mono (TK.new hp0)).dp K), .lst (SqL.of upd_same) .nil, list_shaped bitD rest 2 (by decide) (fun p _ => ⟨bitD_lay p, bitD_depth p⟩), nil_shaped, _, rfl, ?_⟩⟩
      have kn : Kp No H7 (upd H7 p0 (.lst [])) := Kp.new hp0
      have k8 := k7.trans kn
      have hd8 := kn.at hd7
      have hl8 := kn.at hl7
      have hz8 := hz7.mono kn.tu
      have S8 := S7.mono kn
      have hb8 := hb7.mono kn fun _ h => h
      generalize upd H7 p0 (.lst []) = H8 at *
      rw [eqv_nilL]
      rcases List.eq_nil_or_concat rest with rfl | ⟨rest, p, hrest⟩
      · refine ite2 (fun h => absurd h (by simp)) (fun _ => ?_)
        exact ⟨_, rfl, q d xs7 keys H8 k8 hdH hd8 S8 hf.found kf⟩
      · rw [List.concat_eq_append] at hrest
        subst hrest
        refine ite2 (fun _ => ?_) (fun h => absurd (by rw [List.map_append]; simp) h)
        refine ⟨fun σ' H' => ∃ m', m' < 7 * (4096 - keys.length) + (rest ++ [p]).length ∧ GInv P w H n a b d g ways m' σ' H', fun _ _ h => h, ?_⟩
        rw [List.length_append, List.length_singleton] at hm ⊢
        rw [List.map_append] at hz8
        obtain ⟨zs8, v, rfl, hz8b, hv⟩ := hz8.last
        obtain ⟨av, vs2, rfl, hav, hvs⟩ := id hv.tuple
        obtain rfl : vs2 = [.int (p.1 : Int), .int (p.2 : Int)] := by
          cases hvs with
          | cons h1 hvs =>
            cases hvs with
            | cons h2 hvs =>
              cases hvs
              rw [h1.int_inv, h2.int_inv]
        refine ⟨_, rfl, 1, rfl, l7, _, -1, _, rfl, rfl, SqL.of hl8, atI_last _ _, _, rfl, 1, rfl, -1, rfl, l7, _, rfl, SqL.of hl8, fun l9 hl9 => ⟨_, _, rfl, ?_⟩⟩
        rw [cut_last]
        have kn9 : Kp No H8 (upd H8 l9 (.lst zs8)) := Kp.new hl9
        have hl9' : upd H8 l9 (.lst zs8) l9 = some (.lst zs8) := upd_same
        have k9 := k8.trans kn9
        have hd9 := kn9.at hd8
        have hz9 := hz8b.mono kn9.tu
        have hav9 := kn9.tu _ _ hav
        have hp9 : Tp (upd H8 l9 (.lst zs8)) (.ref av) (bitK p).data := by rw [bitK_data]; exact hv.mono kn9.tu
        have S9 := S8.mono kn9
        have hb9 := hb8.mono kn9 fun _ h => h
        generalize upd H8 l9 (.lst zs8) = H9 at *
        refine ⟨_, rfl, _, rfl, av, d, bitK p, xs7, rfl, rfl, hp9, bitK_depth p, Rd.of hd9, S9.dk, _, rfl, ?_⟩
        rw [mem_bitK S9.ks]
        refine ite2 (fun h => ?_) (fun h => ?_)
        · have hpk : p ∉ keys := by simpa using h
          have hf2 := hf.take W.way hpk
          have hxl7 : xs7.length = keys.length := by have := congrArg List.length S9.ks; rwa [List.length_map, List.length_map] at this
          have hnot : bitK p ∉ xs7.map (·.1) := by
            have := mem_bitK (p := p) S9.ks
            rw [decide_eq_false hpk] at this
            exact of_decide_eq_false this
          refine ⟨(show 0 ≤ sizeLine by decide), fun r hr0 => ⟨_, rfl, _, rfl, av, d, bitK p, xs7, rfl, rfl, hp9.mono (TK.new hr0), bitK_depth p, (Kp.new (S := No) hr0).at hd9, S9.dk.mono (TK.new hr0), hnot, by omega, ?_⟩⟩
          have hdr : d ≠ r := ne_of_none hd9 hr0
          have k11 : Kp (At d) H9 (upd (upd H9 r (.lst [])) d (DnO P w d (xs7 ++ [(bitK p, av, .ref r)]))) := (Kp.new hr0).trans (Kp.put rfl ((Kp.new (S := No) hr0).at hd9) dn_notup)
          have hd11 : upd (upd H9 r (.lst [])) d (DnO P w d (xs7 ++ [(bitK p, av, .ref r)])) d = some (DnO P w d (xs7 ++ [(bitK p, av, .ref r)])) := upd_same
          have hr11 : upd (upd H9 r (.lst [])) d (DnO P w d (xs7 ++ [(bitK p, av, .ref r)])) r = some (.lst []) := by rw [upd_ne (fun z => hdr z.symm)]; exact upd_same
          generalize upd (upd H9 r (.lst [])) d (DnO P w d (xs7 ++ [(bitK p, av, .ref r)])) = H11 at *
          obtain ⟨_, xsb, e, _, hbb, hball⟩ := (hb9.off hd9 dn_nolst).list
          cases e
          have hbd : b ≠ d := fun z => by rw [z, hd9] at hbb; cases hbb
          have hbl : xsb.length = ways.length := by rw [hball.length, List.length_map]
          have hat : atV (xs7 ++ [(bitK p, av, V.ref r)]) (bitK p) = some (.ref r) := atV_of (a := av) (by
            rw [List.map_append, S9.ks]
            show (keys.map bitK ++ [bitK p]).Nodup
            rw [show keys.map bitK ++ [bitK p] = (keys ++ [p]).map bitK by rw [List.map_append]; rfl]
            exact List.Pairwise.map _ (fun a b h e => h (bitK_inj e)) hf2.nd) (List.mem_append_right _ List.mem_cons_self)
          refine ⟨_, rfl, b, rfl, ⟨xsb, SqL.of (k11.kp b _ hbd hbb)⟩, ?_⟩
          refine for_it walk_list (fun i σ H12 => Kp (At d) H9 H12 ∧ ∃ o8 o9 o10 o11 us, σ = [some (.ref a), some (.ref g), o2, some (.int (n : Int)), some (.ref b), some (.ref l9), some (.ref d), some (.ref av), o8, o9, o10, o11] ∧ H12 d = some (DnO P w d (xs7 ++ [(bitK p, av, .ref r)])) ∧ H12 r = some (.lst us) ∧ TpAll H12 us ((succB n ((ways.take i).map bitsWay) p).map bitD))
            ⟨k11, _, _, _, _, [], rfl, hd11, hr11, .nil⟩ (fun i σ H12 _ h => SqL.of (h.1.kp b _ hbd hbb)) (fun i x σ H12 H12' hi h hy => ?_) (fun σ H12 h => ?_)
          · obtain ⟨k12, o8, o9, o10, o11, us, rfl, hd12, hr12, hus⟩ := h
            obtain ⟨rfl, hx⟩ := hy
            have hi' : i < ways.length := by omega
            obtain ⟨dd, hdd, hvv⟩ := hball.get hx
            rw [List.getElem?_map, getD_of hi' []] at hdd
            obtain rfl := Option.some.inj hdd
            have hW := W.way _ (List.mem_of_getElem? (getD_of hi' []))
            rw [succB_take p hi']
            generalize ways.getD i [] = rows at *
            have hvN := (hvv.mono k12 fun _ h => h).weak (N' := No) fun _ h => h.elim
            have hbw : (bitsWay rows).length = n := by unfold bitsWay; rw [List.length_map]; exact hW.len
            have ht12 := k12.tu _ _ hav9
            refine ⟨_, rfl, _, rfl, av, _, 0, _, rfl, rfl, SqT.of ht12, atI_nat (j := 0) rfl, _, rfl, _, n, p.1, bitsWay rows, rfl, hvN, hbw, n6, fun H13 k13 => ?_⟩
            refine ⟨_, rfl, _, rfl, av, _, 1, _, rfl, rfl, SqT.of (k13.tu _ _ ht12), atI_nat (j := 1) rfl, _, rfl, _, n, p.2, bitsWay rows, rfl, hvN.mono k13 (fun _ h => h), hbw, n6, fun H14 k14 => ⟨_, _, rfl, ?_⟩⟩
            have k134 := k13.trans k14
            have kk14 := k12.trans (k134.no (S := At d))
            have hd14 := k134.at hd12
            have hr14 := k134.at hr12
            have hus14 := hus.mono k134.tu
            refine ⟨_, rfl, _, rfl, _, _, rfl, rfl, rfl, _, rfl, ?_⟩
            have estep : stepB n p (bitsWay rows) = if earsUpto (bitsWay rows) p.1 n &&& earsUpto (bitsWay rows) p.2 n = 0 then some (min (earsUpto (bitsWay rows) p.1 n) (earsUpto (bitsWay rows) p.2 n), max (earsUpto (bitsWay rows) p.1 n) (earsUpto (bitsWay rows) p.2 n)) else none := rfl
            generalize earsUpto (bitsWay rows) p.1 n = e1 at *
            generalize earsUpto (bitsWay rows) p.2 n = e2 at *
            refine ite2 (fun h => ?_) (fun h => ?_)
            · have hz : e1 &&& e2 = 0 := by
                have hv := V.int.inj (of_decide_eq_true h)
                rw [band_nat] at hv
                omega
              rw [estep, if_pos hz]
              have dk14 : DnK H14 (xs7 ++ [(bitK p, av, V.ref r)]) := (S9.dk.mono kk14.tu).snoc (hp9.mono kk14.tu) (bitK_depth p)
              have husl : us.length ≤ 6 := by
                rw [hus.length, List.length_map]
                refine Nat.le_trans (List.length_filterMap_le _ _) ?_
                rw [List.length_map, List.length_take]
                omega
              refine ⟨_, rfl, _, rfl, av, d, bitK p, _, .ref r, rfl, rfl, hp9.mono kk14.tu, bitK_depth p, Rd.of hd14, dk14, hat, .inl ⟨rfl, _, SqL.of hr14⟩, ?_⟩
              refine ⟨_, rfl, _, rfl, _, _, .int (e1 : Int), .int (e2 : Int), rfl, .int _, .int _, alike_ints _ _, depthAll_ints2 _ _, ?_⟩
              rw [pick_min]
              refine ⟨_, rfl, _, rfl, _, _, .int (e1 : Int), .int (e2 : Int), rfl, .int _, .int _, alike_ints _ _, depthAll_ints2 _ _, ?_⟩
              rw [pick_max]
              refine ⟨(show 2 ≤ sizeLine by decide), fun T hT => ?_⟩
              have kT : Kp No H14 (upd H14 T (.tup [.int ((min e1 e2 : Nat) : Int), .int ((max e1 e2 : Nat) : Int)])) := Kp.new hT
              have hT' : upd H14 T (.tup [.int ((min e1 e2 : Nat) : Int), .int ((max e1 e2 : Nat) : Int)]) T = some (.tup [.int ((min e1 e2 : Nat) : Int), .int ((max e1 e2 : Nat) : Int)]) := upd_same
              generalize upd H14 T (.tup [.int ((min e1 e2 : Nat) : Int), .int ((max e1 e2 : Nat) : Int)]) = H15 at *
              have hr15 := kT.at hr14
              have kr : Kp (At r) H15 (upd H15 r (.lst (us ++ [.ref T]))) := Kp.put rfl hr15 (by intro xs z; cases z)
              refine ⟨r, us, _, rfl, rfl, hr15, by omega, Kp.own (kk14.trans (kT.no (S := At d))) hr0 hr15 (by intro xs z; cases z), _, _, _, _, _, rfl, by rw [upd_ne hdr]; exact kT.at hd14, upd_same, ?_⟩
              rw [List.map_append]
              refine TpAll.snoc ((hus14.mono kT.tu).mono kr.tu) ?_
              exact .tup (kr.tu _ _ hT') (.cons (.int _) (.cons (.int _) .nil))
            · have hz : ¬ e1 &&& e2 = 0 := fun z => h (decide_eq_true (congrArg V.int (by rw [band_nat, z]; rfl)))
              rw [estep, if_neg hz]
              refine ⟨kk14, _, _, _, _, us, rfl, hd14, hr14, ?_⟩
              show TpAll H14 us ((_ ++ []).map bitD)
              rw [List.append_nil]
              exact hus14
          · obtain ⟨k12, o8, o9, o10, o11, us, rfl, hd12, hr12, hus⟩ := h
            rw [hbl, List.take_length] at hus
            have hld : l9 ≠ d := fun z => by rw [z, hd9] at hl9'; cases hl9'
            have hl12 := k12.kp l9 _ hld hl9'
            have hz12 := hz9.mono k12.tu
            have S12 : BStepsAt H12 (succB n (ways.map bitsWay)) (xs7 ++ [(bitK p, av, .ref r)]) (keys ++ [p]) := (S9.monoS k12 hd9 dn_nolst).snoc (hp9.mono k12.tu) ⟨us, hr12, hus⟩
            have kf2 := hf2.few n6
            rw [List.length_append, List.length_singleton] at kf2
            have hsl : (succB n (ways.map bitsWay) p).length ≤ 6 := by
              refine Nat.le_trans (List.length_filterMap_le _ _) ?_
              rw [List.length_map]
              exact few
            have hul : us.length = (succB n (ways.map bitsWay) p).length := by rw [hus.length, List.length_map]
            have hzl9 : zs8.length = rest.length := by rw [hz9.length, List.length_map]
            refine ⟨_, rfl, _, rfl, _, rfl, av, d, bitK p, _, .ref r, rfl, rfl, hp9.mono k12.tu, bitK_depth p, Rd.of hd12, S12.dk, hat, l9, r, zs8, us, rfl, rfl, hl12, hr12, by omega, fun l13 hl13 => ?_⟩
            have k13 : Kp No H12 (upd H12 l13 (.lst (zs8 ++ us))) := Kp.new hl13
            have kH : Kp No H (upd H12 l13 (.lst (zs8 ++ us))) := by
              refine ⟨fun b' o' _ e' => ?_, fun b' ys' e' => k13.tu _ _ (k12.tu _ _ (k9.tu _ _ e')), fun b' e' => k9.fr _ (k12.fr _ (k13.fr _ e'))⟩
              exact k13.at (k12.kp b' o' (fun z => by rw [show b' = d from z, hdH] at e'; cases e') (k9.at e'))
            refine ⟨7 * (4096 - (keys ++ [p]).length) + (rest ++ succB n (ways.map bitsWay) p).length, ?_, keys ++ [p], rest ++ succB n (ways.map bitsWay) p, _, l13, _, _, _, _, _, _, _, rfl, ?_, kH, rfl, k13.at hd12, upd_same, ?_, S12.mono k13, hf2, ?_⟩
            · rw [List.length_append, List.length_append, List.length_singleton]
              omega
            · rw [List.length_append, List.length_append, List.length_singleton]
              omega
            · rw [List.map_append]
              exact (hz12.app hus).mono k13.tu
            · exact (((hb9.off hd9 dn_nolst).mono k12 fun _ h => h).weak (N' := No) fun _ h => h.elim).mono k13 fun _ h => h
        · have hpk : p ∈ keys := by simpa using h
          exact ⟨_, by omega, keys, rest, xs7, l9, zs8, _, _, _, _, _, _, rfl, by omega, k9, rfl, hd9, hl9', hz9, S9, hf.skip hpk, hb9⟩
end
end AA

/-! ## T9 -/
set_option Elab.async false
set_option linter.all false
set_option maxRecDepth 100000
set_option maxHeartbeats 4000000
namespace AA
open PySem PySem.Spec PyProof.Rows L2 PySem.W
/-! ### the hashes of the pairs lie apart -/
def pairHash (a b : Nat) : Int := reduceHash (Builtin.Tuple.tupleHashOf [hashInt (a : Int), hashInt (b : Int)])
theorem bitK_hash (w : World) (x : Nat × Nat) : (bitK x).hash w = pairHash x.1 x.2 := by
  unfold bitK pairHash
  rw [NestedKey.hash, NestedKey.hashes, NestedKey.hashes, NestedKey.hashes, NestedKey.hash, NestedKey.hash]
theorem hash_nodup : ((univB 4).map fun x => pairHash x.1 x.2).Nodup := by decide +kernel
theorem nodup_map_inj {α β : Type} (f : α → β) : ∀ {l : List α}, (l.map f).Nodup → ∀ x ∈ l, ∀ y ∈ l, f x = f y → x = y
  | a :: l, h, x, hx, y, hy, e => by
    rw [List.map_cons, List.nodup_cons] at h
    rcases List.mem_cons.mp hx with hx | hx <;> rcases List.mem_cons.mp hy with hy | hy
    · rw [hx, hy]
    · exact absurd (List.mem_map.mpr ⟨y, hy, by rw [← e, hx]⟩) h.1
    · exact absurd (List.mem_map.mpr ⟨x, hx, by rw [e, hy]⟩) h.1
    · exact nodup_map_inj f h.2 x hx y hy e
theorem hash_inj : ∀ x ∈ univB 4, ∀ y ∈ univB 4, pairHash x.1 x.2 = pairHash y.1 y.2 → x = y := fun x hx y hy e => nodup_map_inj (fun x : Nat × Nat => pairHash x.1 x.2) hash_nodup x hx y hy e
theorem nodup_map_of {α β : Type} (f : α → β) : ∀ {l : List α}, l.Nodup → (∀ x ∈ l, ∀ y ∈ l, f x = f y → x = y) → (l.map f).Nodup
  | [], _, _ => List.nodup_nil
  | a :: l, h, hi => by
    rw [List.nodup_cons] at h
    rw [List.map_cons, List.nodup_cons]
    refine ⟨fun hm => ?_, nodup_map_of f h.2 fun x hx y hy => hi x (List.mem_cons_of_mem _ hx) y (List.mem_cons_of_mem _ hy)⟩
    obtain ⟨x, hx, e⟩ := List.mem_map.mp hm
    rw [hi a List.mem_cons_self x (List.mem_cons_of_mem _ hx) e.symm] at h
    exact h.1 hx
theorem hash_map (w : World) : ∀ {xs : List Ent} {keys : List (Nat × Nat)}, xs.map (·.1) = keys.map bitK → (xs.map fun x => x.1.hash w) = keys.map fun p => pairHash p.1 p.2
  | [], [], _ => rfl
  | [], _ :: _, h => by simp at h
  | _ :: _, [], h => by simp at h
  | x :: xs, p :: keys, h => by
    rw [List.map_cons, List.map_cons] at h
    obtain ⟨h1, h2⟩ := List.cons.inj h
    rw [List.map_cons, List.map_cons, hash_map w h2, h1, bitK_hash]
theorem hashes_apart (w : World) {keys : List (Nat × Nat)} {xs : List Ent} (hk : xs.map (·.1) = keys.map bitK) (nd : keys.Nodup) (hu : ∀ p ∈ keys, p ∈ univB 4) : (xs.map fun x => x.1.hash w).Nodup := by
  rw [hash_map w hk]
  exact nodup_map_of (fun p : Nat × Nat => pairHash p.1 p.2) nd fun x hx y hy => hash_inj x (hu x hx) y (hu y hy)
theorem lastOf_eq (succ : Nat × Nat → List (Nat × Nat)) (kl : List (Nat × Nat)) : lastOf succ kl = kl.filter fun p => !(succ p).any fun q => decide (q ∈ kl) := by
  unfold lastOf
  congr 1
  funext p
  congr 2
  funext q
  exact decide_eq_decide.mpr Iff.rfl
theorem mem_map_bitK (p : Nat × Nat) (l : List (Nat × Nat)) : bitK p ∈ l.map bitK ↔ p ∈ l := by
  rw [List.mem_map]
  constructor
  · rintro ⟨q, hq, e⟩
    rw [← bitK_inj e]
    exact hq
  · exact fun h => ⟨p, h, rfl⟩
theorem rest1_eq (succ : Nat × Nat → List (Nat × Nat)) (kl : List (Nat × Nat)) : (kl.filter fun p => decide (bitK p ∉ (lastOf succ kl).map bitK)) = rest1 succ kl := by
  unfold rest1
  congr 1
  funext p
  exact decide_eq_decide.mpr (not_congr (mem_map_bitK p _))
theorem bitD_eqv (p q : Nat × Nat) : PyData.eqv (bitD p) (bitD q) = decide (p = q) := by
  unfold bitD
  rw [Bool.eq_iff_iff, decide_eq_true_eq]
  simp only [PyData.eqv, PyData.eqvAll, Prod.ext_iff, Bool.and_eq_true, beq_iff_eq, Bool.and_true]
  omega
theorem any_eqv (p : Nat × Nat) (l : List (Nat × Nat)) : ((l.map bitD).any fun z => PyData.eqv z (bitD p)) = decide (bitK p ∈ l.map bitK) := by
  rw [List.any_map, Bool.eq_iff_iff, List.any_eq_true, decide_eq_true_eq, mem_map_bitK]
  constructor
  · rintro ⟨q, hq, e⟩
    have e2 : PyData.eqv (bitD q) (bitD p) = true := e
    rw [bitD_eqv] at e2
    rw [← of_decide_eq_true e2]
    exact hq
  · exact fun h => ⟨p, h, by show PyData.eqv (bitD p) (bitD p) = true; rw [bitD_eqv]; exact decide_eq_true rfl⟩
theorem take_filt {α : Type} (l : List α) (g : α → Bool) {i : Nat} {x : α} (h : l[i]? = some x) : (l.take (i + 1)).filter g = (l.take i).filter g ++ (if g x = true then [x] else []) := by
  rw [List.take_succ, h, List.filter_append]
  congr 1
  show List.filter g [x] = _
  rw [List.filter_cons, List.filter_nil]
/-! ### what is left -/
/-- a list of pairs that are entries -/
def PairL (H : Hp) (acc : List V) (ys : List Ent) : Prop := ∃ ts : List Addr, acc = ts.map V.ref ∧ ts.length = ys.length ∧ ∀ (j : Nat) (x : Ent) (T : Addr), ys[j]? = some x → ts[j]? = some T → H T = some (.tup [.ref x.2.1, x.2.2])
theorem PairL.mono {H H' : Hp} {acc : List V} {ys : List Ent} (k : TK H H') (h : PairL H acc ys) : PairL H' acc ys := by
  obtain ⟨ts, h1, h2, h3⟩ := h
  exact ⟨ts, h1, h2, fun j x T a b => k _ _ (h3 j x T a b)⟩
theorem PairL.snoc {H : Hp} {acc : List V} {ys : List Ent} {x : Ent} {T : Addr} (h : PairL H acc ys) (e : H T = some (.tup [.ref x.2.1, x.2.2])) : PairL H (acc ++ [.ref T]) (ys ++ [x]) := by
  obtain ⟨ts, rfl, h2, h3⟩ := h
  refine ⟨ts ++ [T], by rw [List.map_append]; rfl, by rw [List.length_append, List.length_append, h2]; rfl, fun j x' T' a b => ?_⟩
  rw [List.getElem?_append] at a b
  rw [h2] at b
  split at a
  · rename_i hj
    rw [if_pos hj] at b
    exact h3 j x' T' a b
  · rename_i hj
    rw [if_neg hj] at b
    have hj0 : j - ys.length = 0 := by
      rcases Nat.eq_zero_or_pos (j - ys.length) with z | z
      · exact z
      · rw [List.getElem?_eq_none (by rw [List.length_singleton]; exact z)] at a
        cases a
    rw [hj0] at a b
    obtain rfl := Option.some.inj a
    obtain rfl := Option.some.inj b
    exact e
structure LeftAt (H : Hp) (succ : Nat × Nat → List (Nat × Nat)) (xs : List Ent) (kl : List (Nat × Nat)) : Prop where
  dk : DnK H xs
  ks : xs.map (·.1) = kl.map bitK
  row : ∀ x ∈ xs, ∃ p r, x.1 = bitK p ∧ x.2.2 = .ref r ∧ BRow H r (succ p)
theorem BStepsAt.left {H : Hp} {succ : Nat × Nat → List (Nat × Nat)} {xs : List Ent} {keys : List (Nat × Nat)} (h : BStepsAt H succ xs keys) : LeftAt H succ xs keys := by
  refine ⟨h.dk, h.ks, fun x hx => ?_⟩
  obtain ⟨i, hi⟩ := List.getElem?_of_mem hx
  have hl : xs.length = keys.length := by have := congrArg List.length h.ks; rwa [List.length_map, List.length_map] at this
  have hik : i < keys.length := by have := (List.getElem?_eq_some_iff.mp hi).1; omega
  obtain ⟨a, r, h1, h2⟩ := h.row i _ (getD_of hik (0, 0))
  rw [hi] at h1
  cases h1
  exact ⟨_, r, rfl, rfl, h2⟩
theorem LeftAt.mono {H H' : Hp} {succ : Nat × Nat → List (Nat × Nat)} {xs : List Ent} {kl : List (Nat × Nat)} (k : Kp No H H') (h : LeftAt H succ xs kl) : LeftAt H' succ xs kl :=
  ⟨h.dk.mono k.tu, h.ks, fun x hx => by
    obtain ⟨p, r, h1, h2, h3⟩ := h.row x hx
    exact ⟨p, r, h1, h2, h3.mono k⟩⟩
theorem LeftAt.monoS {H H' : Hp} {d : Addr} {u : HO} {succ : Nat × Nat → List (Nat × Nat)} {xs : List Ent} {kl : List (Nat × Nat)} (k : Kp (At d) H H') (e : H d = some u) (h1 : ∀ xs, u ≠ .lst xs) (h : LeftAt H succ xs kl) : LeftAt H' succ xs kl :=
  ⟨h.dk.mono k.tu, h.ks, fun x hx => by
    obtain ⟨p, r, z1, z2, z3⟩ := h.row x hx
    exact ⟨p, r, z1, z2, z3.monoS k e h1⟩⟩
theorem LeftAt.at_ {H : Hp} {succ : Nat × Nat → List (Nat × Nat)} {xs : List Ent} {kl : List (Nat × Nat)} (h : LeftAt H succ xs kl) {i : Nat} {x : Ent} (hi : xs[i]? = some x) : i < kl.length ∧ x.1 = bitK (kl.getD i (0, 0)) ∧ ∃ r, x.2.2 = .ref r ∧ BRow H r (succ (kl.getD i (0, 0))) := by
  have hl : xs.length = kl.length := by have := congrArg List.length h.ks; rwa [List.length_map, List.length_map] at this
  have hik : i < kl.length := by have := (List.getElem?_eq_some_iff.mp hi).1; omega
  have e := congrArg (fun l => l[i]?) h.ks
  simp only [List.getElem?_map] at e
  rw [hi, getD_of hik (0, 0)] at e
  have e1 : x.1 = bitK (kl.getD i (0, 0)) := Option.some.inj e
  obtain ⟨p, r, h1, h2, h3⟩ := h.row x (List.mem_of_getElem? hi)
  have : p = kl.getD i (0, 0) := bitK_inj (h1.symm.trans e1)
  rw [this] at h3
  exact ⟨hik, e1, r, h2, h3⟩
theorem LeftAt.filt {H : Hp} {succ : Nat × Nat → List (Nat × Nat)} {xs : List Ent} {kl : List (Nat × Nat)} (g : NKey → Bool) (h : LeftAt H succ xs kl) : LeftAt H succ (xs.filter fun x => g x.1) (kl.filter fun p => g (bitK p)) := by
  refine ⟨fun x hx => h.dk x (List.mem_filter.mp hx).1, ?_, fun x hx => h.row x (List.mem_filter.mp hx).1⟩
  have e1 : (xs.filter fun x => g x.1).map (·.1) = (xs.map (·.1)).filter g := by rw [List.filter_map]; rfl
  have e2 : (kl.filter fun p => g (bitK p)).map bitK = (kl.map bitK).filter g := by rw [List.filter_map]; rfl
  rw [e1, e2, h.ks]
section
variable {P : Program} {w : World} {K : PySem.W.Frag} {mg : Str → Option Value} {base : Heap}
abbrev s__law_longest : Stmt := top 67
abbrev n__law_longest : List Str := ["_law_graph_here", "_law_turn", "_law_left", "_law_count_here", "_law_ends_here", "_law_pair", "_law_item", "_law_each"]
theorem sc__law_longest : FnScope n__law_longest ["_law_graph_here"] (defScope s__law_longest) := ⟨rfl, rfl, rfl, by decide +kernel, rfl, by decide +kernel, by decide +kernel⟩
def spLLong (P : Program) (w : World) : Sp := fun vs H Q _ => ∃ (d : Addr) (xs : List Ent) (keys starts : List (Nat × Nat)) (succ : Nat × Nat → List (Nat × Nat)), vs = [.ref d] ∧ H d = some (DnO P w d xs) ∧ BStepsAt H succ xs keys ∧ Found starts succ keys ∧ keys.length ≤ 4096 ∧ (∀ p ∈ keys, p ∈ univB 4) ∧ (∀ p, (succ p).length ≤ 6) ∧
  ∀ v H', Kp No H H' → ((∃ i, v = .int i) ∧ (∀ p ∈ keys, Ends succ p) ∨ v = .non ∧ ¬ ∀ p ∈ keys, Ends succ p) → Q v H'
theorem ok__law_longest {f : Addr} {fd : FuncData} (F : DefIn K mg "_law_longest" s__law_longest ["_law_graph_here"] f fd) (B : Bt mg) : Def P w K mg base "_law_longest" 1 ["_law_graph_here"] (spLLong P w) := by
  refine F.ok sc__law_longest (fun vs H Q E h => ?_) (fun cdv A outer s H vs Q E hr h => ?_)
  · obtain ⟨d, _, _, _, _, rfl, _⟩ := h
    rfl
  · obtain ⟨d, xs, keys, starts, succ, rfl, hd, S, Fo, few, hu4, hs6, q⟩ := h
    refine ⟨_, (pss_cons (ps_asg (pe_tup (pa_cons (pe_callTy (r_dnCopy P w hr.units) (by rfl) B.dict (by decide +kernel) (pa_cons (pv 0) pa_nil)) (pa_cons (pe_un un_neg pe_int) pa_nil))) (pg_tupK K 2 (pgs_cons (pg_name (i := 2) sc__law_longest.nd rfl (by first | exact Or.inl rfl | exact Or.inr rfl)) (pgs_cons (pg_name (i := 3) sc__law_longest.nd rfl (by first | exact Or.inl rfl | exact Or.inr rfl)) pgs_nil))))
      (pss_cons (ps_for PassesOwn.never rfl (pi_range1 rfl B.range (pa_cons (pe_op op_add (pe_callB (r_dnLen P w) (by rfl) B.len (by decide +kernel) (pa_cons (pv 0) pa_nil)) pe_int) pa_nil)) (pg_name (i := 1) sc__law_longest.nd rfl (by first | exact Or.inl rfl | exact Or.inr rfl))
      (pss_one (ps_if (pt_cmpR op_gt (pe_callB (r_dnLen P w) (by rfl) B.len (by decide +kernel) (pa_cons (pv 2) pa_nil)) pe_int (nomark _))
        (pss_cons (ps_lock (ps_set (i := 4) sc__law_longest.nd rfl (by first | exact Or.inl rfl | exact Or.inr rfl) (pe_lc rfl sc__law_longest.nd (pi_keysN P w (pv 2)) (blkOk_by (own := [("_law_pair", 5)]) (N := n__law_longest) (sc := defScope s__law_longest) (by decide +kernel)) (fun _ _ _ _ _ => (pg_name (i := 5) sc__law_longest.nd rfl (by first | exact Or.inl rfl | exact Or.inr rfl))) (fun _ _ _ _ _ => (pts_one (pt_not (pt_val (pe_callB (r_any K) (by rfl) B.any (by decide +kernel) (pa_cons (pe_lc rfl sc__law_longest.nd (pi_listK K (pe_ix (x_dn P w hr.units) (pv 2) (pv 5) (fun _ _ => rfl))) (blkOk_by (own := [("_law_each", 7)]) (N := n__law_longest) (sc := relS _ (defScope s__law_longest)) (by decide +kernel)) (fun _ _ _ _ _ => (pg_name (i := 7) sc__law_longest.nd rfl (by first | exact Or.inl rfl | exact Or.inr rfl))) (fun _ _ _ _ _ => pts_nil) (fun _ _ _ _ _ => (pe_cmpR (o_dnIn P w hr.units) (pv 7) (pv 2) (by rfl)))) pa_nil)))))) (fun _ _ _ _ _ => (pv 5)))))
          (pss_cons (ps_if (pt_cmpR (o_eqD K hr.units) (pv 4) (pe_lst pa_nil) (nomark _))
          (pss_one (ps_ret pe_non))
          pss_nil)
          (pss_cons (ps_set (i := 2) sc__law_longest.nd rfl (by first | exact Or.inl rfl | exact Or.inr rfl) (pe_callTy (r_dnPairs P w hr.units) (by rfl) B.dict (by decide +kernel) (pa_cons (pe_lock (pe_lc rfl sc__law_longest.nd (pi_itemsH P w (pv 2)) (blkOk_by (own := [("_law_item", 6)]) (N := n__law_longest) (sc := defScope s__law_longest) (by decide +kernel)) (fun _ _ _ _ _ => (pg_name (i := 6) sc__law_longest.nd rfl (by first | exact Or.inl rfl | exact Or.inr rfl))) (fun _ _ _ _ _ => (pts_one (pt_cmpR (o_notInD K hr.u65) (pe_ix (x_tup K) (pv 6) pe_int (fun _ _ => rfl)) (pv 4) (by rfl)))) (fun _ _ _ _ _ => (pv 6)))) pa_nil)))
          (pss_one (ps_set (i := 3) sc__law_longest.nd rfl (by first | exact Or.inl rfl | exact Or.inr rfl) (pe_op op_add (pv 3) pe_int))))))
        pss_nil)))
      (pss_one (ps_ret (pv 3))))), ?_⟩
    have hsz : (40000 : Nat) < sizeLine := by decide
    have hxl : xs.length = keys.length := by have := congrArg List.length S.ks; rwa [List.length_map, List.length_map] at this
    refine ⟨_, rfl, d, xs, rfl, Rd.of hd, S.dk, hashes_apart w S.ks Fo.nd hu4, fun e0 he0 => ⟨1, rfl, (show 2 ≤ sizeLine by decide), fun T hT => ⟨T, _, rfl, SqT.of upd_same, rfl, _, _, rfl, _, _, rfl, rfl, ?_⟩⟩⟩
    have k1 : Kp No H (upd (upd H e0 (DnO P w e0 xs)) T (.tup [.ref e0, .int (-1)])) := (Kp.new he0).trans (Kp.new hT)
    have he1 : upd (upd H e0 (DnO P w e0 xs)) T (.tup [.ref e0, .int (-1)]) e0 = some (DnO P w e0 xs) := (Kp.new (S := No) hT).at upd_same
    generalize upd (upd H e0 (DnO P w e0 xs)) T (.tup [.ref e0, .int (-1)]) = H1 at *
    refine ⟨_, rfl, d, xs, rfl, Rd.of (k1.at hd), S.dk.mono k1.tu, _, _, rfl, rfl, ((xs.length + 1 : Nat) : Int), rfl, by omega, by omega, ?_⟩
    rw [Int.toNat_natCast]
    refine for_it walk_range0 (fun i σ H2 => Kp No H H2 ∧ ∃ (e : Addr) (c : Int) (o1 o4 o5 o6 o7 : Option V) (kl : List (Nat × Nat)) (ys : List Ent), σ = [some (.ref d), o1, some (.ref e), some (.int c), o4, o5, o6, o7] ∧ H e = none ∧ H2 e = some (DnO P w e ys) ∧ LeftAt H2 succ ys kl ∧ Left keys succ kl ∧ kl.Nodup ∧ (kl.length + i ≤ keys.length ∨ kl = []))
      ⟨k1, e0, -1, _, _, _, _, _, keys, xs, rfl, he0, he1, S.left.mono k1, ⟨fun p h => h, fun p h _ => h⟩, Fo.nd, .inl (by omega)⟩ (fun _ _ _ _ _ => True.intro) (fun i x σ H2 H3 hi h hy => ?_) (fun σ H2 h => ?_)
    · obtain ⟨k2, e, c, o1, o4, o5, o6, o7, kl, ys, rfl, heN, he2, L2, Lf, ndl, hle⟩ := h
      obtain ⟨rfl, rfl⟩ := hy
      have hyl : ys.length = kl.length := by have := congrArg List.length L2.ks; rwa [List.length_map, List.length_map] at this
      have hkl : kl.length ≤ keys.length := nodup_le _ _ ndl Lf.sub
      refine ⟨_, rfl, e, ys, rfl, Rd.of he2, L2.dk, _, _, rfl, rfl, _, rfl, ?_⟩
      refine ite2 (fun h => ?_) (fun h => ?_)
      · have hne : kl ≠ [] := fun z => by
          have := of_decide_eq_true h
          rw [hyl, z] at this
          exact absurd this (by decide)
        refine ⟨e, DnO P w e ys, he2, True.intro, fun od => ?_⟩
        have kl4 : Kp (At e) H3 (upd H3 e (.frz od (DnO P w e ys))) := Kp.put rfl he2 dn_notup
        have he4 : upd H3 e (.frz od (DnO P w e ys)) e = some (.frz od (DnO P w e ys)) := upd_same
        have L4 := L2.monoS kl4 he2 dn_nolst
        generalize upd H3 e (.frz od (DnO P w e ys)) = H4 at *
        refine ⟨_, rfl, e, od, ys, rfl, he4, fun D hD => ?_⟩
        refine lc_filtD (S := No) walk_keysN (by omega) hD (fun z => z) (fun j => !(succ (kl.getD j (0, 0))).any fun q => decide (q ∈ kl)) (fun j => bitD (kl.getD j (0, 0))) (fun H5 k5 => k5.at he4) (fun j x H5 H6 acc N N0 hj k5 hl hy5 hN hN0 => ?_) (fun acc H5 k5 hl5 hr5 => ?_)
        · obtain ⟨rfl, ky, av, rv, hxj, rfl⟩ := hy5
          obtain ⟨hjk, rfl, r, rfl, hrow⟩ := (L4.mono k5).at_ hxj
          have hkey : Tp H6 (.ref av) (bitK (kl.getD j (0, 0))).data := ((L4.mono k5).dk _ (List.mem_of_getElem? hxj)).1
          have hat : atV ys (bitK (kl.getD j (0, 0))) = some (.ref r) := atV_of (a := av) (by
            rw [L4.ks]
            exact List.Pairwise.map _ (fun a b h e => h (bitK_inj e)) ndl) (List.mem_of_getElem? hxj)
          generalize kl.getD j (0, 0) = p at *
          obtain ⟨zs, hr6, hzs⟩ := id hrow
          have hzl : zs.length = (succ p).length := by rw [hzs.length, List.length_map]
          have := hs6 p
          refine ⟨rfl, _, rfl, _, rfl, av, e, bitK p, ys, .ref r, rfl, rfl, hkey, bitK_depth p, .inr ⟨od, k5.at he4⟩, (L4.mono k5).dk, hat, r, rfl, ⟨_, SqL.of hr6⟩, fun D2 hD2 => ?_⟩
          refine lc_mapD (S := No) walk_list (by omega) hD2 (fun z => z) (fun m => .bool (decide ((succ p).getD m (0, 0) ∈ kl))) (fun H7 k7 => SqL.of (k7.at hr6)) (fun m x H7 H8 acc2 N2 hm k7 hl7 hy7 hN2 => ?_) (fun acc2 H7 k7 hl7 hr7 => ?_)
          · obtain ⟨rfl, hx⟩ := hy7
            have hm' : m < (succ p).length := by omega
            obtain ⟨dd, hdd, hvv⟩ := hzs.get hx
            rw [List.getElem?_map, getD_of hm' (0, 0)] at hdd
            obtain rfl := Option.some.inj hdd
            obtain ⟨b, _, rfl, hb, _⟩ := id hvv.tuple
            refine ⟨rfl, _, rfl, _, rfl, b, e, bitK ((succ p).getD m (0, 0)), ys, rfl, rfl, by rw [bitK_data]; exact hvv.mono k7.tu, bitK_depth _, .inr ⟨od, (k5.trans k7).at he4⟩, (L4.mono (k5.trans k7)).dk, hN2 _ _ (Kp.refl _ _) ?_⟩
            rw [mem_bitK L4.ks, Bool.false_bne]
            exact .bl _
          · rw [hzl, range_get (succ p) (fun q => PyData.bool (decide (q ∈ kl))) (0, 0)] at hr7
            obtain rfl := hr7.bls_map _
            refine ⟨D2, _, rfl, SqL.of hl7, _, rfl, ?_⟩
            rw [List.any_map]
            exact ite2 (fun h => ⟨_, rfl, hN _ _ h k7 (by rw [← bitK_data]; exact hkey.mono k7.tu)⟩) fun h => hN0 _ (Bool.eq_false_iff.mpr h) k7
        · have hacc : TpAll H5 acc ((lastOf succ kl).map bitD) := by
            rw [hyl, range_filt kl (fun p => !(succ p).any fun q => decide (q ∈ kl)) bitD (0, 0)] at hr5
            rw [lastOf_eq]
            exact hr5
          refine ⟨k5.at he4, ?_⟩
          -- the dict stands open again
          have he5 := k5.at he4
          have ku : Kp No H3 (upd H5 e (DnO P w e ys)) := by
            have k35 : Kp (At e) H3 H5 := kl4.trans (k5.no (S := At e))
            refine Kp.back (d := e) (k35.trans (Kp.put rfl he5 (by intro xs z; cases z))) he2 upd_same
          have tu5 : TK H5 (upd H5 e (DnO P w e ys)) := fun b zs hb => by
            rw [upd_ne (fun z => by rw [z, he5] at hb; cases hb)]
            exact hb
          have hl6 : upd H5 e (DnO P w e ys) D = some (.lst acc) := by rw [upd_ne (fun z => by rw [z, he5] at hl5; cases hl5)]; exact hl5
          have he6 : upd H5 e (DnO P w e ys) e = some (DnO P w e ys) := upd_same
          have hacc6 := hacc.mono tu5
          have k6 := k2.trans ku
          have L6 := L2.mono ku
          generalize upd H5 e (DnO P w e ys) = H6 at *
          refine ⟨_, rfl, (show 0 ≤ sizeLine by decide), fun p0 hp0 => ⟨.list ((lastOf succ kl).map bitD), .list [], .lst (SqL.of ((Kp.new (S := No) hp0).at hl6)) ((hacc6.mono (TK.new hp0)).dp K), .lst (SqL.of upd_same) .nil, list_shaped bitD _ 2 (by decide) (fun p _ => ⟨bitD_lay p, bitD_depth p⟩), nil_shaped, _, rfl, ?_⟩⟩
          have kn : Kp No H6 (upd H6 p0 (.lst [])) := Kp.new hp0
          have k7 := k6.trans kn
          have he7 := kn.at he6
          have hl7 := kn.at hl6
          have hacc7 := hacc6.mono kn.tu
          have L7 := L6.mono kn
          generalize upd H6 p0 (.lst []) = H7 at *
          rw [eqv_nilL]
          refine ite2 (fun h => ?_) (fun h => ?_)
          · have hlast : lastOf succ kl = [] := by
              cases hl : lastOf succ kl with
              | nil => rfl
              | cons p l => rw [hl] at h; cases h
            exact q _ _ k7 (.inr ⟨rfl, Lf.stuck hne hlast⟩)
          · have hlast : lastOf succ kl ≠ [] := fun z => by rw [z] at h; exact h rfl
            refine ⟨e, DnO P w e ys, he7, True.intro, fun od2 => ?_⟩
            have kl8 : Kp (At e) H7 (upd H7 e (.frz od2 (DnO P w e ys))) := Kp.put rfl he7 dn_notup
            have he8 : upd H7 e (.frz od2 (DnO P w e ys)) e = some (.frz od2 (DnO P w e ys)) := upd_same
            have L8 := L7.monoS kl8 he7 dn_nolst
            have hDe : D ≠ e := fun z => by rw [z, he7] at hl7; cases hl7
            have hl8 := kl8.kp D _ hDe hl7
            have hacc8 := hacc7.mono kl8.tu
            generalize upd H7 e (.frz od2 (DnO P w e ys)) = H8 at *
            refine ⟨_, rfl, e, od2, ys, rfl, he8, fun D2 hD2 => ?_⟩
            refine lc_grow (S := No) walk_itemsN (by omega) hD2 (fun z => z) (fun i acc H => PairL H acc ((ys.take i).filter fun x => decide (x.1 ∉ (lastOf succ kl).map bitK))) (fun i acc Ha Hb _ _ tk h => h.mono tk) (fun _ _ => ⟨[], rfl, rfl, fun j x T h => by simp at h⟩) (fun H9 k9 => k9.at he8) (fun j x H9 H10 acc2 N N0 hj k9 hl9 hr9 hy9 hN hN0 => ?_) (fun acc2 H9 k9 hl9 _ hr9 => ?_)
            · obtain ⟨T, ky, av, rv, hxj, rfl, hT9, rfl⟩ := hy9
              obtain ⟨hjk, e1, r, e2, _⟩ := (L8.mono k9).at_ hxj
              have hkey : Tp H9 (.ref av) (bitK (kl.getD j (0, 0))).data := by
                have := ((L8.mono k9).dk _ (List.mem_of_getElem? hxj)).1
                rw [e1] at this
                exact this
              rw [bitK_data] at hkey
              have kT : Kp No H9 (upd H9 T (.tup [.ref av, rv])) := Kp.new hT9
              have hT10 : upd H9 T (.tup [.ref av, rv]) T = some (.tup [.ref av, rv]) := upd_same
              rw [take_filt ys _ hxj] at hN hN0
              obtain rfl : ky = bitK (kl.getD j (0, 0)) := e1
              generalize kl.getD j (0, 0) = p at *
              generalize upd H9 T (.tup [.ref av, rv]) = H10 at *
              refine ⟨rfl, _, rfl, T, _, 0, _, rfl, rfl, SqT.of hT10, atI_nat (j := 0) rfl, _, rfl, bitD p, (lastOf succ kl).map bitD, (hkey.mono kT.tu).dp K, .lst (SqL.of (kT.at (k9.at hl8))) ((hacc8.mono (k9.tu.trans kT.tu)).dp K), shaped_of (bitD_lay p) (by have := bitD_depth p; omega), list_shaped bitD _ 2 (by decide) (fun p _ => ⟨bitD_lay p, bitD_depth p⟩), _, rfl, ?_⟩
              rw [any_eqv]
              refine ite2 (fun h => ⟨_, rfl, hN _ _ kT ?_⟩) (fun h => hN0 _ kT ?_)
              · rw [if_pos (by simpa using h)]
                exact (hr9.mono kT.tu).snoc hT10
              · rw [if_neg (by simpa using h), List.append_nil]
                exact hr9.mono kT.tu
            · have he9 := k9.at he8
              refine ⟨he9, ?_⟩
              rw [List.take_length] at hr9
              have ku9 : Kp No H7 (upd H9 e (DnO P w e ys)) := Kp.back (d := e) ((kl8.trans (k9.no (S := At e))).trans (Kp.put rfl he9 (by intro xs z; cases z))) he7 upd_same
              have tu9 : TK H9 (upd H9 e (DnO P w e ys)) := fun b zs hb => by
                rw [upd_ne (fun z => by rw [z, he9] at hb; cases hb)]
                exact hb
              have hl10 : upd H9 e (DnO P w e ys) D2 = some (.lst acc2) := by rw [upd_ne (fun z => by rw [z, he9] at hl9; cases hl9)]; exact hl9
              have hr10 := hr9.mono tu9
              have L10 := (L7.mono ku9).filt fun k => decide (k ∉ (lastOf succ kl).map bitK)
              rw [rest1_eq] at L10
              have k10 := k7.trans ku9
              generalize upd H9 e (DnO P w e ys) = H10 at *
              obtain ⟨ts, rfl, htl, hts⟩ := hr10
              have ndr : (rest1 succ kl).Nodup := List.Pairwise.filter _ ndl
              refine ⟨D2, ts, _, rfl, hl10, htl, hts, L10.dk, by rw [L10.ks]; exact List.Pairwise.map _ (fun a b h e => h (bitK_inj e)) ndr, fun e2 he2' => ?_⟩
              have kn2 : Kp No H10 (upd H10 e2 (DnO P w e2 (ys.filter fun x => decide (x.1 ∉ (lastOf succ kl).map bitK)))) := Kp.new he2'
              refine ⟨_, rfl, _, _, rfl, rfl, k10.trans kn2, e2, c + 1, _, _, _, _, _, rest1 succ kl, _, rfl, k10.fr _ he2', upd_same, L10.mono kn2, Lf.rest Fo, ndr, .inl ?_⟩
              have := rest1_less (succ := succ) hlast
              rcases hle with h | h
              · omega
              · exact absurd h hne
      · have hnil : kl = [] := by
          cases kl with
          | nil => rfl
          | cons p l => exact absurd (decide_eq_true (by rw [hyl, List.length_cons]; omega)) h
        exact ⟨k2, e, c, _, _, _, _, _, kl, ys, rfl, heN, he2, L2, Lf, ndl, .inr hnil⟩
    · obtain ⟨k2, e, c, o1, o4, o5, o6, o7, kl, ys, rfl, heN, he2, L2, Lf, ndl, hle⟩ := h
      have hnil : kl = [] := by
        rcases hle with h | h
        · omega
        · exact h
      rw [hnil] at Lf
      exact ⟨_, rfl, q _ _ k2 (.inl ⟨⟨c, rfl⟩, Lf.gone⟩)⟩
end
end AA

/-! ## T10 -/
set_option Elab.async false
set_option linter.all false
set_option maxRecDepth 100000
set_option maxHeartbeats 4000000
namespace AA
open PySem PySem.Spec PyProof.Rows L2 PySem.W
theorem lots4 {n : Nat} (h : n ≤ 4) {p : Nat × Nat} (hp : p ∈ univB n) : p ∈ univB 4 := by
  obtain ⟨h1, h2⟩ := mem_univB.mp hp
  have : 2 ^ n ≤ 2 ^ 4 := Nat.pow_le_pow_right (by decide) h
  exact mem_univB.mpr ⟨by omega, by omega⟩
section
variable {P : Program} {w : World} {K : PySem.W.Frag} {mg : Str → Option Value} {base : Heap}
abbrev s__law_days : Stmt := top 68
abbrev n__law_days : List Str := ["_law_heard_here", "_law_steps_here"]
theorem sc__law_days : FnScope n__law_days ["_law_heard_here"] (defScope s__law_days) := ⟨rfl, rfl, rfl, by decide +kernel, rfl, by decide +kernel, by decide +kernel⟩
def spLDays : Sp := fun vs H Q _ => ∃ (y : V) (n : Nat) (ways : List Rows), vs = [y] ∧ Lp No H y (heardD ways) ∧ WaysOk n ways ∧ ways ≠ [] ∧ 1 ≤ n ∧ n ≤ 4 ∧
  ∀ v H', Kp No H H' → ((∃ i, v = .int i) ∧ Agree n ways ∨ v = .non ∧ ¬ Agree n ways) → Q v H'
theorem ok__law_days {f : Addr} {fd : FuncData} (F : DefIn K mg "_law_days" s__law_days ["_law_heard_here"] f fd) (B : Bt mg) (D__law_graph : Def P w K mg base "_law_graph" 2 ["_law_heard_here"] (spGraph P w)) (D__law_longest : Def P w K mg base "_law_longest" 1 ["_law_graph_here"] (spLLong P w)) :
    Def P w K mg base "_law_days" 3 ["_law_heard_here"] spLDays := by
  refine F.ok sc__law_days (fun vs H Q E h => ?_) (fun cdv A outer s H vs Q E hr h => ?_)
  · obtain ⟨y, _, _, rfl, _⟩ := h
    rfl
  · obtain ⟨y, n, ways, rfl, hy, W, hne, h1, h4, q⟩ := h
    refine ⟨_, (pss_cons (ps_if (pt_cmpR op_eq (pe_callB (r_len K) (by rfl) B.len (by decide +kernel) (pa_cons (pe_ix (x_list K) (pv 0) pe_int (fun _ _ => rfl)) pa_nil)) pe_int (nomark _))
      (pss_one (ps_ret pe_int))
      pss_nil)
      (pss_cons (ps_set (i := 1) sc__law_days.nd rfl (by first | exact Or.inl rfl | exact Or.inr rfl) (pe_def (D__law_longest.mono (by decide)) hr (by rfl) (pa_cons (pe_def (D__law_graph.mono (by decide)) hr (by rfl) (pa_cons (pv 0) pa_nil)) pa_nil)))
      (pss_one (ps_ret (pe_ifExp (pt_cmpR op_isN (pv 1) pe_non (nomark _)) pe_non (pe_op op_add (pv 1) pe_int)))))), ?_⟩
    obtain ⟨a, xs, rfl, _, ha, hall⟩ := id hy.list
    have hw0 : 0 < ways.length := List.length_pos_iff.mpr hne
    obtain ⟨v0, hv0, hd0⟩ := hall.get' (i := 0) (d := .list ((ways.getD 0 []).map fun row => natsD (heardRow row))) (by rw [List.getElem?_map, getD_of hw0 []]; rfl)
    obtain ⟨c, zs, rfl, _, hc, hzs⟩ := hd0.list
    have hzl : zs.length = n := by rw [hzs.length, List.length_map]; exact (W.way _ (List.mem_of_getElem? (getD_of hw0 []))).len
    refine ⟨_, rfl, a, xs, 0, _, rfl, rfl, SqL.of ha, atI_nat (j := 0) hv0, c, zs, rfl, .inl (SqL.of hc), rfl, _, rfl, ?_⟩
    rw [hzl]
    refine ite2 (fun h => ?_) (fun h => ?_)
    · have hn1 : n = 1 := by
        have := V.int.inj (of_decide_eq_true h)
        omega
      subst hn1
      exact q _ _ (Kp.refl _ _) (.inl ⟨⟨_, rfl⟩, agree_one ways⟩)
    · refine ⟨_, rfl, _, n, ways, rfl, hy, W, hne, fun d ys keys H1 k1 hd0 hd S Fo few => ?_⟩
      have hub : ∀ p ∈ keys, p ∈ univB n := fun p hp => by
        have r := Fo.re p hp
        cases r with
        | start h => exact univB_start p h
        | step _ h => exact univB_step W.way _ p h
      have hs6 : ∀ p, (succB n (ways.map bitsWay) p).length ≤ 6 := fun p => by
        refine Nat.le_trans (List.length_filterMap_le _ _) ?_
        rw [List.length_map]
        exact W.few
      refine ⟨d, ys, keys, startsB n, _, rfl, hd, S, Fo, few, fun p hp => lots4 h4 (hub p hp), hs6, fun v H2 k2 hv => ?_⟩
      have hag : (∀ p ∈ keys, Ends (succB n (ways.map bitsWay)) p) ↔ Agree n ways := by rw [Fo.all_ends, agree_iff W.way]
      rw [hag] at hv
      refine ⟨_, rfl, ?_⟩
      rcases hv with ⟨⟨i, rfl⟩, hA⟩ | ⟨rfl, hA⟩
      · refine ⟨rfl, _, rfl, ?_⟩
        refine ite2 (fun h => absurd (of_decide_eq_true h) (fun z => by cases z)) (fun _ => ?_)
        exact ⟨_, rfl, _, _, rfl, rfl, q _ _ (k1.trans k2) (.inl ⟨⟨_, rfl⟩, hA⟩)⟩
      · refine ⟨rfl, _, rfl, ?_⟩
        refine ite2 (fun _ => ?_) (fun h => absurd (decide_eq_true rfl) h)
        exact q _ _ (k1.trans k2) (.inr ⟨rfl, hA⟩)

abbrev s__law_is_good : Stmt := top 71
abbrev n__law_is_good : List Str := ["_law_ways_here"]
theorem sc__law_is_good : FnScope n__law_is_good ["_law_ways_here"] (defScope s__law_is_good) := ⟨rfl, rfl, rfl, by decide +kernel, rfl, by decide +kernel, by decide +kernel⟩
def spLGood : Sp := fun vs H Q _ => ∃ (y : V) (n : Nat) (ways : List Rows), vs = [y] ∧ Tp H y (waysD ways) ∧ WaysOk n ways ∧ 1 ≤ n ∧ n ≤ 4 ∧
  ∀ b H', Kp No H H' → (b = true ↔ ways ≠ [] ∧ Agree n ways) → Q (.bl b) H'
theorem ok__law_is_good {f : Addr} {fd : FuncData} (F : DefIn K mg "_law_is_good" s__law_is_good ["_law_ways_here"] f fd) (B : Bt mg) (D__law_heard : Def P w K mg base "_law_heard" 1 ["_law_ways_here"] spHeard) (D__law_days : Def P w K mg base "_law_days" 3 ["_law_heard_here"] spLDays) :
    Def P w K mg base "_law_is_good" 4 ["_law_ways_here"] spLGood := by
  refine F.ok sc__law_is_good (fun vs H Q E h => ?_) (fun cdv A outer s H vs Q E hr h => ?_)
  · obtain ⟨y, _, _, rfl, _⟩ := h
    rfl
  · obtain ⟨y, n, ways, rfl, hy, W, hn, h4, q⟩ := h
    refine ⟨_, (pss_one (ps_ret (pe_and (pe_cmpR (o_neD K hr.units) (pv 0) (pe_tup pa_nil) (nomark _)) (pe_one (pe_cmpR op_notN (pe_def (D__law_days.mono (by decide)) hr (by rfl) (pa_cons (pe_def (D__law_heard.mono (by decide)) hr (by rfl) (pa_cons (pv 0) pa_nil)) pa_nil)) pe_non (nomark _)))))), ?_⟩
    refine ⟨_, rfl, (show 0 ≤ sizeLine by decide), fun p0 hp0 => ⟨waysD ways, .tuple [], (hy.mono (TK.new hp0)).dp K, .tup (SqT.of upd_same) .nil, shaped_of (waysD_lay _) (by have := waysD_depth ways; omega), nilT_shaped, _, rfl, ?_⟩⟩
    have k1 : Kp No H (upd H p0 (.tup [])) := Kp.new hp0
    generalize upd H p0 (.tup []) = H1 at *
    unfold waysD
    rw [eqv_nilT]
    refine ite2 (fun h => ?_) (fun h => ?_)
    · have hw : ways ≠ [] := fun e => by subst e; cases h
      refine ⟨_, rfl, _, n, ways, rfl, hy.mono k1.tu, W, fun a H2 k2 _ hh => ⟨_, n, ways, rfl, hh, W, hw, hn, h4, fun v H3 k3 hv => ⟨rfl, ?_⟩⟩⟩
      rcases hv with ⟨⟨i, rfl⟩, hag⟩ | ⟨rfl, hna⟩
      · exact q _ _ ((k1.trans k2).trans k3) ⟨fun _ => ⟨hw, hag⟩, fun _ => rfl⟩
      · exact q _ _ ((k1.trans k2).trans k3) ⟨(fun z => by cases z), fun z => absurd z.2 hna⟩
    · have hw : ways = [] := by
        cases ways with
        | nil => rfl
        | cons x l => exact absurd rfl h
      exact q _ _ k1 ⟨(fun z => by cases z), fun z => absurd hw z.1⟩
end
end AA

/-! ## Lm -/
set_option Elab.async false
set_option linter.all false
set_option maxRecDepth 100000
set_option maxHeartbeats 4000000
/-! Lm: sorted(xs, key=lambda row: (len(row), row)), xs a list of tuples. -/
namespace AA
open PySem PySem.Spec PyProof.Rows L2 PySem.W
section
variable {X : Cx} {pins : List (Addr × Obj)} {σ : L2.St} {H : Hp} {s : Shared}
mutual
theorem tp_reads (I : Inv X pins σ H s) : ∀ (d : PyData) (v : V) (u : Value), Tp H v d → RelV v u → Reads s.heap u d []
  | .none, v, u, h, r => by
    cases h
    cases r
    exact .none
  | .bool b, v, u, h, r => by
    cases h
    cases r
    exact .bool b
  | .int i, v, u, h, r => by
    cases h
    obtain ⟨t, rfl⟩ := r
    exact .int i t
  | .str x, v, u, h, r => by
    cases h
    obtain ⟨t, rfl⟩ := r
    exact .str x t
  | .list _, v, u, h, _ => nomatch h
  | .dict _, v, u, h, _ => nomatch h
  | .tuple ds, v, u, h, r => by
    obtain ⟨a, xs, rfl, ha, hall⟩ := h.tuple
    cases r
    obtain ⟨_, its, rv, o, h1, h2, n, h3⟩ := (show ObjOk X.prog X.w H s.heap a (.tup xs) from I.hok a _ ha)
    exact .tuple h1 h2 h3 (by rw [List.toList_toArray]; exact tp_readsAll I ds xs its hall rv)
theorem tp_readsAll (I : Inv X pins σ H s) : ∀ (ds : List PyData) (vs : List V) (us : List Value), TpAll H vs ds → Vals vs us → ReadsAll s.heap us ds []
  | [], vs, us, h, r => by
    cases h
    cases r
    exact .nil
  | d :: ds, vs, us, h, r => by
    cases h with
    | cons h t =>
      cases r with
      | cons r1 r2 => exact ReadsAll.cons (as := []) (bs := []) (tp_reads I d _ _ h r1) (tp_readsAll I ds _ _ t r2)
end
end
section
variable {P : Program} {w : World} {A : Around} {E : Value → Shared → Prop} {s : Shared}
/-- the lambda called on a tuple -/
theorem turn_len_row {mg mb : Str → Option Value} {f t c' : Addr} {a : Str} {params : Arguments} {scope : Scope} {cl : List (Str × Addr)} {pm ctv : Value} {qual : Str} {p1 p2 p3 p4 p5 : Pos} {k5 : Nat} {d : PyData} {vs : List Value}
    (hroom : A.depth < recursionLimit) (ho : s.heap.get? f = some (PySem.W.kla_obj "<lambda>" qual params (.Tuple [.Call (.Name "len" p1) [.Name a p2] [] p3, .Name a p4] k5 p5) scope cl pm c' ctv)) (hcd : s.heap.CodeRec (.ref c') qual) (hnl : s.heap.NoLimit)
    (hg : s.heap.Ns mainGlobals mg) (hm : mg "len" = none) (hb : s.heap.Ns builtinsNs mb) (hlen : mb "len" = some (.builtin "len")) (hk : scope.kind = .function) (hco : scope.isCoroutine = false) (hgen : scope.isGenerator = false) (hcell : ∀ x ∈ scope.names, x.2 ≠ .cell)
    (hla : scope.names.lookup a = some .local) (hll : scope.names.lookup ("len" : Str) = some .globalImplicit)
    (hbind : ∀ v : Value, bindArgs (PySem.W.kla_fn "<lambda>" qual params (.Tuple [.Call (.Name "len" p1) [.Name a p2] [] p3, .Name a p4] k5 p5) scope cl pm (.ref c') ctv) ⟨[v], []⟩ = pure [(a, v)])
    (hda : (a == ("__debug__" : Str)) = false) (ht : IsTup s.heap t vs.toArray) (hz : vs.length < 9223372036854775808) (hr : Reads s.heap (.ref t) d []) :
    wpAny (model P w) A (call (.ref f) [.ref t]) (KeyPure (.tuple [.int (vs.length : Nat), d]) s) E s := by
  refine wpAny_call (codeAny_mono (R := fun r s' => ∃ u, r = .ok (.ret u) ∧ KeyPure (.tuple [.int (vs.length : Nat), d]) s u s') ?_ fun r s' hq => ?_)
  · refine PySem.W.kla_callFunE hroom ho rfl hco hgen rfl hcd ?_
    rw [hbind]
    refine wpAny_pure (wpAny_newFunctionEnv hcell (fun y hy => by rw [List.mem_singleton.mp hy]; exact hla) (fun h₁ hns hsb => ⟨hnl.fresh _ hsb, ?_⟩) hk)
    have kp : ∀ b o, s.heap.get? b = some o → h₁.get? b = some o := fun b o e => hsb.extBut b o (Nat.ne_of_lt (Heap.lt_size e)) (Heap.get?_push_of_some _ e)
    show codeAny _ _ (.expr _ (PySem.W.envX qual scope s.heap.objs.size f (.ref c') cl)) _ _
    refine PySem.W.kla_codeExpr ?_
    refine wpAny_Tuple_spliced ?_
    show wpAny _ _ (spliced [(false, eval (.Call (.Name "len" p1) [.Name a p2] [] p3) (PySem.W.envX qual scope s.heap.objs.size f (.ref c') cl)), (false, eval (.Name a p4) (PySem.W.envX qual scope s.heap.objs.size f (.ref c') cl))]) _ _ _
    have ev : ∀ {A' : Around} {E' : Value → Shared → Prop} {tk : Nat} {p : Pos} {Q' : Value → Shared → Prop}, Q' (.ref t) { s with heap := h₁, toks := tk } → wpAny (model P w) A' (eval (.Name a p) (PySem.W.envX qual scope s.heap.objs.size f (.ref c') cl)) Q' E' { s with heap := h₁, toks := tk } := fun h =>
      wpAny_Name (wpAny_loadName_local hk hla hns (by simp) h) hda
    refine Calls.spliced_cons ?_
    refine wpAny_Call_Name_kw (Calls.Name_function_global hk hll (Calls.loadGlobal_builtin (hg.keeps kp) hm (hb.keeps kp) hlen ?_) (by decide))
    refine PyProof.Rows.callWith_builtin1 (env := PySem.W.envX qual scope s.heap.objs.size f (.ref c') cl) (e := .Name a p2) (rest := []) ?_ rfl rfl
    show wpAny _ _ (spliced [(false, eval (.Name a p2) (PySem.W.envX qual scope s.heap.objs.size f (.ref c') cl))]) _ _ _
    refine Calls.spliced_cons (ev (Calls.spliced_nil ?_))
    refine len_tuple (ht.keeps kp) (by rw [List.size_toArray]; omega) ?_
    refine Calls.spliced_cons (ev (Calls.spliced_nil ⟨(show 2 ≤ sizeLine by decide), ?_⟩))
    refine ⟨_, rfl, _, _, rfl, fun b o e => Heap.get?_push_of_some _ (kp b o e), ?_⟩
    refine .tuple (Heap.get?_push_size _ rfl) rfl rfl ?_
    refine ReadsAll.cons (as := []) (bs := []) ?_ (ReadsAll.cons (as := []) (bs := []) (reads_keeps (fun b o e => Heap.get?_push_of_some _ (kp b o e)) hr) .nil)
    have hsz : vs.toArray.size = vs.length := List.size_toArray
    rw [hsz]
    exact .int _ _
  · obtain ⟨u, rfl, h⟩ := hq
    exact h
end

/-! ### what stays but for tables -/
abbrev NoTbl (o : HO) : Prop := ∀ ps, o ≠ .tbl ps
/-- nothing of ours stands there -/
abbrev Fr (H : Hp) (a : Addr) : Prop := ∀ o, H a = some o → ¬ NoTbl o
structure KN (S : Addr → Prop) (H H' : Hp) : Prop where
  kp : ∀ b o, ¬ S b → NoTbl o → H b = some o → H' b = some o
  tu : TK H H'
  fr : ∀ b o, NoTbl o → H b = some o → ∃ u, H' b = some u ∧ NoTbl u
theorem lst_noTbl {xs : List V} : NoTbl (.lst xs) := fun ps z => by cases z
theorem tup_noTbl {xs : List V} : NoTbl (.tup xs) := fun ps z => by cases z
section
variable {S S' : Addr → Prop} {H H1 H2 : Hp} {a : Addr} {o : HO}
theorem Kp.n (k : Kp No H H1) : KN S H H1 := ⟨fun b o _ _ e => k.at e, k.tu, fun b o n e => ⟨o, k.at e, n⟩⟩
theorem KN.refl (S : Addr → Prop) (H : Hp) : KN S H H := (Kp.refl No H).n
theorem KN.trans (k : KN S H H1) (k' : KN S H1 H2) : KN S H H2 := ⟨fun b o n t e => k'.kp b o n t (k.kp b o n t e), fun b xs e => k'.tu b xs (k.tu b xs e), fun b o n e => by
  obtain ⟨u, h1, h2⟩ := k.fr b o n e
  exact k'.fr b u h2 h1⟩
theorem KN.mono (k : KN S H H1) (h : ∀ b, S b → S' b) : KN S' H H1 := ⟨fun b o n => k.kp b o fun z => n (h b z), k.tu, k.fr⟩
theorem KN.no (k : KN No H H1) : KN S H H1 := k.mono fun _ z => z.elim
theorem KN.at (k : KN No H H1) {u : HO} (n : NoTbl u) (e : H a = some u) : H1 a = some u := k.kp a u (fun z => z) n e
theorem KN.new (e : H a = none) (S : Addr → Prop) : KN S H (upd H a o) := (Kp.new (S := No) e).n
theorem KN.fresh (k : KN S H H1) (e : H1 a = none) : Fr H a := fun o h n => by
  obtain ⟨u, h1, _⟩ := k.fr a o n h
  rw [e] at h1
  cases h1
theorem Fr.none (e : H a = none) : Fr H a := fun o h => by rw [e] at h; cases h
/-- an object written that was not there ahead -/
theorem KN.own {u : HO} (k : KN S H H1) (n : Fr H a) (e : H1 a = some u) (ht : ∀ xs, u ≠ .tup xs) : KN S H (upd H1 a o) := by
  have hne : ∀ b v, NoTbl v → H b = some v → b ≠ a := fun b v nt h z => n v (by rw [← z]; exact h) nt
  refine ⟨fun b v m nt h => by rw [upd_ne (hne b v nt h)]; exact k.kp b v m nt h, fun b xs h => by rw [upd_ne (hne b _ tup_noTbl h)]; exact k.tu b xs h, fun b v nt h => ?_⟩
  obtain ⟨u', h1, h2⟩ := k.fr b v nt h
  exact ⟨u', by rw [upd_ne (hne b v nt h)]; exact h1, h2⟩
theorem KN.put {u : HO} (hS : S a) (e : H a = some u) (ht : ∀ xs, u ≠ .tup xs) (nt : NoTbl o) : KN S H (upd H a o) := by
  refine ⟨fun b v m n h => ?_, fun b xs h => ?_, fun b v n h => ?_⟩
  · rw [upd_ne (fun z => m (by rw [z]; exact hS))]; exact h
  · rw [upd_ne (fun z => ht xs (Option.some.inj (e.symm.trans (by rw [← z]; exact h))))]; exact h
  · by_cases hb : b = a
    · rw [hb]; exact ⟨o, upd_same, nt⟩
    · rw [upd_ne hb]; exact ⟨v, h, n⟩
theorem KN.of_ext (e : LamX.ExtN H H1) : KN S H H1 := ⟨fun b o _ n h => e b o h n, fun b xs h => e b _ h (fun ps z => by cases z), fun b o n h => ⟨o, e b o h n, n⟩⟩
end
theorem tabs_mono {T : List (Addr × Str)} {H H' : Hp} (k : Kp No H H') (t : LamX.Tabs T H) : LamX.Tabs T H' := t.ext fun b o e => k.at e
theorem tabs_put {T : List (Addr × Str)} {H : Hp} {a : Addr} {u o : HO} (e : H a = some u) (h1 : ∀ ps, u ≠ .tbl ps) (h2 : ∀ c q, u ≠ LamX.CodeO c q) (t : LamX.Tabs T H) : LamX.Tabs T (upd H a o) := fun p hp => by
  obtain ⟨ps, g1, g2, g3⟩ := t p hp
  refine ⟨ps, by rw [upd_ne (fun z => h1 ps (Option.some.inj (e.symm.trans (by rw [← z]; exact g1))))]; exact g1, g2, fun pos cv hc => ?_⟩
  obtain ⟨c, e1, e2⟩ := g3 pos cv hc
  exact ⟨c, e1, by rw [upd_ne (fun z => h2 c _ (Option.some.inj (e.symm.trans (by rw [← z]; exact e2))))]; exact e2⟩
/-! ### the rule -/
def lenKey (r : Lot) : PyData := .tuple [.int (r.length : Nat), lotD r]
def setsOf (n : Nat) : List Lot := (lots n).mergeSort (dataLe false lenKey)
def tSortLen (T : List (Addr × Str)) (te : TE) : TE := fun σ H Q => te σ H fun x H1 => ∃ (l : Addr) (xs : List V) (rows : List Lot), x = .ref l ∧ H1 l = some (.lst xs) ∧ TpAll H1 xs (rows.map lotD) ∧ rows.length ≤ 1000 ∧ (∀ r ∈ rows, r.length ≤ 1000) ∧ LamX.Tabs T H1 ∧
  ∀ H2 p ys, KN No H1 H2 → LamX.Tabs T H2 → H2 p = none → TpAll H2 ys ((rows.mergeSort (dataLe false lenKey)).map lotD) → Q (.ref p) (upd H2 p (.lst ys))
section
variable {X : Cx} {e : Expr} {te : TE}
theorem pe_sortLen {T : List (Addr × Str)} {c P : Addr} {k : Nat} {a : Str} {params : Arguments} {scope : Scope} {p pos lpos kpos p1 p2 p3 p4 p5 : Pos} {k5 : Nat} (he : PE X e te) (hr : Room k X.A) (hg : Gl X "sorted") (hm : X.mg "sorted" = none) (hml : X.mg "len" = none)
    (TB : LamX.TabB X.base X.mg c P) (hcode : X.env.code = .ref c) (hT : (P, X.env.qual ++ "<lambda>") ∈ T) (hT1 : ∀ p ∈ T, p.1 = P → p.2 = X.env.qual ++ "<lambda>")
    (hdef : defaultsOf params X.env = ([], []) := by rfl) (hfree : ∀ y ∈ scope.names, y.2 ≠ .free := by decide +kernel) (hk : scope.kind = .function := by rfl) (hco : scope.isCoroutine = false := by rfl) (hgen : scope.isGenerator = false := by rfl) (hcell : ∀ x ∈ scope.names, x.2 ≠ .cell := by decide +kernel)
    (hla : scope.names.lookup a = some .local := by rfl) (hll : scope.names.lookup ("len" : Str) = some .globalImplicit := by rfl) (hda : (a == ("__debug__" : Str)) = false := by decide)
    (hbind : ∀ (qual : Str) (cl : List (Str × Addr)) (pm ctv v : Value) (c' : Addr), bindArgs (PySem.W.kla_fn "<lambda>" qual params (.Tuple [.Call (.Name "len" p1) [.Name a p2] [] p3, .Name a p4] k5 p5) scope cl pm (.ref c') ctv) ⟨[v], []⟩ = pure [(a, v)] := by intro _ _ _ _ _ _; rfl)
    (hc : X.calm = true := by rfl)
    (hst : backTo pos (starEach [e] X.env) = [(false, eval e X.env)] := by rfl)
    (hkw : backToKw pos (keywordEach [⟨some (Str.ofString "key"), .Lambda params (.Tuple [.Call (.Name "len" p1) [.Name a p2] [] p3, .Name a p4] k5 p5) scope lpos, kpos⟩] X.env) = [(some (Str.ofString "key"), do let v ← eval (.Lambda params (.Tuple [.Call (.Name "len" p1) [.Name a p2] [] p3, .Name a p4] k5 p5) scope lpos) X.env; standAt pos; pure v)] := by rfl) :
    PE X (.Call (.Name "sorted" p) [e] [⟨some (Str.ofString "key"), .Lambda params (.Tuple [.Call (.Name "len" p1) [.Name a p2] [] p3, .Name a p4] k5 p5) scope lpos, kpos⟩] pos) (tSortLen T te) := by
  refine ⟨fun pins s σ H Q I h => ?_⟩
  refine wpAny_Call_Name_kw (ld_blt I hg hm (by decide +kernel : bootBuiltins "sorted" = some (.builtin "sorted")) ?_)
  rw [hst, hkw]
  refine PyProof.Rows.callWith_builtin_kwB rfl rfl (PyProof.Rows.evalArgs_kwB rfl ?_)
  refine Calls.spliced_cons (thn (he.run pins s σ H _ I h) fun u s1 ⟨x, H1, I1, r1, l, xs, rows, ex, hl, hall, hlen, hrl, hTT, q⟩ => Calls.spliced_nil ?_)
  subst ex
  cases r1
  show wpAny _ _ (evalAll [do let v ← eval (.Lambda params (.Tuple [.Call (.Name "len" p1) [.Name a p2] [] p3, .Name a p4] k5 p5) scope lpos) X.env; standAt pos; pure v]) _ _ s1
  refine wpAny_evalAll_cons (wpAny_bind ?_)
  refine LamX.lam_make2 I1 TB hcode hT hT1 hTT hdef (fun y hy e => absurd e (hfree y hy)) fun f c' pm ctv H2 s2 I2 hE hT2 hfo _ _ hcO => wpAny_bind (wpAny_standAt (wpAny_pure (wpAny_evalAll_nil ?_)))
  have kE : KN No H1 H2 := KN.of_ext hE
  have hl2 := kE.at lst_noTbl hl
  have hall2 := hall.mono kE.tu
  obtain ⟨its, rv, pl, hz⟩ := I2.list (SqL.of (K := X.K) hl2)
  have ee := each_of hall2 rv
  have hlb : rows.length = xs.length := by rw [hall.length, List.length_map]
  obtain ⟨mb, hb1, hb2⟩ := I2.mod.blt
  have hlenb : mb "len" = some (.builtin "len") := (hb2 "len" (by decide)).trans (by decide +kernel)
  obtain ⟨⟨oc, cvs, ct, hoc, hdc, hvc⟩, _, _⟩ := (show ObjOk X.prog X.w H2 s2.heap c' (LamX.CodeO c' (X.env.qual ++ "<lambda>")) from I2.hok c' _ hcO)
  have dk : ∀ r : Lot, (lenKey r).depth ≤ 3 := fun r => by
    unfold lenKey
    rw [PyData.depth, PyData.depthAll, PyData.depthAll, PyData.depthAll, PyData.depth]
    have := lotD_depth r
    omega
  have hun := hr.units
  have hsz : (1000 : Nat) < sizeLine := by decide
  show wpAny _ _ (call (.builtin "sorted") [.ref l] [(Str.ofString "key", .ref f)]) _ _ s2
  refine sorted_key_data (b := false) lenKey pl.isList ee (AllAlike.of fun x y => by
      unfold lenKey
      rw [alike, alikeAll, alikeAll, alikeAll, alike_lot, alike]
      rfl) (Sortable.tuples fun _ => ⟨_, _, rfl⟩) (by omega) (fun r _ => by have := dk r; omega) (ksk_s1 _ _) (fun _ => ksk_l1 _ _) (fun _ => ksk_t1 _ _)
    (fun v r hR hmem h tk kp => ?_) fun out cc h' tk kp _ hD hlo eo => ?_
  · obtain ⟨x, rx, tx⟩ := hR
    obtain ⟨t, us, rfl, ht, hus⟩ := id tx.tuple
    cases rx
    obtain ⟨its2, rv2, pt, hz2⟩ := I2.tuple (SqT.of (K := X.K) ht)
    have e2 : its2.length = r.length := by rw [← rv2.length, hus.length, List.length_map]
    have rr := tp_reads I2 _ _ _ tx rfl
    have hrm := hrl r hmem
    have tr := turn_len_row (P := X.prog) (w := X.w) (A := X.A.in1.in1) (E := fun _ _ => False) (s := { s2 with heap := h, toks := tk }) (mg := X.mg) (mb := mb) (f := f) (t := t) (c' := c') (a := a) (params := params) (scope := scope) (d := lotD r) (vs := its2) (p1 := p1) (p2 := p2) (p3 := p3) (p4 := p4) (p5 := p5) (k5 := k5)
      (show X.A.depth < recursionLimit from hr.depth) (kp _ _ hfo) ⟨c', oc, cvs, ct, rfl, kp _ _ hoc, hdc, hvc⟩ (I2.nolimit.keeps kp) ((I2.ok.mod.glob.keeps I2.bk).keeps kp) hml ((hb1.keeps I2.bk).keeps kp) hlenb hk hco hgen hcell hla hll (fun v => hbind _ _ _ _ _ _) hda (pt.keeps kp) (by omega) (reads_keeps kp rr)
    rw [e2] at tr
    exact tr
  · obtain ⟨ys, ry, hy⟩ := of_each eo
    have hyl : ys.length ≤ sizeLine := by
      rw [ry.length, hlo]
      omega
    exact ⟨.ref _, upd H2 (s2.heap.objs.size + 1) (.lst ys), I2.laid (t' := tk) kp (Nat.le_succ _) ⟨hyl, out, cc, ry, hD⟩, rfl, q _ _ _ kE hT2 (I2.hok.fresh (Nat.le_succ _)) hy⟩
end
end AA

/-! ## T11 -/
set_option Elab.async false
set_option linter.all false
set_option maxRecDepth 100000
set_option maxHeartbeats 4000000
namespace AA
open PySem PySem.Spec PyProof.Rows L2 PySem.W
section
variable {P : Program} {w : World} {K : PySem.W.Frag} {mg : Str → Option Value} {base : Heap}
/-- the rule for a def whose own code object is told -/
theorem DefIn.okC {x : Str} {st : Stmt} {f : Addr} {fd : FuncData} {N ps : List Str} {k : Nat} {sp : Sp} {c : Addr} (D : DefIn K mg x st ps f fd) (hc : fd.code = .ref c) (S : FnScope N ps (defScope st)) (len : ∀ vs H Q E, sp vs H Q E → vs.length = ps.length)
    (body : ∀ (A : Around) (outer : List Env) (s : Shared) (H : Hp) (vs : List V) (Q : VK) (E : XK), Room k (A.deeper (envOfC x (defScope st) s.heap.objs.size f (.ref c))) → sp vs H Q E →
      ∃ t, PSs (cxOf CX0 P w K mg base N x (defScope st) f (.ref c) A outer s H E).nox (defBody st) t ∧ t { nx := fun _ H' => Q .non H', rt := Q } (start N vs) H) : Def P w K mg base x (k + 1) ps sp := by
  refine ⟨f, fd, ?_, D.mg, D.fn.kp, D.bi⟩
  obtain ⟨oc, od, kV, doc, pm, an, cdv, ct, osl, rfl, lk, hcd⟩ := D.fn.ex
  obtain rfl : cdv = .ref c := hc
  refine fn_of lk hcd S len fun A outer s H vs Q E hr hsp => ?_
  obtain ⟨t, h, q⟩ := body A outer s H vs Q E hr hsp
  exact ⟨t, h.nox, q⟩
theorem lots_rows {n : Nat} (h : n ≤ 6) : (lots n).length ≤ 1000 ∧ ∀ r ∈ lots n, r.length ≤ 1000 := by
  constructor
  · rw [lots_length]
    have : 2 ^ n ≤ 2 ^ 6 := Nat.pow_le_pow_right (by decide) h
    omega
  · intro r hr
    have := (lots_lt hr).2
    omega
abbrev s_sets_of : Stmt := top 44
abbrev n_sets_of : List Str := ["many", "found", "at", "row"]
theorem sc_sets_of : FnScope n_sets_of ["many"] (defScope s_sets_of) := ⟨rfl, rfl, rfl, by decide +kernel, rfl, by decide +kernel, by decide +kernel⟩
def spSets (T : List (Addr × Str)) : Sp := fun vs H Q _ => ∃ (n : Nat), vs = [.int (n : Int)] ∧ n ≤ 6 ∧ LamX.Tabs T H ∧
  ∀ p ys H', KN No H H' → LamX.Tabs T H' → Fr H p → H' p = some (.lst ys) → TpAll H' ys ((setsOf n).map lotD) → Q (.ref p) H'
theorem ok_sets_of {f : Addr} {fd : FuncData} {T : List (Addr × Str)} {c PT : Addr} (F : DefIn K mg "sets_of" s_sets_of ["many"] f fd) (hcode : fd.code = .ref c) (B : Bt mg) (TB : LamX.TabB base mg c PT) (hT : (PT, Str.ofString "sets_of.<locals>.<lambda>") ∈ T) (hT1 : ∀ p ∈ T, p.1 = PT → p.2 = Str.ofString "sets_of.<locals>.<lambda>") :
    Def P w K mg base "sets_of" 1 ["many"] (spSets T) := by
  refine F.okC hcode sc_sets_of (fun vs H Q E h => ?_) (fun A outer s H vs Q E hr h => ?_)
  · obtain ⟨n, rfl, _⟩ := h
    rfl
  · obtain ⟨n, rfl, hn, hTT, q⟩ := h
    refine ⟨_, (pss_cons (ps_set (i := 1) sc_sets_of.nd rfl (by first | exact Or.inl rfl | exact Or.inr rfl) (pe_lst (pa_cons (pe_tup pa_nil) pa_nil)))
      (pss_cons (ps_for PassesOwn.never rfl (pi_range1 rfl B.range (pa_cons (pv 0) pa_nil)) (pg_name (i := 2) sc_sets_of.nd rfl (by first | exact Or.inl rfl | exact Or.inr rfl))
      (pss_one (ps_set (i := 1) sc_sets_of.nd rfl (by first | exact Or.inl rfl | exact Or.inr rfl) (pe_op op_cat (pv 1) (pe_lc rfl sc_sets_of.nd (pi_listK K (pv 1)) (blkOk_by (own := [("row", 3)]) (N := n_sets_of) (sc := defScope s_sets_of) (by decide +kernel)) (fun _ _ _ _ _ => (pg_name (i := 3) sc_sets_of.nd rfl (by first | exact Or.inl rfl | exact Or.inr rfl))) (fun _ _ _ _ _ => pts_nil) (fun _ _ _ _ _ => (pe_op (o_catA K) (pv 3) (pe_tup (pa_cons (pv 2) pa_nil)))))))))
      (pss_one (ps_ret (pe_sortLen (pv 1) hr (by rfl) B.sorted B.len TB rfl hT hT1))))), ?_⟩
    have hsz : (1000 : Nat) < sizeLine := by decide
    refine ⟨(show 0 ≤ sizeLine by decide), fun e0 he0 => ⟨(show 1 ≤ sizeLine by decide), fun l hl => ?_⟩⟩
    have k0 : Kp No H (upd (upd H e0 (.tup [])) l (.lst [.ref e0])) := (Kp.new he0).trans (Kp.new hl)
    have hl0 : upd (upd H e0 (.tup [])) l (.lst [.ref e0]) l = some (.lst [.ref e0]) := upd_same
    have ht0 : TpAll (upd (upd H e0 (.tup [])) l (.lst [.ref e0])) [.ref e0] ((lots 0).map lotD) := .cons (.tup (by rw [upd_ne (ne_of_none upd_same hl)]; exact upd_same) .nil) .nil
    generalize upd (upd H e0 (.tup [])) l (.lst [.ref e0]) = H0 at *
    refine ⟨_, rfl, (n : Int), rfl, by omega, by omega, ?_⟩
    rw [Int.toNat_natCast]
    refine for_it walk_range0 (fun i σ H1 => Kp No H H1 ∧ ∃ (o2 o3 : Option V) (l : Addr) (xs : List V), σ = [some (.int (n : Int)), some (.ref l), o2, o3] ∧ H1 l = some (.lst xs) ∧ TpAll H1 xs ((lots i).map lotD))
      ⟨k0, _, _, l, _, rfl, hl0, ht0⟩ (fun _ _ _ _ _ => True.intro) (fun i x σ H1 H2 hi h hy => ?_) (fun σ H1 h => ?_)
    · obtain ⟨k, o2, o3, l, xs, rfl, hl1, hx1⟩ := h
      obtain ⟨rfl, rfl⟩ := hy
      have hxl : xs.length = (lots i).length := by rw [hx1.length, List.length_map]
      have hx64 : (lots i).length ≤ 64 := by
        rw [lots_length]
        exact Nat.pow_le_pow_right (by decide) (show i ≤ 6 by omega)
      refine ⟨_, rfl, _, rfl, l, rfl, ⟨_, SqL.of hl1⟩, fun D hD => ?_⟩
      refine lc_mapD (S := No) walk_list (by omega) hD (fun z => z) (fun j => lotD ((lots i).getD j [] ++ [i])) (fun H3 k3 => SqL.of (k3.at hl1)) (fun j x H3 H4 acc N hj k3 hacc hy3 hN => ?_) (fun acc H3 k3 hacc hr3 => ?_)
      · obtain ⟨rfl, hx⟩ := hy3
        have hj' : j < (lots i).length := by omega
        obtain ⟨d, hd, hv⟩ := (hx1.mono k3.tu).get hx
        rw [List.getElem?_map, getD_of hj' []] at hd
        obtain rfl := Option.some.inj hd
        have ⟨_, hrl⟩ := lots_lt (List.mem_of_getElem? (getD_of hj' []))
        generalize (lots i).getD j [] = row at *
        obtain ⟨a, rfl, ha⟩ := lot_of hv
        refine ⟨rfl, _, rfl, _, rfl, (show 1 ≤ sizeLine by decide), fun b hb => ?_⟩
        have kb : Kp No H4 (upd H4 b (.tup [.int (i : Int)])) := Kp.new hb
        refine ⟨a, b, _, [.int (i : Int)], rfl, rfl, SqT.of (kb.tu _ _ ha), SqT.of upd_same, by rw [List.length_map, List.length_map, List.length_singleton]; omega, fun hz => ?_, fun _ hz => absurd hz (by simp), fun _ _ p hp => ?_⟩
        · have hrow : row = [] := by
            cases row with
            | nil => rfl
            | cons x l => simp at hz
          subst hrow
          exact hN _ _ kb (.tup upd_same (.cons (.int _) .nil))
        · refine hN _ _ (kb.trans (Kp.new hp)) (.tup upd_same ?_)
          rw [List.map_append (f := fun (k : Nat) => PyData.int (k : Int))]
          exact TpAll.snoc (by rw [lot_vals]; exact TpAll.ints _) (.int _)
      · rw [hxl, range_get (lots i) (fun r => lotD (r ++ [i])) []] at hr3
        have hal : acc.length = (lots i).length := by rw [hr3.length, List.length_map]
        refine ⟨l, D, xs, acc, rfl, rfl, k3.at hl1, hacc, by omega, fun l2 hl2 => ⟨(k.trans k3).trans (Kp.new hl2), _, _, l2, _, rfl, upd_same, ?_⟩⟩
        show TpAll _ _ ((lots i ++ (lots i).map (· ++ [i])).map lotD)
        rw [List.map_append, List.map_map]
        exact ((hx1.mono k3.tu).app hr3).mono (TK.new hl2)
    · obtain ⟨k, o2, o3, l, xs, rfl, hl1, hx1⟩ := h
      refine ⟨_, rfl, l, xs, lots n, rfl, hl1, hx1, (lots_rows hn).1, (lots_rows hn).2, tabs_mono k hTT, fun H2 p ys k2 hT2 hp hys => ?_⟩
      refine q p ys _ ((k.n.trans k2).trans (KN.new hp _)) (tabs_mono (Kp.new hp) hT2) ((k.n.trans k2).fresh hp) upd_same (hys.mono (TK.new hp))

abbrev s__law_sets : Stmt := top 69
abbrev n__law_sets : List Str := ["_law_tally", "_law_found", "_law_at", "_law_sized", "_law_row_here", "_law_size_here"]
theorem sc__law_sets : FnScope n__law_sets ["_law_tally"] (defScope s__law_sets) := ⟨rfl, rfl, rfl, by decide +kernel, rfl, by decide +kernel, by decide +kernel⟩
def spLSets : Sp := fun vs H Q _ => ∃ (n : Nat), vs = [.int (n : Int)] ∧ n ≤ 6 ∧
  ∀ p ys H', Kp No H H' → H p = none → H' p = some (.lst ys) → TpAll H' ys ((setsOf n).map lotD) → Q (.ref p) H'
theorem ok__law_sets {f : Addr} {fd : FuncData} (F : DefIn K mg "_law_sets" s__law_sets ["_law_tally"] f fd) (B : Bt mg) : Def P w K mg base "_law_sets" 1 ["_law_tally"] spLSets := by
  refine F.ok sc__law_sets (fun vs H Q E h => ?_) (fun cdv A outer s H vs Q E hr h => ?_)
  · obtain ⟨n, rfl, _⟩ := h
    rfl
  · obtain ⟨n, rfl, hn, q⟩ := h
    refine ⟨_, (pss_cons (ps_set (i := 1) sc__law_sets.nd rfl (by first | exact Or.inl rfl | exact Or.inr rfl) (pe_lst (pa_cons (pe_tup pa_nil) pa_nil)))
      (pss_cons (ps_for PassesOwn.never rfl (pi_range1 rfl B.range (pa_cons (pv 0) pa_nil)) (pg_name (i := 2) sc__law_sets.nd rfl (by first | exact Or.inl rfl | exact Or.inr rfl))
      (pss_one (ps_set (i := 1) sc__law_sets.nd rfl (by first | exact Or.inl rfl | exact Or.inr rfl) (pe_op op_cat (pv 1) (pe_lc rfl sc__law_sets.nd (pi_listK K (pv 1)) (blkOk_by (own := [("_law_row_here", 4)]) (N := n__law_sets) (sc := defScope s__law_sets) (by decide +kernel)) (fun _ _ _ _ _ => (pg_name (i := 4) sc__law_sets.nd rfl (by first | exact Or.inl rfl | exact Or.inr rfl))) (fun _ _ _ _ _ => pts_nil) (fun _ _ _ _ _ => (pe_op (o_catA K) (pv 4) (pe_tup (pa_cons (pv 2) pa_nil)))))))))
      (pss_cons (ps_set (i := 3) sc__law_sets.nd rfl (by first | exact Or.inl rfl | exact Or.inr rfl) (pe_callB (r_sortD K lenKey hr.units) (by rfl) B.sorted (by decide +kernel) (pa_cons (pe_lc rfl sc__law_sets.nd (pi_listK K (pv 1)) (blkOk_by (own := [("_law_row_here", 4)]) (N := n__law_sets) (sc := defScope s__law_sets) (by decide +kernel)) (fun _ _ _ _ _ => (pg_name (i := 4) sc__law_sets.nd rfl (by first | exact Or.inl rfl | exact Or.inr rfl))) (fun _ _ _ _ _ => pts_nil) (fun _ _ _ _ _ => (pe_tup (pa_cons (pe_callB (r_len K) (by rfl) B.len (by decide +kernel) (pa_cons (pv 4) pa_nil)) (pa_cons (pv 4) pa_nil))))) pa_nil)))
      (pss_one (ps_ret (pe_lc rfl sc__law_sets.nd (pi_listK K (pv 3)) (blkOk_by (own := [("_law_size_here", 5), ("_law_row_here", 4)]) (N := n__law_sets) (sc := defScope s__law_sets) (by decide +kernel)) (fun _ _ _ _ _ => (pg_tupK K 2 (pgs_cons (pg_name (i := 5) sc__law_sets.nd rfl (by first | exact Or.inl rfl | exact Or.inr rfl)) (pgs_cons (pg_name (i := 4) sc__law_sets.nd rfl (by first | exact Or.inl rfl | exact Or.inr rfl)) pgs_nil)))) (fun _ _ _ _ _ => pts_nil) (fun _ _ _ _ _ => (pv 4)))))))), ?_⟩
    have hsz : (1000 : Nat) < sizeLine := by decide
    refine ⟨(show 0 ≤ sizeLine by decide), fun e0 he0 => ⟨(show 1 ≤ sizeLine by decide), fun l hl => ?_⟩⟩
    have k0 : Kp No H (upd (upd H e0 (.tup [])) l (.lst [.ref e0])) := (Kp.new he0).trans (Kp.new hl)
    have hl0 : upd (upd H e0 (.tup [])) l (.lst [.ref e0]) l = some (.lst [.ref e0]) := upd_same
    have ht0 : TpAll (upd (upd H e0 (.tup [])) l (.lst [.ref e0])) [.ref e0] ((lots 0).map lotD) := .cons (.tup (by rw [upd_ne (ne_of_none upd_same hl)]; exact upd_same) .nil) .nil
    generalize upd (upd H e0 (.tup [])) l (.lst [.ref e0]) = H0 at *
    refine ⟨_, rfl, (n : Int), rfl, by omega, by omega, ?_⟩
    rw [Int.toNat_natCast]
    refine for_it walk_range0 (fun i σ H1 => Kp No H H1 ∧ ∃ (o2 o3 o4 o5 : Option V) (l : Addr) (xs : List V), σ = [some (.int (n : Int)), some (.ref l), o2, o3, o4, o5] ∧ H1 l = some (.lst xs) ∧ TpAll H1 xs ((lots i).map lotD))
      ⟨k0, _, _, _, _, l, _, rfl, hl0, ht0⟩ (fun _ _ _ _ _ => True.intro) (fun i x σ H1 H2 hi h hy => ?_) (fun σ H1 h => ?_)
    · obtain ⟨k, o2, o3, o4, o5, l, xs, rfl, hl1, hx1⟩ := h
      obtain ⟨rfl, rfl⟩ := hy
      have hxl : xs.length = (lots i).length := by rw [hx1.length, List.length_map]
      have hx64 : (lots i).length ≤ 64 := by
        rw [lots_length]
        exact Nat.pow_le_pow_right (by decide) (show i ≤ 6 by omega)
      refine ⟨_, rfl, _, rfl, l, rfl, ⟨_, SqL.of hl1⟩, fun D hD => ?_⟩
      refine lc_mapD (S := No) walk_list (by omega) hD (fun z => z) (fun j => lotD ((lots i).getD j [] ++ [i])) (fun H3 k3 => SqL.of (k3.at hl1)) (fun j x H3 H4 acc N hj k3 hacc hy3 hN => ?_) (fun acc H3 k3 hacc hr3 => ?_)
      · obtain ⟨rfl, hx⟩ := hy3
        have hj' : j < (lots i).length := by omega
        obtain ⟨d, hd, hv⟩ := (hx1.mono k3.tu).get hx
        rw [List.getElem?_map, getD_of hj' []] at hd
        obtain rfl := Option.some.inj hd
        have ⟨_, hrl⟩ := lots_lt (List.mem_of_getElem? (getD_of hj' []))
        generalize (lots i).getD j [] = row at *
        obtain ⟨a, rfl, ha⟩ := lot_of hv
        refine ⟨rfl, _, rfl, _, rfl, (show 1 ≤ sizeLine by decide), fun b hb => ?_⟩
        have kb : Kp No H4 (upd H4 b (.tup [.int (i : Int)])) := Kp.new hb
        refine ⟨a, b, _, [.int (i : Int)], rfl, rfl, SqT.of (kb.tu _ _ ha), SqT.of upd_same, by rw [List.length_map, List.length_map, List.length_singleton]; omega, fun hz => ?_, fun _ hz => absurd hz (by simp), fun _ _ p hp => ?_⟩
        · have hrow : row = [] := by
            cases row with
            | nil => rfl
            | cons x l => simp at hz
          subst hrow
          exact hN _ _ kb (.tup upd_same (.cons (.int _) .nil))
        · refine hN _ _ (kb.trans (Kp.new hp)) (.tup upd_same ?_)
          rw [List.map_append (f := fun (k : Nat) => PyData.int (k : Int))]
          exact TpAll.snoc (by rw [lot_vals]; exact TpAll.ints _) (.int _)
      · rw [hxl, range_get (lots i) (fun r => lotD (r ++ [i])) []] at hr3
        have hal : acc.length = (lots i).length := by rw [hr3.length, List.length_map]
        refine ⟨l, D, xs, acc, rfl, rfl, k3.at hl1, hacc, by omega, fun l2 hl2 => ⟨(k.trans k3).trans (Kp.new hl2), _, _, _, _, l2, _, rfl, upd_same, ?_⟩⟩
        show TpAll _ _ ((lots i ++ (lots i).map (· ++ [i])).map lotD)
        rw [List.map_append, List.map_map]
        exact ((hx1.mono k3.tu).app hr3).mono (TK.new hl2)
    · obtain ⟨k, o2, o3, o4, o5, l, xs, rfl, hl1, hx1⟩ := h
      have hxl : xs.length = (lots n).length := by rw [hx1.length, List.length_map]
      have hn64 : (lots n).length ≤ 64 := by
        rw [lots_length]
        exact Nat.pow_le_pow_right (by decide) hn
      refine ⟨_, rfl, l, rfl, ⟨_, SqL.of hl1⟩, fun D hD => ?_⟩
      refine lc_mapD (S := No) walk_list (by omega) hD (fun z => z) (fun j => lenKey ((lots n).getD j [])) (fun H3 k3 => SqL.of (k3.at hl1)) (fun j x H3 H4 acc N hj k3 hacc hy3 hN => ?_) (fun acc H3 k3 hacc hr3 => ?_)
      · obtain ⟨rfl, hx⟩ := hy3
        have hj' : j < (lots n).length := by omega
        obtain ⟨d, hd, hv⟩ := (hx1.mono k3.tu).get hx
        rw [List.getElem?_map, getD_of hj' []] at hd
        obtain rfl := Option.some.inj hd
        generalize (lots n).getD j [] = row at *
        obtain ⟨a, rfl, ha⟩ := lot_of hv
        refine ⟨rfl, _, rfl, a, _, rfl, .inr (SqT.of ha), _, rfl, (show 2 ≤ sizeLine by decide), fun T hT => hN _ _ (Kp.new hT) ?_⟩
        have el : (List.map V.int (List.map (fun (k : Nat) => (k : Int)) row)).length = row.length := by rw [List.length_map, List.length_map]
        refine .tup upd_same (.cons ?_ (.cons (hv.mono (TK.new hT)) .nil))
        rw [el]
        exact .int _
      · rw [hxl, range_get (lots n) lenKey []] at hr3
        have sl : (setsOf n).length = (lots n).length := List.length_mergeSort _
        refine ⟨D, acc, lots n, rfl, SqL.of hacc, hr3, AllAlike.of fun x y => by
          unfold lenKey
          rw [alike, alikeAll, alikeAll, alikeAll, alike_lot, alike]
          rfl, Sortable.tuples fun _ => ⟨_, _, rfl⟩, fun r _ => ?_, fun ys p hp hys => ?_⟩
        · unfold lenKey
          rw [PyData.depth, PyData.depthAll, PyData.depthAll, PyData.depthAll, PyData.depth]
          have := lotD_depth r
          omega
        · have kp : Kp No H3 (upd H3 p (.lst ys)) := Kp.new hp
          have hl4 : upd H3 p (.lst ys) p = some (.lst ys) := upd_same
          have hys4 : TpAll (upd H3 p (.lst ys)) ys ((setsOf n).map lenKey) := hys.mono kp.tu
          have k4 := (k.trans k3).trans kp
          generalize upd H3 p (.lst ys) = H4 at *
          have hyl : ys.length = (setsOf n).length := by rw [hys4.length, List.length_map]
          refine ⟨_, rfl, p, rfl, ⟨_, SqL.of hl4⟩, fun D2 hD2 => ?_⟩
          refine lc_mapD (S := No) walk_list (by omega) hD2 (fun z => z) (fun j => lotD ((setsOf n).getD j [])) (fun H5 k5 => SqL.of (k5.at hl4)) (fun j x H5 H6 acc2 N hj k5 hacc2 hy5 hN => ?_) (fun acc2 H5 k5 hacc2 hr5 => ?_)
          · obtain ⟨rfl, hx⟩ := hy5
            have hj' : j < (setsOf n).length := by omega
            obtain ⟨d, hd, hv⟩ := (hys4.mono k5.tu).get hx
            rw [List.getElem?_map, getD_of hj' []] at hd
            obtain rfl := Option.some.inj hd
            generalize (setsOf n).getD j [] = row at *
            obtain ⟨b, us, rfl, hb, hus⟩ := hv.tuple
            cases hus with
            | cons u1 hus =>
              cases hus with
              | cons u2 hus =>
                cases hus
                exact ⟨b, _, rfl, SqT.of hb, rfl, _, _, rfl, _, _, rfl, rfl, rfl, _, rfl, hN _ _ (Kp.refl _ _) u2⟩
          · rw [hyl, range_get (setsOf n) lotD []] at hr5
            exact q D2 acc2 H5 (k4.trans k5) (k4.fr _ hD2) hacc2 hr5
end
end AA

/-! ## Gr -/
set_option Elab.async false
set_option linter.all false
set_option maxRecDepth 100000
set_option maxHeartbeats 4000000
/-! Gr: names in a tuple known to the object; t.index(x); properties; grids of lists. -/
namespace AA
open PySem PySem.Spec PyProof.Rows L2 PySem.W
/-- the tuple of the minds' names: known to the object, without a dict -/
def NamesAt (H : Hp) (v : V) (names : List Str) : Prop := ∃ a o, v = .ref a ∧ H a = some (.frz o (.tup (names.map V.str))) ∧ o.dict = none
theorem frz_noTbl {o : Obj} {u : HO} : NoTbl (.frz o u) := fun ps z => by cases z
theorem NamesAt.mono {S : Addr → Prop} {H H' : Hp} {v : V} {names : List Str} (k : KN S H H') (hS : ∀ a o u, H a = some (.frz o u) → ¬ S a) (h : NamesAt H v names) : NamesAt H' v names := by
  obtain ⟨a, o, rfl, ha, hd⟩ := h
  exact ⟨a, o, rfl, k.kp a _ (hS a _ _ ha) frz_noTbl ha, hd⟩
theorem NamesAt.k {H H' : Hp} {v : V} {names : List Str} (k : Kp No H H') (h : NamesAt H v names) : NamesAt H' v names := h.mono (S := No) k.n fun _ _ _ _ z => z
theorem sqF {K : PySem.W.Frag} {H : Hp} {a : Addr} {o : Obj} {xs : List V} (h : H a = some (.frz o (.tup xs))) : SqT K H a xs := .inl (.inr ⟨o, h⟩)
section
variable {X : Cx} (K : PySem.W.Frag)
/-- t[lo:hi], not the whole of it: the new tuple known to the object -/
def rSlF : V → Option Int → Option Int → Hp → VK → Prop := fun x lo hi H Q => ∃ a xs, x = .ref a ∧ SqT K H a xs ∧ ¬ (HT.sIx xs.length 0 lo = 0 ∧ HT.sIx xs.length xs.length hi = xs.length) ∧ ∀ p o, H p = none → o.dict = none → Q (.ref p) (upd H p (.frz o (.tup (cutV xs lo hi))))
theorem s_tupF (hK : X.K = K := by rfl) : SlR X (rSlF K) := by
  subst hK
  intro pins s σ H x v vl vu lo hi sl Q I rx hs pl pu h
  obtain ⟨a, xs, rfl, hx, hw, q⟩ := h
  cases rx
  obtain ⟨its, r, ht, hz⟩ := I.tuple hx
  have hlen : its.toArray.size = xs.length := by rw [List.size_toArray]; exact r.length.symm
  refine ⟨"tuple", _, PyProof.Rows.slot_tuple_getitem.lookup, ht.typeIs, ?_⟩
  refine HT.getItem_tuple_cut ht hs pl pu (by rw [hlen]; exact hw) ?_ (by rw [hlen]; exact hz)
  rw [hlen]
  refine ⟨.ref s.heap.objs.size, _, I.laid (t' := s.toks) (o := .frz { cls := .type "tuple", data := .seq ((its.toArray.toList.drop (HT.sIx xs.length 0 lo)).take (HT.sIx xs.length xs.length hi - HT.sIx xs.length 0 lo)).toArray } (.tup (cutV xs lo hi))) (fun b ob q => Heap.get?_push_of_some _ q) (Nat.le_refl _) ⟨Heap.get?_push_size _ rfl, ?_⟩, rfl, q _ _ (I.hok.fresh (Nat.le_refl _)) rfl⟩
  exact ⟨Nat.le_trans (cutV_length xs lo hi) hz, _, (r.drop (HT.sIx xs.length 0 lo)).take (HT.sIx xs.length xs.length hi - HT.sIx xs.length 0 lo), IsTup.new _ _⟩
variable {o e : Expr} {to te : TE} {apos cpos pos : Pos}
/-- t.index(x), t a tuple of texts that is known to the object -/
def tIndex (to te : TE) : TE := fun σ H Q => to σ H fun x H1 => NamesAtO H1 x ∧ te σ H1 fun y H2 => ∃ names z j, NamesAt H2 x names ∧ y = .str z ∧ names[j]? = some z ∧ (∀ m, m < j → names[m]? ≠ some z) ∧ Q (.int ((j : Nat) : Int)) H2
where NamesAtO (H : Hp) (x : V) : Prop := ∃ names, NamesAt H x names
theorem pe_index (ho : PE X o to) (he : PE X e te) (hbase : attributeBase o "index" X.env (eval o X.env) = eval o X.env := by rfl)
    (hfew : ((backTo cpos (starEach [e] X.env)).all (fun x => !x.1) && (backToKw cpos (keywordEach [] X.env)).all (fun x => x.1.isSome)
      && decide ([e].length + ([] : List Keyword).length + (if ([] : List Keyword).isEmpty then 0 else 1) < 30)) = true := by rfl)
    (hline : (apos.endLine == cpos.line) = true := by rfl) (hs : starEach [e] X.env = (false, eval e X.env) :: starEach [] X.env := by rfl) :
    PE X (.Call (.Attribute o "index" apos) [e] [] cpos) (tIndex to te) := by
  refine ⟨fun pins s σ H Q I h => ?_⟩
  refine wpAny_Call_method_late hbase hfew hline rfl (thn (ho.run pins s σ H _ I h) fun v s1 ⟨x, H1, I1, r1, ⟨_, a, ob, ex, ha, hd⟩, q1⟩ => ?_)
  subst ex
  cases r1
  have ho1 : s1.heap.get? a = some ob := (show ObjOk X.prog X.w H1 s1.heap a (.frz ob _) from I1.hok a _ ha).1
  obtain ⟨_, _, pt, _⟩ := I1.tuple (sqF (K := X.K) ha)
  refine ⟨"tuple", "tuple.index", F.plainAttrs_tuple, F.slot_tuple_index, F.type_tuple_index, pt.typeIs, fun _ z => by cases z; exact ⟨ob, ho1, hd⟩, ?_⟩
  rw [hs]
  refine Calls.callWith_builtin rfl (Calls.evalArgs_plain (Calls.spliced_cons (thn (he.run pins s1 σ H1 _ I1 q1) fun v2 s2 ⟨y, H2, I2, ry, q2⟩ => Calls.spliced_nil ?_)))
  obtain ⟨names, z, j, ⟨b, ob2, eb, hb, _⟩, ey, h1, h2, q⟩ := q2
  cases eb
  exact mt_tup_index pins s2 σ H2 (.ref a) [y] (.ref a) [v2] Q I2 rfl (.cons ry .nil) ⟨a, names, z, j, rfl, by rw [ey], sqF hb, h1, h2, q⟩
end

/-! ### properties -/
structure Prp (P : Program) (w : World) (K : PySem.W.Frag) (mg : Str → Option Value) (base : Heap) (C : Addr) (f field : Str) : Prop where
  ex : ∃ (p g : Addr) (fd : FuncData), Cls K C ∧ PropOf K C f p g ∧ FnOk P w K mg base CX0 1 g fd ["self"] (getSp C field) ∧ Binds K fd ["self"] []
abbrev tPrp (C : Addr) (field : Str) (te : TE) : TE := tProp C (getSp C field) [] E0 te
section
variable {X : Cx} {e : Expr} {te : TE} {pos : Pos} {C : Addr} {f field : Str} {k : Nat}
theorem pe_prp (D : Prp X.prog X.w X.K X.mg X.base C f field) (hr : Room k X.A) (hk : 2 ≤ k) (he : PE X e te) (hab : attributeBase e f X.env (eval e X.env) = eval e X.env := by rfl) : PE X (.Attribute e f pos) (tPrp C field te) := by
  obtain ⟨p, g, fd, c, hp, F, hb⟩ := D
  exact pe_prop (pos := pos) he c hp F (hr.mono hk) hb .nil (pass0 (X := X.nox)) hab
end

/-- the council at v: its minds, its ways -/
def CouncilAt (C : Addr) (H : Hp) (v : V) (names : List Str) (ways : List Rows) : Prop := ∃ a dx fs vn vw, v = .ref a ∧ H a = some (.ins C dx fs) ∧ fs.lookup ("heads" : Str) = some vn ∧ fs.lookup ("tables" : Str) = some vw ∧ NamesAt H vn names ∧ Tp H vw (waysD ways)
theorem ins_noTbl {C dx : Addr} {fs : List (Str × V)} : NoTbl (.ins C dx fs) := fun ps z => by cases z
theorem CouncilAt.mono {H H' : Hp} {C : Addr} {v : V} {names : List Str} {ways : List Rows} (k : KN No H H') (h : CouncilAt C H v names ways) : CouncilAt C H' v names ways := by
  obtain ⟨a, dx, fs, vn, vw, rfl, h1, h2, h3, h4, h5⟩ := h
  exact ⟨a, dx, fs, vn, vw, rfl, k.at ins_noTbl h1, h2, h3, h4.mono k (fun _ _ _ _ z => z), h5.mono k.tu⟩
/-! ### ears, ways with ears -/
abbrev Ear := Nat × Nat × Nat
def nm (names : List Str) (i : Nat) : Str := names.getD i ⟨#[]⟩
def earD (names : List Str) (e : Ear) : PyData := .tuple [.int (e.1 : Int), .str (nm names e.2.1), .str (nm names e.2.2)]
def setCell (ways : List Rows) (e : Ear) : List Rows := ways.set e.1 ((ways.getD e.1 []).set e.2.1 (((ways.getD e.1 []).getD e.2.1 []).set e.2.2 1))
def withE (ways : List Rows) (ears : List Ear) : List Rows := ears.foldl setCell ways
structure EarOk (n nw : Nat) (e : Ear) : Prop where
  way : e.1 < nw
  fore : e.2.1 < n
  aft : e.2.2 < n
theorem getD_set_self {α : Type} (l : List α) (i : Nat) (x d : α) (h : i < l.length) : (l.set i x).getD i d = x := by
  rw [List.getD_eq_getElem?_getD, List.getElem?_set_self h]
  rfl
theorem getD_set_ne {α : Type} (l : List α) (i j : Nat) (x d : α) (h : i ≠ j) : (l.set i x).getD j d = l.getD j d := by
  rw [List.getD_eq_getElem?_getD, List.getD_eq_getElem?_getD, List.getElem?_set_ne h]
theorem setCell_ok {n : Nat} {ways : List Rows} (W : WaysOk n ways) {e : Ear} (ok : EarOk n ways.length e) : WaysOk n (setCell ways e) := by
  unfold setCell
  refine ⟨fun rows hr => ?_, by rw [List.length_set]; exact W.few, W.n6⟩
  rcases List.mem_or_eq_of_mem_set hr with h | rfl
  · exact W.way rows h
  · have hW := W.way _ (List.mem_of_getElem? (getD_of ok.way []))
    refine ⟨by rw [List.length_set]; exact hW.len, fun r hr => ?_⟩
    rcases List.mem_or_eq_of_mem_set hr with h | rfl
    · exact hW.row r h
    · rw [List.length_set]
      exact hW.row _ (List.mem_of_getElem? (getD_of (by rw [hW.len]; exact ok.fore) []))
theorem setCell_length (ways : List Rows) (e : Ear) : (setCell ways e).length = ways.length := List.length_set
theorem withE_length : ∀ (ears : List Ear) (ways : List Rows), (withE ways ears).length = ways.length
  | [], _ => rfl
  | e :: ears, ways => by
    show (withE (setCell ways e) ears).length = _
    rw [withE_length ears, setCell_length]
theorem withE_ok {n : Nat} : ∀ {ears : List Ear} {ways : List Rows}, WaysOk n ways → (∀ e ∈ ears, EarOk n ways.length e) → WaysOk n (withE ways ears)
  | [], _, W, _ => W
  | e :: ears, ways, W, h => by
    show WaysOk n (withE (setCell ways e) ears)
    exact withE_ok (setCell_ok W (h e List.mem_cons_self)) fun e' he' => by rw [setCell_length]; exact h e' (List.mem_cons_of_mem _ he')
theorem withE_snoc (ways : List Rows) (ears : List Ear) (e : Ear) : withE ways (ears ++ [e]) = setCell (withE ways ears) e := by
  unfold withE
  rw [List.foldl_append]
  rfl
/-! ### grids of lists -/
structure GridW (H : Hp) (rows : Rows) (p : Addr × List Addr) : Prop where
  way : H p.1 = some (.lst (p.2.map V.ref))
  len : p.2.length = rows.length
  row : ∀ (a : Nat) (r : Addr), p.2[a]? = some r → H r = some (.lst ((rows.getD a []).map V.int))
structure Grid (H : Hp) (F : Addr) (ways : List Rows) (ws : List (Addr × List Addr)) : Prop where
  top : H F = some (.lst (ws.map fun p => V.ref p.1))
  len : ws.length = ways.length
  way : ∀ (i : Nat) (p : Addr × List Addr), ws[i]? = some p → GridW H (ways.getD i []) p
  nd : (ws.flatMap (·.2)).Nodup
theorem GridW.mono {H H' : Hp} {rows : Rows} {p : Addr × List Addr} (k : Kp No H H') (h : GridW H rows p) : GridW H' rows p := ⟨k.at h.way, h.len, fun a r e => k.at (h.row a r e)⟩
theorem Grid.mono {H H' : Hp} {F : Addr} {ways : List Rows} {ws : List (Addr × List Addr)} (k : Kp No H H') (h : Grid H F ways ws) : Grid H' F ways ws := ⟨k.at h.top, h.len, fun i p e => (h.way i p e).mono k, h.nd⟩
theorem flat_apart : ∀ {ws : List (Addr × List Addr)} {i j a b : Nat} {p q : Addr × List Addr} {r : Addr}, (ws.flatMap (·.2)).Nodup → ws[i]? = some p → ws[j]? = some q → p.2[a]? = some r → q.2[b]? = some r → i = j ∧ a = b
  | [], _, _, _, _, _, _, _, _, h, _, _, _ => by simp at h
  | w :: ws, i, j, a, b, p, q, r, nd, hi, hj, ha, hb => by
    rw [List.flatMap_cons, List.nodup_append] at nd
    obtain ⟨n1, n2, n3⟩ := nd
    cases i with
    | zero =>
      cases hi
      cases j with
      | zero =>
        cases hj
        refine ⟨rfl, ?_⟩
        have h1 := (List.getElem?_eq_some_iff.mp ha).1
        exact (List.getElem?_inj h1 n1).mp (ha.trans hb.symm)
      | succ j =>
        exact absurd rfl (n3 r (List.mem_of_getElem? ha) r (List.mem_flatMap.mpr ⟨q, List.mem_of_getElem? (i := j) (by simpa using hj), List.mem_of_getElem? hb⟩))
    | succ i =>
      cases j with
      | zero =>
        cases hj
        exact absurd rfl (n3 r (List.mem_of_getElem? hb) r (List.mem_flatMap.mpr ⟨p, List.mem_of_getElem? (i := i) (by simpa using hi), List.mem_of_getElem? ha⟩))
      | succ j =>
        obtain ⟨h1, h2⟩ := flat_apart (ws := ws) n2 (by simpa using hi) (by simpa using hj) ha hb
        exact ⟨by rw [h1], h2⟩
theorem refs_ne_ints {rs : List Addr} {ns : List Int} (h : rs.map V.ref = ns.map V.int) : rs = [] := by
  cases rs with
  | nil => rfl
  | cons r rs =>
    cases ns with
    | nil => simp at h
    | cons n ns =>
      rw [List.map_cons, List.map_cons] at h
      cases (List.cons.inj h).1
/-- a cell is set -/
theorem Grid.put {H : Hp} {F : Addr} {n : Nat} {ways : List Rows} {ws : List (Addr × List Addr)} (G : Grid H F ways ws) (W : WaysOk n ways) (h1 : 1 ≤ n) {e : Ear} (ok : EarOk n ways.length e) {p : Addr × List Addr} {r : Addr} (hp : ws[e.1]? = some p) (hr : p.2[e.2.1]? = some r) :
    Grid (upd H r (.lst ((((ways.getD e.1 []).getD e.2.1 []).set e.2.2 1).map V.int))) F (setCell ways e) ws := by
  have hr0 := (G.way _ p hp).row _ r hr
  have hWe := W.way _ (List.mem_of_getElem? (getD_of ok.way []))
  have hrow : ((ways.getD e.1 []).getD e.2.1 []).length = n := hWe.row _ (List.mem_of_getElem? (getD_of (by rw [hWe.len]; exact ok.fore) []))
  have notway : ∀ (i : Nat) (q : Addr × List Addr), ws[i]? = some q → q.1 ≠ r := fun i q hq z => by
    have e1 := (G.way i q hq).way
    rw [z, hr0] at e1
    have e2 := refs_ne_ints (HO.lst.inj (Option.some.inj e1)).symm
    rw [e2, List.map_nil] at e1
    have e3 := congrArg List.length (HO.lst.inj (Option.some.inj e1))
    rw [List.length_map, hrow] at e3
    simp at e3
    omega
  have nottop : F ≠ r := fun z => by
    have e1 := G.top
    rw [z, hr0] at e1
    have e2 : (ws.map (·.1)).map V.ref = ((ways.getD e.1 []).getD e.2.1 []).map V.int := by
      rw [List.map_map]
      exact (HO.lst.inj (Option.some.inj e1)).symm
    have e3 := congrArg List.length (refs_ne_ints e2)
    rw [List.length_map, G.len, List.length_nil] at e3
    have := ok.way
    omega
  refine ⟨by rw [upd_ne nottop]; exact G.top, by rw [setCell_length]; exact G.len, fun i q hq => ?_, G.nd⟩
  have g := G.way i q hq
  unfold setCell
  by_cases hi : e.1 = i
  · subst hi
    rw [hp] at hq
    obtain rfl := Option.some.inj hq
    rw [getD_set_self _ _ _ _ ok.way]
    refine ⟨by rw [upd_ne (notway _ p hp)]; exact g.way, by rw [List.length_set]; exact g.len, fun a r' ha => ?_⟩
    by_cases hra : r' = r
    · subst hra
      obtain ⟨_, rfl⟩ := flat_apart G.nd hp hp hr ha
      rw [upd_same, getD_set_self _ _ _ _ (by rw [hWe.len]; exact ok.fore)]
    · have hne : e.2.1 ≠ a := fun z => hra (by rw [z] at hr; rw [hr] at ha; exact (Option.some.inj ha).symm)
      rw [upd_ne hra, getD_set_ne _ _ _ _ _ hne]
      exact g.row a r' ha
  · rw [getD_set_ne _ _ _ _ _ hi]
    refine ⟨by rw [upd_ne (notway i q hq)]; exact g.way, g.len, fun a r' ha => ?_⟩
    have hra : r' ≠ r := fun z => hi (flat_apart G.nd hp hq hr (by rw [← z]; exact ha)).1
    rw [upd_ne hra]
    exact g.row a r' ha
/-- a comprehension whose list is told by a relation that only the new list's own place does not touch -/
theorem lc_own {J : It} {n : Nat} {G : Hp → Prop} {Y : Nat → Hp → V → Hp → Prop} (w : Walk J n G Y) {g : TG} {tt : TT} {te : TE} {vs : List Nat} {σ : L2.St} {H1 : Hp} {D : Addr} {Qd : Hp → Prop} (hn : n < sizeLine) (hD : H1 D = none)
    (Rl : Nat → List V → Hp → Prop) (h0 : ∀ H, Rl 0 [] H) (hG : ∀ H, Kp No H1 H → G H)
    (turn : ∀ i x H H' acc (N : V → Hp → Prop), i < n → Kp No H1 H → H D = some (.lst acc) → Rl i acc H → Y i H x H' →
      (∀ y H4, Kp No H H4 → H4 D = some (.lst acc) → (∀ u, Rl (i + 1) (acc ++ [y]) (upd H4 D (.lst u))) → N y H4) →
      g x (wipe σ vs) H' fun σ2 H2 => wipe σ2 vs = wipe σ vs ∧ te σ2 H2 N)
    (hd : ∀ acc H, Kp No H1 H → H D = some (.lst acc) → Rl n acc H → Qd H) (htt : tt = tYes) :
    ∃ W : Nat → Nat → Hp → Prop, (∃ m, W 0 m (upd H1 D (.lst []))) ∧ ∀ i m H, W i m H →
      (J.stop i H ∧ Qd H) ∨ (J.go i H ∧ ∃ Nx : Hp → Prop, (∀ H', Nx H' → ∃ m', m' < m ∧ W (i + 1) m' H') ∧ ∀ x H', J.yld i H x H' → g x (wipe σ vs) H' fun σ2 H2 => wipe σ2 vs = wipe σ vs ∧ tt σ2 H2 fun b H3 =>
        if b = true then te σ2 H3 fun y H4 => ∃ acc, H4 D = some (.lst acc) ∧ acc.length < sizeLine ∧ Nx (upd H4 D (.lst (acc ++ [y]))) else Nx H3) := by
  subst htt
  refine lc_it w (fun i H => ∃ acc, Kp No H1 H ∧ H D = some (.lst acc) ∧ acc.length ≤ i ∧ Rl i acc H) ⟨[], Kp.new hD, upd_same, Nat.le_refl _, h0 _⟩ (fun i H _ h => ?_) (fun i x H H' hi h hy => ?_) fun H h => ?_
  · obtain ⟨acc, k, _⟩ := h
    exact hG H k
  · obtain ⟨acc, k, hl, hle, hr⟩ := h
    have tn := turn i x H H' acc (fun y H4 => ∃ acc, H4 D = some (.lst acc) ∧ acc.length < sizeLine ∧ ∃ acc', Kp No H1 (upd H4 D (.lst (acc ++ [y]))) ∧ upd H4 D (.lst (acc ++ [y])) D = some (.lst acc') ∧ acc'.length ≤ i + 1 ∧ Rl (i + 1) acc' (upd H4 D (.lst (acc ++ [y])))) hi k hl hr hy (fun y H4 k4 hl4 hR =>
      ⟨acc, hl4, Nat.lt_of_le_of_lt hle (Nat.lt_trans hi hn), acc ++ [y], Kp.own (k.trans k4) hD hl4 (by intro xs z; cases z), upd_same, by rw [List.length_append, List.length_singleton]; omega, hR _⟩)
    exact tn
  · obtain ⟨acc, k, hl, hle, hr⟩ := h
    exact hd acc H k hl hr
end AA

/-! ## T12 -/
set_option Elab.async false
set_option linter.all false
set_option maxRecDepth 100000
set_option maxHeartbeats 4000000
namespace AA
open PySem PySem.Spec PyProof.Rows L2 PySem.W
theorem ixN_at {n j : Nat} (h : j < n) : ixN n (j : Int) = some j := by
  unfold ixN
  rw [if_pos (Int.natCast_nonneg j)]
  simp [h]
theorem nm_at {names : List Str} {j : Nat} (h : j < names.length) : names[j]? = some (nm names j) := getD_of h _
theorem nm_first {names : List Str} (nd : names.Nodup) {j : Nat} (h : j < names.length) : ∀ m, m < j → names[m]? ≠ some (nm names j) := fun m hm e => by
  have := (List.getElem?_inj (by omega) nd).mp (e.trans (nm_at h).symm)
  omega
section
variable {P : Program} {w : World} {K : PySem.W.Frag} {mg : Str → Option Value} {base : Heap}
abbrev s_with_ears : Stmt := top 49
abbrev n_with_ears : List Str := ["council", "ears", "found", "way", "one", "other", "row"]
theorem sc_with_ears : FnScope n_with_ears ["council", "ears"] (defScope s_with_ears) := ⟨rfl, rfl, rfl, by decide +kernel, rfl, by decide +kernel, by decide +kernel⟩
def spWith (C : Addr) : Sp := fun vs H Q _ => ∃ (c : V) (l n : Addr) (es : List V) (names : List Str) (ways : List Rows) (ears : List Ear), vs = [c, .ref l] ∧ CouncilAt C H c names ways ∧ names.Nodup ∧ names.length = n ∧ WaysOk n ways ∧ 1 ≤ n ∧ H l = some (.lst es) ∧ TpAll H es (ears.map (earD names)) ∧
  (∀ e ∈ ears, EarOk n ways.length e) ∧ ears.length ≤ 1000 ∧ ∀ v H', Kp No H H' → Tp H' v (waysD (withE ways ears)) → Q v H'
theorem ok_with_ears {f C : Addr} {fd : FuncData} (F : DefIn K mg "with_ears" s_with_ears ["council", "ears"] f fd) (B : Bt mg) (D_ways : Prp P w K mg base C "ways" "tables") (D_minds : Prp P w K mg base C "minds" "heads") :
    Def P w K mg base "with_ears" 3 ["council", "ears"] (spWith C) := by
  refine F.ok sc_with_ears (fun vs H Q E h => ?_) (fun cdv A outer s H vs Q E hr h => ?_)
  · obtain ⟨c, l, _, _, _, _, _, rfl, _⟩ := h
    rfl
  · obtain ⟨c, l, n, es, names, ways, ears, rfl, hco, nd, hnn, W, h1, hle, hes, hok, hel, q⟩ := h
    refine ⟨_, (pss_cons (ps_setLc (i := 2) rfl sc_with_ears.nd rfl rfl (sw_true rfl rfl rfl (by decide +kernel)) (pi_tupK K (pe_prp D_ways hr (by decide) (pv 0))) (blkOk_by (own := [("way", 3)]) (N := n_with_ears) (sc := defScope s_with_ears) (by decide +kernel)) (fun _ _ _ _ _ => (pg_name (i := 3) sc_with_ears.nd rfl (by first | exact Or.inl rfl | exact Or.inr rfl))) (fun _ _ _ _ _ => pts_nil) (fun _ _ _ _ _ => (pe_lc rfl sc_with_ears.nd (pi_tupK K (pv 3)) (blkOk_by (own := [("row", 6)]) (N := n_with_ears) (sc := relS _ (defScope s_with_ears)) (by decide +kernel)) (fun _ _ _ _ _ => (pg_name (i := 6) sc_with_ears.nd rfl (by first | exact Or.inl rfl | exact Or.inr rfl))) (fun _ _ _ _ _ => pts_nil) (fun _ _ _ _ _ => (pe_callTy (r_list K) (by rfl) B.list (by decide +kernel) (pa_cons (pv 6) pa_nil))))))
      (pss_cons (ps_for PassesOwn.never rfl (pi_listK K (pv 1)) (pg_tupK K 3 (pgs_cons (pg_name (i := 3) sc_with_ears.nd rfl (by first | exact Or.inl rfl | exact Or.inr rfl)) (pgs_cons (pg_name (i := 4) sc_with_ears.nd rfl (by first | exact Or.inl rfl | exact Or.inr rfl)) (pgs_cons (pg_name (i := 5) sc_with_ears.nd rfl (by first | exact Or.inl rfl | exact Or.inr rfl)) pgs_nil))))
      (pss_one (ps_asg pe_int (pg_sub (pe_ix (x_list K) (pe_ix (x_list K) (pv 2) (pv 3) (fun _ _ => rfl)) (pe_index (pe_prp D_minds hr (by decide) (pv 0)) (pv 4)) (fun _ _ => rfl)) (pe_index (pe_prp D_minds hr (by decide) (pv 0)) (pv 5)) set_list))))
      (pss_one (ps_ret (pe_callTy (r_tuple K) (by rfl) B.tuple (by decide +kernel) (pa_cons (pe_lc rfl sc_with_ears.nd (pi_listK K (pv 2)) (blkOk_by (own := [("way", 3)]) (N := n_with_ears) (sc := defScope s_with_ears) (by decide +kernel)) (fun _ _ _ _ _ => (pg_name (i := 3) sc_with_ears.nd rfl (by first | exact Or.inl rfl | exact Or.inr rfl))) (fun _ _ _ _ _ => pts_nil) (fun _ _ _ _ _ => (pe_callTy (r_tuple K) (by rfl) B.tuple (by decide +kernel) (pa_cons (pe_lc rfl sc_with_ears.nd (pi_listK K (pv 3)) (blkOk_by (own := [("row", 6)]) (N := n_with_ears) (sc := relS _ (defScope s_with_ears)) (by decide +kernel)) (fun _ _ _ _ _ => (pg_name (i := 6) sc_with_ears.nd rfl (by first | exact Or.inl rfl | exact Or.inr rfl))) (fun _ _ _ _ _ => pts_nil) (fun _ _ _ _ _ => (pe_callTy (r_tuple K) (by rfl) B.tuple (by decide +kernel) (pa_cons (pv 6) pa_nil)))) pa_nil)))) pa_nil)))))), ?_⟩
    obtain ⟨ca, dx, fs, vn, vw, rfl, hca, hlh, hlt, hnm, htb⟩ := hco
    obtain ⟨wa, xs, rfl, hwa, hall⟩ := htb.tuple
    have hxl : xs.length = ways.length := by rw [hall.length, List.length_map]
    have hesl : es.length = ears.length := by rw [hes.length, List.length_map]
    have n6 := W.n6
    have few := W.few
    have hsz : (2000 : Nat) < sizeLine := by decide
    refine ⟨_, rfl, ca, dx, fs, rfl, hca, ca, dx, fs, _, rfl, hca, hlt, wa, rfl, ⟨xs, SqT.of hwa⟩, fun F hF => ?_⟩
    refine lc_own walk_tup (by omega) hF (fun i acc H3 => ∃ ws : List (Addr × List Addr), acc = ws.map (fun p => V.ref p.1) ∧ ws.length = i ∧ (∀ (j : Nat) (p : Addr × List Addr), ws[j]? = some p → GridW H3 (ways.getD j []) p ∧ p.1 ≠ F ∧ ∀ r ∈ p.2, r ≠ F ∧ H r = none) ∧ (ws.flatMap (·.2)).Nodup)
      (fun _ => ⟨[], rfl, rfl, fun j p e => by simp at e, List.nodup_nil⟩) (fun H3 k => SqT.of (k.tu _ _ hwa)) (fun i x H3 H3' acc N hi k hl hR hy hN => ?_) (fun acc H3 k hl hR => ?_) rfl
    · obtain ⟨ws, rfl, hwl, hws, hnd⟩ := hR
      obtain ⟨rfl, hx⟩ := hy
      have hi' : i < ways.length := by omega
      obtain ⟨d, hd, hv⟩ := hall.get hx
      rw [List.getElem?_map, getD_of hi' []] at hd
      obtain rfl := Option.some.inj hd
      have hW := W.way _ (List.mem_of_getElem? (getD_of hi' []))
      have egi : ways.getD i [] = ways.getD i [] := rfl
      generalize hrows : ways.getD i [] = rows at *
      obtain ⟨c, zs, rfl, hc, hzs⟩ := (hv.mono k.tu).tuple
      have hzl : zs.length = rows.length := by rw [hzs.length, List.length_map]
      have hrl := hW.len
      refine ⟨rfl, _, rfl, c, rfl, ⟨zs, SqT.of hc⟩, fun D hD => ?_⟩
      refine lc_own walk_tup (by omega) hD (fun j acc2 H5 => ∃ ras : List Addr, acc2 = ras.map V.ref ∧ ras.length = j ∧ ras.Nodup ∧ ∀ (a : Nat) (r : Addr), ras[a]? = some r → H5 r = some (.lst ((rows.getD a []).map V.int)) ∧ r ≠ D ∧ H3' r = none)
        (fun _ => ⟨[], rfl, rfl, List.nodup_nil, fun a r e => by simp at e⟩) (fun H5 k5 => SqT.of (k5.tu _ _ hc)) (fun j x H5 H5' acc2 N2 hj k5 hl5 hR2 hy5 hN2 => ?_) (fun acc2 H5 k5 hl5 hR2 => ?_) rfl
      · obtain ⟨ras, rfl, hral, hrnd, hra⟩ := hR2
        obtain ⟨rfl, hx⟩ := hy5
        have hj' : j < rows.length := by omega
        obtain ⟨d, hd, hv⟩ := (hzs.mono k5.tu).get hx
        rw [List.getElem?_map, getD_of hj' []] at hd
        obtain rfl := Option.some.inj hd
        obtain ⟨b, us, rfl, hb, hus⟩ := hv.tuple
        obtain rfl := hus.ints_inv
        refine ⟨rfl, _, rfl, b, _, rfl, .inr (SqT.of hb), fun r hr0 => ?_⟩
        have hDr : D ≠ r := ne_of_none hl5 hr0
        have kr : Kp No H5' (upd H5' r (.lst ((rows.getD j []).map V.int))) := Kp.new hr0
        refine hN2 _ _ kr (kr.at hl5) fun u => ⟨ras ++ [r], by rw [List.map_append]; rfl, by rw [List.length_append, hral]; rfl, ?_, fun a r' ha => ?_⟩
        · rw [List.nodup_append]
          refine ⟨hrnd, List.nodup_cons.mpr ⟨List.not_mem_nil, List.nodup_nil⟩, fun x hx y hy z => ?_⟩
          rw [List.mem_singleton.mp hy] at z
          subst z
          obtain ⟨m, hm⟩ := List.getElem?_of_mem hx
          rw [(hra m x hm).1] at hr0
          cases hr0
        · rw [List.getElem?_append] at ha
          split at ha
          · obtain ⟨e1, e2, e3⟩ := hra a r' ha
            exact ⟨by rw [upd_ne e2]; exact kr.at e1, e2, e3⟩
          · rename_i hge
            have ha0 : a - ras.length = 0 := by
              rcases Nat.eq_zero_or_pos (a - ras.length) with z | z
              · exact z
              · rw [List.getElem?_eq_none (by rw [List.length_singleton]; exact z)] at ha
                cases ha
            rw [ha0] at ha
            obtain rfl := Option.some.inj ha
            have haj : a = j := by omega
            subst haj
            exact ⟨by rw [upd_ne (fun z => hDr z.symm)]; exact upd_same, fun z => hDr z.symm, k5.fr _ hr0⟩
      · obtain ⟨ras, rfl, hral, hrnd, hra⟩ := hR2
        have hFD : F ≠ D := ne_of_none hl hD
        refine hN _ _ k5 (k5.at hl) fun u => ⟨ws ++ [(D, ras)], by rw [List.map_append]; rfl, by rw [List.length_append, hwl]; rfl, fun j p hp => ?_, ?_⟩
        · rw [List.getElem?_append] at hp
          split at hp
          · obtain ⟨g, e1, e2⟩ := hws j p hp
            have g5 := g.mono k5
            exact ⟨⟨by rw [upd_ne e1]; exact g5.way, g5.len, fun a r ha => by rw [upd_ne (e2 r (List.mem_of_getElem? ha)).1]; exact g5.row a r ha⟩, e1, e2⟩
          · rename_i hge
            have ha0 : j - ws.length = 0 := by
              rcases Nat.eq_zero_or_pos (j - ws.length) with z | z
              · exact z
              · rw [List.getElem?_eq_none (by rw [List.length_singleton]; exact z)] at hp
                cases hp
            rw [ha0] at hp
            obtain rfl := Option.some.inj hp
            have haj : j = i := by omega
            subst haj
            rw [hrows]
            refine ⟨⟨by rw [upd_ne (fun z => hFD z.symm)]; exact hl5, by show ras.length = rows.length; omega, fun a r ha => ?_⟩, fun z => hFD z.symm, fun r hr => ?_⟩
            · obtain ⟨e1, e2, e3⟩ := hra a r ha
              rw [upd_ne (fun z => by rw [z, hl] at e3; cases e3)]
              exact e1
            · obtain ⟨a, ha⟩ := List.getElem?_of_mem hr
              obtain ⟨e1, e2, e3⟩ := hra a r ha
              exact ⟨(fun z => by rw [z, hl] at e3; cases e3), k.fr _ e3⟩
        · rw [List.flatMap_append, List.nodup_append]
          refine ⟨hnd, by rw [List.flatMap_singleton]; exact hrnd, fun x hx y hy z => ?_⟩
          rw [List.flatMap_singleton] at hy
          subst z
          obtain ⟨a, ha⟩ := List.getElem?_of_mem hy
          have e3 := (hra a x ha).2.2
          obtain ⟨p, hp, hxp⟩ := List.mem_flatMap.mp hx
          obtain ⟨j, hj⟩ := List.getElem?_of_mem hp
          obtain ⟨b, hb⟩ := List.getElem?_of_mem hxp
          rw [(hws j p hj).1.row b x hb] at e3
          cases e3
    · obtain ⟨ws, rfl, hwl, hws, hnd⟩ := hR
      have G0 : Grid H3 F ways ws := ⟨hl, by omega, fun i p e => (hws i p e).1, hnd⟩
      have hfr : ∀ (i : Nat) (p : Addr × List Addr) (r : Addr), ws[i]? = some p → r ∈ p.2 → H r = none := fun i p r hp hr => ((hws i p hp).2.2 r hr).2
      refine ⟨_, rfl, l, rfl, ⟨es, SqL.of (k.at hle)⟩, ?_⟩
      refine for_it walk_list (fun i σ H4 => Kp No H H4 ∧ ∃ o3 o4 o5 o6 : Option V, σ = [some (.ref ca), some (.ref l), some (.ref F), o3, o4, o5, o6] ∧ Grid H4 F (withE ways (ears.take i)) ws)
        ⟨k, _, _, _, _, rfl, G0⟩ (fun i σ H4 _ h => SqL.of (h.1.at hle)) (fun i x σ H4 H4' hi h hy => ?_) (fun σ H4 h => ?_)
      · obtain ⟨k4, o3, o4, o5, o6, rfl, G4⟩ := h
        obtain ⟨rfl, hx⟩ := hy
        have hi' : i < ears.length := by omega
        obtain ⟨d, hd, hv⟩ := (hes.mono k4.tu).get hx
        rw [List.getElem?_map, getD_of hi' (0, 0, 0)] at hd
        obtain rfl := Option.some.inj hd
        have hem : ears.getD i (0, 0, 0) ∈ ears := List.mem_of_getElem? (getD_of hi' (0, 0, 0))
        have ho := hok _ hem
        have etk : ears.take (i + 1) = ears.take i ++ [ears.getD i (0, 0, 0)] := by
          rw [List.take_succ, getD_of hi' (0, 0, 0)]
          rfl
        have hW4 : WaysOk n (withE ways (ears.take i)) := withE_ok W fun e he => hok e (List.mem_of_mem_take he)
        have hl4 : (withE ways (ears.take i)).length = ways.length := withE_length _ _
        rw [etk, withE_snoc]
        generalize ears.getD i (0, 0, 0) = e at *
        generalize withE ways (ears.take i) = ways4 at *
        obtain ⟨b, us, rfl, hb, hus⟩ := hv.tuple
        obtain ⟨u1, hus⟩ : ∃ _ : True, us = [.int (e.1 : Int), .str (nm names e.2.1), .str (nm names e.2.2)] := by
          cases hus with
          | cons h1 hus =>
            cases hus with
            | cons h2 hus =>
              cases hus with
              | cons h3 hus =>
                cases hus
                exact ⟨True.intro, by rw [h1.int_inv, h2.str_inv, h3.str_inv]⟩
        subst hus
        have ho4 : EarOk n ways4.length e := ⟨by rw [hl4]; exact ho.way, ho.fore, ho.aft⟩
        have hwi : e.1 < ws.length := by rw [G4.len]; exact ho4.way
        obtain ⟨p, hp⟩ : ∃ p, ws[e.1]? = some p := ⟨_, List.getElem?_eq_getElem hwi⟩
        have gw := G4.way _ p hp
        have hWe := hW4.way _ (List.mem_of_getElem? (getD_of ho4.way []))
        have hpa : e.2.1 < p.2.length := by rw [gw.len, hWe.len]; exact ho4.fore
        obtain ⟨r, hr2⟩ : ∃ r, p.2[e.2.1]? = some r := ⟨_, List.getElem?_eq_getElem hpa⟩
        have hrow := gw.row _ r hr2
        have hrl : ((ways4.getD e.1 []).getD e.2.1 []).length = n := hWe.row _ (List.mem_of_getElem? (getD_of (by rw [hWe.len]; exact ho4.fore) []))
        have hca4 := k4.at hca
        have hnm4 := hnm.k k4
        refine ⟨b, _, rfl, SqT.of hb, rfl, _, _, rfl, _, _, rfl, _, _, rfl, rfl, ?_⟩
        refine ⟨_, rfl, _, rfl, F, _, (e.1 : Int), .ref p.1, rfl, rfl, SqL.of G4.top, atI_nat (by rw [List.getElem?_map, hp]; rfl), ?_⟩
        refine ⟨_, rfl, ca, dx, fs, rfl, hca4, ca, dx, fs, vn, rfl, hca4, hlh, ⟨names, hnm4⟩, _, rfl, names, nm names e.2.1, e.2.1, hnm4, rfl, nm_at (by rw [hnn]; exact ho.fore), nm_first nd (by rw [hnn]; exact ho.fore), ?_⟩
        refine ⟨p.1, _, (e.2.1 : Int), .ref r, rfl, rfl, SqL.of gw.way, atI_nat (by rw [List.getElem?_map, hr2]; rfl), ?_⟩
        refine ⟨_, rfl, ca, dx, fs, rfl, hca4, ca, dx, fs, vn, rfl, hca4, hlh, ⟨names, hnm4⟩, _, rfl, names, nm names e.2.2, e.2.2, hnm4, rfl, nm_at (by rw [hnn]; exact ho.aft), nm_first nd (by rw [hnn]; exact ho.aft), ?_⟩
        refine ⟨r, _, (e.2.2 : Int), e.2.2, rfl, rfl, hrow, ixN_at (by rw [List.length_map, hrl]; exact ho.aft), ?_⟩
        have hset : (((ways4.getD e.1 []).getD e.2.1 []).map V.int).set e.2.2 (.int 1) = (((ways4.getD e.1 []).getD e.2.1 []).set e.2.2 1).map V.int := by rw [List.map_set]
        refine ⟨Kp.own k4 (hfr _ p r hp (List.mem_of_getElem? hr2)) hrow (by intro xs z; cases z), _, _, _, _, rfl, ?_⟩
        rw [hset]
        exact G4.put hW4 h1 ho4 hp hr2
      · obtain ⟨k4, o3, o4, o5, o6, rfl, G4⟩ := h
        rw [hesl, List.take_length] at G4
        have hW5 : WaysOk n (withE ways ears) := withE_ok W hok
        have hl5 : (withE ways ears).length = ways.length := withE_length _ _
        generalize withE ways ears = ways5 at *
        refine ⟨_, rfl, F, rfl, ⟨_, SqL.of G4.top⟩, fun D hD => ?_⟩
        refine lc_mapD (S := No) walk_list (by rw [List.length_map]; omega) hD (fun z => z) (fun i => wayD (ways5.getD i [])) (fun H5 k5 => SqL.of (k5.at G4.top)) (fun i x H5 H6 acc N hi k5 hacc hy5 hN => ?_) (fun acc H5 k5 hacc hr5 => ?_)
        · obtain ⟨rfl, hx⟩ := hy5
          rw [List.length_map] at hi
          obtain ⟨p, hp⟩ : ∃ p, ws[i]? = some p := ⟨_, List.getElem?_eq_getElem hi⟩
          rw [List.getElem?_map, hp] at hx
          obtain rfl := Option.some.inj hx
          have gw := (G4.mono k5).way i p hp
          have hWi := hW5.way _ (List.mem_of_getElem? (getD_of (by rw [← G4.len]; exact hi) []))
          generalize ways5.getD i [] = rows at *
          refine ⟨rfl, _, rfl, p.1, rfl, ⟨_, SqL.of gw.way⟩, fun D2 hD2 => ?_⟩
          have hpl : p.2.length = n := by rw [gw.len]; exact hWi.len
          refine lc_mapD (S := No) walk_list (by rw [List.length_map]; omega) hD2 (fun z => z) (fun a => rowD (rows.getD a [])) (fun H7 k7 => SqL.of (k7.at gw.way)) (fun a x H7 H8 acc2 N2 ha k7 hacc2 hy7 hN2 => ?_) (fun acc2 H7 k7 hacc2 hr7 => ?_)
          · obtain ⟨rfl, hx⟩ := hy7
            rw [List.length_map] at ha
            obtain ⟨r, hr2⟩ : ∃ r, p.2[a]? = some r := ⟨_, List.getElem?_eq_getElem ha⟩
            rw [List.getElem?_map, hr2] at hx
            obtain rfl := Option.some.inj hx
            refine ⟨rfl, _, rfl, r, _, rfl, .inl ⟨SqL.of (k7.at (gw.row a r hr2)), fun t ht => hN2 _ _ (Kp.new ht) (.tup upd_same (TpAll.ints _))⟩⟩
          · rw [List.length_map, gw.len, range_get rows rowD []] at hr7
            refine ⟨D2, acc2, rfl, .inl ⟨SqL.of hacc2, fun t ht => hN _ _ (k7.trans (Kp.new ht)) (.tup upd_same (hr7.mono (TK.new ht)))⟩⟩
        · rw [List.length_map, G4.len, range_get ways5 wayD []] at hr5
          exact ⟨D, acc, rfl, .inl ⟨SqL.of hacc, fun t ht => q _ _ ((k4.trans k5).trans (Kp.new ht)) (.tup upd_same (hr5.mono (TK.new ht)))⟩⟩
end
end AA

/-! ## T13 -/
set_option Elab.async false
set_option linter.all false
set_option maxRecDepth 100000
set_option maxHeartbeats 4000000
namespace AA
open PySem PySem.Spec PyProof.Rows L2 PySem.W
/-- a constant of the module -/
def Gs (mg : Str → Option Value) (x : Str) (v : V) : Prop := ∃ u, mg x = some u ∧ RelV v u
theorem pe_gs {X : Cx} {x : Str} {v : V} {pos : Pos} (hg : Gl X x) (h : Gs X.mg x v) (hd : (x == ("__debug__" : Str)) = false := by decide) : PE X (.Name x pos) (tC v) := by
  obtain ⟨u, h1, h2⟩ := h
  exact pe_glob hg h1 h2 hd
/-! ### offers -/
inductive Off where
  | ear (e : Ear)
  | strike (i : Nat)
deriving DecidableEq
def sEar : Str := "ear"
def sStrike : Str := "strike"
def offD (names : List Str) : Off → PyData
  | .ear e => .tuple [.str sEar, .int (e.1 : Int), .str (nm names e.2.1), .str (nm names e.2.2)]
  | .strike i => .tuple [.str sStrike, .int (i : Int)]
def earsOf (offs : List Off) : List Ear := offs.filterMap fun o => match o with
  | .ear e => some e
  | .strike _ => none
def strikesOf (offs : List Off) : List Nat := offs.filterMap fun o => match o with
  | .ear _ => none
  | .strike i => some i
def OffOk (n nw : Nat) : Off → Prop
  | .ear e => EarOk n nw e
  | .strike i => i < nw
def keepW (ways : List Rows) (st : List Nat) : List Rows := ((List.range ways.length).filter fun i => decide (i ∉ st)).map fun i => ways.getD i []
structure NmOk (names : List Str) : Prop where
  nd : names.Nodup
  ok : ∀ x ∈ names, PyData.strOk x = true
theorem nm_ok {names : List Str} (h : NmOk names) (i : Nat) : PyData.strOk (nm names i) = true := by
  unfold nm
  rw [List.getD_eq_getElem?_getD]
  cases e : names[i]? with
  | none => exact (by decide +kernel : PyData.strOk ⟨#[]⟩ = true)
  | some x => exact h.ok x (List.mem_of_getElem? e)
theorem earD_lay {names : List Str} (h : NmOk names) (e : Ear) : (earD names e).canLay0 = true := by
  unfold earD
  rw [PyData.canLay0, PyData.canLayAll0, PyData.canLayAll0, PyData.canLayAll0, PyData.canLayAll0, PyData.canLay0, PyData.canLay0, PyData.canLay0, nm_ok h, nm_ok h]
  rfl
theorem offD_lay {names : List Str} (h : NmOk names) (o : Off) : (offD names o).canLay0 = true := by
  cases o with
  | ear e =>
    unfold offD
    rw [PyData.canLay0, PyData.canLayAll0, PyData.canLayAll0, PyData.canLayAll0, PyData.canLayAll0, PyData.canLayAll0, PyData.canLay0, PyData.canLay0, PyData.canLay0, PyData.canLay0, nm_ok h, nm_ok h]
    decide +kernel
  | strike i =>
    unfold offD
    rw [PyData.canLay0, PyData.canLayAll0, PyData.canLayAll0, PyData.canLayAll0, PyData.canLay0, PyData.canLay0]
    decide +kernel
theorem depth_str (x : Str) : (PyData.str x).depth ≤ 1 := by rw [PyData.depth]; omega
theorem depth_int (x : Int) : (PyData.int x).depth ≤ 1 := by rw [PyData.depth]; omega
theorem earD_depth (names : List Str) (e : Ear) : (earD names e).depth ≤ 2 := by
  unfold earD
  rw [PyData.depth, PyData.depthAll, PyData.depthAll, PyData.depthAll, PyData.depthAll]
  have := depth_str (nm names e.2.1)
  have := depth_str (nm names e.2.2)
  have := depth_int (e.1 : Int)
  omega
theorem offD_depth (names : List Str) (o : Off) : (offD names o).depth ≤ 2 := by
  cases o with
  | ear e =>
    unfold offD
    rw [PyData.depth, PyData.depthAll, PyData.depthAll, PyData.depthAll, PyData.depthAll, PyData.depthAll]
    have := depth_str (nm names e.2.1)
    have := depth_str (nm names e.2.2)
    have := depth_str sEar
    have := depth_int (e.1 : Int)
    omega
  | strike i =>
    unfold offD
    rw [PyData.depth, PyData.depthAll, PyData.depthAll, PyData.depthAll]
    have := depth_str sStrike
    have := depth_int (i : Int)
    omega
theorem offD_strike (names : List Str) (o : Off) (i : Nat) : PyData.eqv (offD names o) (offD names (.strike i)) = decide (o = .strike i) := by
  cases o with
  | ear e =>
    unfold offD
    have h : (sEar == sStrike) = false := by decide
    rw [PyData.eqv, PyData.eqvAll, PyData.eqv, h, Bool.false_and]
    rfl
  | strike j =>
    unfold offD
    rw [PyData.eqv, PyData.eqvAll, PyData.eqvAll, PyData.eqvAll, PyData.eqv, PyData.eqv, Bool.eq_iff_iff]
    simp
    omega
theorem any_strike (names : List Str) (offs : List Off) (i : Nat) : ((offs.map (offD names)).any fun z => PyData.eqv z (offD names (.strike i))) = decide (i ∈ strikesOf offs) := by
  rw [List.any_map, Bool.eq_iff_iff, List.any_eq_true, decide_eq_true_eq]
  unfold strikesOf
  rw [List.mem_filterMap]
  constructor
  · rintro ⟨o, ho, e⟩
    have e2 : PyData.eqv (offD names o) (offD names (.strike i)) = true := e
    rw [offD_strike] at e2
    have e3 := of_decide_eq_true e2
    subst e3
    exact ⟨_, ho, rfl⟩
  · rintro ⟨o, ho, e⟩
    cases o with
    | ear _ => cases e
    | strike j =>
      cases e
      exact ⟨_, ho, by show PyData.eqv (offD names (.strike i)) (offD names (.strike i)) = true; rw [offD_strike]; exact decide_eq_true rfl⟩
theorem earsOf_take (offs : List Off) {i : Nat} (h : i < offs.length) (d : Off) : earsOf (offs.take (i + 1)) = earsOf (offs.take i) ++ (match offs.getD i d with | .ear e => [e] | .strike _ => []) := by
  unfold earsOf
  rw [List.take_succ, getD_of h d, List.filterMap_append]
  congr 1
  show List.filterMap _ [offs.getD i d] = _
  cases offs.getD i d <;> rfl
section
variable {P : Program} {w : World} {K : PySem.W.Frag} {mg : Str → Option Value} {base : Heap}
abbrev s_changed : Stmt := top 51
abbrev n_changed : List Str := ["council", "offers", "ways", "offer", "at", "way"]
theorem sc_changed : FnScope n_changed ["council", "offers"] (defScope s_changed) := ⟨rfl, rfl, rfl, by decide +kernel, rfl, by decide +kernel, by decide +kernel⟩
def spChanged (C : Addr) : Sp := fun vs H Q _ => ∃ (c : V) (l n : Addr) (es : List V) (names : List Str) (ways : List Rows) (offs : List Off), vs = [c, .ref l] ∧ CouncilAt C H c names ways ∧ NmOk names ∧ names.length = n ∧ WaysOk n ways ∧ 1 ≤ n ∧ H l = some (.lst es) ∧ TpAll H es (offs.map (offD names)) ∧
  (∀ o ∈ offs, OffOk n ways.length o) ∧ offs.length ≤ 1000 ∧ ∀ v H', Kp No H H' → Tp H' v (waysD (keepW (withE ways (earsOf offs)) (strikesOf offs))) → Q v H'
theorem ok_changed {f C : Addr} {fd : FuncData} (F : DefIn K mg "changed" s_changed ["council", "offers"] f fd) (B : Bt mg) (G_EAR : Gs mg "EAR" (.str sEar)) (G_STRIKE : Gs mg "STRIKE" (.str sStrike)) (D_with_ears : Def P w K mg base "with_ears" 3 ["council", "ears"] (spWith C)) :
    Def P w K mg base "changed" 4 ["council", "offers"] (spChanged C) := by
  refine F.ok sc_changed (fun vs H Q E h => ?_) (fun cdv A outer s H vs Q E hr h => ?_)
  · obtain ⟨c, l, _, _, _, _, _, rfl, _⟩ := h
    rfl
  · obtain ⟨c, l, n, es, names, ways, offs, rfl, hco, hnm, hnn, W, h1, hle, hes, hok, hel, q⟩ := h
    refine ⟨_, (pss_cons (ps_set (i := 2) sc_changed.nd rfl (by first | exact Or.inl rfl | exact Or.inr rfl) (pe_def (D_with_ears.mono (by decide)) hr (by rfl) (pa_cons (pv 0) (pa_cons (pe_lc rfl sc_changed.nd (pi_listK K (pv 1)) (blkOk_by (own := [("offer", 3)]) (N := n_changed) (sc := defScope s_changed) (by decide +kernel)) (fun _ _ _ _ _ => (pg_name (i := 3) sc_changed.nd rfl (by first | exact Or.inl rfl | exact Or.inr rfl))) (fun _ _ _ _ _ => (pts_one (pt_cmpR op_eq (pe_ix (x_tup K) (pv 3) pe_int (fun _ _ => rfl)) (pe_gs (by rfl) G_EAR) (nomark _)))) (fun _ _ _ _ _ => (pe_slice (s_tup K) (pv 3) (po_some pe_int) po_none))) pa_nil))))
      (pss_one (ps_ret (pe_callTy (r_tuple K) (by rfl) B.tuple (by decide +kernel) (pa_cons (pe_lc rfl sc_changed.nd (pi_enumT K (by rfl) B.enumerate (pa_cons (pv 2) pa_nil)) (blkOk_by (own := [("at", 4), ("way", 5)]) (N := n_changed) (sc := defScope s_changed) (by decide +kernel)) (fun _ _ _ _ _ => (pg_tupK K 2 (pgs_cons (pg_name (i := 4) sc_changed.nd rfl (by first | exact Or.inl rfl | exact Or.inr rfl)) (pgs_cons (pg_name (i := 5) sc_changed.nd rfl (by first | exact Or.inl rfl | exact Or.inr rfl)) pgs_nil)))) (fun _ _ _ _ _ => (pts_one (pt_cmpR (o_notInD K hr.u65) (pe_tup (pa_cons (pe_gs (by rfl) G_STRIKE) (pa_cons (pv 4) pa_nil))) (pv 1) (by rfl)))) (fun _ _ _ _ _ => (pv 5))) pa_nil))))), ?_⟩
    have hesl : es.length = offs.length := by rw [hes.length, List.length_map]
    have n6 := W.n6
    have few := W.few
    have hsz : (2000 : Nat) < sizeLine := by decide
    refine ⟨_, rfl, _, rfl, l, rfl, ⟨es, SqL.of hle⟩, fun D hD => ?_⟩
    refine lc_grow (S := No) walk_list (by omega) hD (fun z => z) (fun i acc H3 => TpAll H3 acc ((earsOf (offs.take i)).map (earD names))) (fun _ _ _ _ _ _ k h => h.mono k) (fun _ _ => .nil) (fun H3 k => SqL.of (k.at hle)) (fun i x H3 H4 acc N N0 hi k hl hR hy hN hN0 => ?_) (fun acc H3 k hl _ hR => ?_)
    · obtain ⟨rfl, hx⟩ := hy
      have hi' : i < offs.length := by omega
      obtain ⟨d, hd, hv⟩ := (hes.mono k.tu).get hx
      rw [List.getElem?_map, getD_of hi' (.strike 0)] at hd
      obtain rfl := Option.some.inj hd
      rw [earsOf_take offs hi' (.strike 0), List.map_append] at hN hN0
      generalize offs.getD i (.strike 0) = o at *
      cases o with
      | ear e =>
        obtain ⟨b, us, rfl, hb, hus⟩ := hv.tuple
        have hu : us = [.str sEar, .int (e.1 : Int), .str (nm names e.2.1), .str (nm names e.2.2)] := by
          cases hus with
          | cons h1 hus =>
            cases hus with
            | cons h2 hus =>
              cases hus with
              | cons h3 hus =>
                cases hus with
                | cons h4 hus =>
                  cases hus
                  rw [h1.str_inv, h2.int_inv, h3.str_inv, h4.str_inv]
        subst hu
        refine ⟨rfl, _, rfl, b, _, 0, .str sEar, rfl, rfl, SqT.of hb, atI_nat (j := 0) rfl, rfl, _, rfl, ?_⟩
        refine ite2 (fun _ => ?_) (fun h => absurd (decide_eq_true rfl) h)
        refine ⟨_, rfl, 1, rfl, b, _, rfl, SqT.of hb, fun z => absurd (show (1 : Nat) = 0 from z.1) (by decide), fun _ t ht => ?_⟩
        rw [show cutV [V.str sEar, .int (e.1 : Int), .str (nm names e.2.1), .str (nm names e.2.2)] (some 1) none = [.int (e.1 : Int), .str (nm names e.2.1), .str (nm names e.2.2)] from cut1 _]
        exact hN _ _ (Kp.new ht) ((hR.mono (TK.new ht)).snoc (.tup upd_same (.cons (.int _) (.cons (.str _) (.cons (.str _) .nil)))))
      | strike j =>
        obtain ⟨b, us, rfl, hb, hus⟩ := hv.tuple
        have hu : us = [.str sStrike, .int (j : Int)] := by
          cases hus with
          | cons h1 hus =>
            cases hus with
            | cons h2 hus =>
              cases hus
              rw [h1.str_inv, h2.int_inv]
        subst hu
        refine ⟨rfl, _, rfl, b, _, 0, .str sStrike, rfl, rfl, SqT.of hb, atI_nat (j := 0) rfl, rfl, _, rfl, ?_⟩
        refine ite2 (fun h => absurd (V.str.inj (of_decide_eq_true h)) (by decide)) (fun _ => ?_)
        exact hN0 _ (Kp.refl _ _) (by rw [List.map_nil, List.append_nil]; exact hR)
    · rw [hesl, List.take_length] at hR
      have hoke : ∀ e ∈ earsOf offs, EarOk n ways.length e := fun e he => by
        unfold earsOf at he
        obtain ⟨o, ho, eo⟩ := List.mem_filterMap.mp he
        cases o with
        | ear e' =>
          cases eo
          exact hok _ ho
        | strike _ => cases eo
      have hee : (earsOf offs).length ≤ 1000 := Nat.le_trans (List.length_filterMap_le _ _) hel
      refine ⟨c, D, n, acc, names, ways, earsOf offs, rfl, hco.mono k.n, hnm.nd, hnn, W, h1, hl, hR, hoke, hee, fun v H4 k4 hv => ?_⟩
      obtain ⟨a, xs, rfl, ha, hall⟩ := hv.tuple
      have hxl : xs.length = (withE ways (earsOf offs)).length := by rw [hall.length, List.length_map]
      have hwl : (withE ways (earsOf offs)).length = ways.length := withE_length _ _
      have kk := k.trans k4
      have hle4 := kk.at hle
      have hes4 := hes.mono kk.tu
      generalize hW5 : withE ways (earsOf offs) = ways5 at *
      refine ⟨_, rfl, a, xs, rfl, SqT.of ha, fun D2 hD2 => ?_⟩
      refine lc_filtD (S := No) walk_enumT (by omega) hD2 (fun z => z) (fun i => decide (i ∉ strikesOf offs)) (fun i => wayD (ways5.getD i [])) (fun H5 k5 => SqT.of (k5.tu _ _ ha)) (fun i x H5 H6 acc2 N N0 hi k5 hl5 hy hN hN0 => ?_) (fun acc2 H5 k5 hl5 hr5 => ?_)
      · obtain ⟨T, u, v, rfl, hT, rfl, e1, e2⟩ := hy
        obtain rfl := Option.some.inj e1
        have hi' : i < ways5.length := by omega
        obtain ⟨d, hd, hv⟩ := (hall.mono k5.tu).get e2
        rw [List.getElem?_map, getD_of hi' []] at hd
        obtain rfl := Option.some.inj hd
        have kT : Kp No H5 (upd H5 T (.tup [.int (i : Int), v])) := Kp.new hT
        have hTT : upd H5 T (.tup [.int (i : Int), v]) T = some (.tup [.int (i : Int), v]) := upd_same
        have hv6 := hv.mono kT.tu
        generalize upd H5 T (.tup [.int (i : Int), v]) = H6 at *
        refine ⟨T, _, rfl, SqT.of hTT, rfl, _, _, rfl, _, _, rfl, rfl, rfl, _, rfl, (show 2 ≤ sizeLine by decide), fun T2 hT2 => ?_⟩
        have k2 : Kp No H6 (upd H6 T2 (.tup [.str sStrike, .int (i : Int)])) := Kp.new hT2
        have kk2 := (k5.trans kT).trans k2
        refine ⟨_, rfl, offD names (.strike i), offs.map (offD names), .tup (SqT.of upd_same) (.cons (.str _) (.cons (.int _) .nil)), .lst (SqL.of (kk2.at hle4)) ((hes4.mono kk2.tu).dp K), shaped_of (offD_lay hnm _) (by have := offD_depth names (.strike i); omega), list_shaped (offD names) offs 2 (by decide) (fun o _ => ⟨offD_lay hnm o, offD_depth names o⟩), _, rfl, ?_⟩
        rw [any_strike]
        refine ite2 (fun h => ⟨_, rfl, hN _ _ (by simpa using h) (kT.trans k2) (hv6.mono k2.tu)⟩) (fun h => hN0 _ (by simpa using h) (kT.trans k2))
      · rw [hxl] at hr5
        refine ⟨D2, acc2, rfl, .inl ⟨SqL.of hl5, fun t ht => q _ _ ((kk.trans k5).trans (Kp.new ht)) (.tup upd_same ?_)⟩⟩
        unfold keepW
        rw [List.map_map]
        exact hr5.mono (TK.new ht)
end
end AA

/-! ## T14 -/
set_option Elab.async false
set_option linter.all false
set_option maxRecDepth 100000
set_option maxHeartbeats 4000000
namespace AA
open PySem PySem.Spec PyProof.Rows L2 PySem.W
theorem GridW.put {H : Hp} {n : Nat} {rows : Rows} {R : Addr} {ras : List Addr} (G : GridW H rows (R, ras)) (hW : WayOk n rows) (h1 : 1 ≤ n) (nd : ras.Nodup) {a b : Nat} {r : Addr} (ha : a < n) (hr : ras[a]? = some r) :
    GridW (upd H r (.lst (((rows.getD a []).set b 1).map V.int))) (rows.set a ((rows.getD a []).set b 1)) (R, ras) := by
  have hr0 := G.row a r hr
  have hrow : (rows.getD a []).length = n := hW.row _ (List.mem_of_getElem? (getD_of (by rw [hW.len]; exact ha) []))
  have hRr : R ≠ r := fun z => by
    have e1 := G.way
    have e1 : H R = some (.lst (ras.map V.ref)) := e1
    rw [z, hr0] at e1
    have e2 := refs_ne_ints (HO.lst.inj (Option.some.inj e1)).symm
    rw [e2] at hr
    simp at hr
  refine ⟨by show upd H r _ R = _; rw [upd_ne hRr]; exact G.way, by rw [List.length_set]; exact G.len, fun a' r' ha' => ?_⟩
  by_cases hra : r' = r
  · subst hra
    have hl : a < ras.length := (List.getElem?_eq_some_iff.mp hr).1
    have e : a = a' := (List.getElem?_inj hl nd).mp (hr.trans ha'.symm)
    subst e
    rw [upd_same, getD_set_self _ _ _ _ (by rw [hW.len]; exact ha)]
  · have hne : a ≠ a' := fun z => hra (by rw [z] at hr; rw [hr] at ha'; exact (Option.some.inj ha').symm)
    rw [upd_ne hra, getD_set_ne _ _ _ _ _ hne]
    exact G.row a' r' ha'
section
variable {P : Program} {w : World} {K : PySem.W.Frag} {mg : Str → Option Value} {base : Heap}
abbrev s__law_with : Stmt := top 70
abbrev n__law_with : List Str := ["_law_names_here", "_law_ways_here", "_law_ears_here", "_law_struck", "_law_found", "_law_way_here", "_law_rows", "_law_spot", "_law_fore", "_law_aft", "_law_row_here"]
theorem sc__law_with : FnScope n__law_with ["_law_names_here", "_law_ways_here", "_law_ears_here", "_law_struck"] (defScope s__law_with) := ⟨rfl, rfl, rfl, by decide +kernel, rfl, by decide +kernel, by decide +kernel⟩
def spLWith : Sp := fun vs H Q _ => ∃ (vn vw : V) (l ls n : Addr) (es : List V) (names : List Str) (ways : List Rows) (ears : List Ear) (st : List Nat), vs = [vn, vw, .ref l, .ref ls] ∧ NamesAt H vn names ∧ Tp H vw (waysD ways) ∧ names.Nodup ∧ names.length = n ∧ WaysOk n ways ∧ 1 ≤ n ∧ H l = some (.lst es) ∧ TpAll H es (ears.map (earD names)) ∧
  H ls = some (.lst ((st.map fun (k : Nat) => (k : Int)).map V.int)) ∧ (∀ e ∈ ears, EarOk n ways.length e) ∧ ears.length ≤ 1000 ∧ ∀ v H', Kp No H H' → Tp H' v (waysD (keepW (withE ways ears) st)) → Q v H'
theorem ok__law_with {f : Addr} {fd : FuncData} (F : DefIn K mg "_law_with" s__law_with ["_law_names_here", "_law_ways_here", "_law_ears_here", "_law_struck"] f fd) (B : Bt mg) :
    Def P w K mg base "_law_with" 1 ["_law_names_here", "_law_ways_here", "_law_ears_here", "_law_struck"] spLWith := by
  refine F.ok sc__law_with (fun vs H Q E h => ?_) (fun cdv A outer s H vs Q E hr h => ?_)
  · obtain ⟨vn, vw, l, ls, _, _, _, _, _, _, rfl, _⟩ := h
    rfl
  · obtain ⟨vn, vw, l, ls, n, es, names, ways, ears, st, rfl, hnm, htb, nd, hnn, W, h1, hle, hes, hst, hok, hel, q⟩ := h
    refine ⟨_, (pss_cons (ps_set (i := 4) sc__law_with.nd rfl (by first | exact Or.inl rfl | exact Or.inr rfl) (pe_lst pa_nil))
      (pss_cons (ps_for PassesOwn.never rfl (pi_range1 rfl B.range (pa_cons (pe_callB (r_len K) (by rfl) B.len (by decide +kernel) (pa_cons (pv 1) pa_nil)) pa_nil)) (pg_name (i := 5) sc__law_with.nd rfl (by first | exact Or.inl rfl | exact Or.inr rfl))
      (pss_cons (ps_setLc (i := 6) rfl sc__law_with.nd rfl rfl (sw_true rfl rfl rfl (by decide +kernel)) (pi_tupK K (pe_ix (x_tup K) (pv 1) (pv 5) (fun _ _ => rfl))) (blkOk_by (own := [("_law_row_here", 10)]) (N := n__law_with) (sc := defScope s__law_with) (by decide +kernel)) (fun _ _ _ _ _ => (pg_name (i := 10) sc__law_with.nd rfl (by first | exact Or.inl rfl | exact Or.inr rfl))) (fun _ _ _ _ _ => pts_nil) (fun _ _ _ _ _ => (pe_callTy (r_list K) (by rfl) B.list (by decide +kernel) (pa_cons (pv 10) pa_nil))))
        (pss_cons (ps_for PassesOwn.never rfl (pi_listK K (pv 2)) (pg_tupK K 3 (pgs_cons (pg_name (i := 7) sc__law_with.nd rfl (by first | exact Or.inl rfl | exact Or.inr rfl)) (pgs_cons (pg_name (i := 8) sc__law_with.nd rfl (by first | exact Or.inl rfl | exact Or.inr rfl)) (pgs_cons (pg_name (i := 9) sc__law_with.nd rfl (by first | exact Or.inl rfl | exact Or.inr rfl)) pgs_nil))))
        (pss_one (ps_if (pt_cmpR op_eq (pv 7) (pv 5) (nomark _))
          (pss_one (ps_asg pe_int (pg_sub (pe_ix (x_list K) (pv 6) (pe_index (pv 0) (pv 8)) (fun _ _ => rfl)) (pe_index (pv 0) (pv 9)) set_list)))
          pss_nil)))
        (pss_one (ps_if (pt_cmpR (o_notIn K) (pv 5) (pv 3) (by rfl))
        (pss_one (ps_expr (pe_bm PySem.F.plainAttrs_list PySem.F.slot_list_append PySem.F.type_list_append mt_append (pv 4) (pa_cons (pe_callTy (r_tuple K) (by rfl) B.tuple (by decide +kernel) (pa_cons (pe_lc rfl sc__law_with.nd (pi_listK K (pv 6)) (blkOk_by (own := [("_law_row_here", 10)]) (N := n__law_with) (sc := defScope s__law_with) (by decide +kernel)) (fun _ _ _ _ _ => (pg_name (i := 10) sc__law_with.nd rfl (by first | exact Or.inl rfl | exact Or.inr rfl))) (fun _ _ _ _ _ => pts_nil) (fun _ _ _ _ _ => (pe_callTy (r_tuple K) (by rfl) B.tuple (by decide +kernel) (pa_cons (pv 10) pa_nil)))) pa_nil)) pa_nil))))
        pss_nil)))))
      (pss_one (ps_ret (pe_callTy (r_tuple K) (by rfl) B.tuple (by decide +kernel) (pa_cons (pv 4) pa_nil)))))), ?_⟩
    obtain ⟨wa, xs, rfl, hwa, hall⟩ := htb.tuple
    have hxl : xs.length = ways.length := by rw [hall.length, List.length_map]
    have hesl : es.length = ears.length := by rw [hes.length, List.length_map]
    have n6 := W.n6
    have few := W.few
    have hsz : (2000 : Nat) < sizeLine := by decide
    have hWE : WaysOk n (withE ways ears) := withE_ok W hok
    have hwl : (withE ways ears).length = ways.length := withE_length _ _
    refine ⟨(show 0 ≤ sizeLine by decide), fun r hr0 => ?_⟩
    have kr : Kp No H (upd H r (.lst [])) := Kp.new hr0
    have hrr : upd H r (.lst []) r = some (.lst []) := upd_same
    generalize upd H r (.lst []) = H1 at *
    refine ⟨_, rfl, wa, xs, rfl, .inr (SqT.of (kr.tu _ _ hwa)), (xs.length : Int), rfl, by omega, by omega, ?_⟩
    rw [Int.toNat_natCast]
    refine for_it walk_range0 (fun i σ H2 => Kp No H H2 ∧ ∃ (o5 o6 o7 o8 o9 o10 : Option V) (acc : List V), σ = [some vn, some (.ref wa), some (.ref l), some (.ref ls), some (.ref r), o5, o6, o7, o8, o9, o10] ∧ H2 r = some (.lst acc) ∧ acc.length ≤ i ∧
        TpAll H2 acc (((List.range i).filter fun j => decide (j ∉ st)).map fun j => wayD ((withE ways ears).getD j [])))
      ⟨kr, _, _, _, _, _, _, [], rfl, hrr, Nat.le_refl _, .nil⟩ (fun _ _ _ _ _ => True.intro) (fun i x σ H2 H2' hi h hy => ?_) (fun σ H2 h => ?_)
    · obtain ⟨k2, o5, o6, o7, o8, o9, o10, acc, rfl, hr2, hal, hacc⟩ := h
      obtain ⟨rfl, rfl⟩ := hy
      have hi' : i < ways.length := by omega
      obtain ⟨v, hv, htv⟩ := hall.get' (i := i) (d := wayD (ways.getD i [])) (by rw [List.getElem?_map, getD_of hi' []]; rfl)
      have hWi := W.way _ (List.mem_of_getElem? (getD_of hi' []))
      obtain ⟨c, zs, rfl, hc, hzs⟩ := (htv.mono k2.tu).tuple
      have hzl : zs.length = (ways.getD i []).length := by rw [hzs.length, List.length_map]
      have hil := hWi.len
      have hrange : (List.range (i + 1)).filter (fun j => decide (j ∉ st)) = ((List.range i).filter fun j => decide (j ∉ st)) ++ (if i ∈ st then [] else [i]) := by
        rw [List.range_succ, List.filter_append]
        congr 1
        by_cases h : i ∈ st
        · rw [if_pos h, List.filter_cons_of_neg (by simpa using h)]
          rfl
        · rw [if_neg h, List.filter_cons_of_pos (by simpa using h)]
          rfl
      refine ⟨_, rfl, _, rfl, wa, xs, (i : Int), .ref c, rfl, rfl, SqT.of (k2.tu _ _ hwa), atI_nat hv, c, rfl, ⟨zs, SqT.of hc⟩, fun D hD => ?_⟩
      refine lc_own walk_tup (by omega) hD (fun j acc2 H5 => ∃ ras : List Addr, acc2 = ras.map V.ref ∧ ras.length = j ∧ ras.Nodup ∧ ∀ (a : Nat) (r : Addr), ras[a]? = some r → H5 r = some (.lst (((ways.getD i []).getD a []).map V.int)) ∧ r ≠ D ∧ H2' r = none)
        (fun _ => ⟨[], rfl, rfl, List.nodup_nil, fun a r e => by simp at e⟩) (fun H5 k5 => SqT.of (k5.tu _ _ hc)) (fun j x H5 H5' acc2 N2 hj k5 hl5 hR2 hy5 hN2 => ?_) (fun acc2 H5 k5 hl5 hR2 => ?_) rfl
      · obtain ⟨ras, rfl, hral, hrnd, hra⟩ := hR2
        obtain ⟨rfl, hx⟩ := hy5
        have hj' : j < (ways.getD i []).length := by omega
        obtain ⟨d, hd, hv⟩ := (hzs.mono k5.tu).get hx
        rw [List.getElem?_map, getD_of hj' []] at hd
        obtain rfl := Option.some.inj hd
        obtain ⟨b, us, rfl, hb, hus⟩ := hv.tuple
        obtain rfl := hus.ints_inv
        refine ⟨rfl, _, rfl, b, _, rfl, .inr (SqT.of hb), fun t ht0 => ?_⟩
        have hDr : D ≠ t := ne_of_none hl5 ht0
        have kt : Kp No H5' (upd H5' t (.lst (((ways.getD i []).getD j []).map V.int))) := Kp.new ht0
        refine hN2 _ _ kt (kt.at hl5) fun u => ⟨ras ++ [t], by rw [List.map_append]; rfl, by rw [List.length_append, hral]; rfl, ?_, fun a r' ha => ?_⟩
        · rw [List.nodup_append]
          refine ⟨hrnd, List.nodup_cons.mpr ⟨List.not_mem_nil, List.nodup_nil⟩, fun x hx y hy z => ?_⟩
          rw [List.mem_singleton.mp hy] at z
          subst z
          obtain ⟨m, hm⟩ := List.getElem?_of_mem hx
          rw [(hra m x hm).1] at ht0
          cases ht0
        · rw [List.getElem?_append] at ha
          split at ha
          · obtain ⟨e1, e2, e3⟩ := hra a r' ha
            exact ⟨by rw [upd_ne e2]; exact kt.at e1, e2, e3⟩
          · rename_i hge
            have ha0 : a - ras.length = 0 := by
              rcases Nat.eq_zero_or_pos (a - ras.length) with z | z
              · exact z
              · rw [List.getElem?_eq_none (by rw [List.length_singleton]; exact z)] at ha
                cases ha
            rw [ha0] at ha
            obtain rfl := Option.some.inj ha
            have haj : a = j := by omega
            subst haj
            exact ⟨by rw [upd_ne (fun z => hDr z.symm)]; exact upd_same, fun z => hDr z.symm, k5.fr _ ht0⟩
      · obtain ⟨ras, rfl, hral, hrnd, hra⟩ := hR2
        have kk5 := k2.trans k5
        have G5 : GridW H5 (ways.getD i []) (D, ras) := ⟨hl5, by show ras.length = _; omega, fun a r ha => (hra a r ha).1⟩
        have hfr : ∀ r ∈ ras, H2' r = none := fun r hr => by
          obtain ⟨a, ha⟩ := List.getElem?_of_mem hr
          exact (hra a r ha).2.2
        refine ⟨_, rfl, l, rfl, ⟨es, SqL.of (kk5.at hle)⟩, ?_⟩
        refine for_it walk_list (fun m σ H6 => Kp No H2' H6 ∧ ∃ o7 o8 o9 o10 : Option V, σ = [some vn, some (.ref wa), some (.ref l), some (.ref ls), some (.ref r), some (.int (i : Int)), some (.ref D), o7, o8, o9, o10] ∧ GridW H6 ((withE ways (ears.take m)).getD i []) (D, ras))
          ⟨k5, _, _, _, _, rfl, G5⟩ (fun m σ H6 _ h => SqL.of (h.1.at (k2.at hle))) (fun m x σ H6 H6' hm h hy => ?_) (fun σ H6 h => ?_)
        · obtain ⟨k6, o7, o8, o9, o10, rfl, G6⟩ := h
          obtain ⟨rfl, hx⟩ := hy
          have hm' : m < ears.length := by omega
          obtain ⟨d, hd, hv⟩ := (hes.mono (k2.tu.trans k6.tu)).get hx
          rw [List.getElem?_map, getD_of hm' (0, 0, 0)] at hd
          obtain rfl := Option.some.inj hd
          have ho := hok _ (List.mem_of_getElem? (getD_of hm' (0, 0, 0)))
          have etk : ears.take (m + 1) = ears.take m ++ [ears.getD m (0, 0, 0)] := by
            rw [List.take_succ, getD_of hm' (0, 0, 0)]
            rfl
          have hW4 : WaysOk n (withE ways (ears.take m)) := withE_ok W fun e he => hok e (List.mem_of_mem_take he)
          have hl4 : (withE ways (ears.take m)).length = ways.length := withE_length _ _
          rw [etk, withE_snoc]
          generalize ears.getD m (0, 0, 0) = e at *
          generalize withE ways (ears.take m) = ways4 at *
          obtain ⟨b, us, rfl, hb, hus⟩ := hv.tuple
          have hu : us = [.int (e.1 : Int), .str (nm names e.2.1), .str (nm names e.2.2)] := by
            cases hus with
            | cons h1 hus =>
              cases hus with
              | cons h2 hus =>
                cases hus with
                | cons h3 hus =>
                  cases hus
                  rw [h1.int_inv, h2.str_inv, h3.str_inv]
          subst hu
          have hWi4 := hW4.way _ (List.mem_of_getElem? (getD_of (show i < ways4.length by omega) []))
          refine ⟨b, _, rfl, SqT.of hb, rfl, _, _, rfl, _, _, rfl, _, _, rfl, rfl, ?_⟩
          refine ⟨_, rfl, _, rfl, rfl, _, rfl, ?_⟩
          refine ite2 (fun h => ?_) (fun h => ?_)
          · have hei : e.1 = i := Int.ofNat.inj (V.int.inj (of_decide_eq_true h))
            subst hei
            have hpa : e.2.1 < ras.length := by
              have := G6.len
              have : ras.length = (ways4.getD e.1 []).length := this
              rw [this, hWi4.len]
              exact ho.fore
            obtain ⟨t, ht⟩ : ∃ t, ras[e.2.1]? = some t := ⟨_, List.getElem?_eq_getElem hpa⟩
            have hrow := G6.row _ t ht
            have hrl : ((ways4.getD e.1 []).getD e.2.1 []).length = n := hWi4.row _ (List.mem_of_getElem? (getD_of (by rw [hWi4.len]; exact ho.fore) []))
            have hnm6 := hnm.k (k2.trans k6)
            refine ⟨_, rfl, _, rfl, ⟨names, hnm6⟩, _, rfl, names, nm names e.2.1, e.2.1, hnm6, rfl, nm_at (by rw [hnn]; exact ho.fore), nm_first nd (by rw [hnn]; exact ho.fore), ?_⟩
            refine ⟨D, _, (e.2.1 : Int), .ref t, rfl, rfl, SqL.of G6.way, atI_nat (by rw [List.getElem?_map, ht]; rfl), ?_⟩
            refine ⟨_, rfl, ⟨names, hnm6⟩, _, rfl, names, nm names e.2.2, e.2.2, hnm6, rfl, nm_at (by rw [hnn]; exact ho.aft), nm_first nd (by rw [hnn]; exact ho.aft), ?_⟩
            refine ⟨t, _, (e.2.2 : Int), e.2.2, rfl, rfl, hrow, ixN_at (by rw [List.length_map, hrl]; exact ho.aft), ?_⟩
            have hset : (((ways4.getD e.1 []).getD e.2.1 []).map V.int).set e.2.2 (.int 1) = (((ways4.getD e.1 []).getD e.2.1 []).set e.2.2 1).map V.int := by rw [List.map_set]
            refine ⟨Kp.own k6 (hfr _ (List.mem_of_getElem? ht)) hrow (by intro xs z; cases z), _, _, _, _, rfl, ?_⟩
            rw [hset]
            unfold setCell
            rw [getD_set_self _ _ _ _ (show e.1 < ways4.length by omega)]
            exact G6.put hWi4 h1 hrnd ho.fore ht
          · have hei : e.1 ≠ i := fun z => h (decide_eq_true (by rw [z]))
            refine ⟨k6, _, _, _, _, rfl, ?_⟩
            unfold setCell
            rw [getD_set_ne _ _ _ _ _ hei]
            exact G6
        · obtain ⟨k6, o7, o8, o9, o10, rfl, G6⟩ := h
          rw [hesl, List.take_length] at G6
          have kk6 := k2.trans k6
          have hWi6 := hWE.way _ (List.mem_of_getElem? (getD_of (show i < (withE ways ears).length by omega) []))
          have hr6 := k6.at hr2
          have hacc6 := hacc.mono k6.tu
          refine ⟨_, rfl, _, rfl, ls, _, rfl, .inl (SqL.of (kk6.at hst)), rfl, flat_ints _, _, rfl, ?_⟩
          rw [inV_lot]
          refine ite2 (fun h => ?_) (fun h => ?_)
          · have hns : i ∉ st := by simpa using h
            rw [if_neg hns] at hrange
            refine ⟨_, rfl, .inl ⟨rfl, _, SqL.of hr6⟩, _, rfl, D, rfl, ⟨_, SqL.of G6.way⟩, fun D2 hD2 => ?_⟩
            have hpl : ras.length = n := by
              have : ras.length = ((withE ways ears).getD i []).length := G6.len
              rw [this]
              exact hWi6.len
            refine lc_mapD (S := No) walk_list (by rw [List.length_map]; show ras.length < _; omega) hD2 (fun z => z) (fun a => rowD (((withE ways ears).getD i []).getD a [])) (fun H7 k7 => SqL.of (k7.at G6.way)) (fun a x H7 H8 acc2 N2 ha k7 hacc2 hy7 hN2 => ?_) (fun acc2 H7 k7 hacc2 hr7 => ?_)
            · obtain ⟨rfl, hx⟩ := hy7
              rw [List.length_map] at ha
              obtain ⟨t, ht⟩ : ∃ t, ras[a]? = some t := ⟨_, List.getElem?_eq_getElem ha⟩
              rw [List.getElem?_map, ht] at hx
              obtain rfl := Option.some.inj hx
              exact ⟨rfl, _, rfl, t, _, rfl, .inl ⟨SqL.of (k7.at (G6.row a t ht)), fun t ht => hN2 _ _ (Kp.new ht) (.tup upd_same (TpAll.ints _))⟩⟩
            · have hln : (List.map V.ref ras).length = ((withE ways ears).getD i []).length := by rw [List.length_map]; exact G6.len
              rw [hln, range_get _ rowD []] at hr7
              refine ⟨D2, acc2, rfl, .inl ⟨SqL.of hacc2, fun t ht => ?_⟩⟩
              have kt : Kp No H7 (upd H7 t (.tup acc2)) := Kp.new ht
              have htt : upd H7 t (.tup acc2) t = some (.tup acc2) := upd_same
              generalize upd H7 t (.tup acc2) = H8 at *
              have k68 := k7.trans kt
              have hr8 := k68.at hr6
              refine ⟨r, acc, _, rfl, rfl, hr8, by omega, Kp.own (kk6.trans k68) hr0 hr8 (by intro xs z; cases z), _, _, _, _, _, _, _, rfl, upd_same, by rw [List.length_append, List.length_singleton]; omega, ?_⟩
              rw [hrange, List.map_append]
              exact ((hacc6.mono k68.tu).mono (TK.upd_lst hr8)).snoc ((Tp.tup htt (hr7.mono kt.tu) : Tp H8 (.ref t) (wayD ((withE ways ears).getD i []))).mono (TK.upd_lst hr8))
          · have hns : i ∈ st := by simpa using h
            rw [if_pos hns, List.append_nil] at hrange
            exact ⟨kk6, _, _, _, _, _, _, acc, rfl, hr6, by omega, by rw [hrange]; exact hacc6⟩
    · obtain ⟨k2, o5, o6, o7, o8, o9, o10, acc, rfl, hr2, hal, hacc⟩ := h
      refine ⟨_, rfl, r, acc, rfl, .inl ⟨SqL.of hr2, fun t ht => q _ _ (k2.trans (Kp.new ht)) (.tup upd_same ?_)⟩⟩
      unfold keepW
      rw [hwl, List.map_map, ← hxl]
      exact hacc.mono (TK.new ht)
end
end AA

/-! ## T15 -/
set_option Elab.async false
set_option linter.all false
set_option maxRecDepth 100000
set_option maxHeartbeats 4000000
namespace AA
open PySem PySem.Spec PyProof.Rows L2 PySem.W
section
variable {prog : Program} {w : World} {A : Around} {E : Value → Shared → Prop} {s : Shared}
theorem sumT_raw {t : Addr} {its : List Value} {ns : List Int} {Q : Value → Shared → Prop} (hh : A.handled = none) (hl : s.heap.IsTuple t its.toArray) (hi : IntsAre its ns)
    (h : ∀ h' tk t', (∀ b o, s.heap.get? b = some o → h'.get? b = some o) → Q (.int ns.sum t') { s with heap := h', toks := tk }) : wpAny (model prog w) A (call (.builtin "sum") [.ref t]) Q E s := by
  obtain ⟨xs, e⟩ := hi.allInts.items
  have hn : numsOf (intItems xs).toList = ns := by
    rw [← e]
    exact hi.numsOf
  rw [nums_intItems] at hn
  rw [e] at hl
  refine ktm_sumG hh hl fun h' tk t' hk => ?_
  have q := h h' tk t' hk
  rw [preSum_eq, List.take_of_length_le (by simp), hn]
  exact q
end
def rSumT (K : PySem.W.Frag) : List V → Hp → VK → Prop := fun vs H Q => ∃ (a : Addr) (ns : List Int), vs = [V.ref a] ∧ SqT K H a (ns.map V.int) ∧ Q (.int ns.sum) H
theorem r_sumT {X : Cx} (K : PySem.W.Frag) (hK : X.K = K := by rfl) (hc : X.calm = true := by rfl) : CallR X (.builtin "sum") (rSumT K) := by
  subst hK
  intro pins s σ H vs us Q I r h
  obtain ⟨a, ns, rfl, hs, q⟩ := h
  obtain ⟨its, rv, hl, _⟩ := I.tuple hs
  rw [Vals.ref1 r]
  exact sumT_raw (I.ok.hd hc) hl rv.ints fun h' tk t' hk => ⟨.int _, H, I.kept hk, ⟨_, rfl⟩, q⟩
theorem all_true {α : Type} (l : List α) : (l.map fun _ => true).all id = true := by
  rw [List.all_map]
  exact List.all_eq_true.mpr fun _ _ => rfl
def sLetters : Str := "abcdefghijklmnopqrstuvwxyz"
def sDigits : Str := "0123456789"
/-- a name of letters -/
structure NameOk (x : Str) : Prop where
  one : 1 ≤ x.length
  few : x.length ≤ 8
  ok : ∀ c ∈ x.cps.toList, c ∈ sLetters.cps.toList
/-- a row of weights that counts -/
structure RowOk (row : List Int) : Prop where
  lo : ∀ x ∈ row, 0 ≤ x
  hi : ∀ x ∈ row, x ≤ 1000000000
  pos : 0 < row.sum
section
variable {P : Program} {w : World} {K : PySem.W.Frag} {mg : Str → Option Value} {base : Heap}
abbrev s_is_integer : Stmt := top 18
abbrev n_is_integer : List Str := ["value"]
theorem sc_is_integer : FnScope n_is_integer ["value"] (defScope s_is_integer) := ⟨rfl, rfl, rfl, by decide +kernel, rfl, by decide +kernel, by decide +kernel⟩
def spInt : Sp := fun vs H Q _ => ∃ i : Int, vs = [.int i] ∧ Q (.bl true) H
theorem ok_is_integer {f : Addr} {fd : FuncData} (F : DefIn K mg "is_integer" s_is_integer ["value"] f fd) (B : Bt mg) : Def P w K mg base "is_integer" 1 ["value"] spInt := by
  refine F.ok sc_is_integer (fun vs H Q E h => ?_) (fun cdv A outer s H vs Q E hr h => ?_)
  · obtain ⟨i, rfl, _⟩ := h
    rfl
  · obtain ⟨i, rfl, q⟩ := h
    refine ⟨_, (pss_one (ps_ret (pe_and (pe_callB (c_isi K) (by rfl) B.isinstance (by decide +kernel) (pa_cons (pv 0) (pa_cons (pe_bltn (v := .ty "int") (by rfl) B.int boot_int rfl) pa_nil))) (pe_one (pe_not (pe_callB (c_isi K) (by rfl) B.isinstance (by decide +kernel) (pa_cons (pv 0) (pa_cons (pe_bltn (v := .ty "bool") (by rfl) B.bool boot_bool rfl) pa_nil)))))))), ?_⟩
    refine ⟨_, rfl, _, _, _, _, true, rfl, .ty _, .base (.int i), rfl, true, rfl, ?_⟩
    exact ⟨_, rfl, _, _, _, _, false, rfl, .ty _, .base (.int i), rfl, false, rfl, q⟩
abbrev s_is_within : Stmt := top 19
abbrev n_is_within : List Str := ["value", "least", "most"]
theorem sc_is_within : FnScope n_is_within ["value", "least", "most"] (defScope s_is_within) := ⟨rfl, rfl, rfl, by decide +kernel, rfl, by decide +kernel, by decide +kernel⟩
def spWithin : Sp := fun vs H Q _ => ∃ i lo hi : Int, vs = [.int i, .int lo, .int hi] ∧ lo ≤ i ∧ i ≤ hi ∧ Q (.bl true) H
theorem ok_is_within {f : Addr} {fd : FuncData} (F : DefIn K mg "is_within" s_is_within ["value", "least", "most"] f fd) (B : Bt mg) (D_is_integer : Def P w K mg base "is_integer" 1 ["value"] spInt) : Def P w K mg base "is_within" 2 ["value", "least", "most"] spWithin := by
  refine F.ok sc_is_within (fun vs H Q E h => ?_) (fun cdv A outer s H vs Q E hr h => ?_)
  · obtain ⟨i, lo, hi, rfl, _⟩ := h
    rfl
  · obtain ⟨i, lo, hi, rfl, h1, h2, q⟩ := h
    refine ⟨_, (pss_one (ps_ret (pe_and (pe_def (D_is_integer.mono (by decide)) hr (by rfl) (pa_cons (pv 0) pa_nil)) (pe_one (pe_chain op_le op_le (pv 1) (pv 0) (pv 2)))))), ?_⟩
    refine ⟨_, rfl, i, rfl, true, rfl, ?_⟩
    refine ⟨_, rfl, _, rfl, _, _, rfl, rfl, true, ?_⟩
    refine ⟨congrArg V.bl (decide_eq_true h1), ite2 (fun _ => ⟨_, rfl, _, _, rfl, rfl, ?_⟩) (fun h => absurd rfl h)⟩
    have e : decide (i ≤ hi) = true := decide_eq_true h2
    show Q (.bl (decide (i ≤ hi))) H
    rw [e]
    exact q
abbrev s_is_name : Stmt := top 20
abbrev n_is_name : List Str := ["value", "sign"]
theorem sc_is_name : FnScope n_is_name ["value"] (defScope s_is_name) := ⟨rfl, rfl, rfl, by decide +kernel, rfl, by decide +kernel, by decide +kernel⟩
def spName : Sp := fun vs H Q _ => ∃ x : Str, vs = [.str x] ∧ NameOk x ∧ ∀ H', Kp No H H' → Q (.bl true) H'
theorem ok_is_name {f : Addr} {fd : FuncData} (F : DefIn K mg "is_name" s_is_name ["value"] f fd) (B : Bt mg) (G_LONGEST_NAME : Gs mg "LONGEST_NAME" (.int 8)) (G_LETTERS : Gs mg "LETTERS" (.str sLetters)) (G_DIGITS : Gs mg "DIGITS" (.str sDigits)) : Def P w K mg base "is_name" 1 ["value"] spName := by
  refine F.ok sc_is_name (fun vs H Q E h => ?_) (fun cdv A outer s H vs Q E hr h => ?_)
  · obtain ⟨x, rfl, _⟩ := h
    rfl
  · obtain ⟨x, rfl, ok, q⟩ := h
    refine ⟨_, (pss_cons (ps_if (PW.pt (pw_or (pt_not (pt_val (pe_callB (c_isi K) (by rfl) B.isinstance (by decide +kernel) (pa_cons (pv 0) (pa_cons (pe_bltn (v := .ty "str") (by rfl) B.str boot_str rfl) pa_nil))))) (pw_or1 (pt_not (pt_chain op_le op_le pe_int (pe_callB call_len_str (by rfl) B.len (by decide +kernel) (pa_cons (pv 0) pa_nil)) (pe_gs (by rfl) G_LONGEST_NAME))))))
      (pss_one (ps_ret pe_bl))
      pss_nil)
      (pss_one (ps_ret (pe_and (pe_cmpR op_inS (pe_ix ix_str (pv 0) pe_int (fun _ _ => rfl)) (pe_gs (by rfl) G_LETTERS) (by rfl)) (pe_one (pe_callB (r_all K) (by rfl) B.all (by decide +kernel) (pa_cons (pe_lc rfl sc_is_name.nd (pi_str (pv 0)) (blkOk_by (own := [("sign", 1)]) (N := n_is_name) (sc := defScope s_is_name) (by decide +kernel)) (fun _ _ _ _ _ => (pg_name (i := 1) sc_is_name.nd rfl (by first | exact Or.inl rfl | exact Or.inr rfl))) (fun _ _ _ _ _ => pts_nil) (fun _ _ _ _ _ => (pe_or (pe_cmpR op_inS (pv 1) (pe_gs (by rfl) G_LETTERS) (by rfl)) (pe_one (pe_cmpR op_inS (pv 1) (pe_gs (by rfl) G_DIGITS) (by rfl)))))) pa_nil))))))), ?_⟩
    have hsz : (1000 : Nat) < sizeLine := by decide
    have h1 := ok.one
    have h8 := ok.few
    refine ⟨_, rfl, _, _, _, _, true, rfl, .ty _, .base (.str x), rfl, true, rfl, ?_⟩
    refine ite2 (fun h => absurd h (by decide)) (fun _ => ?_)
    refine ⟨_, rfl, x, rfl, by omega, _, _, rfl, rfl, true, congrArg V.bl (decide_eq_true (by omega)), ite2 (fun _ => ?_) (fun h => absurd rfl h)⟩
    refine ⟨_, _, rfl, rfl, true, congrArg V.bl (decide_eq_true (by omega)), ite2 (fun h => absurd h (by decide)) (fun _ => ?_)⟩
    have hx0 : 0 < x.cps.toList.length := by rw [Array.length_toList]; exact h1
    obtain ⟨c0, hc0⟩ : ∃ c0, x.cps.toList[0]? = some c0 := ⟨_, List.getElem?_eq_getElem hx0⟩
    refine ⟨_, rfl, x, 0, c0, rfl, rfl, by omega, atI_nat (j := 0) hc0, c0, sLetters, rfl, rfl, true, congrArg V.bl (decide_eq_true (ok.ok c0 (List.mem_of_getElem? hc0))), ite2 (fun _ => ?_) (fun h => absurd rfl h)⟩
    refine ⟨_, rfl, x, rfl, fun D hD => ?_⟩
    refine lc_mapD (S := No) walk_str (by have : x.cps.size ≤ 8 := h8; omega) hD (fun z => z) (fun _ => .bool true) (fun _ _ => True.intro) (fun i y H1 H2 acc N hi k hl hy hN => ?_) (fun acc H1 k hl hr1 => ?_)
    · obtain ⟨rfl, c, hc, rfl⟩ := hy
      have hcm : c ∈ x.cps.toList := List.mem_of_getElem? (i := i) (by rw [Array.getElem?_toList]; exact hc)
      refine ⟨rfl, _, rfl, c, sLetters, rfl, rfl, true, congrArg V.bl (decide_eq_true (ok.ok c hcm)), ite2 (fun _ => hN _ _ (Kp.refl _ _) (.bl true)) (fun h => absurd rfl h)⟩
    · obtain rfl := hr1.bls_map fun _ => true
      refine ⟨D, _, rfl, SqL.of hl, ?_⟩
      rw [all_true]
      exact q _ k
abbrev s_is_row : Stmt := top 24
abbrev n_is_row : List Str := ["value", "count", "weight"]
theorem sc_is_row : FnScope n_is_row ["value", "count"] (defScope s_is_row) := ⟨rfl, rfl, rfl, by decide +kernel, rfl, by decide +kernel, by decide +kernel⟩
def spRow : Sp := fun vs H Q _ => ∃ (v : V) (n : Nat) (row : List Int), vs = [v, .int (n : Int)] ∧ Tp H v (rowD row) ∧ row.length = n ∧ n ≤ 6 ∧ RowOk row ∧ ∀ H', Kp No H H' → Q (.bl true) H'
theorem ok_is_row {f : Addr} {fd : FuncData} (F : DefIn K mg "is_row" s_is_row ["value", "count"] f fd) (B : Bt mg) (G_MOST_WEIGHT : Gs mg "MOST_WEIGHT" (.int 1000000000)) (D_is_within : Def P w K mg base "is_within" 2 ["value", "least", "most"] spWithin) : Def P w K mg base "is_row" 3 ["value", "count"] spRow := by
  refine F.ok sc_is_row (fun vs H Q E h => ?_) (fun cdv A outer s H vs Q E hr h => ?_)
  · obtain ⟨v, n, row, rfl, _⟩ := h
    rfl
  · obtain ⟨v, n, row, rfl, hv, hl, n6, ok, q⟩ := h
    refine ⟨_, (pss_cons (ps_if (PW.pt (pw_or (pt_not (pt_val (pe_callB (c_isi K) (by rfl) B.isinstance (by decide +kernel) (pa_cons (pv 0) (pa_cons (pe_bltn (v := .ty "tuple") (by rfl) B.tuple boot_tuple rfl) pa_nil))))) (pw_or1 (pt_cmpR op_ne (pe_callB (r_len K) (by rfl) B.len (by decide +kernel) (pa_cons (pv 0) pa_nil)) (pv 1) (nomark _)))))
      (pss_one (ps_ret pe_bl))
      pss_nil)
      (pss_one (ps_ret (pe_and (pe_callB (r_all K) (by rfl) B.all (by decide +kernel) (pa_cons (pe_lc rfl sc_is_row.nd (pi_tupK K (pv 0)) (blkOk_by (own := [("weight", 2)]) (N := n_is_row) (sc := defScope s_is_row) (by decide +kernel)) (fun _ _ _ _ _ => (pg_name (i := 2) sc_is_row.nd rfl (by first | exact Or.inl rfl | exact Or.inr rfl))) (fun _ _ _ _ _ => pts_nil) (fun _ _ _ _ _ => (pe_def (D_is_within.mono (by decide)) hr (by rfl) (pa_cons (pv 2) (pa_cons pe_int (pa_cons (pe_gs (by rfl) G_MOST_WEIGHT) pa_nil)))))) pa_nil)) (pe_one (pe_cmpR op_gt (pe_callB (r_sumT K) (by rfl) B.sum (by decide +kernel) (pa_cons (pv 0) pa_nil)) pe_int (nomark _))))))), ?_⟩
    have hsz : (1000 : Nat) < sizeLine := by decide
    obtain ⟨a, xs, rfl, ha, hall⟩ := hv.tuple
    obtain rfl := hall.ints_inv
    refine ⟨_, rfl, _, _, _, _, true, rfl, .ty _, .base (.tup ha), rfl, true, rfl, ?_⟩
    refine ite2 (fun h => absurd h (by decide)) (fun _ => ?_)
    refine ⟨_, rfl, a, _, rfl, .inr (SqT.of ha), _, rfl, rfl, _, rfl, ?_⟩
    rw [List.length_map, hl]
    refine ite2 (fun h => absurd h (by simp)) (fun _ => ?_)
    refine ⟨_, rfl, a, rfl, ⟨_, SqT.of ha⟩, fun D hD => ?_⟩
    refine lc_mapD (S := No) walk_tup (by rw [List.length_map]; omega) hD (fun z => z) (fun _ => .bool true) (fun H1 k => SqT.of (k.tu _ _ ha)) (fun i y H1 H2 acc N hi k hl1 hy hN => ?_) (fun acc H1 k hl1 hr1 => ?_)
    · obtain ⟨rfl, hx⟩ := hy
      rw [List.length_map] at hi
      rw [List.getElem?_map, getD_of hi 0] at hx
      obtain rfl := Option.some.inj hx
      have hm := List.mem_of_getElem? (getD_of hi 0)
      exact ⟨rfl, _, rfl, _, 0, 1000000000, rfl, ok.lo _ hm, ok.hi _ hm, hN _ _ (Kp.refl _ _) (.bl true)⟩
    · obtain rfl := hr1.bls_map fun _ => true
      refine ⟨D, _, rfl, SqL.of hl1, true, congrArg V.bl (all_true _), ite2 (fun _ => ?_) (fun h => absurd rfl h)⟩
      refine ⟨_, rfl, a, row, rfl, SqT.of (k.tu _ _ ha), _, _, rfl, rfl, ?_⟩
      have e : decide (0 < row.sum) = true := decide_eq_true ok.pos
      show Q (.bl (decide (0 < row.sum))) H1
      rw [e]
      exact q _ k
abbrev s_is_way : Stmt := top 25
abbrev n_is_way : List Str := ["value", "count", "row"]
theorem sc_is_way : FnScope n_is_way ["value", "count"] (defScope s_is_way) := ⟨rfl, rfl, rfl, by decide +kernel, rfl, by decide +kernel, by decide +kernel⟩
def spWay : Sp := fun vs H Q _ => ∃ (v : V) (n : Nat) (rows : Rows), vs = [v, .int (n : Int)] ∧ Tp H v (wayD rows) ∧ WayOk n rows ∧ n ≤ 6 ∧ (∀ r ∈ rows, RowOk r) ∧ ∀ H', Kp No H H' → Q (.bl true) H'
theorem ok_is_way {f : Addr} {fd : FuncData} (F : DefIn K mg "is_way" s_is_way ["value", "count"] f fd) (B : Bt mg) (D_is_row : Def P w K mg base "is_row" 3 ["value", "count"] spRow) : Def P w K mg base "is_way" 4 ["value", "count"] spWay := by
  refine F.ok sc_is_way (fun vs H Q E h => ?_) (fun cdv A outer s H vs Q E hr h => ?_)
  · obtain ⟨v, n, row, rfl, _⟩ := h
    rfl
  · obtain ⟨v, n, rows, rfl, hv, hW, n6, ok, q⟩ := h
    refine ⟨_, (pss_one (ps_ret (pe_and (pe_callB (c_isi K) (by rfl) B.isinstance (by decide +kernel) (pa_cons (pv 0) (pa_cons (pe_bltn (v := .ty "tuple") (by rfl) B.tuple boot_tuple rfl) pa_nil))) (pe_and (pe_cmpR op_eq (pe_callB (r_len K) (by rfl) B.len (by decide +kernel) (pa_cons (pv 0) pa_nil)) (pv 1) (nomark _)) (pe_one (pe_callB (r_all K) (by rfl) B.all (by decide +kernel) (pa_cons (pe_lc rfl sc_is_way.nd (pi_tupK K (pv 0)) (blkOk_by (own := [("row", 2)]) (N := n_is_way) (sc := defScope s_is_way) (by decide +kernel)) (fun _ _ _ _ _ => (pg_name (i := 2) sc_is_way.nd rfl (by first | exact Or.inl rfl | exact Or.inr rfl))) (fun _ _ _ _ _ => pts_nil) (fun _ _ _ _ _ => (pe_def (D_is_row.mono (by decide)) hr (by rfl) (pa_cons (pv 2) (pa_cons (pv 1) pa_nil))))) pa_nil))))))), ?_⟩
    have hsz : (1000 : Nat) < sizeLine := by decide
    obtain ⟨a, xs, rfl, ha, hall⟩ := hv.tuple
    refine ⟨_, rfl, _, _, _, _, true, rfl, .ty _, .base (.tup ha), rfl, true, rfl, ?_⟩
    have hxl : xs.length = n := by rw [hall.length, List.length_map]; exact hW.len
    refine ite2 (fun _ => ?_) (fun h => absurd rfl h)
    refine ⟨_, rfl, a, xs, rfl, .inr (SqT.of ha), _, rfl, rfl, true, congrArg V.bl (decide_eq_true (by rw [hxl])), ite2 (fun _ => ?_) (fun h => absurd rfl h)⟩
    refine ⟨_, rfl, a, rfl, ⟨_, SqT.of ha⟩, fun D hD => ?_⟩
    refine lc_mapD (S := No) walk_tup (by omega) hD (fun z => z) (fun _ => .bool true) (fun H1 k => SqT.of (k.tu _ _ ha)) (fun i y H1 H2 acc N hi k hl1 hy hN => ?_) (fun acc H1 k hl1 hr1 => ?_)
    · obtain ⟨rfl, hx⟩ := hy
      have hi' : i < rows.length := by rw [hW.len]; omega
      obtain ⟨d, hd, hv⟩ := (hall.mono k.tu).get hx
      rw [List.getElem?_map, getD_of hi' []] at hd
      obtain rfl := Option.some.inj hd
      have hm := List.mem_of_getElem? (getD_of hi' [])
      exact ⟨rfl, _, rfl, _, rfl, _, n, rows.getD i [], rfl, hv, hW.row _ hm, n6, ok _ hm, fun H3 k3 => hN _ _ k3 (.bl true)⟩
    · obtain rfl := hr1.bls_map fun _ => true
      refine ⟨D, _, rfl, SqL.of hl1, ?_⟩
      rw [all_true]
      exact q _ k
abbrev s_wrong_mind : Stmt := top 23
abbrev n_wrong_mind : List Str := ["minds", "at", "name"]
theorem sc_wrong_mind : FnScope n_wrong_mind ["minds"] (defScope s_wrong_mind) := ⟨rfl, rfl, rfl, by decide +kernel, rfl, by decide +kernel, by decide +kernel⟩
def spWrongMind : Sp := fun vs H Q _ => ∃ (v : V) (names : List Str), vs = [v] ∧ NamesAt H v names ∧ names.Nodup ∧ 1 ≤ names.length ∧ names.length ≤ 6 ∧ (∀ x ∈ names, NameOk x) ∧ ∀ a H', Kp No H H' → H' a = some (.tup []) → Q (.ref a) H'
theorem ok_wrong_mind {f : Addr} {fd : FuncData} (F : DefIn K mg "wrong_mind" s_wrong_mind ["minds"] f fd) (B : Bt mg) (G_MOST_MINDS : Gs mg "MOST_MINDS" (.int 6)) (D_is_name : Def P w K mg base "is_name" 1 ["value"] spName) : Def P w K mg base "wrong_mind" 2 ["minds"] spWrongMind := by
  refine F.ok sc_wrong_mind (fun vs H Q E h => ?_) (fun cdv A outer s H vs Q E hr h => ?_)
  · obtain ⟨v, names, rfl, _⟩ := h
    rfl
  · obtain ⟨v, names, rfl, ⟨a, ob, rfl, ha, hd⟩, nd, h1, n6, ok, q⟩ := h
    refine ⟨_, (pss_cons (ps_if (PW.pt (pw_or (pt_not (pt_val (pe_callB (c_isi K) (by rfl) B.isinstance (by decide +kernel) (pa_cons (pv 0) (pa_cons (pe_bltn (v := .ty "tuple") (by rfl) B.tuple boot_tuple rfl) pa_nil))))) (pw_or1 (pt_cmpR op_eq (pe_callB (r_len K) (by rfl) B.len (by decide +kernel) (pa_cons (pv 0) pa_nil)) pe_int (nomark _)))))
      (pss_one (ps_ret (pe_tup (pa_cons pe_non pa_nil))))
      pss_nil)
      (pss_cons (ps_for PassesOwn.never rfl (pi_enumT K (by rfl) B.enumerate (pa_cons (pv 0) pa_nil)) (pg_tupK K 2 (pgs_cons (pg_name (i := 1) sc_wrong_mind.nd rfl (by first | exact Or.inl rfl | exact Or.inr rfl)) (pgs_cons (pg_name (i := 2) sc_wrong_mind.nd rfl (by first | exact Or.inl rfl | exact Or.inr rfl)) pgs_nil)))
      (pss_one (ps_if (PW.pt (pw_or (pt_not (pt_val (pe_def (D_is_name.mono (by decide)) hr (by rfl) (pa_cons (pv 2) pa_nil)))) (pw_or (pt_cmpR op_ge (pv 1) (pe_gs (by rfl) G_MOST_MINDS) (nomark _)) (pw_or1 (pt_cmpR (o_in K) (pv 2) (pe_slice (s_tup K) (pv 0) po_none (po_some (pv 1))) (by rfl))))))
        (pss_one (ps_ret (pe_tup (pa_cons (pv 1) pa_nil))))
        pss_nil)))
      (pss_one (ps_ret (pe_tup pa_nil))))), ?_⟩
    have hsz : (1000 : Nat) < sizeLine := by decide
    refine ⟨_, rfl, _, _, _, _, true, rfl, .ty _, .fTuple ha, rfl, true, rfl, ?_⟩
    refine ite2 (fun h => absurd h (by decide)) (fun _ => ?_)
    refine ⟨_, rfl, a, _, rfl, .inr (sqF ha), rfl, _, rfl, ?_⟩
    rw [List.length_map]
    refine ite2 (fun h => absurd (V.int.inj (of_decide_eq_true h)) (by omega)) (fun _ => ?_)
    refine ⟨_, rfl, a, _, rfl, sqF ha, ?_⟩
    refine for_it walk_enumT (fun i σ H1 => Kp No H H1 ∧ ∃ o1 o2 : Option V, σ = [some (.ref a), o1, o2]) ⟨Kp.refl _ _, _, _, rfl⟩ (fun i σ H1 _ h => sqF (h.1.at ha)) (fun i x σ H1 H2 hi h hy => ?_) (fun σ H1 h => ?_)
    · obtain ⟨k, o1, o2, rfl⟩ := h
      obtain ⟨T, u, v, rfl, hT, rfl, e1, e2⟩ := hy
      obtain rfl := Option.some.inj e1
      rw [List.length_map] at hi
      have e2 : (names.map V.str)[i]? = some v := e2
      rw [List.getElem?_map, nm_at hi] at e2
      obtain rfl := Option.some.inj e2
      have k1 : Kp No H (upd H1 T (.tup [.int ((i : Nat) : Int), .str (nm names i)])) := k.trans (Kp.new hT)
      refine ⟨T, _, rfl, SqT.of upd_same, rfl, _, _, rfl, _, _, rfl, rfl, ?_⟩
      refine ⟨_, rfl, nm names i, rfl, ok _ (List.mem_of_getElem? (nm_at hi)), fun H3 k3 => ⟨true, rfl, ?_⟩⟩
      have k13 := k1.trans k3
      refine ite2 (fun h => absurd h (by decide)) (fun _ => ?_)
      refine ⟨_, rfl, _, _, rfl, rfl, false, congrArg V.bl (decide_eq_false (by omega)), ite2 (fun h => absurd h (by decide)) (fun _ => ?_)⟩
      have ha3 := k13.at ha
      have hcut : cutV (names.map V.str) none (some (i : Int)) = (names.take i).map V.str := by
        unfold cutV
        rw [HT.sIx_none, HT.sIx_nat, List.length_map, show min i names.length = i by omega, List.drop_zero, Nat.sub_zero, List.map_take]
      have hnot : inV (.str (nm names i)) ((names.take i).map V.str) = false := by
        rw [Bool.eq_false_iff]
        intro ht
        unfold inV at ht
        obtain ⟨y, hy, e⟩ := List.any_eq_true.mp ht
        obtain ⟨z, hz, rfl⟩ := List.mem_map.mp hy
        have ez : z = nm names i := by simpa [eqV] using e
        obtain ⟨m, hm⟩ := List.getElem?_of_mem hz
        have hmi : m < i := by
          have := (List.getElem?_eq_some_iff.mp hm).1
          rw [List.length_take] at this
          omega
        rw [List.getElem?_take_of_lt hmi] at hm
        exact nm_first nd hi m hmi (by rw [hm, ez])
      refine ⟨_, rfl, _, rfl, _, rfl, (i : Int), rfl, a, _, rfl, sqF ha3, fun z => ?_, fun _ p hp => ?_⟩
      · exfalso
        have := z.2
        rw [HT.sIx_nat, List.length_map] at this
        omega
      · rw [hcut]
        refine ⟨p, _, rfl, .inr (SqT.of upd_same), rfl, by rw [List.all_map]; exact List.all_eq_true.mpr fun _ _ => rfl, _, rfl, ?_⟩
        show (if inV (.str (nm names i)) ((names.take i).map V.str) = true then _ else _)
        rw [hnot]
        exact ⟨k13.trans (Kp.new hp), _, _, rfl⟩
    · obtain ⟨k, o1, o2, rfl⟩ := h
      exact ⟨(show 0 ≤ sizeLine by decide), fun p hp => q p _ (k.trans (Kp.new hp)) upd_same⟩
abbrev s_wrong_way : Stmt := top 26
abbrev n_wrong_way : List Str := ["ways", "count", "at", "way"]
theorem sc_wrong_way : FnScope n_wrong_way ["ways", "count"] (defScope s_wrong_way) := ⟨rfl, rfl, rfl, by decide +kernel, rfl, by decide +kernel, by decide +kernel⟩
def spWrongWay : Sp := fun vs H Q _ => ∃ (v : V) (n : Nat) (ways : List Rows), vs = [v, .int (n : Int)] ∧ Tp H v (waysD ways) ∧ WaysOk n ways ∧ 1 ≤ ways.length ∧ (∀ rows ∈ ways, ∀ r ∈ rows, RowOk r) ∧ ∀ a H', Kp No H H' → H' a = some (.tup []) → Q (.ref a) H'
theorem ok_wrong_way {f : Addr} {fd : FuncData} (F : DefIn K mg "wrong_way" s_wrong_way ["ways", "count"] f fd) (B : Bt mg) (G_MOST_WAYS : Gs mg "MOST_WAYS" (.int 6)) (D_is_way : Def P w K mg base "is_way" 4 ["value", "count"] spWay) : Def P w K mg base "wrong_way" 5 ["ways", "count"] spWrongWay := by
  refine F.ok sc_wrong_way (fun vs H Q E h => ?_) (fun cdv A outer s H vs Q E hr h => ?_)
  · obtain ⟨v, n, ways, rfl, _⟩ := h
    rfl
  · obtain ⟨v, n, ways, rfl, hv, W, h1, ok, q⟩ := h
    refine ⟨_, (pss_cons (ps_if (PW.pt (pw_or (pt_not (pt_val (pe_callB (c_isi K) (by rfl) B.isinstance (by decide +kernel) (pa_cons (pv 0) (pa_cons (pe_bltn (v := .ty "tuple") (by rfl) B.tuple boot_tuple rfl) pa_nil))))) (pw_or1 (pt_cmpR op_eq (pe_callB (r_len K) (by rfl) B.len (by decide +kernel) (pa_cons (pv 0) pa_nil)) pe_int (nomark _)))))
      (pss_one (ps_ret (pe_tup (pa_cons pe_non pa_nil))))
      pss_nil)
      (pss_cons (ps_for PassesOwn.never rfl (pi_enumT K (by rfl) B.enumerate (pa_cons (pv 0) pa_nil)) (pg_tupK K 2 (pgs_cons (pg_name (i := 2) sc_wrong_way.nd rfl (by first | exact Or.inl rfl | exact Or.inr rfl)) (pgs_cons (pg_name (i := 3) sc_wrong_way.nd rfl (by first | exact Or.inl rfl | exact Or.inr rfl)) pgs_nil)))
      (pss_one (ps_if (PW.pt (pw_or (pt_not (pt_val (pe_def (D_is_way.mono (by decide)) hr (by rfl) (pa_cons (pv 3) (pa_cons (pv 1) pa_nil))))) (pw_or1 (pt_cmpR op_ge (pv 2) (pe_gs (by rfl) G_MOST_WAYS) (nomark _)))))
        (pss_one (ps_ret (pe_tup (pa_cons (pv 2) pa_nil))))
        pss_nil)))
      (pss_one (ps_ret (pe_tup pa_nil))))), ?_⟩
    have hsz : (1000 : Nat) < sizeLine := by decide
    obtain ⟨a, xs, rfl, ha, hall⟩ := hv.tuple
    refine ⟨_, rfl, _, _, _, _, true, rfl, .ty _, .base (.tup ha), rfl, true, rfl, ?_⟩
    have hxl : xs.length = ways.length := by rw [hall.length, List.length_map]
    have few := W.few
    refine ite2 (fun h => absurd h (by decide)) (fun _ => ?_)
    refine ⟨_, rfl, a, _, rfl, .inr (SqT.of ha), rfl, _, rfl, ?_⟩
    rw [hxl]
    refine ite2 (fun h => absurd (V.int.inj (of_decide_eq_true h)) (by omega)) (fun _ => ?_)
    refine ⟨_, rfl, a, _, rfl, SqT.of ha, ?_⟩
    refine for_it walk_enumT (fun i σ H1 => Kp No H H1 ∧ ∃ o2 o3 : Option V, σ = [some (.ref a), some (.int (n : Int)), o2, o3]) ⟨Kp.refl _ _, _, _, rfl⟩ (fun i σ H1 _ h => SqT.of (h.1.tu _ _ ha)) (fun i x σ H1 H2 hi h hy => ?_) (fun σ H1 h => ?_)
    · obtain ⟨k, o2, o3, rfl⟩ := h
      obtain ⟨T, u, v, rfl, hT, rfl, e1, e2⟩ := hy
      obtain rfl := Option.some.inj e1
      have hi' : i < ways.length := by omega
      obtain ⟨d, hd, hv⟩ := (hall.mono k.tu).get e2
      rw [List.getElem?_map, getD_of hi' []] at hd
      obtain rfl := Option.some.inj hd
      have hm := List.mem_of_getElem? (getD_of hi' [])
      have kT : Kp No H1 (upd H1 T (.tup [.int ((i : Nat) : Int), v])) := Kp.new hT
      refine ⟨T, _, rfl, SqT.of upd_same, rfl, _, _, rfl, _, _, rfl, rfl, ?_⟩
      refine ⟨_, rfl, _, rfl, v, n, ways.getD i [], rfl, hv.mono kT.tu, W.way _ hm, W.n6, ok _ hm, fun H3 k3 => ⟨true, rfl, ?_⟩⟩
      refine ite2 (fun h => absurd h (by decide)) (fun _ => ?_)
      refine ⟨_, rfl, _, _, rfl, rfl, false, congrArg V.bl (decide_eq_false (by omega)), ite2 (fun h => absurd h (by decide)) (fun _ => ?_)⟩
      exact ⟨(k.trans kT).trans k3, _, _, rfl⟩
    · obtain ⟨k, o2, o3, rfl⟩ := h
      exact ⟨(show 0 ≤ sizeLine by decide), fun p hp => q p _ (k.trans (Kp.new hp)) upd_same⟩
end
end AA

/-! ## T16 -/
set_option Elab.async false
set_option linter.all false
set_option maxRecDepth 100000
set_option maxHeartbeats 4000000
namespace AA
open PySem PySem.Spec PyProof.Rows L2 PySem.W
theorem r_isC {X : Cx} {C : Addr} (K : PySem.W.Frag) (c : C8.InsC K C) (hK : X.K = K := by rfl) : CallR X (.builtin "isinstance") (fun xs H Q => ∃ a dx fs, xs = [.ref a, .ref C] ∧ H a = some (.ins C dx fs) ∧ Q (.bl true) H) := C8.call_isC (hK ▸ c)
/-- the fore does not hear the aft -/
def Free (ways : List Rows) (e : Ear) : Prop := ((ways.getD e.1 []).getD e.2.1 []).getD e.2.2 0 = 0
def OffFree (ways : List Rows) : Off → Prop
  | .ear e => Free ways e
  | .strike _ => True
theorem nm_inj {names : List Str} (nd : names.Nodup) {a b : Nat} (ha : a < names.length) (hb : b < names.length) (h : nm names a = nm names b) : a = b := (List.getElem?_inj ha nd).mp ((nm_at ha).trans ((congrArg some h).trans (nm_at hb).symm))
theorem earD_eqv {names : List Str} {n nw : Nat} (nd : names.Nodup) (hn : names.length = n) {e e' : Ear} (h : EarOk n nw e) (h' : EarOk n nw e') : PyData.eqv (earD names e) (earD names e') = decide (e = e') := by
  obtain ⟨i, a, b⟩ := e
  obtain ⟨i', a', b'⟩ := e'
  have a1 : a < names.length := by rw [hn]; exact h.fore
  have a2 : a' < names.length := by rw [hn]; exact h'.fore
  have b1 : b < names.length := by rw [hn]; exact h.aft
  have b2 : b' < names.length := by rw [hn]; exact h'.aft
  unfold earD
  rw [Bool.eq_iff_iff, decide_eq_true_eq]
  simp only [PyData.eqv, PyData.eqvAll, Bool.and_eq_true, beq_iff_eq, Bool.and_true, Prod.mk.injEq]
  constructor
  · rintro ⟨h1, h2, h3⟩
    exact ⟨Int.ofNat.inj h1, nm_inj nd a1 a2 h2, nm_inj nd b1 b2 h3⟩
  · rintro ⟨rfl, rfl, rfl⟩
    exact ⟨rfl, rfl, rfl⟩
theorem offD_eqv {names : List Str} {n nw : Nat} (nd : names.Nodup) (hn : names.length = n) {o o' : Off} (h : OffOk n nw o) (h' : OffOk n nw o') : PyData.eqv (offD names o) (offD names o') = decide (o = o') := by
  cases o' with
  | strike i => exact offD_strike names o i
  | ear e' =>
    cases o with
    | strike i =>
      unfold offD
      have hs : (sStrike == sEar) = false := by decide
      rw [PyData.eqv, PyData.eqvAll, PyData.eqv, hs, Bool.false_and]
      rfl
    | ear e =>
      have he := earD_eqv nd hn (show EarOk n nw e from h) (show EarOk n nw e' from h')
      unfold earD at he
      unfold offD
      rw [PyData.eqv] at he ⊢
      rw [PyData.eqvAll, PyData.eqv, he, Bool.eq_iff_iff]
      simp
section
variable {P : Program} {w : World} {K : PySem.W.Frag} {mg : Str → Option Value} {base : Heap}
abbrev s_is_ear : Stmt := top 45
abbrev n_is_ear : List Str := ["council", "value"]
theorem sc_is_ear : FnScope n_is_ear ["council", "value"] (defScope s_is_ear) := ⟨rfl, rfl, rfl, by decide +kernel, rfl, by decide +kernel, by decide +kernel⟩
def spIsEar (C : Addr) : Sp := fun vs H Q _ => ∃ (c v : V) (n : Nat) (names : List Str) (ways : List Rows) (e : Ear), vs = [c, v] ∧ CouncilAt C H c names ways ∧ NmOk names ∧ names.length = n ∧ WaysOk n ways ∧ Tp H v (earD names e) ∧ EarOk n ways.length e ∧ Free ways e ∧ ∀ H', Kp No H H' → Q (.bl true) H'
theorem ok_is_ear {f C : Addr} {fd : FuncData} (F : DefIn K mg "is_ear" s_is_ear ["council", "value"] f fd) (B : Bt mg) (D_ways : Prp P w K mg base C "ways" "tables") (D_minds : Prp P w K mg base C "minds" "heads") (D_is_within : Def P w K mg base "is_within" 2 ["value", "least", "most"] spWithin) :
    Def P w K mg base "is_ear" 3 ["council", "value"] (spIsEar C) := by
  refine F.ok sc_is_ear (fun vs H Q E h => ?_) (fun cdv A outer s H vs Q E hr h => ?_)
  · obtain ⟨c, v, _, _, _, _, rfl, _⟩ := h
    rfl
  · obtain ⟨c, v, n, names, ways, e, rfl, hco, hnm, hnn, W, hv, ok, hfree, q⟩ := h
    refine ⟨_, (pss_cons (ps_if (PW.pt (pw_or (pt_not (pt_val (pe_callB (c_isi K) (by rfl) B.isinstance (by decide +kernel) (pa_cons (pv 1) (pa_cons (pe_bltn (v := .ty "tuple") (by rfl) B.tuple boot_tuple rfl) pa_nil))))) (pw_or (pt_cmpR op_ne (pe_callB (r_len K) (by rfl) B.len (by decide +kernel) (pa_cons (pv 1) pa_nil)) pe_int (nomark _)) (pw_or1 (pt_not (pt_val (pe_def (D_is_within.mono (by decide)) hr (by rfl) (pa_cons (pe_ix (x_tup K) (pv 1) pe_int (fun _ _ => rfl)) (pa_cons pe_int (pa_cons (pe_op op_sub (pe_callB (r_len K) (by rfl) B.len (by decide +kernel) (pa_cons (pe_prp D_ways hr (by decide) (pv 0)) pa_nil)) pe_int) pa_nil))))))))))
      (pss_one (ps_ret pe_bl))
      pss_nil)
      (pss_cons (ps_if (PW.pt (pw_or (pt_cmpR (o_notIn K) (pe_ix (x_tup K) (pv 1) pe_int (fun _ _ => rfl)) (pe_prp D_minds hr (by decide) (pv 0)) (by rfl)) (pw_or1 (pt_cmpR (o_notIn K) (pe_ix (x_tup K) (pv 1) pe_int (fun _ _ => rfl)) (pe_prp D_minds hr (by decide) (pv 0)) (by rfl)))))
      (pss_one (ps_ret pe_bl))
      pss_nil)
      (pss_one (ps_ret (pe_cmpR op_eq (pe_ix (x_tup K) (pe_ix (x_tup K) (pe_ix (x_tup K) (pe_prp D_ways hr (by decide) (pv 0)) (pe_ix (x_tup K) (pv 1) pe_int (fun _ _ => rfl)) (fun _ _ => rfl)) (pe_index (pe_prp D_minds hr (by decide) (pv 0)) (pe_ix (x_tup K) (pv 1) pe_int (fun _ _ => rfl))) (fun _ _ => rfl)) (pe_index (pe_prp D_minds hr (by decide) (pv 0)) (pe_ix (x_tup K) (pv 1) pe_int (fun _ _ => rfl))) (fun _ _ => rfl)) pe_int (nomark _)))))), ?_⟩
    obtain ⟨ca, dx, fs, vn, vw, rfl, hca, hlh, hlt, hnmA, htb⟩ := hco
    obtain ⟨wa, xs, rfl, hwa, hall⟩ := htb.tuple
    have hxl : xs.length = ways.length := by rw [hall.length, List.length_map]
    obtain ⟨na, ob, rfl, hna, hnd⟩ := id hnmA
    have few := W.few
    obtain ⟨b, us, rfl, hb, hus⟩ := hv.tuple
    have hu : us = [.int (e.1 : Int), .str (nm names e.2.1), .str (nm names e.2.2)] := by
      cases hus with
      | cons h1 hus =>
        cases hus with
        | cons h2 hus =>
          cases hus with
          | cons h3 hus =>
            cases hus
            rw [h1.int_inv, h2.str_inv, h3.str_inv]
    subst hu
    have hin : ∀ z, z < n → inV (.str (nm names z)) (names.map V.str) = true := fun z hz => by
      unfold inV
      exact List.any_eq_true.mpr ⟨_, List.mem_map.mpr ⟨_, List.mem_of_getElem? (nm_at (by rw [hnn]; exact hz)), rfl⟩, by simp [eqV]⟩
    refine ⟨_, rfl, _, _, _, _, true, rfl, .ty _, .base (.tup hb), rfl, true, rfl, ite2 (fun h => absurd h (by decide)) (fun _ => ?_)⟩
    refine ⟨_, rfl, b, _, rfl, .inr (SqT.of hb), rfl, _, rfl, ite2 (fun h => by simp at h) (fun _ => ?_)⟩
    refine ⟨_, rfl, b, _, 0, _, rfl, rfl, SqT.of hb, atI_nat (j := 0) rfl, _, rfl, ca, dx, fs, rfl, hca, ca, dx, fs, _, rfl, hca, hlt, wa, xs, rfl, .inr (SqT.of hwa), _, _, rfl, rfl, ?_⟩
    refine ⟨(e.1 : Int), 0, (xs.length : Int) - 1, rfl, by omega, by have := ok.way; omega, true, rfl, ite2 (fun h => absurd h (by decide)) (fun _ => ?_)⟩
    refine ⟨_, rfl, b, _, 1, _, rfl, rfl, SqT.of hb, atI_nat (j := 1) rfl, _, rfl, ca, dx, fs, rfl, hca, ca, dx, fs, _, rfl, hca, hlh, na, _, rfl, .inr (sqF hna), rfl, flat_strs _, _, rfl, ?_⟩
    rw [hin _ ok.fore]
    refine ite2 (fun h => absurd h (by decide)) (fun _ => ?_)
    refine ⟨_, rfl, b, _, 2, _, rfl, rfl, SqT.of hb, atI_nat (j := 2) rfl, _, rfl, ca, dx, fs, rfl, hca, ca, dx, fs, _, rfl, hca, hlh, na, _, rfl, .inr (sqF hna), rfl, flat_strs _, _, rfl, ?_⟩
    rw [hin _ ok.aft]
    refine ite2 (fun h => absurd h (by decide)) (fun _ => ?_)
    obtain ⟨v1, hv1, t1⟩ := hall.get' (i := e.1) (d := wayD (ways.getD e.1 [])) (by rw [List.getElem?_map, getD_of ok.way []]; rfl)
    have hW := W.way _ (List.mem_of_getElem? (getD_of ok.way []))
    obtain ⟨r1, ys, rfl, hr1, hys⟩ := t1.tuple
    obtain ⟨v2, hv2, t2⟩ := hys.get' (i := e.2.1) (d := rowD ((ways.getD e.1 []).getD e.2.1 [])) (by rw [List.getElem?_map, getD_of (by rw [hW.len]; exact ok.fore) []]; rfl)
    have hR := hW.row _ (List.mem_of_getElem? (getD_of (by rw [hW.len]; exact ok.fore) []))
    obtain ⟨r2, zs, rfl, hr2, hzs⟩ := t2.tuple
    obtain rfl := hzs.ints_inv
    refine ⟨_, rfl, ca, dx, fs, rfl, hca, ca, dx, fs, _, rfl, hca, hlt, _, rfl, b, _, 0, _, rfl, rfl, SqT.of hb, atI_nat (j := 0) rfl, wa, xs, (e.1 : Int), _, rfl, rfl, SqT.of hwa, atI_nat hv1, ?_⟩
    refine ⟨_, rfl, ca, dx, fs, rfl, hca, ca, dx, fs, _, rfl, hca, hlh, ⟨names, hnmA⟩, _, rfl, b, _, 1, _, rfl, rfl, SqT.of hb, atI_nat (j := 1) rfl, names, nm names e.2.1, e.2.1, hnmA, rfl, nm_at (by rw [hnn]; exact ok.fore), nm_first hnm.nd (by rw [hnn]; exact ok.fore), r1, ys, (e.2.1 : Int), _, rfl, rfl, SqT.of hr1, atI_nat hv2, ?_⟩
    refine ⟨_, rfl, ca, dx, fs, rfl, hca, ca, dx, fs, _, rfl, hca, hlh, ⟨names, hnmA⟩, _, rfl, b, _, 2, _, rfl, rfl, SqT.of hb, atI_nat (j := 2) rfl, names, nm names e.2.2, e.2.2, hnmA, rfl, nm_at (by rw [hnn]; exact ok.aft), nm_first hnm.nd (by rw [hnn]; exact ok.aft), r2, _, (e.2.2 : Int), .int (((ways.getD e.1 []).getD e.2.1 []).getD e.2.2 0), rfl, rfl, SqT.of hr2, atI_nat (by rw [List.getElem?_map, getD_of (by rw [hR]; exact ok.aft) 0]; rfl), rfl, ?_⟩
    have e0 : ((ways.getD e.1 []).getD e.2.1 []).getD e.2.2 0 = 0 := hfree
    rw [e0]
    exact q _ (Kp.refl _ _)
abbrev s_is_offer : Stmt := top 46
abbrev n_is_offer : List Str := ["council", "value"]
theorem sc_is_offer : FnScope n_is_offer ["council", "value"] (defScope s_is_offer) := ⟨rfl, rfl, rfl, by decide +kernel, rfl, by decide +kernel, by decide +kernel⟩
def spIsOffer (C : Addr) : Sp := fun vs H Q _ => ∃ (c v : V) (n : Nat) (names : List Str) (ways : List Rows) (o : Off), vs = [c, v] ∧ CouncilAt C H c names ways ∧ NmOk names ∧ names.length = n ∧ WaysOk n ways ∧ Tp H v (offD names o) ∧ OffOk n ways.length o ∧ OffFree ways o ∧ ∀ H', Kp No H H' → Q (.bl true) H'
theorem ok_is_offer {f C : Addr} {fd : FuncData} (F : DefIn K mg "is_offer" s_is_offer ["council", "value"] f fd) (B : Bt mg) (G_EAR : Gs mg "EAR" (.str sEar)) (G_STRIKE : Gs mg "STRIKE" (.str sStrike)) (D_ways : Prp P w K mg base C "ways" "tables") (D_is_within : Def P w K mg base "is_within" 2 ["value", "least", "most"] spWithin)
    (D_is_ear : Def P w K mg base "is_ear" 3 ["council", "value"] (spIsEar C)) : Def P w K mg base "is_offer" 4 ["council", "value"] (spIsOffer C) := by
  refine F.ok sc_is_offer (fun vs H Q E h => ?_) (fun cdv A outer s H vs Q E hr h => ?_)
  · obtain ⟨c, v, _, _, _, _, rfl, _⟩ := h
    rfl
  · obtain ⟨c, v, n, names, ways, o, rfl, hco, hnm, hnn, W, hv, ok, hfree, q⟩ := h
    refine ⟨_, (pss_cons (ps_if (PW.pt (pw_or (pt_not (pt_val (pe_callB (c_isi K) (by rfl) B.isinstance (by decide +kernel) (pa_cons (pv 1) (pa_cons (pe_bltn (v := .ty "tuple") (by rfl) B.tuple boot_tuple rfl) pa_nil))))) (pw_or1 (pt_cmpR (o_notIn K) (pe_callB (r_len K) (by rfl) B.len (by decide +kernel) (pa_cons (pv 1) pa_nil)) (pe_tup (pa_cons pe_int (pa_cons pe_int pa_nil))) (by rfl)))))
      (pss_one (ps_ret pe_bl))
      pss_nil)
      (pss_cons (ps_if (pt_cmpR op_eq (pe_callB (r_len K) (by rfl) B.len (by decide +kernel) (pa_cons (pv 1) pa_nil)) pe_int (nomark _))
      (pss_one (ps_ret (pe_and (pe_cmpR op_eq (pe_ix (x_tup K) (pv 1) pe_int (fun _ _ => rfl)) (pe_gs (by rfl) G_EAR) (nomark _)) (pe_one (pe_def (D_is_ear.mono (by decide)) hr (by rfl) (pa_cons (pv 0) (pa_cons (pe_slice (s_tup K) (pv 1) (po_some pe_int) po_none) pa_nil)))))))
      pss_nil)
      (pss_one (ps_ret (pe_and (pe_cmpR op_eq (pe_ix (x_tup K) (pv 1) pe_int (fun _ _ => rfl)) (pe_gs (by rfl) G_STRIKE) (nomark _)) (pe_one (pe_def (D_is_within.mono (by decide)) hr (by rfl) (pa_cons (pe_ix (x_tup K) (pv 1) pe_int (fun _ _ => rfl)) (pa_cons pe_int (pa_cons (pe_op op_sub (pe_callB (r_len K) (by rfl) B.len (by decide +kernel) (pa_cons (pe_prp D_ways hr (by decide) (pv 0)) pa_nil)) pe_int) pa_nil)))))))))), ?_⟩
    have few := W.few
    obtain ⟨b, us, rfl, hb, hus⟩ : ∃ b us, v = .ref b ∧ H b = some (.tup us) ∧ ((∃ e, o = .ear e ∧ us = [.str sEar, .int (e.1 : Int), .str (nm names e.2.1), .str (nm names e.2.2)]) ∨ ∃ i : Nat, o = .strike i ∧ us = [.str sStrike, .int (i : Int)]) := by
      cases o with
      | ear e =>
        obtain ⟨b, us, rfl, hb, hus⟩ := hv.tuple
        refine ⟨b, us, rfl, hb, .inl ⟨e, rfl, ?_⟩⟩
        cases hus with
        | cons h1 hus =>
          cases hus with
          | cons h2 hus =>
            cases hus with
            | cons h3 hus =>
              cases hus with
              | cons h4 hus =>
                cases hus
                rw [h1.str_inv, h2.int_inv, h3.str_inv, h4.str_inv]
      | strike i =>
        obtain ⟨b, us, rfl, hb, hus⟩ := hv.tuple
        refine ⟨b, us, rfl, hb, .inr ⟨i, rfl, ?_⟩⟩
        cases hus with
        | cons h1 hus =>
          cases hus with
          | cons h2 hus =>
            cases hus
            rw [h1.str_inv, h2.int_inv]
    refine ⟨_, rfl, _, _, _, _, true, rfl, .ty _, .base (.tup hb), rfl, true, rfl, ite2 (fun h => absurd h (by decide)) (fun _ => ?_)⟩
    refine ⟨_, rfl, b, _, rfl, .inr (SqT.of hb), (show 2 ≤ sizeLine by decide), fun t ht => ⟨t, _, rfl, .inr (SqT.of upd_same), rfl, rfl, _, rfl, ?_⟩⟩
    have kt : Kp No H (upd H t (.tup [.int 2, .int 4])) := Kp.new ht
    have hb1 := kt.tu _ _ hb
    have hco1 := hco.mono kt.n
    have hv1 := hv.mono kt.tu
    generalize upd H t (.tup [.int 2, .int 4]) = H1 at *
    rcases hus with ⟨e, rfl, rfl⟩ | ⟨i, rfl, rfl⟩
    · refine ite2 (fun h => by simp [inV, eqV] at h) (fun _ => ?_)
      refine ⟨_, rfl, b, _, rfl, .inr (SqT.of hb1), rfl, _, rfl, ite2 (fun _ => ?_) (fun h => absurd (decide_eq_true rfl) h)⟩
      refine ⟨_, rfl, b, _, 0, _, rfl, rfl, SqT.of hb1, atI_nat (j := 0) rfl, rfl, true, congrArg V.bl (decide_eq_true rfl), ite2 (fun _ => ?_) (fun h => absurd rfl h)⟩
      refine ⟨_, rfl, _, rfl, 1, rfl, b, _, rfl, SqT.of hb1, fun z => absurd (show (1 : Nat) = 0 from z.1) (by decide), fun _ p hp => ?_⟩
      rw [show cutV [V.str sEar, .int (e.1 : Int), .str (nm names e.2.1), .str (nm names e.2.2)] (some 1) none = [.int (e.1 : Int), .str (nm names e.2.1), .str (nm names e.2.2)] from cut1 _]
      have kp : Kp No H1 (upd H1 p (.tup [.int (e.1 : Int), .str (nm names e.2.1), .str (nm names e.2.2)])) := Kp.new hp
      exact ⟨c, _, n, names, ways, e, rfl, hco1.mono kp.n, hnm, hnn, W, .tup upd_same (.cons (.int _) (.cons (.str _) (.cons (.str _) .nil))), ok, hfree, fun H2 k2 => q _ ((kt.trans kp).trans k2)⟩
    · refine ite2 (fun h => by simp [inV, eqV] at h) (fun _ => ?_)
      refine ⟨_, rfl, b, _, rfl, .inr (SqT.of hb1), rfl, _, rfl, ite2 (fun h => by simp at h) (fun _ => ?_)⟩
      obtain ⟨ca, dx, fs, vn, vw, rfl, hca, hlh, hlt, hnmA, htb⟩ := hco1
      obtain ⟨wa, xs, rfl, hwa, hall⟩ := htb.tuple
      have hxl : xs.length = ways.length := by rw [hall.length, List.length_map]
      refine ⟨_, rfl, b, _, 0, _, rfl, rfl, SqT.of hb1, atI_nat (j := 0) rfl, rfl, true, congrArg V.bl (decide_eq_true rfl), ite2 (fun _ => ?_) (fun h => absurd rfl h)⟩
      refine ⟨_, rfl, b, _, 1, _, rfl, rfl, SqT.of hb1, atI_nat (j := 1) rfl, _, rfl, ca, dx, fs, rfl, hca, ca, dx, fs, _, rfl, hca, hlt, wa, xs, rfl, .inr (SqT.of hwa), _, _, rfl, rfl, ?_⟩
      refine ⟨(i : Int), 0, (xs.length : Int) - 1, rfl, by omega, by have : i < ways.length := ok; omega, q _ kt⟩
abbrev s_check_council : Stmt := top 32
abbrev n_check_council : List Str := ["value"]
theorem sc_check_council : FnScope n_check_council ["value"] (defScope s_check_council) := ⟨rfl, rfl, rfl, by decide +kernel, rfl, by decide +kernel, by decide +kernel⟩
def spCheckC (C : Addr) : Sp := fun vs H Q _ => ∃ (a dx : Addr) (fs : List (Str × V)), vs = [.ref a] ∧ H a = some (.ins C dx fs) ∧ Q .non H
theorem ok_check_council {f C : Addr} {fd : FuncData} (F : DefIn K mg "check_council" s_check_council ["value"] f fd) (B : Bt mg) (hC : C8.InsC K C) (G_Council : Gs mg "Council" (.ref C)) : Def P w K mg base "check_council" 1 ["value"] (spCheckC C) := by
  refine F.ok sc_check_council (fun vs H Q E h => ?_) (fun cdv A outer s H vs Q E hr h => ?_)
  · obtain ⟨a, _, _, rfl, _⟩ := h
    rfl
  · obtain ⟨a, dx, fs, rfl, ha, q⟩ := h
    refine ⟨_, (pss_one (ps_if (pt_not (pt_val (pe_callB (r_isC K hC) (by rfl) B.isinstance (by decide +kernel) (pa_cons (pv 0) (pa_cons (pe_gs (by rfl) G_Council) pa_nil)))))
      (pss_one ps_never)
      pss_nil)), ?_⟩
    exact ⟨_, rfl, a, dx, fs, rfl, ha, true, rfl, ite2 (fun h => absurd h (by decide)) (fun _ => q)⟩
abbrev s_check_offers : Stmt := top 47
abbrev n_check_offers : List Str := ["council", "offers", "at", "offer"]
theorem sc_check_offers : FnScope n_check_offers ["council", "offers"] (defScope s_check_offers) := ⟨rfl, rfl, rfl, by decide +kernel, rfl, by decide +kernel, by decide +kernel⟩
def spCheckO (C : Addr) : Sp := fun vs H Q _ => ∃ (c v : V) (n : Nat) (names : List Str) (ways : List Rows) (offs : List Off), vs = [c, v] ∧ CouncilAt C H c names ways ∧ NmOk names ∧ names.length = n ∧ WaysOk n ways ∧ Tp H v (.tuple (offs.map (offD names))) ∧ (∀ o ∈ offs, OffOk n ways.length o ∧ OffFree ways o) ∧ offs.Nodup ∧ offs.length ≤ 6 ∧
  ∀ H', Kp No H H' → Q .non H'
theorem ok_check_offers {f C : Addr} {fd : FuncData} (F : DefIn K mg "check_offers" s_check_offers ["council", "offers"] f fd) (B : Bt mg) (G_MOST_OFFERS : Gs mg "MOST_OFFERS" (.int 6)) (D_is_offer : Def P w K mg base "is_offer" 4 ["council", "value"] (spIsOffer C)) :
    Def P w K mg base "check_offers" 5 ["council", "offers"] (spCheckO C) := by
  refine F.ok sc_check_offers (fun vs H Q E h => ?_) (fun cdv A outer s H vs Q E hr h => ?_)
  · obtain ⟨c, v, _, _, _, _, rfl, _⟩ := h
    rfl
  · obtain ⟨c, v, n, names, ways, offs, rfl, hco, hnm, hnn, W, hv, hok, ndo, hl6, q⟩ := h
    refine ⟨_, (pss_cons (ps_if (pt_not (pt_val (pe_callB (c_isi K) (by rfl) B.isinstance (by decide +kernel) (pa_cons (pv 1) (pa_cons (pe_bltn (v := .ty "tuple") (by rfl) B.tuple boot_tuple rfl) pa_nil)))))
      (pss_one ps_never)
      pss_nil)
      (pss_one (ps_for PassesOwn.never rfl (pi_enumT K (by rfl) B.enumerate (pa_cons (pv 1) pa_nil)) (pg_tupK K 2 (pgs_cons (pg_name (i := 2) sc_check_offers.nd rfl (by first | exact Or.inl rfl | exact Or.inr rfl)) (pgs_cons (pg_name (i := 3) sc_check_offers.nd rfl (by first | exact Or.inl rfl | exact Or.inr rfl)) pgs_nil)))
      (pss_one (ps_if (PW.pt (pw_or (pt_not (pt_val (pe_def (D_is_offer.mono (by decide)) hr (by rfl) (pa_cons (pv 0) (pa_cons (pv 3) pa_nil))))) (pw_or (pt_cmpR op_ge (pv 2) (pe_gs (by rfl) G_MOST_OFFERS) (nomark _)) (pw_or1 (pt_cmpR (o_inT K hr.u65) (pv 3) (pe_slice (s_tup K) (pv 1) po_none (po_some (pv 2))) (by rfl))))))
        (pss_one ps_never)
        pss_nil))))), ?_⟩
    have hsz : (1000 : Nat) < sizeLine := by decide
    obtain ⟨a, xs, rfl, ha, hall⟩ := hv.tuple
    have hxl : xs.length = offs.length := by rw [hall.length, List.length_map]
    refine ⟨_, rfl, _, _, _, _, true, rfl, .ty _, .base (.tup ha), rfl, true, rfl, ite2 (fun h => absurd h (by decide)) (fun _ => ?_)⟩
    refine ⟨_, rfl, a, _, rfl, SqT.of ha, ?_⟩
    refine for_it walk_enumT (fun i σ H1 => Kp No H H1 ∧ ∃ o2 o3 : Option V, σ = [some c, some (.ref a), o2, o3]) ⟨Kp.refl _ _, _, _, rfl⟩ (fun i σ H1 _ h => SqT.of (h.1.tu _ _ ha)) (fun i x σ H1 H2 hi h hy => ?_) (fun σ H1 h => ?_)
    · obtain ⟨k, o2, o3, rfl⟩ := h
      obtain ⟨T, u, v, rfl, hT, rfl, e1, e2⟩ := hy
      obtain rfl := Option.some.inj e1
      have hi' : i < offs.length := by omega
      obtain ⟨d, hd, hv⟩ := (hall.mono k.tu).get e2
      rw [List.getElem?_map, getD_of hi' (Off.strike 0)] at hd
      obtain rfl := Option.some.inj hd
      have hm := List.mem_of_getElem? (getD_of hi' (Off.strike 0))
      have kT : Kp No H1 (upd H1 T (.tup [.int ((i : Nat) : Int), v])) := Kp.new hT
      have kk := k.trans kT
      refine ⟨T, _, rfl, SqT.of upd_same, rfl, _, _, rfl, _, _, rfl, rfl, ?_⟩
      refine ⟨_, rfl, _, rfl, c, v, n, names, ways, offs.getD i (Off.strike 0), rfl, hco.mono kk.n, hnm, hnn, W, hv.mono kT.tu, (hok _ hm).1, (hok _ hm).2, fun H3 k3 => ⟨true, rfl, ?_⟩⟩
      have kk3 := kk.trans k3
      refine ite2 (fun h => absurd h (by decide)) (fun _ => ?_)
      refine ⟨_, rfl, _, _, rfl, rfl, false, congrArg V.bl (decide_eq_false (by omega)), ite2 (fun h => absurd h (by decide)) (fun _ => ?_)⟩
      have ha3 := kk3.tu _ _ ha
      have hcut : cutV xs none (some (i : Int)) = xs.take i := by
        unfold cutV
        rw [HT.sIx_none, HT.sIx_nat, show min i xs.length = i by omega, List.drop_zero, Nat.sub_zero]
      refine ⟨_, rfl, _, rfl, _, rfl, (i : Int), rfl, a, _, rfl, SqT.of ha3, fun z => ?_, fun _ p hp => ?_⟩
      · exfalso
        have := z.2
        rw [HT.sIx_nat] at this
        omega
      · rw [hcut]
        have kp : Kp No H3 (upd H3 p (.tup (xs.take i))) := Kp.new hp
        have hvv := ((hv.mono kT.tu).mono k3.tu).mono kp.tu
        refine ⟨offD names (offs.getD i (Off.strike 0)), (offs.take i).map (offD names), hvv.dp K, .tup (SqT.of upd_same) (by rw [List.map_take]; exact (((hall.mono kk3.tu).mono kp.tu).take i).dp K), shaped_of (offD_lay hnm _) (by have := offD_depth names (offs.getD i (Off.strike 0)); omega), tup_shaped (offD names) _ 2 (by decide) (fun o _ => ⟨offD_lay hnm o, offD_depth names o⟩), ?_⟩
        have hno : (((offs.take i).map (offD names)).any fun z => PyData.eqv z (offD names (offs.getD i (Off.strike 0)))) = false := by
          rw [Bool.eq_false_iff]
          intro ht
          rw [List.any_map] at ht
          obtain ⟨o, ho, e⟩ := List.any_eq_true.mp ht
          have e : PyData.eqv (offD names o) (offD names (offs.getD i (Off.strike 0))) = true := e
          rw [offD_eqv hnm.nd hnn (hok _ (List.mem_of_mem_take ho)).1 (hok _ hm).1] at e
          have e := of_decide_eq_true e
          obtain ⟨m, hm2⟩ := List.getElem?_of_mem ho
          have hmi : m < i := by
            have := (List.getElem?_eq_some_iff.mp hm2).1
            rw [List.length_take] at this
            omega
          rw [List.getElem?_take_of_lt hmi] at hm2
          have := (List.getElem?_inj (by omega) ndo).mp (hm2.trans ((congrArg some e).trans (getD_of hi' (Off.strike 0)).symm))
          omega
        rw [hno]
        exact ⟨_, rfl, ite2 (fun h => absurd h (by decide)) (fun _ => ⟨kk3.trans kp, _, _, rfl⟩)⟩
    · obtain ⟨k, o2, o3, rfl⟩ := h
      exact q _ k
abbrev s_check_doubts : Stmt := top 48
abbrev n_check_doubts : List Str := ["council", "doubts", "at", "doubt"]
theorem sc_check_doubts : FnScope n_check_doubts ["council", "doubts"] (defScope s_check_doubts) := ⟨rfl, rfl, rfl, by decide +kernel, rfl, by decide +kernel, by decide +kernel⟩
def spCheckD (C : Addr) : Sp := fun vs H Q _ => ∃ (c v : V) (n : Nat) (names : List Str) (ways : List Rows) (ears : List Ear), vs = [c, v] ∧ CouncilAt C H c names ways ∧ NmOk names ∧ names.length = n ∧ WaysOk n ways ∧ Tp H v (.tuple (ears.map (earD names))) ∧ (∀ e ∈ ears, EarOk n ways.length e ∧ Free ways e) ∧ ears.Nodup ∧ ears.length ≤ 6 ∧
  ∀ H', Kp No H H' → Q .non H'
theorem ok_check_doubts {f C : Addr} {fd : FuncData} (F : DefIn K mg "check_doubts" s_check_doubts ["council", "doubts"] f fd) (B : Bt mg) (G_MOST_DOUBTS : Gs mg "MOST_DOUBTS" (.int 6)) (D_is_ear : Def P w K mg base "is_ear" 3 ["council", "value"] (spIsEar C)) :
    Def P w K mg base "check_doubts" 4 ["council", "doubts"] (spCheckD C) := by
  refine F.ok sc_check_doubts (fun vs H Q E h => ?_) (fun cdv A outer s H vs Q E hr h => ?_)
  · obtain ⟨c, v, _, _, _, _, rfl, _⟩ := h
    rfl
  · obtain ⟨c, v, n, names, ways, ears, rfl, hco, hnm, hnn, W, hv, hok, ndo, hl6, q⟩ := h
    refine ⟨_, (pss_cons (ps_if (pt_not (pt_val (pe_callB (c_isi K) (by rfl) B.isinstance (by decide +kernel) (pa_cons (pv 1) (pa_cons (pe_bltn (v := .ty "tuple") (by rfl) B.tuple boot_tuple rfl) pa_nil)))))
      (pss_one ps_never)
      pss_nil)
      (pss_one (ps_for PassesOwn.never rfl (pi_enumT K (by rfl) B.enumerate (pa_cons (pv 1) pa_nil)) (pg_tupK K 2 (pgs_cons (pg_name (i := 2) sc_check_doubts.nd rfl (by first | exact Or.inl rfl | exact Or.inr rfl)) (pgs_cons (pg_name (i := 3) sc_check_doubts.nd rfl (by first | exact Or.inl rfl | exact Or.inr rfl)) pgs_nil)))
      (pss_one (ps_if (PW.pt (pw_or (pt_not (pt_val (pe_def (D_is_ear.mono (by decide)) hr (by rfl) (pa_cons (pv 0) (pa_cons (pv 3) pa_nil))))) (pw_or (pt_cmpR op_ge (pv 2) (pe_gs (by rfl) G_MOST_DOUBTS) (nomark _)) (pw_or1 (pt_cmpR (o_inT K hr.u65) (pv 3) (pe_slice (s_tup K) (pv 1) po_none (po_some (pv 2))) (by rfl))))))
        (pss_one ps_never)
        pss_nil))))), ?_⟩
    have hsz : (1000 : Nat) < sizeLine := by decide
    obtain ⟨a, xs, rfl, ha, hall⟩ := hv.tuple
    have hxl : xs.length = ears.length := by rw [hall.length, List.length_map]
    refine ⟨_, rfl, _, _, _, _, true, rfl, .ty _, .base (.tup ha), rfl, true, rfl, ite2 (fun h => absurd h (by decide)) (fun _ => ?_)⟩
    refine ⟨_, rfl, a, _, rfl, SqT.of ha, ?_⟩
    refine for_it walk_enumT (fun i σ H1 => Kp No H H1 ∧ ∃ o2 o3 : Option V, σ = [some c, some (.ref a), o2, o3]) ⟨Kp.refl _ _, _, _, rfl⟩ (fun i σ H1 _ h => SqT.of (h.1.tu _ _ ha)) (fun i x σ H1 H2 hi h hy => ?_) (fun σ H1 h => ?_)
    · obtain ⟨k, o2, o3, rfl⟩ := h
      obtain ⟨T, u, v, rfl, hT, rfl, e1, e2⟩ := hy
      obtain rfl := Option.some.inj e1
      have hi' : i < ears.length := by omega
      obtain ⟨d, hd, hv⟩ := (hall.mono k.tu).get e2
      rw [List.getElem?_map, getD_of hi' (0, 0, 0)] at hd
      obtain rfl := Option.some.inj hd
      have hm := List.mem_of_getElem? (getD_of hi' (0, 0, 0))
      have kT : Kp No H1 (upd H1 T (.tup [.int ((i : Nat) : Int), v])) := Kp.new hT
      have kk := k.trans kT
      refine ⟨T, _, rfl, SqT.of upd_same, rfl, _, _, rfl, _, _, rfl, rfl, ?_⟩
      refine ⟨_, rfl, _, rfl, c, v, n, names, ways, ears.getD i (0, 0, 0), rfl, hco.mono kk.n, hnm, hnn, W, hv.mono kT.tu, (hok _ hm).1, (hok _ hm).2, fun H3 k3 => ⟨true, rfl, ?_⟩⟩
      have kk3 := kk.trans k3
      refine ite2 (fun h => absurd h (by decide)) (fun _ => ?_)
      refine ⟨_, rfl, _, _, rfl, rfl, false, congrArg V.bl (decide_eq_false (by omega)), ite2 (fun h => absurd h (by decide)) (fun _ => ?_)⟩
      have ha3 := kk3.tu _ _ ha
      have hcut : cutV xs none (some (i : Int)) = xs.take i := by
        unfold cutV
        rw [HT.sIx_none, HT.sIx_nat, show min i xs.length = i by omega, List.drop_zero, Nat.sub_zero]
      refine ⟨_, rfl, _, rfl, _, rfl, (i : Int), rfl, a, _, rfl, SqT.of ha3, fun z => ?_, fun _ p hp => ?_⟩
      · exfalso
        have := z.2
        rw [HT.sIx_nat] at this
        omega
      · rw [hcut]
        have kp : Kp No H3 (upd H3 p (.tup (xs.take i))) := Kp.new hp
        have hvv := ((hv.mono kT.tu).mono k3.tu).mono kp.tu
        refine ⟨earD names (ears.getD i (0, 0, 0)), (ears.take i).map (earD names), hvv.dp K, .tup (SqT.of upd_same) (by rw [List.map_take]; exact (((hall.mono kk3.tu).mono kp.tu).take i).dp K), shaped_of (earD_lay hnm _) (by have := earD_depth names (ears.getD i (0, 0, 0)); omega), tup_shaped (earD names) _ 2 (by decide) (fun o _ => ⟨earD_lay hnm o, earD_depth names o⟩), ?_⟩
        have hno : (((ears.take i).map (earD names)).any fun z => PyData.eqv z (earD names (ears.getD i (0, 0, 0)))) = false := by
          rw [Bool.eq_false_iff]
          intro ht
          rw [List.any_map] at ht
          obtain ⟨o, ho, e⟩ := List.any_eq_true.mp ht
          have e : PyData.eqv (earD names o) (earD names (ears.getD i (0, 0, 0))) = true := e
          rw [earD_eqv hnm.nd hnn (hok _ (List.mem_of_mem_take ho)).1 (hok _ hm).1] at e
          have e := of_decide_eq_true e
          obtain ⟨m, hm2⟩ := List.getElem?_of_mem ho
          have hmi : m < i := by
            have := (List.getElem?_eq_some_iff.mp hm2).1
            rw [List.length_take] at this
            omega
          rw [List.getElem?_take_of_lt hmi] at hm2
          have := (List.getElem?_inj (by omega) ndo).mp (hm2.trans ((congrArg some e).trans (getD_of hi' (0, 0, 0)).symm))
          omega
        rw [hno]
        exact ⟨_, rfl, ite2 (fun h => absurd h (by decide)) (fun _ => ⟨kk3.trans kp, _, _, rfl⟩)⟩
    · obtain ⟨k, o2, o3, rfl⟩ := h
      exact q _ k
end
end AA

/-! ## T17 -/
set_option Elab.async false
set_option linter.all false
set_option maxRecDepth 100000
set_option maxHeartbeats 4000000
namespace AA
open PySem PySem.Spec PyProof.Rows L2 PySem.W
section
variable {P : Program} {w : World} {K : PySem.W.Frag} {mg : Str → Option Value} {base : Heap}
abbrev s___init__ : Stmt := inClass (top 31) 0
abbrev n___init__ : List Str := ["self", "minds", "ways", "wrong"]
theorem sc___init__ : FnScope n___init__ ["self", "minds", "ways"] (defScope s___init__) := ⟨rfl, rfl, rfl, by decide +kernel, rfl, by decide +kernel, by decide +kernel⟩
def spInit (C : Addr) : Sp := fun vs H Q _ => ∃ (x dx : Addr) (vn vw : V) (n : Nat) (names : List Str) (ways : List Rows), vs = [.ref x, vn, vw] ∧ H x = some (.ins C dx []) ∧ NamesAt H vn names ∧ NmOk names ∧ names.length = n ∧ 1 ≤ n ∧ (∀ y ∈ names, NameOk y) ∧ Tp H vw (waysD ways) ∧ WaysOk n ways ∧ 1 ≤ ways.length ∧ (∀ rows ∈ ways, ∀ r ∈ rows, RowOk r) ∧
  ∀ H' fs, Kp (At x) H H' → H' x = some (.ins C dx fs) → fs.lookup ("heads" : Str) = some vn → fs.lookup ("tables" : Str) = some vw → Q .non H'
theorem ok_init {f C : Addr} {fd : FuncData} (F : Fun K "__init__" "Council.__init__" s___init__ f fd) (B : Bt mg) (c : Cls K C) (nh : NoAttr K C "heads") (nt : NoAttr K C "tables") (D_wrong_mind : Def P w K mg base "wrong_mind" 2 ["minds"] spWrongMind) (D_wrong_way : Def P w K mg base "wrong_way" 5 ["ways", "count"] spWrongWay) :
    FnOk P w K mg base CX0 6 f fd ["self", "minds", "ways"] (spInit C) := by
  refine F.ok sc___init__ (fun vs H Q E h => ?_) (fun cdv A outer s H vs Q E hr h => ?_)
  · obtain ⟨x, _, _, _, _, _, _, rfl, _⟩ := h
    rfl
  · obtain ⟨x, dx, vn, vw, n, names, ways, rfl, hx, hnm, hnk, hnn, h1, hno, htb, W, hw1, hro, q⟩ := h
    refine ⟨_, (pss_cons (ps_set (i := 3) sc___init__.nd rfl (by first | exact Or.inl rfl | exact Or.inr rfl) (pe_def (D_wrong_mind.mono (by decide)) hr (by rfl) (pa_cons (pv 1) pa_nil)))
      (pss_cons (ps_if (pt_cmpR (o_neD K hr.units) (pv 3) (pe_tup pa_nil) (nomark _))
      (pss_one ps_never)
      pss_nil)
      (pss_cons (ps_set (i := 3) sc___init__.nd rfl (by first | exact Or.inl rfl | exact Or.inr rfl) (pe_def (D_wrong_way.mono (by decide)) hr (by rfl) (pa_cons (pv 2) (pa_cons (pe_callB (r_len K) (by rfl) B.len (by decide +kernel) (pa_cons (pv 1) pa_nil)) pa_nil))))
      (pss_cons (ps_if (pt_cmpR (o_neD K hr.units) (pv 3) (pe_tup pa_nil) (nomark _))
      (pss_one ps_never)
      pss_nil)
      (pss_cons (ps_fld (pv 0) (pv 1) rfl)
      (pss_one (ps_fld (pv 0) (pv 2) rfl))))))), ?_⟩
    have n6 := W.n6
    have no_in : ∀ {H' : Hp} {b : Addr} {xs : List V}, H' b = some (.tup xs) → H' x = some (.ins C dx []) → b ≠ x := fun h1 h2 z => by rw [z, h2] at h1; cases h1
    refine ⟨_, rfl, vn, names, rfl, hnm, hnk.nd, by omega, by omega, hno, fun a H1 k1 ha => ?_⟩
    refine ⟨_, rfl, (show 0 ≤ sizeLine by decide), fun p0 hp0 => ⟨.tuple [], .tuple [], .tup (SqT.of ((Kp.new (S := No) hp0).tu _ _ ha)) .nil, .tup (SqT.of upd_same) .nil, nilT_shaped, nilT_shaped, _, rfl, ?_⟩⟩
    have kk1 : Kp No H (upd H1 p0 (.tup [])) := k1.trans (Kp.new hp0)
    generalize upd H1 p0 (.tup []) = H2 at *
    rw [eqv_nilT]
    refine ite2 (fun h => by simp at h) (fun _ => ?_)
    obtain ⟨na, ob, rfl, hna, hnd⟩ := id (hnm.k kk1)
    refine ⟨_, rfl, _, rfl, na, _, rfl, .inr (sqF hna), ?_⟩
    rw [List.length_map, hnn]
    refine ⟨vw, n, ways, rfl, htb.mono kk1.tu, W, hw1, hro, fun a2 H3 k3 ha2 => ?_⟩
    refine ⟨_, rfl, (show 0 ≤ sizeLine by decide), fun p1 hp1 => ⟨.tuple [], .tuple [], .tup (SqT.of ((Kp.new (S := No) hp1).tu _ _ ha2)) .nil, .tup (SqT.of upd_same) .nil, nilT_shaped, nilT_shaped, _, rfl, ?_⟩⟩
    have kk3 : Kp No H (upd H3 p1 (.tup [])) := (kk1.trans k3).trans (Kp.new hp1)
    generalize upd H3 p1 (.tup []) = H4 at *
    rw [eqv_nilT]
    refine ite2 (fun h => by simp at h) (fun _ => ?_)
    have hx4 := kk3.at hx
    refine ⟨_, rfl, _, rfl, x, C, dx, [], rfl, hx4, c, nh, by decide, ?_⟩
    refine ⟨_, rfl, _, rfl, x, C, dx, _, rfl, upd_same, c, nt, (show 1 < 1000 by decide), ?_⟩
    have ni : ∀ fs xs, HO.ins C dx fs ≠ .tup xs := fun fs xs z => by cases z
    have p1 : Kp (At x) H4 (upd H4 x (.ins C dx (putF "heads" (.ref na) []))) := Kp.put (S := At x) rfl hx4 (ni _)
    have p2 : Kp (At x) (upd H4 x (.ins C dx (putF "heads" (.ref na) []))) (upd (upd H4 x (.ins C dx (putF "heads" (.ref na) []))) x (.ins C dx (putF "tables" vw (putF "heads" (.ref na) [])))) := Kp.put (S := At x) rfl upd_same (ni _)
    refine q _ _ ((kk3.no (S := At x)).trans (p1.trans p2)) upd_same ?_ ?_
    · rw [lookup_putF, if_neg (by decide), lookup_putF, if_pos rfl]
    · rw [lookup_putF, if_pos rfl]
abbrev s___len__ : Stmt := inClass (top 31) 5
abbrev n___len__ : List Str := ["self"]
theorem sc___len__ : FnScope n___len__ ["self"] (defScope s___len__) := ⟨rfl, rfl, rfl, by decide +kernel, rfl, by decide +kernel, by decide +kernel⟩
def spLenC (C : Addr) : Sp := fun vs H Q _ => ∃ (a dx : Addr) (fs : List (Str × V)) (vn : V) (names : List Str), vs = [.ref a] ∧ H a = some (.ins C dx fs) ∧ fs.lookup ("heads" : Str) = some vn ∧ NamesAt H vn names ∧ Q (.int ((names.length : Nat) : Int)) H
theorem ok_len {f C : Addr} {fd : FuncData} (F : Fun K "__len__" "Council.__len__" s___len__ f fd) (B : Bt mg) (c : Cls K C) (nh : NoAttr K C "heads") : FnOk P w K mg base CX0 1 f fd ["self"] (spLenC C) := by
  refine F.ok sc___len__ (fun vs H Q E h => ?_) (fun cdv A outer s H vs Q E hr h => ?_)
  · obtain ⟨a, _, _, _, _, rfl, _⟩ := h
    rfl
  · obtain ⟨a, dx, fs, vn, names, rfl, ha, hl, ⟨na, ob, rfl, hna, hnd⟩, q⟩ := h
    refine ⟨_, (pss_one (ps_ret (pe_callB (r_len K) (by rfl) B.len (by decide +kernel) (pa_cons (pe_fld (pv 0) rfl) pa_nil)))), ?_⟩
    refine ⟨_, rfl, a, C, dx, fs, _, rfl, ha, c, nh, hl, na, _, rfl, .inr (sqF hna), ?_⟩
    rw [List.length_map]
    exact q
end
/-! ### len of a council -/
structure LenOf (P : Program) (w : World) (K : PySem.W.Frag) (mg : Str → Option Value) (base : Heap) (C : Addr) : Prop where
  ex : ∃ (g : Addr) (fd : FuncData), PySem.W.findIn K (.ref C) "__len__" = some (some (.ref g)) ∧ PySem.W.isFn K (.ref g) = true ∧ FnOk P w K mg base CX0 1 g fd ["self"] (spLenC C) ∧ Binds K fd ["self"] []
def rLenC (C : Addr) : List V → Hp → VK → Prop := fun vs H Q => ∃ (a dx : Addr) (fs : List (Str × V)) (vn : V) (names : List Str), vs = [.ref a] ∧ H a = some (.ins C dx fs) ∧ fs.lookup ("heads" : Str) = some vn ∧ NamesAt H vn names ∧ names.length ≤ 1000 ∧ Q (.int ((names.length : Nat) : Int)) H
theorem r_lenC {X : Cx} {C : Addr} {k : Nat} (D : LenOf X.prog X.w X.K X.mg X.base C) (hr : Room k X.A) (hk : 2 ≤ k) : CallR X (.builtin "len") (rLenC C) := by
  obtain ⟨g, fd, hs, hf, F, hb⟩ := D
  rintro pins s σ H vs us Q I r ⟨a, dx, fs, vn, names, rfl, ha, hl, hn, hz, q⟩
  rw [Vals.ref1 r]
  obtain ⟨mA, O, _, _, _, _⟩ := ins_get I.hok ha
  obtain ⟨od, J, _⟩ := O.look
  refine Calls.call_function_entry PySem.kind_len PySem.plain_len PySem.entry_len (PySem.args_len1 _) ?_
  unfold Builtin.«len»
  refine wpAny_bind (m := oneArg "len" _) (wpAny_pure ?_)
  have hr1 : Room 1 X.A.in1 := (hr.mono hk).in1
  refine wpAny_bind (m := callSpecial? (.ref a) (Str.ofString "__len__")) (PySem.W.special_fn I.kIn J hs (beq_iff_eq.mp hf) ?_)
  refine wpAny_call (codeAny_mono (F.run X.A.in1 X.stack s H ⟨[.ref a], []⟩ [.ref a] [.ref a] (fun v H' => v = .int ((names.length : Nat) : Int) ∧ H' = H) E0 hr1 I.env0.in1 (hb s [.ref a] I.kIn rfl) (.cons rfl .nil) ⟨a, dx, fs, vn, names, rfl, ha, hl, hn, rfl, rfl⟩) fun r s' hq => ?_)
  cases r with
  | error er => exact False.elim (pass0 (X := X.nox) pins σ H s er s' (I.wish _) hq)
  | ok fl =>
    cases fl with
    | ret u =>
      obtain ⟨v, H', I3, rv, ev, eH⟩ := I.after hq
      subst ev
      subst eH
      obtain ⟨t, rfl⟩ := rv
      refine wpAny_bind (wpAny_holding (wpAny_pure ?_))
      refine wpAny_bind (wpAny_letGo ?_)
      show wpAny _ _ (if ((names.length : Nat) : Int) < 0 then _ else _) _ _ _
      rw [if_neg (by omega)]
      show wpAny _ _ (if ((names.length : Nat) : Int) ≥ 2 ^ 63 then _ else _) _ _ _
      rw [if_neg (by omega)]
      exact wpAny_bind (wpAny_mkInt (wpAny_pure ⟨_, rfl, .int _, H', I3.tok _, ⟨_, rfl⟩, q⟩))
    | next => exact False.elim hq
    | brk => exact False.elim hq
    | cont => exact False.elim hq
end AA

/-! ## T18 -/
set_option Elab.async false
set_option linter.all false
set_option maxRecDepth 100000
set_option maxHeartbeats 4000000
namespace AA
open PySem PySem.Spec PyProof.Rows L2 PySem.W
noncomputable def good (n : Nat) (ways : List Rows) : Bool := @decide (ways ≠ [] ∧ Agree n ways) (Classical.propDecidable _)
theorem good_of {n : Nat} {ways : List Rows} {b : Bool} (h : b = true ↔ ways ≠ [] ∧ Agree n ways) : b = good n ways := by
  rw [Bool.eq_iff_iff]
  exact ⟨fun hb => @decide_eq_true _ (Classical.propDecidable _) (h.mp hb), fun hd => h.mpr (@of_decide_eq_true _ (Classical.propDecidable _) hd)⟩
def pick {α : Type} (d : α) (l : List α) (row : Lot) : List α := row.map fun i => l.getD i d
def pickE (ears : List Ear) (row : Lot) : List Ear := pick (0, 0, 0) ears row
def pickO (offs : List Off) (row : Lot) : List Off := pick (.strike 0) offs row
noncomputable def goodRows (n : Nat) (ways : List Rows) (ears : List Ear) : List Lot := (setsOf ears.length).filter fun row => good n (withE ways (pickE ears row))
def chW (ways : List Rows) (offs : List Off) : List Rows := keepW (withE ways (earsOf offs)) (strikesOf offs)
def wider (found : List Lot) (row : Lot) : Bool := found.any fun less => less.all fun a => decide (a ∈ row)
noncomputable def mendStep (n : Nat) (ways : List Rows) (offs : List Off) (found : List Lot) (row : Lot) : List Lot := if (!wider found row && good n (chW ways (pickO offs row))) = true then found ++ [row] else found
noncomputable def mendOf (n : Nat) (ways : List Rows) (offs : List Off) : List Lot := (setsOf offs.length).foldl (mendStep n ways offs) []
theorem mend_mem {n : Nat} {ways : List Rows} {offs : List Off} (S : Lot → Prop) : ∀ (rows found : List Lot), (∀ x ∈ found, S x) → (∀ x ∈ rows, S x) → ∀ x ∈ rows.foldl (mendStep n ways offs) found, S x
  | [], _, h, _ => h
  | r :: rows, found, h, h2 => by
    show ∀ x ∈ rows.foldl (mendStep n ways offs) (mendStep n ways offs found r), S x
    refine mend_mem S rows _ (fun x hx => ?_) fun x hx => h2 x (List.mem_cons_of_mem _ hx)
    unfold mendStep at hx
    split at hx
    · rcases List.mem_append.mp hx with hx | hx
      · exact h x hx
      · rw [List.mem_singleton.mp hx]
        exact h2 r List.mem_cons_self
    · exact h x hx
theorem setsOf_mem {k : Nat} {row : Lot} (h : row ∈ setsOf k) : row ∈ lots k := (List.mergeSort_perm _ _).mem_iff.mp h
theorem setsOf_length (k : Nat) : (setsOf k).length = 2 ^ k := by rw [setsOf, List.length_mergeSort, lots_length]
theorem setsOf_few {k : Nat} (h : k ≤ 6) : (setsOf k).length ≤ 64 := by
  rw [setsOf_length]
  exact Nat.pow_le_pow_right (by decide) h
theorem pick_mem {α : Type} {d : α} {l : List α} {row : Lot} {x : α} (hr : ∀ m ∈ row, m < l.length) (h : x ∈ pick d l row) : x ∈ l := by
  obtain ⟨i, hi, rfl⟩ := List.mem_map.mp h
  exact List.mem_of_getElem? (getD_of (hr i hi) d)
theorem keepW_ok {n : Nat} {ways : List Rows} (W : WaysOk n ways) (st : List Nat) : WaysOk n (keepW ways st) := by
  unfold keepW
  refine ⟨fun rows hr => ?_, ?_, W.n6⟩
  · obtain ⟨i, hi, rfl⟩ := List.mem_map.mp hr
    have := List.mem_range.mp (List.mem_filter.mp hi).1
    exact W.way _ (List.mem_of_getElem? (getD_of this []))
  · rw [List.length_map]
    have := List.length_filter_le (fun i => decide (i ∉ st)) (List.range ways.length)
    rw [List.length_range] at this
    have := W.few
    omega
theorem earsOf_ok {n nw : Nat} {offs : List Off} (h : ∀ o ∈ offs, OffOk n nw o) : ∀ e ∈ earsOf offs, EarOk n nw e := fun e he => by
  unfold earsOf at he
  obtain ⟨o, ho, eo⟩ := List.mem_filterMap.mp he
  cases o with
  | ear e' =>
    cases eo
    exact h _ ho
  | strike _ => cases eo
theorem chW_ok {n : Nat} {ways : List Rows} {offs : List Off} (W : WaysOk n ways) (h : ∀ o ∈ offs, OffOk n ways.length o) : WaysOk n (chW ways offs) := keepW_ok (withE_ok W (earsOf_ok h)) _
theorem tabs_lst {T : List (Addr × Str)} {H : Hp} {a : Addr} {xs : List V} {o : HO} (e : H a = some (.lst xs)) (t : LamX.Tabs T H) : LamX.Tabs T (upd H a o) := tabs_put e (fun ps z => by cases z) (fun c q z => by unfold LamX.CodeO at z; cases z) t
theorem KN.own_lst {S : Addr → Prop} {H H1 : Hp} {a : Addr} {xs ys : List V} (k : KN S H H1) (n : Fr H a) (e : H1 a = some (.lst xs)) : KN S H (upd H1 a (.lst ys)) := k.own n e fun zs z => by cases z
section
variable {P : Program} {w : World} {K : PySem.W.Frag} {mg : Str → Option Value} {base : Heap}
abbrev s_good_rows : Stmt := top 52
abbrev n_good_rows : List Str := ["council", "doubts", "found", "row", "at"]
theorem sc_good_rows : FnScope n_good_rows ["council", "doubts"] (defScope s_good_rows) := ⟨rfl, rfl, rfl, by decide +kernel, rfl, by decide +kernel, by decide +kernel⟩
def spGoodRows (C : Addr) (T : List (Addr × Str)) : Sp := fun vs H Q _ => ∃ (c v : V) (n : Nat) (names : List Str) (ways : List Rows) (ears : List Ear), vs = [c, v] ∧ CouncilAt C H c names ways ∧ NmOk names ∧ names.length = n ∧ 1 ≤ n ∧ WaysOk n ways ∧ Tp H v (.tuple (ears.map (earD names))) ∧ (∀ e ∈ ears, EarOk n ways.length e) ∧ ears.length ≤ 6 ∧ LamX.Tabs T H ∧
  ∀ r ys H', KN No H H' → LamX.Tabs T H' → Fr H r → H' r = some (.lst ys) → TpAll H' ys ((goodRows n ways ears).map lotD) → Q (.ref r) H'
theorem ok_good_rows {f C : Addr} {T : List (Addr × Str)} {fd : FuncData} (F : DefIn K mg "good_rows" s_good_rows ["council", "doubts"] f fd) (B : Bt mg) (D_len : LenOf P w K mg base C) (D_sets_of : Def P w K mg base "sets_of" 1 ["many"] (spSets T)) (D_is_good : Def P w K mg base "is_good" 5 ["count", "ways"] spGood) (D_with_ears : Def P w K mg base "with_ears" 3 ["council", "ears"] (spWith C)) :
    Def P w K mg base "good_rows" 6 ["council", "doubts"] (spGoodRows C T) := by
  refine F.ok sc_good_rows (fun vs H Q E h => ?_) (fun cdv A outer s H vs Q E hr h => ?_)
  · obtain ⟨c, v, _, _, _, _, rfl, _⟩ := h
    rfl
  · obtain ⟨c, v, n, names, ways, ears, rfl, hco, hnm, hnn, h1, W, hv, hok, h6, hT, q⟩ := h
    refine ⟨_, (pss_cons (ps_set (i := 2) sc_good_rows.nd rfl (by first | exact Or.inl rfl | exact Or.inr rfl) (pe_lst pa_nil))
      (pss_cons (ps_for PassesOwn.never rfl (pi_listK K (pe_def (D_sets_of.mono (by decide)) hr (by rfl) (pa_cons (pe_callB (r_len K) (by rfl) B.len (by decide +kernel) (pa_cons (pv 1) pa_nil)) pa_nil))) (pg_name (i := 3) sc_good_rows.nd rfl (by first | exact Or.inl rfl | exact Or.inr rfl))
      (pss_one (ps_if (pt_val (pe_def (D_is_good.mono (by decide)) hr (by rfl) (pa_cons (pe_callB (r_lenC D_len hr (by decide)) (by rfl) B.len (by decide +kernel) (pa_cons (pv 0) pa_nil)) (pa_cons (pe_def (D_with_ears.mono (by decide)) hr (by rfl) (pa_cons (pv 0) (pa_cons (pe_lc rfl sc_good_rows.nd (pi_tupK K (pv 3)) (blkOk_by (own := [("at", 4)]) (N := n_good_rows) (sc := defScope s_good_rows) (by decide +kernel)) (fun _ _ _ _ _ => (pg_name (i := 4) sc_good_rows.nd rfl (by first | exact Or.inl rfl | exact Or.inr rfl))) (fun _ _ _ _ _ => pts_nil) (fun _ _ _ _ _ => (pe_ix (x_tup K) (pv 1) (pv 4) (fun _ _ => rfl)))) pa_nil))) pa_nil))))
        (pss_one (ps_expr (pe_bm PySem.F.plainAttrs_list PySem.F.slot_list_append PySem.F.type_list_append mt_append (pv 2) (pa_cons (pv 3) pa_nil))))
        pss_nil)))
      (pss_one (ps_ret (pv 2))))), ?_⟩
    have hsz : (1000 : Nat) < sizeLine := by decide
    have n6 := W.n6
    obtain ⟨a, xs, rfl, ha, hall⟩ := hv.tuple
    have hxl : xs.length = ears.length := by rw [hall.length, List.length_map]
    refine ⟨(show 0 ≤ sizeLine by decide), fun r hr0 => ?_⟩
    have kr : Kp No H (upd H r (.lst [])) := Kp.new hr0
    have hrr : upd H r (.lst []) r = some (.lst []) := upd_same
    generalize upd H r (.lst []) = H1 at *
    refine ⟨_, rfl, a, xs, rfl, .inr (SqT.of (kr.tu _ _ ha)), ?_⟩
    rw [hxl]
    refine ⟨ears.length, rfl, h6, tabs_mono kr hT, fun l ls H2 k2 hT2 hfl hl2 hls => ⟨l, rfl, ⟨ls, SqL.of hl2⟩, ?_⟩⟩
    have hlsl : ls.length = (setsOf ears.length).length := by rw [hls.length, List.length_map]
    have hl64 := setsOf_few h6
    have kk2 : KN No H H2 := kr.n.trans k2
    have hrl : r ≠ l := fun z => hfl (.lst []) (by rw [← z]; exact hrr) lst_noTbl
    refine for_it walk_list (fun i σ H3 => KN No H H3 ∧ LamX.Tabs T H3 ∧ H3 l = some (.lst ls) ∧ TpAll H3 ls ((setsOf ears.length).map lotD) ∧ ∃ (o3 o4 : Option V) (acc : List V), σ = [some c, some (.ref a), some (.ref r), o3, o4] ∧ H3 r = some (.lst acc) ∧ acc.length ≤ i ∧ TpAll H3 acc ((((setsOf ears.length).take i).filter fun row => good n (withE ways (pickE ears row))).map lotD))
      ⟨kk2, hT2, hl2, hls, _, _, [], rfl, k2.at lst_noTbl hrr, Nat.le_refl _, .nil⟩ (fun i σ H3 _ h => SqL.of h.2.2.1) (fun i x σ H3 H3' hi h hy => ?_) (fun σ H3 h => ?_)
    · obtain ⟨k3, hT3, hl3, hls3, o3, o4, acc, rfl, hr3, hal, hacc⟩ := h
      obtain ⟨rfl, hx⟩ := hy
      have hi' : i < (setsOf ears.length).length := by omega
      obtain ⟨d, hd, hv⟩ := hls3.get hx
      rw [List.getElem?_map, getD_of hi' []] at hd
      obtain rfl := Option.some.inj hd
      have hm := setsOf_mem (List.mem_of_getElem? (getD_of hi' []))
      obtain ⟨hlt, hll⟩ := lots_lt hm
      have htk := take_filt (setsOf ears.length) (fun row => good n (withE ways (pickE ears row))) (getD_of hi' [])
      rw [htk]
      generalize (setsOf ears.length).getD i [] = row at *
      obtain ⟨b, rfl, hb⟩ := lot_of hv
      have hco3 := hco.mono k3
      obtain ⟨ca, dx, fs, vn, vw, rfl, hca, hlh, hlt2, hnmA, htb⟩ := id hco3
      refine ⟨_, rfl, ca, dx, fs, vn, names, rfl, hca, hlh, hnmA, by omega, ?_⟩
      have ha3 := k3.tu _ _ ha
      have hall3 := hall.mono k3.tu
      refine ⟨_, rfl, _, rfl, b, rfl, ⟨_, SqT.of hb⟩, fun D hD => ?_⟩
      refine lc_mapD (S := No) walk_tup (by rw [List.length_map, List.length_map]; omega) hD (fun z => z) (fun j => earD names ((pickE ears row).getD j (0, 0, 0))) (fun H4 k4 => SqT.of (k4.tu _ _ hb)) (fun j x H4 H5 acc2 N hj k4 hacc2 hy4 hN => ?_) (fun acc2 H4 k4 hacc2 hr4 => ?_)
      · obtain ⟨rfl, hx⟩ := hy4
        rw [List.length_map, List.length_map] at hj
        rw [List.getElem?_map, List.getElem?_map, getD_of hj 0] at hx
        obtain rfl := Option.some.inj hx
        have hmj := hlt _ (List.mem_of_getElem? (getD_of hj 0))
        obtain ⟨u, hu, tu⟩ := (hall3.mono k4.tu).get' (i := row.getD j 0) (d := earD names (ears.getD (row.getD j 0) (0, 0, 0))) (by rw [List.getElem?_map, getD_of hmj (0, 0, 0)]; rfl)
        have epk : (pickE ears row).getD j (0, 0, 0) = ears.getD (row.getD j 0) (0, 0, 0) := by
          unfold pickE pick
          rw [List.getD_eq_getElem?_getD, List.getElem?_map, getD_of hj 0]
          rfl
        rw [epk] at hN
        exact ⟨rfl, _, rfl, _, rfl, a, xs, _, u, rfl, rfl, SqT.of (k4.tu _ _ ha3), atI_nat hu, hN _ _ (Kp.refl _ _) tu⟩
      · have hpl : row.length = (pickE ears row).length := by unfold pickE pick; rw [List.length_map]
        rw [List.length_map, List.length_map, hpl, range_get (pickE ears row) (earD names) (0, 0, 0)] at hr4
        have hokp : ∀ e ∈ pickE ears row, EarOk n ways.length e := fun e he => hok e (pick_mem hlt he)
        refine ⟨_, D, n, acc2, names, ways, pickE ears row, rfl, hco3.mono k4.n, hnm.nd, hnn, W, h1, hacc2, hr4, hokp, by rw [← hpl]; omega, fun v2 H5 k5 hv2 => ?_⟩
        have hW5 := withE_ok W hokp
        rw [hnn]
        refine ⟨v2, n, _, rfl, hv2, hW5, h1, fun bb H6 k6 hbb => ⟨bb, rfl, ?_⟩⟩
        rw [good_of hbb]
        have k36 : Kp No H3' H6 := (k4.trans k5).trans k6
        have kk6 : KN No H H6 := k3.trans k36.n
        have hr6 := k36.at hr3
        have hT6 := tabs_mono k36 hT3
        refine ite2 (fun h => ?_) (fun h => ?_)
        · rw [if_pos h]
          have hl6 := k36.at hl3
          refine ⟨_, rfl, .inl ⟨rfl, _, SqL.of hr6⟩, _, rfl, r, acc, _, rfl, rfl, hr6, by omega, kk6.own_lst (Fr.none hr0) hr6, tabs_lst hr6 hT6, by rw [upd_ne (fun z => hrl z.symm)]; exact hl6, (hls3.mono k36.tu).mono (TK.upd_lst hr6), _, _, _, rfl, upd_same, by rw [List.length_append, List.length_singleton]; omega, ?_⟩
          rw [List.map_append]
          exact ((hacc.mono k36.tu).mono (TK.upd_lst hr6)).snoc (((hv.mono k36.tu)).mono (TK.upd_lst hr6))
        · rw [if_neg h, List.append_nil]
          exact ⟨kk6, hT6, k36.at hl3, hls3.mono k36.tu, _, _, acc, rfl, hr6, by omega, hacc.mono k36.tu⟩
    · obtain ⟨k3, hT3, hl3, hls3, o3, o4, acc, rfl, hr3, hal, hacc⟩ := h
      rw [hlsl, List.take_length] at hacc
      exact ⟨_, rfl, q r acc H3 k3 hT3 (Fr.none hr0) hr3 hacc⟩

abbrev s_doubtful : Stmt := top 54
abbrev n_doubtful : List Str := ["council", "doubts"]
theorem sc_doubtful : FnScope n_doubtful ["council", "doubts"] (defScope s_doubtful) := ⟨rfl, rfl, rfl, by decide +kernel, rfl, by decide +kernel, by decide +kernel⟩
def spDoubtful (C : Addr) (T : List (Addr × Str)) : Sp := fun vs H Q _ => ∃ (c v : V) (n : Nat) (names : List Str) (ways : List Rows) (ears : List Ear), vs = [c, v] ∧ CouncilAt C H c names ways ∧ NmOk names ∧ names.length = n ∧ 1 ≤ n ∧ WaysOk n ways ∧ Tp H v (.tuple (ears.map (earD names))) ∧ (∀ e ∈ ears, EarOk n ways.length e ∧ Free ways e) ∧ ears.Nodup ∧ ears.length ≤ 6 ∧ LamX.Tabs T H ∧
  ∀ H', KN No H H' → LamX.Tabs T H' → Q (.int (((goodRows n ways ears).length : Nat) : Int)) H'
theorem fo_doubtful {f C : Addr} {T : List (Addr × Str)} {fd : FuncData} (F : DefIn K mg "doubtful" s_doubtful ["council", "doubts"] f fd) (B : Bt mg) (D_check_council : Def P w K mg base "check_council" 1 ["value"] (spCheckC C)) (D_check_doubts : Def P w K mg base "check_doubts" 4 ["council", "doubts"] (spCheckD C)) (D_good_rows : Def P w K mg base "good_rows" 6 ["council", "doubts"] (spGoodRows C T)) :
    FnOk P w K mg base CX0 7 f fd ["council", "doubts"] (spDoubtful C T) := by
  refine F.fn.ok sc_doubtful (fun vs H Q E h => ?_) (fun cdv A outer s H vs Q E hr h => ?_)
  · obtain ⟨c, v, _, _, _, _, rfl, _⟩ := h
    rfl
  · obtain ⟨c, v, n, names, ways, ears, rfl, hco, hnm, hnn, h1, W, hv, hok, nd, h6, hT, q⟩ := h
    refine ⟨_, (pss_cons (ps_expr (pe_def (D_check_council.mono (by decide)) hr (by rfl) (pa_cons (pv 0) pa_nil)))
      (pss_cons (ps_expr (pe_def (D_check_doubts.mono (by decide)) hr (by rfl) (pa_cons (pv 0) (pa_cons (pv 1) pa_nil))))
      (pss_one (ps_ret (pe_callB (r_len K) (by rfl) B.len (by decide +kernel) (pa_cons (pe_def (D_good_rows.mono (by decide)) hr (by rfl) (pa_cons (pv 0) (pa_cons (pv 1) pa_nil))) pa_nil)))))), ?_⟩
    obtain ⟨ca, dx, fs, vn, vw, rfl, hca, _⟩ := id hco
    refine ⟨_, rfl, ca, dx, fs, rfl, hca, ?_⟩
    refine ⟨_, rfl, _, rfl, _, v, n, names, ways, ears, rfl, hco, hnm, hnn, W, hv, hok, nd, h6, fun H1 k1 => ?_⟩
    refine ⟨_, rfl, _, rfl, _, v, n, names, ways, ears, rfl, hco.mono k1.n, hnm, hnn, h1, W, hv.mono k1.tu, fun e he => (hok e he).1, h6, tabs_mono k1 hT, fun r ys H2 k2 hT2 _ hr2 hys => ?_⟩
    refine ⟨r, ys, rfl, .inl (SqL.of hr2), ?_⟩
    rw [hys.length, List.length_map]
    exact q _ (k1.n.trans k2) hT2
abbrev s_mending : Stmt := top 53
abbrev n_mending : List Str := ["council", "offers", "found", "row", "wider", "less", "at"]
theorem sc_mending : FnScope n_mending ["council", "offers"] (defScope s_mending) := ⟨rfl, rfl, rfl, by decide +kernel, rfl, by decide +kernel, by decide +kernel⟩
def spMending (C : Addr) (T : List (Addr × Str)) : Sp := fun vs H Q _ => ∃ (c v : V) (n : Nat) (names : List Str) (ways : List Rows) (offs : List Off), vs = [c, v] ∧ CouncilAt C H c names ways ∧ NmOk names ∧ names.length = n ∧ 1 ≤ n ∧ WaysOk n ways ∧ Tp H v (.tuple (offs.map (offD names))) ∧ (∀ o ∈ offs, OffOk n ways.length o ∧ OffFree ways o) ∧ offs.Nodup ∧ offs.length ≤ 6 ∧ LamX.Tabs T H ∧
  ∀ v' H', KN No H H' → LamX.Tabs T H' → Tp H' v' (.tuple ((mendOf n ways offs).map lotD)) → Q v' H'
theorem fo_mending {f C : Addr} {T : List (Addr × Str)} {fd : FuncData} (F : DefIn K mg "mending" s_mending ["council", "offers"] f fd) (B : Bt mg) (D_len : LenOf P w K mg base C) (D_check_council : Def P w K mg base "check_council" 1 ["value"] (spCheckC C)) (D_check_offers : Def P w K mg base "check_offers" 5 ["council", "offers"] (spCheckO C)) (D_sets_of : Def P w K mg base "sets_of" 1 ["many"] (spSets T)) (D_is_good : Def P w K mg base "is_good" 5 ["count", "ways"] spGood)
    (D_changed : Def P w K mg base "changed" 4 ["council", "offers"] (spChanged C)) : FnOk P w K mg base CX0 6 f fd ["council", "offers"] (spMending C T) := by
  refine F.fn.ok sc_mending (fun vs H Q E h => ?_) (fun cdv A outer s H vs Q E hr h => ?_)
  · obtain ⟨c, v, _, _, _, _, rfl, _⟩ := h
    rfl
  · obtain ⟨c, v, n, names, ways, offs, rfl, hco, hnm, hnn, h1, W, hv, hok, nd, h6, hT, q⟩ := h
    refine ⟨_, (pss_cons (ps_expr (pe_def (D_check_council.mono (by decide)) hr (by rfl) (pa_cons (pv 0) pa_nil)))
      (pss_cons (ps_expr (pe_def (D_check_offers.mono (by decide)) hr (by rfl) (pa_cons (pv 0) (pa_cons (pv 1) pa_nil))))
      (pss_cons (ps_set (i := 2) sc_mending.nd rfl (by first | exact Or.inl rfl | exact Or.inr rfl) (pe_lst pa_nil))
      (pss_cons (ps_for PassesOwn.never rfl (pi_listK K (pe_def (D_sets_of.mono (by decide)) hr (by rfl) (pa_cons (pe_callB (r_len K) (by rfl) B.len (by decide +kernel) (pa_cons (pv 1) pa_nil)) pa_nil))) (pg_name (i := 3) sc_mending.nd rfl (by first | exact Or.inl rfl | exact Or.inr rfl))
      (pss_cons (ps_set (i := 4) sc_mending.nd rfl (by first | exact Or.inl rfl | exact Or.inr rfl) (pe_callB (r_any K) (by rfl) B.any (by decide +kernel) (pa_cons (pe_lc rfl sc_mending.nd (pi_listK K (pv 2)) (blkOk_by (own := [("less", 5)]) (N := n_mending) (sc := defScope s_mending) (by decide +kernel)) (fun _ _ _ _ _ => (pg_name (i := 5) sc_mending.nd rfl (by first | exact Or.inl rfl | exact Or.inr rfl))) (fun _ _ _ _ _ => pts_nil) (fun _ _ _ _ _ => (pe_callB (r_all K) (by rfl) B.all (by decide +kernel) (pa_cons (pe_lc rfl sc_mending.nd (pi_tupK K (pv 5)) (blkOk_by (own := [("at", 6)]) (N := n_mending) (sc := relS _ (defScope s_mending)) (by decide +kernel)) (fun _ _ _ _ _ => (pg_name (i := 6) sc_mending.nd rfl (by first | exact Or.inl rfl | exact Or.inr rfl))) (fun _ _ _ _ _ => pts_nil) (fun _ _ _ _ _ => (pe_cmpR (o_in K) (pv 6) (pv 3) (by rfl)))) pa_nil)))) pa_nil)))
        (pss_one (ps_if (PW.pt (pw_and (pt_not (pt_val (pv 4))) (pw_and1 (pt_val (pe_def (D_is_good.mono (by decide)) hr (by rfl) (pa_cons (pe_callB (r_lenC D_len hr (by decide)) (by rfl) B.len (by decide +kernel) (pa_cons (pv 0) pa_nil)) (pa_cons (pe_def (D_changed.mono (by decide)) hr (by rfl) (pa_cons (pv 0) (pa_cons (pe_lc rfl sc_mending.nd (pi_tupK K (pv 3)) (blkOk_by (own := [("at", 6)]) (N := n_mending) (sc := defScope s_mending) (by decide +kernel)) (fun _ _ _ _ _ => (pg_name (i := 6) sc_mending.nd rfl (by first | exact Or.inl rfl | exact Or.inr rfl))) (fun _ _ _ _ _ => pts_nil) (fun _ _ _ _ _ => (pe_ix (x_tup K) (pv 1) (pv 6) (fun _ _ => rfl)))) pa_nil))) pa_nil)))))))
        (pss_one (ps_expr (pe_bm PySem.F.plainAttrs_list PySem.F.slot_list_append PySem.F.type_list_append mt_append (pv 2) (pa_cons (pv 3) pa_nil))))
        pss_nil))))
      (pss_one (ps_ret (pe_callTy (r_tuple K) (by rfl) B.tuple (by decide +kernel) (pa_cons (pv 2) pa_nil)))))))), ?_⟩
    have hsz : (1000 : Nat) < sizeLine := by decide
    have n6 := W.n6
    obtain ⟨ca, dx, fs, vn, vw, rfl, hca, _⟩ := id hco
    refine ⟨_, rfl, ca, dx, fs, rfl, hca, ?_⟩
    refine ⟨_, rfl, _, rfl, _, v, n, names, ways, offs, rfl, hco, hnm, hnn, W, hv, hok, nd, h6, fun H0 k0 => ?_⟩
    obtain ⟨a, xs, rfl, ha0, hall0⟩ := hv.tuple
    have ha := k0.tu _ _ ha0
    have hall := hall0.mono k0.tu
    have hxl : xs.length = offs.length := by rw [hall.length, List.length_map]
    refine ⟨(show 0 ≤ sizeLine by decide), fun r hr0 => ?_⟩
    have kr : Kp No H0 (upd H0 r (.lst [])) := Kp.new hr0
    have hrr : upd H0 r (.lst []) r = some (.lst []) := upd_same
    generalize upd H0 r (.lst []) = H1 at *
    refine ⟨_, rfl, a, xs, rfl, .inr (SqT.of (kr.tu _ _ ha)), ?_⟩
    rw [hxl]
    refine ⟨offs.length, rfl, h6, tabs_mono (k0.trans kr) hT, fun l ls H2 k2 hT2 hfl hl2 hls => ⟨l, rfl, ⟨ls, SqL.of hl2⟩, ?_⟩⟩
    have hlsl : ls.length = (setsOf offs.length).length := by rw [hls.length, List.length_map]
    have hl64 := setsOf_few h6
    have kk2 : KN No H H2 := (k0.trans kr).n.trans k2
    have hfr : Fr H r := Fr.none (k0.fr r hr0)
    have hrl : r ≠ l := fun z => hfl (.lst []) (by rw [← z]; exact hrr) lst_noTbl
    refine for_it walk_list (fun i σ H3 => KN No H H3 ∧ LamX.Tabs T H3 ∧ H3 l = some (.lst ls) ∧ TpAll H3 ls ((setsOf offs.length).map lotD) ∧ ∃ (o3 o4 o5 o6 : Option V) (acc : List V), σ = [some (.ref ca), some (.ref a), some (.ref r), o3, o4, o5, o6] ∧ H3 r = some (.lst acc) ∧ acc.length ≤ i ∧ TpAll H3 acc ((((setsOf offs.length).take i).foldl (mendStep n ways offs) []).map lotD))
      ⟨kk2, hT2, hl2, hls, _, _, _, _, [], rfl, k2.at lst_noTbl hrr, Nat.le_refl _, .nil⟩ (fun i σ H3 _ h => SqL.of h.2.2.1) (fun i x σ H3 H3' hi h hy => ?_) (fun σ H3 h => ?_)
    · obtain ⟨k3, hT3, hl3, hls3, o3, o4, o5, o6, acc, rfl, hr3, hal, hacc⟩ := h
      obtain ⟨rfl, hx⟩ := hy
      have hi' : i < (setsOf offs.length).length := by omega
      obtain ⟨d, hd, hv⟩ := hls3.get hx
      rw [List.getElem?_map, getD_of hi' []] at hd
      obtain rfl := Option.some.inj hd
      have hm := setsOf_mem (List.mem_of_getElem? (getD_of hi' []))
      obtain ⟨hlt, hll⟩ := lots_lt hm
      have htk : ((setsOf offs.length).take (i + 1)).foldl (mendStep n ways offs) [] = mendStep n ways offs (((setsOf offs.length).take i).foldl (mendStep n ways offs) []) ((setsOf offs.length).getD i []) := by
        rw [List.take_succ, getD_of hi' [], List.foldl_append]
        rfl
      rw [htk]
      have hfl : ∀ less ∈ ((setsOf offs.length).take i).foldl (mendStep n ways offs) [], less.length ≤ 6 := mend_mem (fun x => x.length ≤ 6) _ _ (fun x hx => absurd hx List.not_mem_nil) fun x hx => by
        have := (lots_lt (setsOf_mem (List.mem_of_mem_take hx))).2
        omega
      generalize (setsOf offs.length).getD i [] = row at *
      generalize ((setsOf offs.length).take i).foldl (mendStep n ways offs) [] = fnd at *
      have hafl : acc.length = fnd.length := by rw [hacc.length, List.length_map]
      obtain ⟨b, rfl, hb⟩ := lot_of hv
      refine ⟨_, rfl, r, rfl, ⟨_, SqL.of hr3⟩, fun D hD => ?_⟩
      refine lc_mapD (S := No) walk_list (by omega) hD (fun z => z) (fun j => .bool ((fnd.getD j []).all fun a => decide (a ∈ row))) (fun H4 k4 => SqL.of (k4.at hr3)) (fun j x H4 H5 acc2 N hj k4 hacc2 hy4 hN => ?_) (fun acc2 H4 k4 hacc2 hr4 => ?_)
      · obtain ⟨rfl, hx⟩ := hy4
        have hj' : j < fnd.length := by omega
        obtain ⟨d, hd, hvj⟩ := (hacc.mono k4.tu).get hx
        rw [List.getElem?_map, getD_of hj' []] at hd
        obtain rfl := Option.some.inj hd
        have hl6 := hfl _ (List.mem_of_getElem? (getD_of hj' []))
        generalize fnd.getD j [] = less at *
        obtain ⟨b2, rfl, hb2⟩ := lot_of hvj
        · refine ⟨rfl, _, rfl, b2, rfl, ⟨_, SqT.of hb2⟩, fun D2 hD2 => ?_⟩
          refine lc_mapD (S := No) walk_tup (by rw [List.length_map, List.length_map]; omega) hD2 (fun z => z) (fun m => .bool (decide (less.getD m 0 ∈ row))) (fun H6 k6 => SqT.of (k6.tu _ _ hb2)) (fun m x H6 H7 acc3 N2 hm2 k6 hacc3 hy6 hN2 => ?_) (fun acc3 H6 k6 hacc3 hr6 => ?_)
          · obtain ⟨rfl, hx⟩ := hy6
            rw [List.length_map, List.length_map] at hm2
            rw [List.getElem?_map, List.getElem?_map, getD_of hm2 0] at hx
            obtain rfl := Option.some.inj hx
            refine ⟨rfl, _, rfl, _, rfl, b, _, rfl, .inr (SqT.of ((k4.trans k6).tu _ _ hb)), rfl, flat_ints _, hN2 _ _ (Kp.refl _ _) ?_⟩
            show Tp H7 (.bl (inV _ _)) _
            rw [inV_lot]
            exact .bl _
          · rw [List.length_map, List.length_map, range_get less (fun a => PyData.bool (decide (a ∈ row))) 0] at hr6
            obtain rfl := hr6.bls_map _
            refine ⟨D2, _, rfl, SqL.of hacc3, hN _ _ k6 ?_⟩
            rw [List.all_map]
            exact .bl _
      · rw [hafl, range_get fnd (fun less => PyData.bool (less.all fun a => decide (a ∈ row))) []] at hr4
        obtain rfl := hr4.bls_map _
        refine ⟨D, _, rfl, SqL.of hacc2, ?_⟩
        rw [List.any_map]
        have kk4 : KN No H H4 := k3.trans k4.n
        refine ⟨_, rfl, wider fnd row, rfl, ?_⟩
        have hr4' := k4.at hr3
        have hT4 := tabs_mono k4 hT3
        have hl4 := k4.at hl3
        cases hwd : wider fnd row with
        | true =>
          refine ite2 (fun h => absurd h (by decide)) (fun _ => ite2 (fun h => absurd h (by decide)) (fun _ => ?_))
          have hstep : mendStep n ways offs fnd row = fnd := by
            unfold mendStep
            rw [hwd]
            rfl
          rw [hstep]
          exact ⟨kk4, hT4, hl4, hls3.mono k4.tu, _, _, _, _, acc, rfl, hr4', by omega, hacc.mono k4.tu⟩
        | false =>
          refine ite2 (fun _ => ?_) (fun h => absurd rfl h)
          have hco4 := hco.mono kk4
          obtain ⟨ca', dx', fs', vn, vw, e1, hca4, hlh, hlt2, hnmA, htb⟩ := id hco4
          cases e1
          refine ⟨_, rfl, ca, dx', fs', vn, names, rfl, hca4, hlh, hnmA, by omega, ?_⟩
          have ha4 := kk4.tu _ _ ha0
          have hall4 := hall0.mono kk4.tu
          have hb4 := k4.tu _ _ hb
          refine ⟨_, rfl, _, rfl, b, rfl, ⟨_, SqT.of hb4⟩, fun D3 hD3 => ?_⟩
          refine lc_mapD (S := No) walk_tup (by rw [List.length_map, List.length_map]; omega) hD3 (fun z => z) (fun j => offD names ((pickO offs row).getD j (.strike 0))) (fun H5 k5 => SqT.of (k5.tu _ _ hb4)) (fun j x H5 H6 acc2 N hj k5 hacc2 hy5 hN => ?_) (fun acc3 H5 k5 hacc3 hr5 => ?_)
          · obtain ⟨rfl, hx⟩ := hy5
            rw [List.length_map, List.length_map] at hj
            rw [List.getElem?_map, List.getElem?_map, getD_of hj 0] at hx
            obtain rfl := Option.some.inj hx
            have hmj := hlt _ (List.mem_of_getElem? (getD_of hj 0))
            obtain ⟨u, hu, tu⟩ := (hall4.mono k5.tu).get' (i := row.getD j 0) (d := offD names (offs.getD (row.getD j 0) (.strike 0))) (by rw [List.getElem?_map, getD_of hmj (.strike 0)]; rfl)
            have epk : (pickO offs row).getD j (.strike 0) = offs.getD (row.getD j 0) (.strike 0) := by
              unfold pickO pick
              rw [List.getD_eq_getElem?_getD, List.getElem?_map, getD_of hj 0]
              rfl
            rw [epk] at hN
            exact ⟨rfl, _, rfl, _, rfl, a, xs, _, u, rfl, rfl, SqT.of (k5.tu _ _ ha4), atI_nat hu, hN _ _ (Kp.refl _ _) tu⟩
          · have hpl : row.length = (pickO offs row).length := by unfold pickO pick; rw [List.length_map]
            rw [List.length_map, List.length_map, hpl, range_get (pickO offs row) (offD names) (.strike 0)] at hr5
            have hokp : ∀ o ∈ pickO offs row, OffOk n ways.length o := fun o ho => (hok o (pick_mem hlt ho)).1
            refine ⟨_, D3, n, acc3, names, ways, pickO offs row, rfl, hco4.mono k5.n, hnm, hnn, W, h1, hacc3, hr5, hokp, by rw [← hpl]; omega, fun v2 H6 k6 hv2 => ?_⟩
            have hW5 := chW_ok W hokp
            rw [hnn]
            refine ⟨v2, n, _, rfl, hv2, hW5, h1, fun bb H7 k7 hbb => ⟨bb, rfl, ?_⟩⟩
            rw [good_of hbb]
            have k47 : Kp No H4 H7 := (k5.trans k6).trans k7
            have kk7 : KN No H H7 := kk4.trans k47.n
            have hr7 := k47.at hr4'
            have hT7 := tabs_mono k47 hT4
            have hl7 := k47.at hl4
            have hls7 := (hls3.mono k4.tu).mono k47.tu
            have hacc7 := (hacc.mono k4.tu).mono k47.tu
            have hstep : mendStep n ways offs fnd row = if good n (chW ways (pickO offs row)) = true then fnd ++ [row] else fnd := by
              unfold mendStep
              rw [hwd]
              rfl
            rw [hstep]
            refine ite2 (fun h => ?_) (fun h => ?_)
            · rw [if_pos (show good n (chW ways (pickO offs row)) = true from h)]
              refine ⟨_, rfl, .inl ⟨rfl, _, SqL.of hr7⟩, _, rfl, r, acc, _, rfl, rfl, hr7, by omega, kk7.own_lst hfr hr7, tabs_lst hr7 hT7, by rw [upd_ne (fun z => hrl z.symm)]; exact hl7, hls7.mono (TK.upd_lst hr7), _, _, _, _, _, rfl, upd_same, by rw [List.length_append, List.length_singleton]; omega, ?_⟩
              rw [List.map_append]
              exact (hacc7.mono (TK.upd_lst hr7)).snoc (((hv.mono k4.tu).mono k47.tu).mono (TK.upd_lst hr7))
            · rw [if_neg (show ¬ good n (chW ways (pickO offs row)) = true from h)]
              exact ⟨kk7, hT7, hl7, hls7, _, _, _, _, acc, rfl, hr7, by omega, hacc7⟩
    · obtain ⟨k3, hT3, hl3, hls3, o3, o4, o5, o6, acc, rfl, hr3, hal, hacc⟩ := h
      rw [hlsl, List.take_length] at hacc
      exact ⟨_, rfl, r, acc, rfl, .inl ⟨SqL.of hr3, fun t ht => q _ _ (k3.trans (KN.new ht _)) (tabs_mono (Kp.new ht) hT3) (.tup upd_same (hacc.mono (TK.new ht)))⟩⟩
end
end AA

/-! ## T19 -/
set_option Elab.async false
set_option linter.all false
set_option maxRecDepth 100000
set_option maxHeartbeats 4000000
namespace AA
open PySem PySem.Spec PyProof.Rows L2 PySem.W
def cntOf (rows : List Lot) (k : Nat) : Nat := (rows.filter fun row => decide (k ∈ row)).length
def worstW (rows : List Lot) (k : Nat) : Nat := max (cntOf rows k) (rows.length - cntOf rows k)
/-- what is told of the doubts: the first whose worst case is the least -/
def Told (rows : List Lot) (m : Nat) (o : Option Nat) : Prop :=
  ((rows = [] ∨ rows.length = (setsOf m).length) ∧ o = none) ∨ (rows ≠ [] ∧ rows.length ≠ (setsOf m).length ∧ ∃ j, o = some j ∧ j < m ∧ (∀ k, k < m → worstW rows j ≤ worstW rows k) ∧ ∀ k, k < j → worstW rows j < worstW rows k)
theorem Told.uniq {rows : List Lot} {m : Nat} {o o' : Option Nat} (h : Told rows m o) (h' : Told rows m o') : o = o' := by
  rcases h with ⟨h1, rfl⟩ | ⟨h1, h2, j, rfl, hj, ha, hb⟩ <;> rcases h' with ⟨g1, rfl⟩ | ⟨g1, g2, j', rfl, gj, ga, gb⟩
  · rfl
  · exact absurd h1 (fun z => z.elim g1 g2)
  · exact absurd g1 (fun z => z.elim h1 h2)
  · have e : j = j' := by
      rcases Nat.lt_trichotomy j j' with h | h | h
      · have := gb j h
        have := ha j' gj
        omega
      · exact h
      · have := hb j' h
        have := ga j hj
        omega
    rw [e]
def optV : Option Nat → V
  | none => .non
  | some j => .int (j : Int)
theorem cnt_le (rows : List Lot) (k : Nat) : cntOf rows k ≤ rows.length := List.length_filter_le _ _
section
variable {P : Program} {w : World} {K : PySem.W.Frag} {mg : Str → Option Value} {base : Heap}
abbrev s_telling_doubt : Stmt := top 55
abbrev n_telling_doubt : List Str := ["council", "doubts", "rows", "worst", "at", "many", "row"]
theorem sc_telling_doubt : FnScope n_telling_doubt ["council", "doubts"] (defScope s_telling_doubt) := ⟨rfl, rfl, rfl, by decide +kernel, rfl, by decide +kernel, by decide +kernel⟩
def spTelling (C : Addr) (T : List (Addr × Str)) : Sp := fun vs H Q _ => ∃ (c v : V) (n : Nat) (names : List Str) (ways : List Rows) (ears : List Ear), vs = [c, v] ∧ CouncilAt C H c names ways ∧ NmOk names ∧ names.length = n ∧ 1 ≤ n ∧ WaysOk n ways ∧ Tp H v (.tuple (ears.map (earD names))) ∧ (∀ e ∈ ears, EarOk n ways.length e ∧ Free ways e) ∧ ears.Nodup ∧ ears.length ≤ 6 ∧ LamX.Tabs T H ∧
  ∀ o H', KN No H H' → LamX.Tabs T H' → Told (goodRows n ways ears) ears.length o → Q (optV o) H'
theorem fo_telling_doubt {f C : Addr} {T : List (Addr × Str)} {fd : FuncData} (F : DefIn K mg "telling_doubt" s_telling_doubt ["council", "doubts"] f fd) (B : Bt mg) (D_check_council : Def P w K mg base "check_council" 1 ["value"] (spCheckC C)) (D_check_doubts : Def P w K mg base "check_doubts" 4 ["council", "doubts"] (spCheckD C)) (D_good_rows : Def P w K mg base "good_rows" 6 ["council", "doubts"] (spGoodRows C T))
    (D_sets_of : Def P w K mg base "sets_of" 1 ["many"] (spSets T)) : FnOk P w K mg base CX0 7 f fd ["council", "doubts"] (spTelling C T) := by
  refine F.fn.ok sc_telling_doubt (fun vs H Q E h => ?_) (fun cdv A outer s H vs Q E hr h => ?_)
  · obtain ⟨c, v, _, _, _, _, rfl, _⟩ := h
    rfl
  · obtain ⟨c, v, n, names, ways, ears, rfl, hco, hnm, hnn, h1, W, hv, hok, nd, h6, hT, q⟩ := h
    refine ⟨_, (pss_cons (ps_expr (pe_def (D_check_council.mono (by decide)) hr (by rfl) (pa_cons (pv 0) pa_nil)))
      (pss_cons (ps_expr (pe_def (D_check_doubts.mono (by decide)) hr (by rfl) (pa_cons (pv 0) (pa_cons (pv 1) pa_nil))))
      (pss_cons (ps_set (i := 2) sc_telling_doubt.nd rfl (by first | exact Or.inl rfl | exact Or.inr rfl) (pe_def (D_good_rows.mono (by decide)) hr (by rfl) (pa_cons (pv 0) (pa_cons (pv 1) pa_nil))))
      (pss_cons (ps_if (PW.pt (pw_or (pt_cmpR (o_eqD K hr.units) (pv 2) (pe_lst pa_nil) (nomark _)) (pw_or1 (pt_cmpR op_eq (pe_callB (r_len K) (by rfl) B.len (by decide +kernel) (pa_cons (pv 2) pa_nil)) (pe_callB (r_len K) (by rfl) B.len (by decide +kernel) (pa_cons (pe_def (D_sets_of.mono (by decide)) hr (by rfl) (pa_cons (pe_callB (r_len K) (by rfl) B.len (by decide +kernel) (pa_cons (pv 1) pa_nil)) pa_nil)) pa_nil)) (nomark _)))))
      (pss_one (ps_ret pe_non))
      pss_nil)
      (pss_cons (ps_set (i := 3) sc_telling_doubt.nd rfl (by first | exact Or.inl rfl | exact Or.inr rfl) (pe_lst pa_nil))
      (pss_cons (ps_for PassesOwn.never rfl (pi_range1 rfl B.range (pa_cons (pe_callB (r_len K) (by rfl) B.len (by decide +kernel) (pa_cons (pv 1) pa_nil)) pa_nil)) (pg_name (i := 4) sc_telling_doubt.nd rfl (by first | exact Or.inl rfl | exact Or.inr rfl))
      (pss_cons (ps_set (i := 5) sc_telling_doubt.nd rfl (by first | exact Or.inl rfl | exact Or.inr rfl) (pe_callB (r_len K) (by rfl) B.len (by decide +kernel) (pa_cons (pe_lc rfl sc_telling_doubt.nd (pi_listK K (pv 2)) (blkOk_by (own := [("row", 6)]) (N := n_telling_doubt) (sc := defScope s_telling_doubt) (by decide +kernel)) (fun _ _ _ _ _ => (pg_name (i := 6) sc_telling_doubt.nd rfl (by first | exact Or.inl rfl | exact Or.inr rfl))) (fun _ _ _ _ _ => (pts_one (pt_cmpR (o_in K) (pv 4) (pv 6) (by rfl)))) (fun _ _ _ _ _ => (pv 6))) pa_nil)))
        (pss_one (ps_expr (pe_bm PySem.F.plainAttrs_list PySem.F.slot_list_append PySem.F.type_list_append mt_append (pv 3) (pa_cons (pe_callB (r_max2 hr.units) (by rfl) B.max (by decide +kernel) (pa_cons (pv 5) (pa_cons (pe_op op_sub (pe_callB (r_len K) (by rfl) B.len (by decide +kernel) (pa_cons (pv 2) pa_nil)) (pv 5)) pa_nil))) pa_nil))))))
      (pss_one (ps_ret (pe_bm PySem.F.plainAttrs_list PySem.F.slot_list_index PySem.F.type_list_index mt_index (pv 3) (pa_cons (pe_callB (r_min K) (by rfl) B.min (by decide +kernel) (pa_cons (pv 3) pa_nil)) pa_nil)))))))))), ?_⟩
    have hsz : (1000 : Nat) < sizeLine := by decide
    obtain ⟨ca, dx, fs, vn, vw, rfl, hca, _⟩ := id hco
    obtain ⟨a, xs, rfl, ha0, hall0⟩ := id hv.tuple
    have hxl : xs.length = ears.length := by rw [hall0.length, List.length_map]
    refine ⟨_, rfl, ca, dx, fs, rfl, hca, ?_⟩
    refine ⟨_, rfl, _, rfl, _, _, n, names, ways, ears, rfl, hco, hnm, hnn, W, hv, hok, nd, h6, fun H1 k1 => ?_⟩
    refine ⟨_, rfl, _, rfl, _, _, n, names, ways, ears, rfl, hco.mono k1.n, hnm, hnn, h1, W, hv.mono k1.tu, fun e he => (hok e he).1, h6, tabs_mono k1 hT, fun r ys H2 k2 hT2 _ hr2 hys => ?_⟩
    have kk2 : KN No H H2 := k1.n.trans k2
    have hgl : (goodRows n ways ears).length ≤ 64 := by
      unfold goodRows
      exact Nat.le_trans (List.length_filter_le _ _) (setsOf_few h6)
    have hgs : ∀ row ∈ goodRows n ways ears, row.length ≤ 6 := fun row hrow => by
      have := (lots_lt (setsOf_mem (List.mem_filter.mp hrow).1)).2
      omega
    have h0 : ears.length = 0 → goodRows n ways ears ≠ [] → (goodRows n ways ears).length = (setsOf ears.length).length := fun z hne => by
      have h1 : (goodRows n ways ears).length ≤ (setsOf ears.length).length := by
        unfold goodRows
        exact List.length_filter_le _ _
      have h2 : 0 < (goodRows n ways ears).length := List.length_pos_iff.mpr hne
      rw [setsOf_length, z] at h1 ⊢
      omega
    generalize goodRows n ways ears = rows at *
    have hyl : ys.length = rows.length := by rw [hys.length, List.length_map]
    refine ⟨_, rfl, (show 0 ≤ sizeLine by decide), fun p0 hp0 => ⟨.list (rows.map lotD), .list [], .lst (SqL.of ((Kp.new (S := No) hp0).at hr2)) ((hys.mono (TK.new hp0)).dp K), .lst (SqL.of upd_same) .nil, list_shaped lotD _ 2 (by decide) (fun p _ => ⟨lotD_lay p, lotD_depth p⟩), nil_shaped, _, rfl, ?_⟩⟩
    have kn : Kp No H2 (upd H2 p0 (.lst [])) := Kp.new hp0
    have kk3 : KN No H (upd H2 p0 (.lst [])) := kk2.trans kn.n
    have hT3 := tabs_mono kn hT2
    have hr3 := kn.at hr2
    have hys3 := hys.mono kn.tu
    generalize upd H2 p0 (.lst []) = H3 at *
    rw [eqv_nilL]
    refine ite2 (fun h => ?_) (fun h => ?_)
    · have hnil : rows = [] := by
        cases rows with
        | nil => rfl
        | cons x l => cases h
      exact ite2 (fun _ => q none H3 kk3 hT3 (.inl ⟨.inl hnil, rfl⟩)) (fun h => absurd rfl h)
    · have hne : rows ≠ [] := fun z => by subst z; exact h rfl
      refine ⟨_, rfl, r, ys, rfl, .inl (SqL.of hr3), ?_⟩
      refine ⟨_, rfl, a, xs, rfl, .inr (SqT.of (kk3.tu _ _ ha0)), ?_⟩
      rw [hxl]
      refine ⟨ears.length, rfl, h6, hT3, fun l ls H4 k4 hT4 hfl hl4 hls => ?_⟩
      have hlsl : ls.length = (setsOf ears.length).length := by rw [hls.length, List.length_map]
      have kk4 := kk3.trans k4
      have hr4 := k4.at lst_noTbl hr3
      have hys4 := hys3.mono k4.tu
      refine ⟨l, ls, rfl, .inl (SqL.of hl4), rfl, _, rfl, ?_⟩
      rw [hyl, hlsl]
      refine ite2 (fun h => ?_) (fun h => ?_)
      · have e : rows.length = (setsOf ears.length).length := Int.ofNat.inj (V.int.inj (of_decide_eq_true h))
        exact q none H4 kk4 hT4 (.inl ⟨.inr e, rfl⟩)
      · have hns : rows.length ≠ (setsOf ears.length).length := fun z => h (decide_eq_true (by rw [z]))
        have hpos : 0 < ears.length := by
          rcases Nat.eq_zero_or_pos ears.length with z | z
          · exact absurd (h0 z hne) hns
          · exact z
        refine ⟨(show 0 ≤ sizeLine by decide), fun wl hwl => ?_⟩
        have k5 : Kp No H4 (upd H4 wl (.lst [])) := Kp.new hwl
        have hw5 : upd H4 wl (.lst []) wl = some (.lst []) := upd_same
        have hrw : r ≠ wl := ne_of_none hr4 hwl
        generalize upd H4 wl (.lst []) = H5 at *
        have ha5 := (kk4.trans k5.n).tu _ _ ha0
        refine ⟨_, rfl, a, xs, rfl, .inr (SqT.of ha5), (xs.length : Int), rfl, by omega, by omega, ?_⟩
        rw [Int.toNat_natCast]
        refine for_it walk_range0 (fun i σ H6 => Kp No H4 H6 ∧ ∃ o4 o5 o6 : Option V, σ = [some (.ref ca), some (.ref a), some (.ref r), some (.ref wl), o4, o5, o6] ∧ H6 wl = some (.lst (((List.range i).map fun k => ((worstW rows k : Nat) : Int)).map V.int)))
          ⟨k5, _, _, _, rfl, hw5⟩ (fun _ _ _ _ _ => True.intro) (fun i x σ H6 H6' hi h hy => ?_) (fun σ H6 h => ?_)
        · obtain ⟨k6, o4, o5, o6, rfl, hw6⟩ := h
          obtain ⟨rfl, rfl⟩ := hy
          have hr6 := k6.at hr4
          have hys6 := hys4.mono k6.tu
          refine ⟨_, rfl, r, rfl, ⟨_, SqL.of hr6⟩, fun D hD => ?_⟩
          refine lc_filtD (S := No) walk_list (by omega) hD (fun z => z) (fun j => decide (i ∈ rows.getD j [])) (fun j => lotD (rows.getD j [])) (fun H7 k7 => SqL.of (k7.at hr6)) (fun j x H7 H8 acc N N0 hj k7 hacc hy7 hN hN0 => ?_) (fun acc H7 k7 hacc hr7 => ?_)
          · obtain ⟨rfl, hx⟩ := hy7
            have hj' : j < rows.length := by omega
            obtain ⟨d, hd, hvj⟩ := (hys6.mono k7.tu).get hx
            rw [List.getElem?_map, getD_of hj' []] at hd
            obtain rfl := Option.some.inj hd
            generalize rows.getD j [] = row at *
            obtain ⟨b, rfl, hb⟩ := lot_of hvj
            refine ⟨rfl, _, rfl, _, rfl, b, _, rfl, .inr (SqT.of hb), rfl, flat_ints _, _, rfl, ?_⟩
            show (if inV (.int (i : Int)) _ = true then _ else _)
            rw [inV_lot]
            exact ite2 (fun h => ⟨_, rfl, hN _ _ h (Kp.refl _ _) hvj⟩) (fun h => hN0 _ (Bool.eq_false_iff.mpr h) (Kp.refl _ _))
          · rw [hyl, range_filt rows (fun row => decide (i ∈ row)) lotD []] at hr7
            have hal : acc.length = cntOf rows i := by rw [hr7.length, List.length_map]; rfl
            have hw7 := k7.at hw6
            have hcl := cnt_le rows i
            refine ⟨D, acc, rfl, .inl (SqL.of hacc), ?_⟩
            rw [hal]
            refine ⟨_, rfl, .inl ⟨rfl, _, SqL.of hw7⟩, _, rfl, _, rfl, r, ys, rfl, .inl (SqL.of (k7.at hr6)), _, rfl, _, _, rfl, rfl, ?_⟩
            rw [hyl]
            have esub : ((rows.length : Nat) : Int) - ((cntOf rows i : Nat) : Int) = ((rows.length - cntOf rows i : Nat) : Int) := by omega
            refine ⟨_, _, .int ((cntOf rows i : Nat) : Int), .int ((rows.length - cntOf rows i : Nat) : Int), rfl, .int _, by show Tp H7 (.int (((rows.length : Nat) : Int) - ((cntOf rows i : Nat) : Int))) _; rw [esub]; exact .int _, alike_ints _ _, depthAll_ints2 _ _, ?_⟩
            refine ⟨wl, _, _, rfl, rfl, hw7, by rw [List.length_map, List.length_map, List.length_range]; omega, Kp.own (k6.trans k7) hwl hw7 (by intro xs z; cases z), _, _, _, rfl, ?_⟩
            rw [upd_same]
            have emax : (if dataLt (.int ((cntOf rows i : Nat) : Int)) (.int ((rows.length - cntOf rows i : Nat) : Int)) = true then V.int (((rows.length : Nat) : Int) - ((cntOf rows i : Nat) : Int)) else V.int ((cntOf rows i : Nat) : Int)) = V.int ((worstW rows i : Nat) : Int) := by
              rw [esub]
              exact pick_max _ _
            rw [emax, List.range_succ, List.map_append, List.map_append]
            rfl
        · obtain ⟨k6, o4, o5, o6, rfl, hw6⟩ := h
          rw [hxl] at hw6
          have hat : ∀ k, k < ears.length → (((List.range ears.length).map fun k => ((worstW rows k : Nat) : Int)))[k]? = some ((worstW rows k : Nat) : Int) := fun k hk => by rw [List.getElem?_map, List.getElem?_range hk]; rfl
          have hcl : ∀ k, worstW rows k ≤ 64 := fun k => by
            have := cnt_le rows k
            unfold worstW
            omega
          refine ⟨_, rfl, .inl ⟨rfl, _, SqL.of hw6⟩, _, rfl, wl, _, rfl, SqL.of hw6, by rw [List.length_map, List.length_range]; exact hpos, fun m hm hmin => ?_⟩
          -- the first place of the least
          obtain ⟨k0, hk0, hkm⟩ : ∃ k0, k0 < ears.length ∧ ((worstW rows k0 : Nat) : Int) = m := by
            obtain ⟨k0, hk0, e⟩ := List.mem_map.mp hm
            exact ⟨k0, List.mem_range.mp hk0, e⟩
          have hex : ∃ j, j < ears.length ∧ worstW rows j = worstW rows k0 ∧ ∀ k, k < j → worstW rows k ≠ worstW rows k0 := by
            clear hkm
            induction k0 using Nat.strongRecOn with
            | _ k0 ih =>
              by_cases hall : ∀ k, k < k0 → worstW rows k ≠ worstW rows k0
              · exact ⟨k0, hk0, rfl, hall⟩
              · have : ∃ k, k < k0 ∧ worstW rows k = worstW rows k0 := by
                  apply Classical.byContradiction
                  intro hn
                  exact hall fun k hk e => hn ⟨k, hk, e⟩
                obtain ⟨k, hk, e⟩ := this
                obtain ⟨j, hj1, hj2, hj3⟩ := ih k hk (by omega)
                exact ⟨j, hj1, by rw [hj2, e], by rw [← e]; exact hj3⟩
          obtain ⟨j, hj, hjm, hjf⟩ := hex
          refine ⟨wl, _, .int m, j, .int ((worstW rows j : Nat) : Int), rfl, rfl, SqL.of hw6, rfl, flat_ints _, by rw [List.getElem?_map, hat j hj]; rfl, by rw [hjm, hkm]; simp [eqV], fun k z hk hz => ?_, ?_⟩
          · rw [List.getElem?_map, hat k (by omega)] at hz
            obtain rfl := Option.some.inj hz
            have := hjf k hk
            have : ((worstW rows k : Nat) : Int) ≠ m := by rw [← hkm]; omega
            simpa [eqV] using this
          · refine q (some j) H6 (kk4.trans k6.n) (tabs_mono k6 hT4) (.inr ⟨hne, hns, j, rfl, hj, fun k hk => ?_, fun k hk => ?_⟩)
            · have := hmin _ (List.mem_map.mpr ⟨k, List.mem_range.mpr hk, rfl⟩)
              omega
            · have h2 := hmin _ (List.mem_map.mpr ⟨k, List.mem_range.mpr (by omega), rfl⟩)
              have h3 := hjf k hk
              omega
end
end AA

/-! ## T20 -/
set_option Elab.async false
set_option linter.all false
set_option maxRecDepth 100000
set_option maxHeartbeats 4000000
namespace AA
open PySem PySem.Spec PyProof.Rows L2 PySem.W
/-- a well: what it holds, and that it was dipped into at most n times -/
def Well (n : Nat) (H : Hp) (wl : Addr) : Prop := ∃ a b c : Int, H wl = some (.lst [.int a, .int b, .int c]) ∧ 0 ≤ a ∧ a < 2147483629 ∧ 0 ≤ c ∧ c ≤ (n : Int)
theorem Well.mono {n m : Nat} {H : Hp} {wl : Addr} (h : Well n H wl) (hn : n ≤ m) : Well m H wl := by
  obtain ⟨a, b, c, h1, h2, h3, h4, h5⟩ := h
  exact ⟨a, b, c, h1, h2, h3, h4, by omega⟩
theorem Well.k {n : Nat} {S : Addr → Prop} {H H' : Hp} {wl : Addr} (h : Well n H wl) (k : Kp S H H') (hs : ¬ S wl) : Well n H' wl := by
  obtain ⟨a, b, c, h1, h2⟩ := h
  exact ⟨a, b, c, k.kp _ _ hs h1, h2⟩
theorem Well.lst {n : Nat} {H : Hp} {wl : Addr} (h : Well n H wl) : ∃ xs, H wl = some (.lst xs) := by
  obtain ⟨a, b, c, h1, _⟩ := h
  exact ⟨_, h1⟩
theorem dip_digit {b : Int} {many : Nat} (h : 0 < many) : (b % (many : Int)).toNat < many ∧ b % (many : Int) = (((b % (many : Int)).toNat : Nat) : Int) := by
  have h1 : 0 ≤ b % (many : Int) := Int.emod_nonneg _ (by omega)
  have h2 : b % (many : Int) < (many : Int) := Int.emod_lt_of_pos _ (by omega)
  omega
theorem ite_join {c : Bool} {ta tb : TE} {σ : L2.St} {H : Hp} {Q : VK} (key : ∀ i : Int, Q (.int i) H) (h1 : c = true → (∀ i : Int, Q (.int i) H) → ta σ H Q) (h2 : ¬ c = true → (∀ i : Int, Q (.int i) H) → tb σ H Q) : if c = true then ta σ H Q else tb σ H Q := by
  by_cases h : c = true
  · rw [if_pos h]
    exact h1 h key
  · rw [if_neg h]
    exact h2 h key
theorem well_cut (ns : List Int) : cutV (ns.map V.int) none (some 4) = (ns.take 4).map V.int := by
  unfold cutV
  rw [List.map_take]
  show List.take _ (List.drop 0 _) = _
  rw [List.drop_zero, List.take_eq_take_iff]
  show min (min 4 _ - 0) _ = _
  omega
section
variable {P : Program} {w : World} {K : PySem.W.Frag} {mg : Str → Option Value} {base : Heap}
abbrev s__law_well : Stmt := top 57
abbrev n__law_well : List Str := ["_law_script", "_law_k", "_law_cell", "_law_mixed", "_law_each"]
theorem sc__law_well : FnScope n__law_well ["_law_script", "_law_k"] (defScope s__law_well) := ⟨rfl, rfl, rfl, by decide +kernel, rfl, by decide +kernel, by decide +kernel⟩
def spWell : Sp := fun vs H Q _ => ∃ (l : Addr) (ns : List Int) (k : Nat), vs = [.ref l, .int (k : Int)] ∧ SqL K H l (ns.map V.int) ∧ ns.length < 1000 ∧ k < 1000 ∧ ∀ wl H', H wl = none → Kp No H H' → Well 0 H' wl → Q (.ref wl) H'
theorem ok__law_well {f : Addr} {fd : FuncData} (F : DefIn K mg "_law_well" s__law_well ["_law_script", "_law_k"] f fd) (B : Bt mg) :
    Def P w K mg base "_law_well" 1 ["_law_script", "_law_k"] (spWell (K := K)) := by
  refine F.ok sc__law_well (fun vs H Q E h => ?_) (fun cdv A outer s H vs Q E hr h => ?_)
  · obtain ⟨l, ns, k, rfl, _⟩ := h
    rfl
  · obtain ⟨l, ns, k, rfl, hl, hn, hk, q⟩ := h
    refine ⟨_, (pss_cons (ps_set (i := 2) sc__law_well.nd rfl (by first | exact Or.inl rfl | exact Or.inr rfl) (pe_ifExp (pt_cmpR op_lt (pv 1) (pe_callB (r_len K) (by rfl) B.len (by decide +kernel) (pa_cons (pv 0) pa_nil)) (nomark _)) (pe_ix (x_list K) (pv 0) (pv 1) (fun _ _ => rfl)) pe_int))
      (pss_cons (ps_set (i := 3) sc__law_well.nd rfl (by first | exact Or.inl rfl | exact Or.inr rfl) (pe_op op_add pe_int (pe_op op_mul pe_int (pv 1))))
      (pss_cons (ps_for PassesOwn.never rfl (pi_listK K (pe_slice (s_list K) (pv 0) po_none (po_some pe_int))) (pg_name (i := 4) sc__law_well.nd rfl (by first | exact Or.inl rfl | exact Or.inr rfl))
      (pss_one (ps_set (i := 3) sc__law_well.nd rfl (by first | exact Or.inl rfl | exact Or.inr rfl) (pe_op op_mod (pe_callTy call_int1 (by rfl) B.int (by decide +kernel) (pa_cons (pe_op op_add (pe_op op_add (pe_op op_mul (pv 3) pe_int) (pe_op op_mod (pe_callTy call_int1 (by rfl) B.int (by decide +kernel) (pa_cons (pv 4) pa_nil)) pe_int)) pe_int) pa_nil)) pe_int))))
      (pss_cons (ps_set (i := 3) sc__law_well.nd rfl (by first | exact Or.inl rfl | exact Or.inr rfl) (pe_op op_mod (pe_callTy call_int1 (by rfl) B.int (by decide +kernel) (pa_cons (pe_op op_add (pe_op op_add (pe_op op_mul (pv 3) pe_int) (pe_op op_mod (pe_callTy call_int1 (by rfl) B.int (by decide +kernel) (pa_cons (pv 2) pa_nil)) pe_int)) pe_int) pa_nil)) pe_int))
      (pss_one (ps_ret (pe_lst (pa_cons (pv 3) (pa_cons (pe_ifExp (pt_cmpR op_ge (pe_callB call_abs (by rfl) B.abs (by decide +kernel) (pa_cons (pv 2) pa_nil)) (pe_op op_pow pe_int pe_int) (nomark _)) (pe_callB call_abs (by rfl) B.abs (by decide +kernel) (pa_cons (pv 2) pa_nil)) pe_int) (pa_cons pe_int pa_nil)))))))))), ?_⟩
    have hsz : (2000 : Nat) < sizeLine := by decide
    have hxl : (ns.map V.int).length = ns.length := List.length_map ..
    refine ⟨_, rfl, _, rfl, l, _, rfl, .inl hl, _, _, rfl, rfl, _, rfl, ?_⟩
    refine ite_join (fun c => ?_) (fun h key => ?_) (fun h key => key 0)
    · refine ⟨_, rfl, _, _, rfl, rfl, .inl ⟨by decide, by decide⟩, _, _, rfl, rfl, ?_⟩
      refine ⟨_, rfl, 4, rfl, l, _, rfl, hl, fun p hp => ?_⟩
      have k1 : Kp No H (upd H p (.lst (cutV (ns.map V.int) none (some 4)))) := Kp.new hp
      have hp1 : upd H p (.lst (cutV (ns.map V.int) none (some 4))) p = some (.lst (cutV (ns.map V.int) none (some 4))) := upd_same
      generalize upd H p (.lst (cutV (ns.map V.int) none (some 4))) = H1 at *
      rw [well_cut] at hp1
      refine ⟨p, rfl, ⟨_, SqL.of hp1⟩, ?_⟩
      refine for_it walk_list (fun i σ H2 => H2 = H1 ∧ ∃ (m : Int) (o4 : Option V), σ = [some (.ref l), some (.int (k : Int)), some (.int c), some (.int m), o4] ∧ 0 ≤ m ∧ m < 4294967296)
        ⟨rfl, _, _, rfl, by omega, by omega⟩ (fun i σ H2 _ h => by rw [h.1]; exact SqL.of hp1) (fun i x σ H2 H2' hi h hy => ?_) (fun σ H2 h => ?_)
      · obtain ⟨rfl, m, o4, rfl, hm0, hm1⟩ := h
        obtain ⟨rfl, hx⟩ := hy
        rw [List.getElem?_map] at hx
        obtain ⟨z, rfl⟩ : ∃ z : Int, x = .int z := by
          cases hz : (ns.take 4)[i]? with
          | none => rw [hz] at hx; cases hx
          | some z => rw [hz] at hx; exact ⟨z, (Option.some.inj hx).symm⟩
        refine ⟨_, rfl, _, _, rfl, rfl, .inr ⟨by decide, by decide⟩, _, rfl, .inl ⟨_, rfl, _, _, rfl, rfl, (show (0 : Int) < 2147483587 by decide), _, _, rfl, rfl, _, _, rfl, rfl, .inl ⟨_, rfl, _, _, rfl, rfl, (show (0 : Int) < 2147483629 by decide), ?_⟩⟩⟩
        exact ⟨rfl, _, _, rfl, Int.emod_nonneg _ (by decide), Int.lt_trans (Int.emod_lt_of_pos _ (by decide)) (by decide)⟩
      · obtain ⟨rfl, m, o4, rfl, hm0, hm1⟩ := h
        refine ⟨_, rfl, _, _, rfl, rfl, .inr ⟨by decide, by decide⟩, _, rfl, .inl ⟨_, rfl, _, _, rfl, rfl, (show (0 : Int) < 2147483579 by decide), _, _, rfl, rfl, _, _, rfl, rfl, .inl ⟨_, rfl, _, _, rfl, rfl, (show (0 : Int) < 2147483629 by decide), ?_⟩⟩⟩
        refine ⟨_, rfl, _, rfl, _, rfl, _, _, rfl, rfl, ⟨by decide, by decide, by decide⟩, _, _, rfl, rfl, _, rfl, ?_⟩
        have fin : ∀ b : Int, ∀ x : Int, (3 : Nat) ≤ sizeLine ∧ ∀ p', H2 p' = none → Q (.ref p') (upd H2 p' (.lst [.int (x % 2147483629), .int b, .int 0])) := fun b x => by
          refine ⟨by omega, fun p' hp' => q _ _ (k1.fr _ hp') (k1.trans (Kp.new hp')) ⟨_, b, 0, upd_same, Int.emod_nonneg _ (by decide), Int.emod_lt_of_pos _ (by decide), by decide, by decide⟩⟩
        exact ite_join (fun b => fin b _) (fun h key => ⟨_, rfl, _, rfl, key _⟩) (fun h key => key 0)
    · have hlt : k < ns.length := by
        have := of_decide_eq_true h
        rw [hxl] at this
        omega
      exact ⟨_, rfl, _, rfl, l, _, (k : Int), .int (ns.getD k 0), rfl, rfl, hl, atI_nat (by rw [List.getElem?_map, getD_of hlt 0]; rfl), key _⟩
abbrev s__law_dip : Stmt := top 58
abbrev n__law_dip : List Str := ["_law_well_here", "_law_many", "_law_digit"]
theorem sc__law_dip : FnScope n__law_dip ["_law_well_here", "_law_many"] (defScope s__law_dip) := ⟨rfl, rfl, rfl, by decide +kernel, rfl, by decide +kernel, by decide +kernel⟩
def spDip : Sp := fun vs H Q _ => ∃ (wl : Addr) (n many : Nat), vs = [.ref wl, .int (many : Int)] ∧ Well n H wl ∧ n < 1000000000 ∧ 0 < many ∧ many ≤ 1000000000 ∧ ∀ (d : Nat) H', d < many → Kp (At wl) H H' → Well (n + 1) H' wl → Q (.int (d : Int)) H'
theorem ok__law_dip {f : Addr} {fd : FuncData} (F : DefIn K mg "_law_dip" s__law_dip ["_law_well_here", "_law_many"] f fd) (B : Bt mg) :
    Def P w K mg base "_law_dip" 1 ["_law_well_here", "_law_many"] spDip := by
  refine F.ok sc__law_dip (fun vs H Q E h => ?_) (fun cdv A outer s H vs Q E hr h => ?_)
  · obtain ⟨wl, n, many, rfl, _⟩ := h
    rfl
  · obtain ⟨wl, n, many, rfl, hw, hn, hm0, hm, q⟩ := h
    refine ⟨_, (pss_cons (ps_if (pt_cmpR op_gt (pe_ix (x_list K) (pv 0) pe_int (fun _ _ => rfl)) pe_int (nomark _))
      (pss_cons (ps_asg (pe_callB call_divmod (by rfl) B.divmod (by decide +kernel) (pa_cons (pe_ix (x_list K) (pv 0) pe_int (fun _ _ => rfl)) (pa_cons (pv 1) pa_nil))) (pg_tupK K 2 (pgs_cons (pg_sub (pv 0) pe_int set_list) (pgs_cons (pg_name (i := 2) sc__law_dip.nd rfl (by first | exact Or.inl rfl | exact Or.inr rfl)) pgs_nil))))
        (pss_one (ps_ret (pv 2))))
      pss_nil)
      (pss_cons (ps_asg (pe_op op_add (pe_ix (x_list K) (pv 0) pe_int (fun _ _ => rfl)) pe_int) (pg_sub (pv 0) pe_int set_list))
      (pss_cons (ps_asg (pe_op op_mod (pe_callTy call_int1 (by rfl) B.int (by decide +kernel) (pa_cons (pe_op op_add (pe_op op_add (pe_op op_mul (pe_ix (x_list K) (pv 0) pe_int (fun _ _ => rfl)) pe_int) (pe_op op_mul (pe_op op_mul pe_int (pe_ix (x_list K) (pv 0) pe_int (fun _ _ => rfl))) (pe_ix (x_list K) (pv 0) pe_int (fun _ _ => rfl)))) pe_int) pa_nil)) pe_int) (pg_sub (pv 0) pe_int set_list))
      (pss_one (ps_ret (pe_op op_mod (pe_callTy call_int1 (by rfl) B.int (by decide +kernel) (pa_cons (pe_op op_fdiv (pe_ix (x_list K) (pv 0) pe_int (fun _ _ => rfl)) pe_int) pa_nil)) (pv 1))))))), ?_⟩
    obtain ⟨a, b, c, hw, ha0, ha1, hc0, hc1⟩ := hw
    refine ⟨_, rfl, wl, _, 1, .int b, rfl, rfl, SqL.of hw, rfl, _, _, rfl, rfl, _, rfl, ?_⟩
    refine ite2 (fun h => ?_) (fun h => ?_)
    · have hb : 0 < b := of_decide_eq_true h
      refine ⟨_, rfl, wl, _, 1, .int b, rfl, rfl, SqL.of hw, rfl, _, rfl, _, _, rfl, ⟨by omega, by omega⟩, fun p hp => ?_⟩
      have hpw : wl ≠ p := ne_of_none hw hp
      refine ⟨p, _, rfl, SqT.of upd_same, rfl, _, _, rfl, _, rfl, wl, _, 1, 1, rfl, rfl, (upd_ne hpw).trans hw, rfl, _, _, rfl, rfl, ?_⟩
      obtain ⟨hd1, hd2⟩ := dip_digit (b := b) hm0
      refine ⟨_, rfl, ?_⟩
      show Q (.int (b % (many : Int))) _
      rw [hd2]
      refine q _ _ hd1 ((Kp.new hp).trans (Kp.put rfl (by rw [upd_ne hpw]; exact hw) (by intro xs z; cases z))) ⟨a, b / many, c, upd_same, ha0, ha1, hc0, by omega⟩
    · refine ⟨_, rfl, wl, _, 2, .int c, rfl, rfl, SqL.of hw, rfl, _, _, rfl, rfl, _, rfl, wl, _, 2, 2, rfl, rfl, hw, rfl, ?_⟩
      have k3 : Kp (At wl) H (upd H wl (HO.lst [V.int a, V.int b, V.int (c + 1)])) := Kp.put rfl hw (by intro xs z; cases z)
      have h3 : upd H wl (HO.lst [V.int a, V.int b, V.int (c + 1)]) wl = some (.lst [V.int a, V.int b, V.int (c + 1)]) := upd_same
      change tSeq _ _ _ _ (upd H wl (HO.lst [V.int a, V.int b, V.int (c + 1)]))
      generalize upd H wl (HO.lst [V.int a, V.int b, V.int (c + 1)]) = H3 at *
      refine ⟨_, rfl, wl, _, 0, .int a, rfl, rfl, SqL.of h3, rfl, _, _, rfl, rfl, .inr ⟨by decide, by decide⟩, ?_⟩
      refine ⟨_, rfl, wl, _, 2, .int (c + 1), rfl, rfl, SqL.of h3, rfl, _, _, rfl, rfl, .inl ⟨by decide, by decide⟩, ?_⟩
      refine ⟨_, rfl, wl, _, 2, .int (c + 1), rfl, rfl, SqL.of h3, rfl, _, _, rfl, rfl, .inr ⟨by omega, by omega⟩, ?_⟩
      refine ⟨_, _, rfl, rfl, _, _, rfl, rfl, .inl ⟨_, rfl, _, _, rfl, rfl, (show (0 : Int) < 2147483629 by decide), ?_⟩⟩
      refine ⟨_, rfl, wl, _, 0, 0, rfl, rfl, h3, rfl, ?_⟩
      have hx0 : 0 ≤ (a * 39373 + 7 * (c + 1) * (c + 1) + 101) % 2147483629 := Int.emod_nonneg _ (by decide)
      have hx1 : (a * 39373 + 7 * (c + 1) * (c + 1) + 101) % 2147483629 < 2147483629 := Int.emod_lt_of_pos _ (by decide)
      obtain ⟨x, hx⟩ : ∃ x, x = (a * 39373 + 7 * (c + 1) * (c + 1) + 101) % 2147483629 := ⟨_, rfl⟩
      rw [← hx] at hx0 hx1
      have k4 : Kp (At wl) H3 (upd H3 wl (HO.lst [V.int x, V.int b, V.int (c + 1)])) := Kp.put rfl h3 (by intro xs z; cases z)
      have h4 : upd H3 wl (HO.lst [V.int x, V.int b, V.int (c + 1)]) wl = some (.lst [V.int x, V.int b, V.int (c + 1)]) := upd_same
      rw [show ([V.int a, V.int b, V.int (c + 1)].set 0 ((fun i j => V.int (i % j)) (a * 39373 + 7 * (c + 1) * (c + 1) + 101) 2147483629)) = [V.int x, V.int b, V.int (c + 1)] by rw [hx]; rfl]
      generalize upd H3 wl (HO.lst [V.int x, V.int b, V.int (c + 1)]) = H4 at *
      refine ⟨_, rfl, wl, _, 0, .int x, rfl, rfl, SqL.of h4, rfl, _, _, rfl, rfl, ⟨by decide, by decide⟩, .inl ⟨_, rfl, _, rfl, _, _, rfl, rfl, (show (0 : Int) < (many : Int) by omega), ?_⟩⟩
      obtain ⟨hd1, hd2⟩ := dip_digit (b := x / 64) hm0
      show Q (.int (x / 64 % (many : Int))) H4
      rw [hd2]
      exact q _ _ hd1 (k3.trans k4) ⟨x, b, c + 1, h4, hx0, hx1, by omega, by omega⟩
abbrev s__law_weight : Stmt := top 59
abbrev n__law_weight : List Str := ["_law_well_here"]
theorem sc__law_weight : FnScope n__law_weight ["_law_well_here"] (defScope s__law_weight) := ⟨rfl, rfl, rfl, by decide +kernel, rfl, by decide +kernel, by decide +kernel⟩
def spWeight : Sp := fun vs H Q _ => ∃ (wl : Addr) (n : Nat), vs = [.ref wl] ∧ Well n H wl ∧ n + 5 ≤ 1000000000 ∧ ∀ (x : Int) H', 1 ≤ x → x ≤ 1000000000 → Kp (At wl) H H' → Well (n + 5) H' wl → Q (.int x) H'
theorem ok__law_weight {f : Addr} {fd : FuncData} (F : DefIn K mg "_law_weight" s__law_weight ["_law_well_here"] f fd) (B : Bt mg) (D__law_dip : Def P w K mg base "_law_dip" 1 ["_law_well_here", "_law_many"] spDip) :
    Def P w K mg base "_law_weight" 2 ["_law_well_here"] spWeight := by
  refine F.ok sc__law_weight (fun vs H Q E h => ?_) (fun cdv A outer s H vs Q E hr h => ?_)
  · obtain ⟨wl, n, rfl, _⟩ := h
    rfl
  · obtain ⟨wl, n, rfl, hw, hn, q⟩ := h
    refine ⟨_, (pss_one (ps_ret (pe_op op_add pe_int (pe_ix (x_list K) (pe_lst (pa_cons (pe_def (D__law_dip.mono (by decide)) hr (by rfl) (pa_cons (pv 0) (pa_cons pe_int pa_nil))) (pa_cons (pe_def (D__law_dip.mono (by decide)) hr (by rfl) (pa_cons (pv 0) (pa_cons pe_int pa_nil))) (pa_cons (pe_def (D__law_dip.mono (by decide)) hr (by rfl) (pa_cons (pv 0) (pa_cons pe_int pa_nil))) (pa_cons (pe_def (D__law_dip.mono (by decide)) hr (by rfl) (pa_cons (pv 0) (pa_cons (pe_op op_pow pe_int pe_int) pa_nil))) pa_nil))))) (pe_def (D__law_dip.mono (by decide)) hr (by rfl) (pa_cons (pv 0) (pa_cons pe_int pa_nil))) (fun _ _ => rfl))))), ?_⟩
    have hsz : (2000 : Nat) < sizeLine := by decide
    refine ⟨_, rfl, wl, n, 3, rfl, hw, by omega, by decide, by decide, fun d1 H1 hd1 k1 hw1 => ?_⟩
    refine ⟨_, rfl, wl, n + 1, 3, rfl, hw1, by omega, by decide, by decide, fun d2 H2 hd2 k2 hw2 => ?_⟩
    refine ⟨_, rfl, wl, n + 2, 99, rfl, hw2, by omega, by decide, by decide, fun d3 H3 hd3 k3 hw3 => ?_⟩
    refine ⟨_, rfl, _, _, rfl, rfl, ⟨by decide, by decide, by decide⟩, wl, n + 3, 1000000000, rfl, hw3, by omega, by decide, by decide, fun d4 H4 hd4 k4 hw4 => ?_⟩
    refine ⟨(show 4 ≤ sizeLine by omega), fun p hp => ?_⟩
    have k5 : Kp (At wl) H4 (upd H4 p (.lst [.int (d1 : Int), .int (d2 : Int), .int (d3 : Int), .int (d4 : Int)])) := Kp.new hp
    have hp5 : upd H4 p (.lst [.int (d1 : Int), .int (d2 : Int), .int (d3 : Int), .int (d4 : Int)]) p = some (.lst [.int (d1 : Int), .int (d2 : Int), .int (d3 : Int), .int (d4 : Int)]) := upd_same
    have hpw : p ≠ wl := fun z => by
      obtain ⟨xs, h⟩ := hw4.lst
      rw [z, h] at hp
      cases hp
    have hw5 : Well (n + 4) (upd H4 p (.lst [.int (d1 : Int), .int (d2 : Int), .int (d3 : Int), .int (d4 : Int)])) wl := by
      obtain ⟨a, b, c, h, h'⟩ := hw4
      exact ⟨a, b, c, (upd_ne (fun z => hpw z.symm)).trans h, h'⟩
    generalize upd H4 p (.lst [.int (d1 : Int), .int (d2 : Int), .int (d3 : Int), .int (d4 : Int)]) = H5 at *
    refine ⟨_, rfl, wl, n + 4, 4, rfl, hw5, by omega, by decide, by decide, fun d5 H6 hd5 k6 hw6 => ?_⟩
    have hp6 := k6.kp _ _ hpw hp5
    have kk := ((((k1.trans k2).trans k3).trans k4).trans k5).trans k6
    have fin : ∀ d : Nat, d < 1000000000 → Q (.int (1 + (d : Int))) H6 := fun d hd => q _ _ (by omega) (by omega) kk hw6
    match d5, hd5 with
    | 0, _ => exact ⟨p, _, 0, .int (d1 : Int), rfl, rfl, SqL.of hp6, rfl, _, _, rfl, rfl, fin _ (by omega)⟩
    | 1, _ => exact ⟨p, _, 1, .int (d2 : Int), rfl, rfl, SqL.of hp6, rfl, _, _, rfl, rfl, fin _ (by omega)⟩
    | 2, _ => exact ⟨p, _, 2, .int (d3 : Int), rfl, rfl, SqL.of hp6, rfl, _, _, rfl, rfl, fin _ (by omega)⟩
    | 3, _ => exact ⟨p, _, 3, .int (d4 : Int), rfl, rfl, SqL.of hp6, rfl, _, _, rfl, rfl, fin _ (by omega)⟩
abbrev s__law_row : Stmt := top 60
abbrev n__law_row : List Str := ["_law_well_here", "_law_tally", "_law_at", "_law_found", "_law_turn", "_law_k"]
theorem sc__law_row : FnScope n__law_row ["_law_well_here", "_law_tally", "_law_at"] (defScope s__law_row) := ⟨rfl, rfl, rfl, by decide +kernel, rfl, by decide +kernel, by decide +kernel⟩
def Rw (row : List Int) : Prop := ∀ x ∈ row, 0 ≤ x ∧ x ≤ 1000000000
theorem Rw.sum {row : List Int} (h : Rw row) : 0 ≤ row.sum ∧ ∀ x ∈ row, x ≤ row.sum := by
  induction row with
  | nil => exact ⟨by decide, fun x hx => nomatch hx⟩
  | cons y l ih =>
    obtain ⟨h1, h2⟩ := ih fun x hx => h x (List.mem_cons_of_mem _ hx)
    have hy := h y List.mem_cons_self
    rw [List.sum_cons]
    refine ⟨by omega, fun x hx => ?_⟩
    rcases List.mem_cons.mp hx with rfl | hx
    · omega
    · have := h2 x hx
      omega
theorem rowOk_of {row : List Int} {x : Int} (h : Rw row) (hx : x ∈ row) (h0 : 0 < x) : RowOk row :=
  ⟨fun y hy => (h y hy).1, fun y hy => (h y hy).2, Int.lt_of_lt_of_le h0 (h.sum.2 x hx)⟩
theorem Rw.set {row : List Int} {x : Int} (h : Rw row) (i : Nat) (h0 : 0 ≤ x) (h1 : x ≤ 1000000000) : Rw (row.set i x) := fun y hy => by
  rcases List.mem_or_eq_of_mem_set hy with h' | rfl
  · exact h y h'
  · exact ⟨h0, h1⟩
theorem rowOk_set {row : List Int} {x : Int} {i : Nat} (h : Rw row) (hi : i < row.length) (h0 : 1 ≤ x) (h1 : x ≤ 1000000000) : RowOk (row.set i x) :=
  rowOk_of (h.set i (by omega) h1) (List.mem_iff_getElem?.mpr ⟨i, by rw [List.getElem?_set_self hi]⟩) (show 0 < x by omega)
theorem RowOk.rw {row : List Int} (h : RowOk row) : Rw row := fun x hx => ⟨h.lo x hx, h.hi x hx⟩
def spLRow : Sp := fun vs H Q _ => ∃ (wl : Addr) (n tally a : Nat), vs = [.ref wl, .int (tally : Int), .int (a : Int)] ∧ Well n H wl ∧ n + 19 ≤ 1000000000 ∧ a < tally ∧ tally ≤ 6 ∧ ∀ r row H', H r = none → Kp (At wl) H H' → Well (n + 19) H' wl → H' r = some (.lst (row.map V.int)) → row.length = tally → RowOk row → Q (.ref r) H'
theorem ok__law_row {f : Addr} {fd : FuncData} (F : DefIn K mg "_law_row" s__law_row ["_law_well_here", "_law_tally", "_law_at"] f fd) (B : Bt mg) (D__law_dip : Def P w K mg base "_law_dip" 1 ["_law_well_here", "_law_many"] spDip) (D__law_weight : Def P w K mg base "_law_weight" 2 ["_law_well_here"] spWeight) :
    Def P w K mg base "_law_row" 3 ["_law_well_here", "_law_tally", "_law_at"] spLRow := by
  refine F.ok sc__law_row (fun vs H Q E h => ?_) (fun cdv A outer s H vs Q E hr h => ?_)
  · obtain ⟨wl, n, tally, a, rfl, _⟩ := h
    rfl
  · obtain ⟨wl, n, tally, a, rfl, hw, hn, ha, ht, q⟩ := h
    refine ⟨_, (pss_cons (ps_setLc (i := 3) rfl sc__law_row.nd rfl rfl (sw_true rfl rfl rfl (by decide +kernel)) (pi_range1 rfl B.range (pa_cons (pv 1) pa_nil)) (blkOk_by (own := [("_law_k", 5)]) (N := n__law_row) (sc := defScope s__law_row) (by decide +kernel)) (fun _ _ _ _ _ => (pg_name (i := 5) sc__law_row.nd rfl (by first | exact Or.inl rfl | exact Or.inr rfl))) (fun _ _ _ _ _ => pts_nil) (fun _ _ _ _ _ => pe_int))
      (pss_cons (ps_for PassesOwn.never rfl (pi_range1 rfl B.range (pa_cons (pe_op op_add pe_int (pe_def (D__law_dip.mono (by decide)) hr (by rfl) (pa_cons (pv 0) (pa_cons pe_int pa_nil)))) pa_nil)) (pg_name (i := 4) sc__law_row.nd rfl (by first | exact Or.inl rfl | exact Or.inr rfl))
      (pss_one (ps_asg (pe_def (D__law_weight.mono (by decide)) hr (by rfl) (pa_cons (pv 0) pa_nil)) (pg_sub (pv 3) (pe_def (D__law_dip.mono (by decide)) hr (by rfl) (pa_cons (pv 0) (pa_cons (pv 1) pa_nil))) set_list))))
      (pss_cons (ps_if (pt_cmpR op_gt (pe_def (D__law_dip.mono (by decide)) hr (by rfl) (pa_cons (pv 0) (pa_cons pe_int pa_nil))) pe_int (nomark _))
      (pss_one (ps_asg (pe_def (D__law_weight.mono (by decide)) hr (by rfl) (pa_cons (pv 0) pa_nil)) (pg_sub (pv 3) (pv 2) set_list)))
      pss_nil)
      (pss_one (ps_ret (pv 3)))))), ?_⟩
    have hsz : (2000 : Nat) < sizeLine := by decide
    refine ⟨_, rfl, (tally : Int), rfl, by omega, by omega, fun r hr => ?_⟩
    rw [Int.toNat_natCast]
    refine lc_mapD (S := No) walk_range0 (by omega) hr (fun z => z) (fun _ => .int 0) (fun _ _ => True.intro) (fun i x H1 H2 acc N hi k1 hacc hy hN => ?_) (fun acc H1 k1 hacc hr1 => ?_)
    · obtain ⟨rfl, rfl⟩ := hy
      exact ⟨rfl, hN _ _ (Kp.refl _ _) (.int _)⟩
    · obtain rfl := TpAll.ints_map (fun _ => 0) hr1
      have hrw : r ≠ wl := fun z => by
        obtain ⟨xs, h⟩ := hw.lst
        rw [z, h] at hr
        cases hr
      have hw1 := hw.k k1 (fun z => z)
      refine ⟨_, rfl, wl, n, 2, rfl, hw1, by omega, by decide, by decide, fun d1 H2 hd1 k2 hw2 => ?_⟩
      have hr2 := k2.kp _ _ hrw hacc
      have kk2 := (k1.no (S := At wl)).trans k2
      refine ⟨_, _, rfl, rfl, (1 + (d1 : Int)), rfl, by omega, by omega, ?_⟩
      rw [show (1 + (d1 : Int)).toNat = 1 + d1 by omega]
      refine for_it walk_range0 (fun i σ H3 => Kp (At wl) H H3 ∧ Well (n + 1 + 6 * i) H3 wl ∧ ∃ (row : List Int) (o4 : Option V), σ = [some (.ref wl), some (.int (tally : Int)), some (.int (a : Int)), some (.ref r), o4, none] ∧ H3 r = some (.lst (row.map V.int)) ∧ row.length = tally ∧ Rw row ∧ (0 < i → RowOk row))
        ⟨kk2, hw2, _, _, rfl, hr2, by rw [List.length_map, List.length_range], fun x hx => by
          obtain ⟨_, _, rfl⟩ := List.mem_map.mp hx
          exact ⟨by decide, by decide⟩, fun z => absurd z (by decide)⟩ (fun _ _ _ _ _ => True.intro) (fun i x σ H3 H3' hi h hy => ?_) (fun σ H3 h => ?_)
      · obtain ⟨k3, hw3, row, o4, rfl, hr3, hrl, hrr, _⟩ := h
        obtain ⟨rfl, rfl⟩ := hy
        refine ⟨_, rfl, wl, _, rfl, hw3, by omega, fun x H4 hx0 hx1 k4 hw4 => ?_⟩
        refine ⟨_, rfl, _, rfl, _, rfl, wl, _, tally, rfl, hw4, by omega, by omega, by omega, fun d H5 hd k5 hw5 => ?_⟩
        have hr5 := (k4.trans k5).kp _ _ hrw hr3
        refine ⟨r, _, (d : Int), d, rfl, rfl, hr5, ixN_at (by rw [List.length_map, hrl]; exact hd), ?_⟩
        rw [← List.map_set]
        have k6 : Kp (At wl) H (upd H5 r (.lst ((row.set d x).map V.int))) := Kp.own (k3.trans (k4.trans k5)) hr hr5 (by intro xs z; cases z)
        have ok := rowOk_set (i := d) hrr (by rw [hrl]; exact hd) hx0 hx1
        have hw6 : Well (n + 1 + 6 * (i + 1)) (upd H5 r (.lst ((row.set d x).map V.int))) wl := by
          obtain ⟨a, b, c, h, h1, h2, h3, h4⟩ := hw5
          exact ⟨a, b, c, (upd_ne (fun z => hrw z.symm)).trans h, h1, h2, h3, by omega⟩
        exact ⟨k6, hw6, _, _, rfl, upd_same, by rw [List.length_set]; exact hrl, ok.rw, fun _ => ok⟩
      · obtain ⟨k3, hw3, row, o4, rfl, hr3, hrl, _, hro⟩ := h
        have hro := hro (by omega)
        refine ⟨_, rfl, wl, _, 3, rfl, hw3, by omega, by decide, by decide, fun d2 H4 hd2 k4 hw4 => ?_⟩
        have hr4 := k4.kp _ _ hrw hr3
        refine ⟨_, _, rfl, rfl, _, rfl, ?_⟩
        refine ite2 (fun h => ?_) (fun h => ?_)
        · refine ⟨_, rfl, wl, _, rfl, hw4, by omega, fun x H5 hx0 hx1 k5 hw5 => ?_⟩
          have hr5 := k5.kp _ _ hrw hr4
          refine ⟨_, rfl, _, rfl, r, _, (a : Int), a, rfl, rfl, hr5, ixN_at (by rw [List.length_map, hrl]; exact ha), ?_⟩
          rw [← List.map_set]
          have k6 : Kp (At wl) H (upd H5 r (.lst ((row.set a x).map V.int))) := Kp.own (k3.trans (k4.trans k5)) hr hr5 (by intro xs z; cases z)
          have ok := rowOk_set (i := a) hro.rw (by rw [hrl]; exact ha) hx0 hx1
          have hw6 : Well (n + 19) (upd H5 r (.lst ((row.set a x).map V.int))) wl := by
            obtain ⟨a, b, c, h, h1, h2, h3, h4⟩ := hw5
            exact ⟨a, b, c, (upd_ne (fun z => hrw z.symm)).trans h, h1, h2, h3, by omega⟩
          exact ⟨_, rfl, q r _ _ hr k6 hw6 upd_same (by rw [List.length_set]; exact hrl) ok⟩
        · exact ⟨_, rfl, q r _ _ hr (k3.trans k4) (hw4.mono (by omega)) hr4 hrl hro⟩
end
end AA

/-! ## T21 -/
set_option Elab.async false
set_option linter.all false
set_option maxRecDepth 100000
set_option maxHeartbeats 4000000
namespace AA
open PySem PySem.Spec PyProof.Rows L2 PySem.W
theorem Well.ne {n : Nat} {H : Hp} {wl r : Addr} (h : Well n H wl) (hr : H r = none) : r ≠ wl := fun z => by
  obtain ⟨xs, h⟩ := h.lst
  rw [z, h] at hr
  cases hr
theorem Well.upd {n : Nat} {H : Hp} {wl r : Addr} {o : HO} (h : Well n H wl) (hr : r ≠ wl) : Well n (upd H r o) wl := by
  obtain ⟨a, b, c, h, h1⟩ := h
  exact ⟨a, b, c, (upd_ne (fun z => hr z.symm)).trans h, h1⟩
/-- a comprehension over a walk, by what stands at each turn -/
theorem lc_inv {J : It} {n : Nat} {G : Hp → Prop} {Y : Nat → Hp → V → Hp → Prop} (w : Walk J n G Y) {g : TG} {tt : TT} {te : TE} {vs : List Nat} {σ : L2.St} {H1 : Hp} {D : Addr} {Qd : Hp → Prop} (hn : n < sizeLine)
    (I : Nat → List V → Hp → Prop) (h0 : I 0 [] (upd H1 D (.lst []))) (hI : ∀ i acc H, I i acc H → H D = some (.lst acc) ∧ acc.length ≤ i) (hG : ∀ i acc H, I i acc H → G H)
    (turn : ∀ i x H H' acc (N : V → Hp → Prop) (N0 : Hp → Prop), i < n → I i acc H → Y i H x H' →
      (∀ y H4, H4 D = some (.lst acc) → I (i + 1) (acc ++ [y]) (upd H4 D (.lst (acc ++ [y]))) → N y H4) → (∀ H3, I (i + 1) acc H3 → N0 H3) →
      g x (wipe σ vs) H' fun σ2 H2 => wipe σ2 vs = wipe σ vs ∧ tt σ2 H2 fun b H3 => if b = true then te σ2 H3 N else N0 H3)
    (hd : ∀ acc H, I n acc H → Qd H) :
    ∃ W : Nat → Nat → Hp → Prop, (∃ m, W 0 m (upd H1 D (.lst []))) ∧ ∀ i m H, W i m H →
      (J.stop i H ∧ Qd H) ∨ (J.go i H ∧ ∃ Nx : Hp → Prop, (∀ H', Nx H' → ∃ m', m' < m ∧ W (i + 1) m' H') ∧ ∀ x H', J.yld i H x H' → g x (wipe σ vs) H' fun σ2 H2 => wipe σ2 vs = wipe σ vs ∧ tt σ2 H2 fun b H3 =>
        if b = true then te σ2 H3 fun y H4 => ∃ acc, H4 D = some (.lst acc) ∧ acc.length < sizeLine ∧ Nx (upd H4 D (.lst (acc ++ [y]))) else Nx H3) := by
  refine lc_it w (fun i H => ∃ acc, I i acc H) ⟨[], h0⟩ (fun i H _ h => ?_) (fun i x H H' hi h hy => ?_) fun H h => ?_
  · obtain ⟨acc, h⟩ := h
    exact hG _ _ _ h
  · obtain ⟨acc, h⟩ := h
    obtain ⟨h1, h2⟩ := hI _ _ _ h
    exact turn i x H H' acc _ _ hi h hy (fun y H4 h4 k => ⟨acc, h4, by omega, _, k⟩) fun H3 h3 => ⟨acc, h3⟩
  · obtain ⟨acc, h⟩ := h
    exact hd _ _ h
theorem ifs_join {c : Bool} {a b : TS} {D : L2.Ends} {σ : L2.St} {H : Hp} (I : L2.St → Hp → Prop) (key : ∀ σ H, I σ H → D.nx σ H) (h1 : c = true → (∀ σ H, I σ H → D.nx σ H) → a D σ H) (h2 : ¬ c = true → (∀ σ H, I σ H → D.nx σ H) → b D σ H) : if c = true then a D σ H else b D σ H := by
  by_cases h : c = true
  · rw [if_pos h]
    exact h1 h key
  · rw [if_neg h]
    exact h2 h key
/-- a list of rows that the law draws: each row a list of its own, made since H0 -/
def RowAt (H0 H : Hp) (n : Nat) (r : Addr) : Prop := H0 r = none ∧ ∃ row : List Int, H r = some (.lst (row.map V.int)) ∧ row.length = n ∧ RowOk row
structure RowsIn (H0 H : Hp) (R : Addr) (n : Nat) (ras : List Addr) : Prop where
  top : H R = some (.lst (ras.map V.ref))
  own : H0 R = none
  few : ras.length = n
  row : ∀ r ∈ ras, r ≠ R ∧ RowAt H0 H n r
theorem RowAt.k {H0 H H' : Hp} {n : Nat} {r : Addr} {S : Addr → Prop} (h : RowAt H0 H n r) (k : Kp S H H') (hs : ¬ S r) : RowAt H0 H' n r := by
  obtain ⟨h1, row, h2, h3⟩ := h
  exact ⟨h1, row, k.kp _ _ hs h2, h3⟩
theorem RowsIn.k {H0 H H' : Hp} {n : Nat} {R wl : Addr} {ras : List Addr} (h : RowsIn H0 H R n ras) (k : Kp (At wl) H H') (hw : H0 wl ≠ none) : RowsIn H0 H' R n ras :=
  ⟨k.kp _ _ (fun z => hw (by rw [← show R = wl from z]; exact h.own)) h.top, h.own, h.few, fun r hr => ⟨(h.row r hr).1, (h.row r hr).2.k k (fun z => hw (by rw [← show r = wl from z]; exact (h.row r hr).2.1))⟩⟩
theorem rows_of {H0 H : Hp} {n : Nat} : ∀ ras : List Addr, (∀ r ∈ ras, RowAt H0 H n r) → ∃ rows : Rows, rows.length = ras.length ∧ (∀ a r, ras[a]? = some r → H r = some (.lst ((rows.getD a []).map V.int))) ∧ (∀ row ∈ rows, row.length = n ∧ RowOk row)
  | [], _ => ⟨[], rfl, fun a r h => by simp at h, fun row h => nomatch h⟩
  | r :: ras, h => by
    obtain ⟨rows, h1, h2, h3⟩ := rows_of ras fun r hr => h r (List.mem_cons_of_mem _ hr)
    obtain ⟨_, row, e1, e2⟩ := h r List.mem_cons_self
    refine ⟨row :: rows, by rw [List.length_cons, List.length_cons, h1], fun a r' ha => ?_, fun row' hr' => ?_⟩
    · cases a with
      | zero =>
        obtain rfl := Option.some.inj ha
        exact e1
      | succ a => exact h2 a r' ha
    · rcases List.mem_cons.mp hr' with rfl | hr'
      · exact e2
      · exact h3 _ hr'
section
variable {P : Program} {w : World} {K : PySem.W.Frag} {mg : Str → Option Value} {base : Heap}
abbrev s__law_way : Stmt := top 61
abbrev n__law_way : List Str := ["_law_well_here", "_law_tally", "_law_rows", "_law_kind", "_law_lead", "_law_row_here", "_law_at", "_law_k"]
theorem sc__law_way : FnScope n__law_way ["_law_well_here", "_law_tally"] (defScope s__law_way) := ⟨rfl, rfl, rfl, by decide +kernel, rfl, by decide +kernel, by decide +kernel⟩
def spLWay : Sp := fun vs H Q _ => ∃ (wl : Addr) (n tally : Nat), vs = [.ref wl, .int (tally : Int)] ∧ Well n H wl ∧ n + 250 ≤ 1000000000 ∧ 1 ≤ tally ∧ tally ≤ 4 ∧ ∀ v rows H', Kp (At wl) H H' → Well (n + 250) H' wl → Tp H' v (wayD rows) → WayOk tally rows → (∀ row ∈ rows, RowOk row) → Q v H'
theorem ok__law_way {f : Addr} {fd : FuncData} (F : DefIn K mg "_law_way" s__law_way ["_law_well_here", "_law_tally"] f fd) (B : Bt mg) (D__law_dip : Def P w K mg base "_law_dip" 1 ["_law_well_here", "_law_many"] spDip) (D__law_weight : Def P w K mg base "_law_weight" 2 ["_law_well_here"] spWeight)
    (D__law_row : Def P w K mg base "_law_row" 3 ["_law_well_here", "_law_tally", "_law_at"] spLRow) :
    Def P w K mg base "_law_way" 4 ["_law_well_here", "_law_tally"] spLWay := by
  refine F.ok sc__law_way (fun vs H Q E h => ?_) (fun cdv A outer s H vs Q E hr h => ?_)
  · obtain ⟨wl, n, tally, rfl, _⟩ := h
    rfl
  · obtain ⟨wl, n, tally, rfl, hw, hn, h1, h4, q⟩ := h
    refine ⟨_, (pss_cons (ps_asg (pe_tup (pa_cons (pe_def (D__law_dip.mono (by decide)) hr (by rfl) (pa_cons (pv 0) (pa_cons pe_int pa_nil))) (pa_cons (pe_def (D__law_dip.mono (by decide)) hr (by rfl) (pa_cons (pv 0) (pa_cons (pv 1) pa_nil))) pa_nil))) (pg_tupK K 2 (pgs_cons (pg_name (i := 3) sc__law_way.nd rfl (by first | exact Or.inl rfl | exact Or.inr rfl)) (pgs_cons (pg_name (i := 4) sc__law_way.nd rfl (by first | exact Or.inl rfl | exact Or.inr rfl)) pgs_nil))))
      (pss_cons (ps_setLc (i := 2) rfl sc__law_way.nd rfl rfl (sw_true rfl rfl rfl (by decide +kernel)) (pi_range1 rfl B.range (pa_cons (pv 1) pa_nil)) (blkOk_by (own := [("_law_at", 6)]) (N := n__law_way) (sc := defScope s__law_way) (by decide +kernel)) (fun _ _ _ _ _ => (pg_name (i := 6) sc__law_way.nd rfl (by first | exact Or.inl rfl | exact Or.inr rfl))) (fun _ _ _ _ _ => pts_nil) (fun _ _ _ _ _ => (pe_def (D__law_row.mono (by decide)) hr (by rfl) (pa_cons (pv 0) (pa_cons (pv 1) (pa_cons (pv 6) pa_nil))))))
      (pss_cons (ps_if (pt_cmpR op_lt (pv 3) pe_int (nomark _))
      (pss_one (ps_for PassesOwn.never rfl (pi_listK K (pv 2)) (pg_name (i := 5) sc__law_way.nd rfl (by first | exact Or.inl rfl | exact Or.inr rfl))
        (pss_one (ps_asg (pe_def (D__law_weight.mono (by decide)) hr (by rfl) (pa_cons (pv 0) pa_nil)) (pg_sub (pv 5) (pv 4) set_list)))))
      pss_nil)
      (pss_cons (ps_if (pt_cmpR op_eq (pv 3) pe_int (nomark _))
      (pss_cons (ps_set (i := 2) sc__law_way.nd rfl (by first | exact Or.inl rfl | exact Or.inr rfl) (pe_lst pa_nil))
        (pss_one (ps_for PassesOwn.never rfl (pi_range1 rfl B.range (pa_cons (pv 1) pa_nil)) (pg_name (i := 6) sc__law_way.nd rfl (by first | exact Or.inl rfl | exact Or.inr rfl))
        (pss_one (ps_expr (pe_bm PySem.F.plainAttrs_list PySem.F.slot_list_append PySem.F.type_list_append mt_append (pv 2) (pa_cons (pe_lc rfl sc__law_way.nd (pi_range1 rfl B.range (pa_cons (pv 1) pa_nil)) (blkOk_by (own := [("_law_k", 7)]) (N := n__law_way) (sc := defScope s__law_way) (by decide +kernel)) (fun _ _ _ _ _ => (pg_name (i := 7) sc__law_way.nd rfl (by first | exact Or.inl rfl | exact Or.inr rfl))) (fun _ _ _ _ _ => pts_nil) (fun _ _ _ _ _ => (pe_op op_mul (pe_callTy call_int1 (by rfl) B.int (by decide +kernel) (pa_cons (pe_cmpR op_eq (pv 6) (pv 7) (nomark _)) pa_nil)) (pe_def (D__law_weight.mono (by decide)) hr (by rfl) (pa_cons (pv 0) pa_nil))))) pa_nil)))))))
      pss_nil)
      (pss_cons (ps_if (pt_cmpR op_eq (pv 3) pe_int (nomark _))
      (pss_cons (ps_set (i := 2) sc__law_way.nd rfl (by first | exact Or.inl rfl | exact Or.inr rfl) (pe_lst pa_nil))
        (pss_one (ps_for PassesOwn.never rfl (pi_range1 rfl B.range (pa_cons (pv 1) pa_nil)) (pg_name (i := 6) sc__law_way.nd rfl (by first | exact Or.inl rfl | exact Or.inr rfl))
        (pss_one (ps_expr (pe_bm PySem.F.plainAttrs_list PySem.F.slot_list_append PySem.F.type_list_append mt_append (pv 2) (pa_cons (pe_lc rfl sc__law_way.nd (pi_range1 rfl B.range (pa_cons (pv 1) pa_nil)) (blkOk_by (own := [("_law_k", 7)]) (N := n__law_way) (sc := defScope s__law_way) (by decide +kernel)) (fun _ _ _ _ _ => (pg_name (i := 7) sc__law_way.nd rfl (by first | exact Or.inl rfl | exact Or.inr rfl))) (fun _ _ _ _ _ => pts_nil) (fun _ _ _ _ _ => (pe_callTy call_int1 (by rfl) B.int (by decide +kernel) (pa_cons (pe_cmpR op_eq (pe_op op_mod (pe_callTy call_int1 (by rfl) B.int (by decide +kernel) (pa_cons (pe_op op_add (pe_op op_add (pv 6) pe_int) (pv 4)) pa_nil)) (pv 1)) (pv 7) (nomark _)) pa_nil)))) pa_nil)))))))
      pss_nil)
      (pss_one (ps_ret (pe_callTy (r_tuple K) (by rfl) B.tuple (by decide +kernel) (pa_cons (pe_lc rfl sc__law_way.nd (pi_listK K (pv 2)) (blkOk_by (own := [("_law_row_here", 5)]) (N := n__law_way) (sc := defScope s__law_way) (by decide +kernel)) (fun _ _ _ _ _ => (pg_name (i := 5) sc__law_way.nd rfl (by first | exact Or.inl rfl | exact Or.inr rfl))) (fun _ _ _ _ _ => pts_nil) (fun _ _ _ _ _ => (pe_callTy (r_tuple K) (by rfl) B.tuple (by decide +kernel) (pa_cons (pv 5) pa_nil)))) pa_nil))))))))), ?_⟩
    have hsz : (2000 : Nat) < sizeLine := by decide
    have hwn : H wl ≠ none := by
      obtain ⟨xs, h⟩ := hw.lst
      rw [h]
      intro z
      cases z
    refine ⟨_, rfl, wl, n, 7, rfl, hw, by omega, by decide, by decide, fun kind H1 hkind k1 hw1 => ?_⟩
    refine ⟨_, rfl, _, rfl, wl, n + 1, tally, rfl, hw1, by omega, by omega, by omega, fun lead H2 hlead k2 hw2 => ?_⟩
    refine ⟨(show 2 ≤ sizeLine by omega), fun T hT => ⟨T, _, rfl, SqT.of upd_same, rfl, _, _, rfl, _, _, rfl, rfl, ?_⟩⟩
    have k3 : Kp (At wl) H (upd H2 T (.tup [.int (kind : Int), .int (lead : Int)])) := (k1.trans k2).trans (Kp.new hT)
    have hw3 : Well (n + 2) (upd H2 T (.tup [.int (kind : Int), .int (lead : Int)])) wl := hw2.upd (hw2.ne hT)
    generalize upd H2 T (.tup [.int (kind : Int), .int (lead : Int)]) = H3 at *
    refine ⟨_, rfl, (tally : Int), rfl, by omega, by omega, fun D hD => ?_⟩
    rw [Int.toNat_natCast]
    refine lc_inv walk_range0 (by omega) (fun i acc H4 => Kp (At wl) H H4 ∧ Well (n + 2 + 19 * i) H4 wl ∧ H4 D = some (.lst acc) ∧ ∃ ras : List Addr, acc = ras.map V.ref ∧ ras.length = i ∧ ∀ r ∈ ras, r ≠ D ∧ RowAt H H4 tally r)
      ⟨k3.trans (Kp.new hD), hw3.upd (hw3.ne hD), upd_same, [], rfl, rfl, fun r hr => nomatch hr⟩ (fun i acc H4 h => by
        obtain ⟨_, _, h1, ras, rfl, h2, _⟩ := h
        exact ⟨h1, by rw [List.length_map]; omega⟩) (fun _ _ _ _ => True.intro) (fun i x H4 H5 acc N N0 hi h hy hN hN0 => ?_) (fun acc H4 h => ?_)
    · obtain ⟨k4, hw4, hD4, ras, rfl, hrl, hra⟩ := h
      obtain ⟨rfl, rfl⟩ := hy
      refine ⟨rfl, _, rfl, _, rfl, _, rfl, wl, _, tally, i, rfl, hw4, by omega, hi, by omega, fun r row H6 hr6 k6 hw6 hrow hlen hok => ?_⟩
      have hDw : D ≠ wl := hw3.ne hD
      have hD6 := k6.kp _ _ hDw hD4
      have hrD : r ≠ D := fun z => ne_of_none hD4 hr6 z.symm
      have k7 : Kp (At wl) H (upd H6 D (.lst (ras.map V.ref ++ [.ref r]))) := Kp.own (k4.trans k6) (k3.fr _ hD) hD6 (by intro xs z; cases z)
      refine hN _ _ hD6 ⟨k7, (hw6.upd hDw).mono (by omega), upd_same, ras ++ [r], by rw [List.map_append]; rfl, by rw [List.length_append, hrl]; rfl, fun r' hr' => ?_⟩
      rcases List.mem_append.mp hr' with hr' | hr'
      · obtain ⟨e1, e2, row', e3, e4⟩ := hra r' hr'
        refine ⟨e1, e2, row', ?_, e4⟩
        rw [upd_ne e1]
        exact k6.kp _ _ (fun z => hwn (by rw [← show r' = wl from z]; exact e2)) e3
      · obtain rfl := List.mem_singleton.mp hr'
        exact ⟨hrD, k4.fr _ hr6, row, by rw [upd_ne hrD]; exact hrow, hlen, hok⟩
    · obtain ⟨k4, hw4, hD4, ras, rfl, hrl, hra⟩ := h
      have R4 : RowsIn H H4 D tally ras := ⟨hD4, k3.fr _ hD, hrl, hra⟩
      refine ⟨_, rfl, _, _, rfl, rfl, _, rfl, ?_⟩
      refine ifs_join (fun σ H5 => Kp (At wl) H H5 ∧ Well (n + 98) H5 wl ∧ ∃ (R : Addr) (ras : List Addr) (o5 o6 : Option V), σ = [some (.ref wl), some (.int (tally : Int)), some (.ref R), some (.int (kind : Int)), some (.int (lead : Int)), o5, o6, none] ∧ RowsIn H H5 R tally ras) (fun σ H5 h => ?_) (fun h key => ?_) (fun h key => ?_)
      · obtain ⟨k5, hw5, R, ras, o5, o6, rfl, R5⟩ := h
        clear R4 hra hD4 hw4 k4 hrl
        refine ⟨_, rfl, rfl, _, rfl, ?_⟩
        refine ifs_join (fun σ H5 => Kp (At wl) H H5 ∧ Well (n + 178) H5 wl ∧ ∃ (R : Addr) (ras : List Addr) (o5 o6 : Option V), σ = [some (.ref wl), some (.int (tally : Int)), some (.ref R), some (.int (kind : Int)), some (.int (lead : Int)), o5, o6, none] ∧ RowsIn H H5 R tally ras) (fun σ H5 h => ?_) (fun h key => ?_) (fun h key => ?_)
        · clear k5 hw5 R5
          obtain ⟨k5, hw5, R, ras, o5, o6, rfl, R5⟩ := h
          refine ⟨_, rfl, rfl, _, rfl, ?_⟩
          refine ifs_join (fun σ H5 => Kp (At wl) H H5 ∧ Well (n + 178) H5 wl ∧ ∃ (R : Addr) (ras : List Addr) (o5 o6 : Option V), σ = [some (.ref wl), some (.int (tally : Int)), some (.ref R), some (.int (kind : Int)), some (.int (lead : Int)), o5, o6, none] ∧ RowsIn H H5 R tally ras) (fun σ H5 h => ?_) (fun h key => ?_) (fun h key => ?_)
          · clear k5 hw5 R5
            obtain ⟨k5, hw5, R, ras, o5, o6, rfl, R5⟩ := h
            obtain ⟨rows, hr1, hr2, hr3⟩ := rows_of ras fun r hr => (R5.row r hr).2
            refine ⟨_, rfl, R, rfl, ⟨_, SqL.of R5.top⟩, fun D hD => ?_⟩
            refine lc_mapD (S := No) walk_list (by rw [List.length_map, R5.few]; omega) hD (fun z => z) (fun a => rowD (rows.getD a [])) (fun H7 k7 => SqL.of (k7.at R5.top)) (fun a x H7 H8 acc2 N2 ha k7 hacc2 hy7 hN2 => ?_) (fun acc2 H7 k7 hacc2 hr7 => ?_)
            · obtain ⟨rfl, hx⟩ := hy7
              rw [List.length_map] at ha
              obtain ⟨r, hra⟩ : ∃ r, ras[a]? = some r := ⟨_, List.getElem?_eq_getElem ha⟩
              rw [List.getElem?_map, hra] at hx
              obtain rfl := Option.some.inj hx
              refine ⟨rfl, _, rfl, r, _, rfl, .inl ⟨SqL.of (k7.at (hr2 a r hra)), fun t ht => hN2 _ _ (Kp.new ht) (.tup upd_same (TpAll.ints _))⟩⟩
            · rw [List.length_map, ← hr1, range_get rows rowD []] at hr7
              refine ⟨D, acc2, rfl, .inl ⟨SqL.of hacc2, fun t ht => ?_⟩⟩
              have kt : Kp (At wl) H5 (upd H7 t (.tup acc2)) := (k7.trans (Kp.new ht)).no
              have hw8 : Well (n + 178) (upd H7 t (.tup acc2)) wl := (hw5.k k7 (fun z => z)).upd ((hw5.k k7 (fun z => z)).ne ht)
              exact q _ rows _ (k5.trans kt) (hw8.mono (by omega)) (.tup upd_same (hr7.mono (TK.new ht))) ⟨by rw [hr1]; exact R5.few, fun row hrow => (hr3 row hrow).1⟩ (fun row hrow => (hr3 row hrow).2)
          · refine ⟨(show 0 ≤ sizeLine by decide), fun R2 hR2 => ?_⟩
            have k6 : Kp (At wl) H (upd H5 R2 (.lst [])) := k5.trans (Kp.new hR2)
            have hw6 := hw5.upd (o := .lst []) (hw5.ne hR2)
            have hR20 := k5.fr _ hR2
            have hRw : R2 ≠ wl := hw5.ne hR2
            have hR6 : upd H5 R2 (.lst []) R2 = some (.lst []) := upd_same
            generalize upd H5 R2 (.lst []) = H6 at *
            refine ⟨_, rfl, (tally : Int), rfl, by omega, by omega, ?_⟩
            rw [Int.toNat_natCast]
            refine for_it walk_range0 (fun i σ H7 => Kp (At wl) H H7 ∧ Well (n + 178) H7 wl ∧ ∃ (ras : List Addr) (o5 o6 : Option V), σ = [some (.ref wl), some (.int (tally : Int)), some (.ref R2), some (.int (kind : Int)), some (.int (lead : Int)), o5, o6, none] ∧ H7 R2 = some (.lst (ras.map V.ref)) ∧ ras.length = i ∧ ∀ r ∈ ras, r ≠ R2 ∧ RowAt H H7 tally r)
              ⟨k6, hw6, [], _, _, rfl, hR6, rfl, fun r hr => nomatch hr⟩ (fun _ _ _ _ _ => True.intro) (fun i x σ H7 H7' hi h hy => ?_) (fun σ H7 h => ?_)
            · obtain ⟨k7, hw7, ras, o5, o6, rfl, hR7, hrl, hra⟩ := h
              obtain ⟨rfl, rfl⟩ := hy
              refine ⟨_, rfl, .inl ⟨rfl, _, SqL.of hR7⟩, _, rfl, (tally : Int), rfl, by omega, by omega, fun D hD => ?_⟩
              rw [Int.toNat_natCast]
              have hpos : (0 : Int) < (tally : Int) := by omega
              refine lc_mapD (S := No) walk_range0 (by omega) hD (fun z => z) (fun m => .int (if decide (V.int (((i : Int) + 1 + (lead : Int)) % (tally : Int)) = V.int (m : Int)) = true then 1 else 0)) (fun _ _ => True.intro) (fun m x H8 H9 acc N hm k8 hacc hy hN => ?_) (fun acc H8 k8 hacc hr8 => ?_)
              · obtain ⟨rfl, rfl⟩ := hy
                exact ⟨rfl, _, rfl, _, _, rfl, rfl, _, rfl, _, _, rfl, rfl, .inl ⟨_, rfl, _, rfl, _, _, rfl, rfl, hpos, _, rfl, rfl, .inr ⟨_, rfl, hN _ _ (Kp.refl _ _) (.int _)⟩⟩⟩
              · obtain rfl := TpAll.ints_map (fun (m : Nat) => if decide (V.int (((i : Int) + 1 + (lead : Int)) % (tally : Int)) = V.int (m : Int)) = true then (1 : Int) else 0) hr8
                have hok : RowOk ((List.range tally).map fun (m : Nat) => if decide (V.int (((i : Int) + 1 + (lead : Int)) % (tally : Int)) = V.int (m : Int)) = true then (1 : Int) else 0) := by
                  obtain ⟨e1, e2⟩ := dip_digit (b := (i : Int) + 1 + (lead : Int)) (show 0 < tally by omega)
                  refine rowOk_of (x := 1) (fun x hx => ?_) (List.mem_map.mpr ⟨_, List.mem_range.mpr e1, by rw [← e2]; simp⟩) (by decide)
                  obtain ⟨m, _, rfl⟩ := List.mem_map.mp hx
                  split <;> omega
                have hlen : ((List.range tally).map fun (m : Nat) => if decide (V.int (((i : Int) + 1 + (lead : Int)) % (tally : Int)) = V.int (m : Int)) = true then (1 : Int) else 0).length = tally := by rw [List.length_map, List.length_range]
                generalize ((List.range tally).map fun (m : Nat) => if decide (V.int (((i : Int) + 1 + (lead : Int)) % (tally : Int)) = V.int (m : Int)) = true then (1 : Int) else 0) = row at *
                have hR8 := k8.at hR7
                have hDR : D ≠ R2 := fun z => ne_of_none hR7 hD z.symm
                refine ⟨R2, _, _, rfl, rfl, hR8, by rw [List.length_map]; omega, Kp.own (k7.trans k8.no) hR20 hR8 (by intro xs z; cases z), (hw7.k k8 (fun z => z)).upd hRw, ras ++ [D], _, _, rfl, by rw [List.map_append]; exact upd_same, by rw [List.length_append, hrl]; rfl, fun r hr => ?_⟩
                rcases List.mem_append.mp hr with hr | hr
                · obtain ⟨e1, e2, row', e3, e4⟩ := hra r hr
                  exact ⟨e1, e2, row', by rw [upd_ne e1]; exact k8.at e3, e4⟩
                · obtain rfl := List.mem_singleton.mp hr
                  exact ⟨hDR, k7.fr _ hD, row, by rw [upd_ne hDR]; exact hacc, hlen, hok⟩
            · obtain ⟨k7, hw7, ras, o5, o6, rfl, hR7, hrl, hra⟩ := h
              exact key _ _ ⟨k7, hw7, R2, ras, _, _, rfl, hR7, hR20, hrl, hra⟩
          · exact key _ _ ⟨k5, hw5, R, ras, _, _, rfl, R5⟩
        · refine ⟨(show 0 ≤ sizeLine by decide), fun R2 hR2 => ?_⟩
          have k6 : Kp (At wl) H (upd H5 R2 (.lst [])) := k5.trans (Kp.new hR2)
          have hw6 := hw5.upd (o := .lst []) (hw5.ne hR2)
          have hR20 := k5.fr _ hR2
          have hRw : R2 ≠ wl := hw5.ne hR2
          have hR6 : upd H5 R2 (.lst []) R2 = some (.lst []) := upd_same
          generalize upd H5 R2 (.lst []) = H6 at *
          refine ⟨_, rfl, (tally : Int), rfl, by omega, by omega, ?_⟩
          rw [Int.toNat_natCast]
          refine for_it walk_range0 (fun i σ H7 => Kp (At wl) H H7 ∧ Well (n + 98 + 20 * i) H7 wl ∧ ∃ (ras : List Addr) (o5 o6 : Option V), σ = [some (.ref wl), some (.int (tally : Int)), some (.ref R2), some (.int (kind : Int)), some (.int (lead : Int)), o5, o6, none] ∧ H7 R2 = some (.lst (ras.map V.ref)) ∧ ras.length = i ∧ ∀ r ∈ ras, r ≠ R2 ∧ RowAt H H7 tally r)
            ⟨k6, hw6, [], _, _, rfl, hR6, rfl, fun r hr => nomatch hr⟩ (fun _ _ _ _ _ => True.intro) (fun i x σ H7 H7' hi h hy => ?_) (fun σ H7 h => ?_)
          · obtain ⟨k7, hw7, ras, o5, o6, rfl, hR7, hrl, hra⟩ := h
            obtain ⟨rfl, rfl⟩ := hy
            refine ⟨_, rfl, .inl ⟨rfl, _, SqL.of hR7⟩, _, rfl, (tally : Int), rfl, by omega, by omega, fun D hD => ?_⟩
            rw [Int.toNat_natCast]
            have hDw : D ≠ wl := hw7.ne hD
            have hDR : D ≠ R2 := fun z => ne_of_none hR7 hD z.symm
            refine lc_inv walk_range0 (by omega) (fun m acc H8 => Kp (At wl) H7' H8 ∧ Well (n + 98 + 20 * i + 5 * m) H8 wl ∧ H8 D = some (.lst acc) ∧ ∃ row : List Int, acc = row.map V.int ∧ row.length = m ∧ Rw row ∧ (i < m → ∃ x ∈ row, 0 < x))
              ⟨Kp.new hD, hw7.upd hDw, upd_same, [], rfl, rfl, (by intro x hx; cases hx), fun z => absurd z (Nat.not_lt_zero _)⟩ (fun m acc H8 h => by
                obtain ⟨_, _, h1, row, rfl, h2, _⟩ := h
                exact ⟨h1, by rw [List.length_map]; omega⟩) (fun _ _ _ _ => True.intro) (fun m x H8 H9 acc N N0 hm h hy hN _ => ?_) (fun acc H8 h => ?_)
            · obtain ⟨k8, hw8, hD8, row, rfl, hrowl, hrw, hpos⟩ := h
              obtain ⟨rfl, rfl⟩ := hy
              refine ⟨rfl, _, rfl, _, rfl, rfl, .inr ⟨_, rfl, _, rfl, wl, _, rfl, hw8, by omega, fun y H10 hy0 hy1 k10 hw10 => ?_⟩⟩
              obtain ⟨u, hu⟩ : ∃ u : Int, u = (if decide (V.int (i : Int) = V.int (m : Int)) = true then 1 else 0) := ⟨_, rfl⟩
              rw [← hu]
              have hu01 : u = 0 ∨ u = 1 := by
                rw [hu]
                split
                · exact .inr rfl
                · exact .inl rfl
              have hD10 := k10.kp _ _ hDw hD8
              have huy : 0 ≤ u * y ∧ u * y ≤ 1000000000 := by
                rcases hu01 with rfl | rfl
                · rw [Int.zero_mul]
                  omega
                · rw [Int.one_mul]
                  omega
              refine ⟨_, _, rfl, rfl, .inl (by omega), hN _ _ hD10 ⟨Kp.own (k8.trans k10) hD hD10 (by intro xs z; cases z), (hw10.upd hDw).mono (by omega), upd_same, row ++ [u * y], by rw [List.map_append]; rfl, by rw [List.length_append, hrowl]; rfl, fun z hz => ?_, fun hlt => ?_⟩⟩
              · rcases List.mem_append.mp hz with hz | hz
                · exact hrw z hz
                · obtain rfl := List.mem_singleton.mp hz
                  exact huy
              · by_cases e : i = m
                · subst e
                  have : u = 1 := by rw [hu]; simp
                  exact ⟨u * y, List.mem_append_right _ (List.mem_singleton.mpr rfl), by rw [this, Int.one_mul]; omega⟩
                · obtain ⟨z, hz, hz0⟩ := hpos (by omega)
                  exact ⟨z, List.mem_append_left _ hz, hz0⟩
            · obtain ⟨k8, hw8, hD8, row, rfl, hrowl, hrw, hpos⟩ := h
              obtain ⟨y, hy, hy0⟩ := hpos hi
              have hok := rowOk_of hrw hy hy0
              have hR8 := k8.kp _ _ hRw hR7
              refine ⟨R2, _, _, rfl, rfl, hR8, by rw [List.length_map]; omega, Kp.own (k7.trans k8) hR20 hR8 (by intro xs z; cases z), (hw8.upd hRw).mono (by omega), ras ++ [D], _, _, rfl, by rw [List.map_append]; exact upd_same, by rw [List.length_append, hrl]; rfl, fun r hr => ?_⟩
              rcases List.mem_append.mp hr with hr | hr
              · obtain ⟨e1, e2, row', e3, e4⟩ := hra r hr
                exact ⟨e1, e2, row', by rw [upd_ne e1]; exact k8.kp _ _ (fun z => hwn (by rw [← show r = wl from z]; exact e2)) e3, e4⟩
              · obtain rfl := List.mem_singleton.mp hr
                exact ⟨hDR, k7.fr _ hD, row, by rw [upd_ne hDR]; exact hD8, hrowl, hok⟩
          · obtain ⟨k7, hw7, ras, o5, o6, rfl, hR7, hrl, hra⟩ := h
            exact key _ _ ⟨k7, hw7.mono (by omega), R2, ras, _, _, rfl, hR7, hR20, hrl, hra⟩
        · exact key _ _ ⟨k5, hw5.mono (by omega), R, ras, _, _, rfl, R5⟩
      · refine ⟨_, rfl, D, rfl, ⟨_, SqL.of hD4⟩, ?_⟩
        refine for_it walk_list (fun i σ H5 => Kp (At wl) H H5 ∧ Well (n + 2 + 19 * tally + 5 * i) H5 wl ∧ ∃ o5 : Option V, σ = [some (.ref wl), some (.int (tally : Int)), some (.ref D), some (.int (kind : Int)), some (.int (lead : Int)), o5, none, none] ∧ RowsIn H H5 D tally ras)
          ⟨k4, hw4, _, rfl, R4⟩ (fun i σ H5 _ h => by
            obtain ⟨_, _, _, _, h⟩ := h
            exact SqL.of h.top) (fun i x σ H5 H5' hi h hy => ?_) (fun σ H5 h => ?_)
        · obtain ⟨k5, hw5, o5, rfl, R5⟩ := h
          obtain ⟨rfl, hx⟩ := hy
          rw [List.length_map, hrl] at hi
          obtain ⟨r, hr2⟩ : ∃ r, ras[i]? = some r := ⟨_, List.getElem?_eq_getElem (by omega)⟩
          rw [List.getElem?_map, hr2] at hx
          obtain rfl := Option.some.inj hx
          have hrm : r ∈ ras := List.mem_of_getElem? hr2
          refine ⟨_, rfl, wl, _, rfl, hw5, by omega, fun x H6 hx0 hx1 k6 hw6 => ?_⟩
          obtain ⟨hrD, hr0, row, hrow, hlen, hok⟩ := (R5.k k6 hwn).row r hrm
          refine ⟨_, rfl, _, rfl, r, _, (lead : Int), lead, rfl, rfl, hrow, ixN_at (by rw [List.length_map, hlen]; exact hlead), ?_⟩
          rw [← List.map_set]
          have hrw : r ≠ wl := fun z => hwn (by rw [← z]; exact hr0)
          refine ⟨Kp.own (k5.trans k6) hr0 hrow (by intro xs z; cases z), (hw6.upd hrw).mono (by omega), _, rfl, ?_⟩
          have R6 := R5.k k6 hwn
          refine ⟨by rw [upd_ne (fun z => hrD z.symm)]; exact R6.top, R6.own, R6.few, fun r' hr' => ?_⟩
          obtain ⟨e1, e2, row', e3, e4⟩ := R6.row r' hr'
          refine ⟨e1, e2, ?_⟩
          by_cases hrr : r' = r
          · subst hrr
            exact ⟨_, upd_same, by rw [List.length_set]; exact hlen, rowOk_set hok.rw (by rw [hlen]; exact hlead) hx0 hx1⟩
          · exact ⟨row', by rw [upd_ne hrr]; exact e3, e4⟩
        · obtain ⟨k5, hw5, o5, rfl, R5⟩ := h
          rw [List.length_map, hrl] at hw5
          exact key _ _ ⟨k5, hw5.mono (by omega), D, ras, _, _, rfl, R5⟩
      · exact key _ _ ⟨k4, hw4.mono (by omega), D, ras, _, _, rfl, R4⟩
end
end AA

/-! ## T22 -/
set_option Elab.async false
set_option linter.all false
set_option maxRecDepth 100000
set_option maxHeartbeats 4000000
namespace AA
open PySem PySem.Spec PyProof.Rows L2 PySem.W
def six : List Str := ["ann", "bob", "cyd", "dan", "eve", "fay"]
theorem six_cut (m : Nat) : cutV (six.map V.str) none (some (m : Int)) = (six.take m).map V.str := by
  unfold cutV
  rw [HT.sIx_none, HT.sIx_nat, List.drop_zero, Nat.sub_zero, List.map_take]
  rw [List.take_eq_take_iff]
  omega
theorem six_ok {m : Nat} (h2 : 2 ≤ m) (h4 : m ≤ 4) : NmOk (six.take m) ∧ (six.take m).length = m ∧ ∀ x ∈ six.take m, NameOk x := by
  have hall : ∀ x ∈ six.take 4, NameOk x ∧ PyData.strOk x = true := by
    intro x hx
    have : x = "ann" ∨ x = "bob" ∨ x = "cyd" ∨ x = "dan" := by
      simpa [six] using hx
    rcases this with rfl | rfl | rfl | rfl
    all_goals exact ⟨⟨by decide, by decide, by decide⟩, by decide +kernel⟩
  have hsub : ∀ x ∈ six.take m, x ∈ six.take 4 := fun x hx => by
    have : six.take m = (six.take 4).take m := by rw [List.take_take, show min m 4 = m by omega]
    rw [this] at hx
    exact List.mem_of_mem_take hx
  refine ⟨⟨?_, fun x hx => (hall x (hsub x hx)).2⟩, ?_, fun x hx => (hall x (hsub x hx)).1⟩
  · have : six.Nodup := by decide +kernel
    exact this.sublist (List.take_sublist _ _)
  · rw [List.length_take]
    show min m 6 = m
    omega
section
variable {P : Program} {w : World} {K : PySem.W.Frag} {mg : Str → Option Value} {base : Heap}
abbrev s__law_drawn : Stmt := top 62
abbrev n__law_drawn : List Str := ["_law_well_here", "_law_tallies", "_law_most_here", "_law_tally", "_law_names_here", "_law_turn"]
theorem sc__law_drawn : FnScope n__law_drawn ["_law_well_here", "_law_tallies", "_law_most_here"] (defScope s__law_drawn) := ⟨rfl, rfl, rfl, by decide +kernel, rfl, by decide +kernel, by decide +kernel⟩
/-- what a drawn council is made of -/
structure Drawn (H : Hp) (vn vw : V) (names : List Str) (ways : List Rows) (n : Nat) : Prop where
  vn : NamesAt H vn names
  vw : Tp H vw (waysD ways)
  nm : NmOk names
  len : names.length = n
  two : 2 ≤ n
  four : n ≤ 4
  names : ∀ x ∈ names, NameOk x
  W : WaysOk n ways
  one : 1 ≤ ways.length
  three : ways.length ≤ 3
  rows : ∀ rows ∈ ways, ∀ row ∈ rows, RowOk row
def spLDrawn : Sp := fun vs H Q _ => ∃ (wl lt : Addr) (n : Nat), vs = [.ref wl, .ref lt, .int 3] ∧ Well n H wl ∧ H lt = some (.lst [.int 2, .int 3, .int 3, .int 4]) ∧ n + 1000 ≤ 1000000000 ∧
  ∀ r vn vw names ways tally H', H r = none → Kp (At wl) H H' → Well (n + 1000) H' wl → H' r = some (.lst [vn, vw]) → Drawn H' vn vw names ways tally → Q (.ref r) H'
theorem ok__law_drawn {f : Addr} {fd : FuncData} (F : DefIn K mg "_law_drawn" s__law_drawn ["_law_well_here", "_law_tallies", "_law_most_here"] f fd) (B : Bt mg) (D__law_dip : Def P w K mg base "_law_dip" 1 ["_law_well_here", "_law_many"] spDip)
    (D__law_way : Def P w K mg base "_law_way" 4 ["_law_well_here", "_law_tally"] spLWay) :
    Def P w K mg base "_law_drawn" 5 ["_law_well_here", "_law_tallies", "_law_most_here"] spLDrawn := by
  refine F.ok sc__law_drawn (fun vs H Q E h => ?_) (fun cdv A outer s H vs Q E hr h => ?_)
  · obtain ⟨wl, lt, n, rfl, _⟩ := h
    rfl
  · obtain ⟨wl, lt, n, rfl, hw, hlt, hn, q⟩ := h
    refine ⟨_, (pss_cons (ps_set (i := 3) sc__law_drawn.nd rfl (by first | exact Or.inl rfl | exact Or.inr rfl) (pe_ix (x_list K) (pv 1) (pe_def (D__law_dip.mono (by decide)) hr (by rfl) (pa_cons (pv 0) (pa_cons (pe_callB (r_len K) (by rfl) B.len (by decide +kernel) (pa_cons (pv 1) pa_nil)) pa_nil))) (fun _ _ => rfl)))
      (pss_cons (ps_set (i := 4) sc__law_drawn.nd rfl (by first | exact Or.inl rfl | exact Or.inr rfl) (pe_slice (s_tupF K) (pe_tup (pa_cons pe_str (pa_cons pe_str (pa_cons pe_str (pa_cons pe_str (pa_cons pe_str (pa_cons pe_str pa_nil))))))) po_none (po_some (pv 3))))
      (pss_one (ps_ret (pe_lst (pa_cons (pv 4) (pa_cons (pe_callTy (r_tuple K) (by rfl) B.tuple (by decide +kernel) (pa_cons (pe_lc rfl sc__law_drawn.nd (pi_range1 rfl B.range (pa_cons (pe_op op_add pe_int (pe_def (D__law_dip.mono (by decide)) hr (by rfl) (pa_cons (pv 0) (pa_cons (pv 2) pa_nil)))) pa_nil)) (blkOk_by (own := [("_law_turn", 5)]) (N := n__law_drawn) (sc := defScope s__law_drawn) (by decide +kernel)) (fun _ _ _ _ _ => (pg_name (i := 5) sc__law_drawn.nd rfl (by first | exact Or.inl rfl | exact Or.inr rfl))) (fun _ _ _ _ _ => pts_nil) (fun _ _ _ _ _ => (pe_def (D__law_way.mono (by decide)) hr (by rfl) (pa_cons (pv 0) (pa_cons (pv 3) pa_nil))))) pa_nil)) pa_nil))))))), ?_⟩
    have hsz : (2000 : Nat) < sizeLine := by decide
    have hwn : H wl ≠ none := by
      obtain ⟨xs, h⟩ := hw.lst
      rw [h]
      intro z
      cases z
    have hlw : lt ≠ wl := fun z => by
      obtain ⟨a, b, c, h, _⟩ := hw
      rw [z, h] at hlt
      have := HO.lst.inj (Option.some.inj hlt)
      simp at this
    refine ⟨_, rfl, _, rfl, _, rfl, lt, _, rfl, .inl (SqL.of hlt), wl, n, 4, rfl, hw, by omega, by decide, by decide, fun d H1 hd k1 hw1 => ?_⟩
    have hl1 := k1.kp _ _ hlw hlt
    obtain ⟨tally, ht2, ht4, htd⟩ : ∃ tally : Nat, 2 ≤ tally ∧ tally ≤ 4 ∧ ([V.int 2, V.int 3, V.int 3, V.int 4] : List V)[d]? = some (.int (tally : Int)) := by
      match d, hd with
      | 0, _ => exact ⟨2, by decide, by decide, rfl⟩
      | 1, _ => exact ⟨3, by decide, by decide, rfl⟩
      | 2, _ => exact ⟨3, by decide, by decide, rfl⟩
      | 3, _ => exact ⟨4, by decide, by decide, rfl⟩
    refine ⟨lt, _, (d : Int), .int (tally : Int), rfl, rfl, SqL.of hl1, atI_nat htd, ?_⟩
    refine ⟨(show 6 ≤ sizeLine by decide), fun p hp => ?_⟩
    have k2 : Kp (At wl) H1 (upd H1 p (.tup (six.map V.str))) := Kp.new hp
    have hp2 : upd H1 p (.tup (six.map V.str)) p = some (.tup (six.map V.str)) := upd_same
    have hw2 := hw1.upd (o := .tup (six.map V.str)) (hw1.ne hp)
    obtain ⟨e1, e2, e3⟩ := six_ok ht2 ht4
    rw [show ([V.str "ann", V.str "bob", V.str "cyd", V.str "dan", V.str "eve", V.str "fay"] : List V) = six.map V.str from rfl]
    refine ⟨_, rfl, (tally : Int), rfl, p, _, rfl, SqT.of hp2, by rw [HT.sIx_nat]; show ¬ (_ ∧ min tally 6 = 6); omega, fun vn o hvn hod => ?_⟩
    rw [six_cut]
    have k3 : Kp (At wl) H (upd (upd H1 p (.tup (six.map V.str))) vn (.frz o (.tup ((six.take tally).map V.str)))) := (k1.trans k2).trans (Kp.new hvn)
    have hvn3 : NamesAt (upd (upd H1 p (.tup (six.map V.str))) vn (.frz o (.tup ((six.take tally).map V.str)))) (.ref vn) (six.take tally) := ⟨vn, o, rfl, upd_same, hod⟩
    have hw3 := hw2.upd (o := .frz o (.tup ((six.take tally).map V.str))) (hw2.ne hvn)
    generalize upd (upd H1 p (.tup (six.map V.str))) vn (.frz o (.tup ((six.take tally).map V.str))) = H3 at *
    generalize six.take tally = names at *
    refine ⟨_, rfl, _, rfl, _, rfl, wl, n + 1, 3, rfl, hw3, by omega, by decide, by decide, fun dn H4 hdn k4 hw4 => ?_⟩
    have hvn4 : NamesAt H4 (.ref vn) names := by
      obtain ⟨a, o, e, h, h'⟩ := hvn3
      exact ⟨a, o, e, k4.kp _ _ (fun z => by
        obtain ⟨_, _, _, hh, _⟩ := hw3
        rw [show a = wl from z, hh] at h
        cases h) h, h'⟩
    clear hvn3
    refine ⟨_, _, rfl, rfl, (1 + (dn : Int)), rfl, by omega, by omega, fun D hD => ?_⟩
    rw [show (1 + (dn : Int)).toNat = 1 + dn by omega]
    have hDw := hw4.ne hD
    refine lc_inv walk_range0 (by omega) (fun i acc H5 => Kp (At wl) H4 H5 ∧ Well (n + 2 + 250 * i) H5 wl ∧ H5 D = some (.lst acc) ∧ ∃ ways : List Rows, TpAll H5 acc (ways.map wayD) ∧ ways.length = i ∧ ∀ rows ∈ ways, WayOk tally rows ∧ ∀ row ∈ rows, RowOk row)
      ⟨Kp.new hD, hw4.upd hDw, upd_same, [], .nil, rfl, by intro x hx; cases hx⟩ (fun i acc H5 h => by
        obtain ⟨_, _, h1, ways, h2, h3, _⟩ := h
        exact ⟨h1, by rw [h2.length, List.length_map]; omega⟩) (fun _ _ _ _ => True.intro) (fun i x H5 H6 acc N N0 hi h hy hN _ => ?_) (fun acc H5 h => ?_)
    · obtain ⟨k5, hw5, hD5, ways, hall, hwl, hok⟩ := h
      obtain ⟨rfl, rfl⟩ := hy
      refine ⟨rfl, _, rfl, _, rfl, wl, _, tally, rfl, hw5, by omega, by omega, by omega, fun v rows H7 k7 hw7 hv hW hro => ?_⟩
      have hD7 := k7.kp _ _ hDw hD5
      refine hN _ _ hD7 ⟨Kp.own (k5.trans k7) hD hD7 (by intro xs z; cases z), (hw7.upd hDw).mono (by omega), upd_same, ways ++ [rows], ?_, by rw [List.length_append, hwl]; rfl, fun r hr => ?_⟩
      · rw [List.map_append]
        exact ((hall.mono k7.tu).snoc hv).mono (TK.upd_lst hD7)
      · rcases List.mem_append.mp hr with hr | hr
        · exact hok r hr
        · obtain rfl := List.mem_singleton.mp hr
          exact ⟨hW, hro⟩
    · obtain ⟨k5, hw5, hD5, ways, hall, hwl, hok⟩ := h
      refine ⟨D, acc, rfl, .inl ⟨SqL.of hD5, fun t ht => ⟨(show 2 ≤ sizeLine by omega), fun r hr => ?_⟩⟩⟩
      have k6 : Kp (At wl) H4 (upd (upd H5 t (.tup acc)) r (.lst [.ref vn, .ref t])) := (k5.trans (Kp.new ht)).trans (Kp.new hr)
      have hw6 : Well (n + 1000) (upd (upd H5 t (.tup acc)) r (.lst [.ref vn, .ref t])) wl := ((hw5.upd (hw5.ne ht)).upd ((hw5.upd (hw5.ne ht)).ne hr)).mono (by omega)
      have hvt : Tp (upd (upd H5 t (.tup acc)) r (.lst [.ref vn, .ref t])) (.ref t) (waysD ways) := .tup (by rw [upd_ne (fun z => ne_of_none upd_same hr z)]; exact upd_same) ((hall.mono (TK.new ht)).mono (TK.new hr))
      have hvn6 : NamesAt (upd (upd H5 t (.tup acc)) r (.lst [.ref vn, .ref t])) (.ref vn) names := by
        obtain ⟨a, o, e, h, h'⟩ := hvn4
        exact ⟨a, o, e, k6.kp _ _ (fun z => by
          obtain ⟨_, _, _, hh, _⟩ := hw4
          rw [show a = wl from z, hh] at h
          cases h) h, h'⟩
      exact q r _ _ names ways tally _ ((k3.trans (k4.trans (k5.trans (Kp.new ht)))).fr _ hr) ((k3.trans k4).trans k6) hw6 upd_same ⟨hvn6, hvt, e1, e2, ht2, ht4, e3, ⟨fun rows hr => (hok rows hr).1, by omega, by omega⟩, by omega, by omega, fun rows hr => (hok rows hr).2⟩
abbrev s__law_free_ears : Stmt := top 72
abbrev n__law_free_ears : List Str := ["_law_well_here", "_law_names_here", "_law_ways_here", "_law_most_here", "_law_found", "_law_draw", "_law_each", "_law_way_here", "_law_at", "_law_to"]
theorem sc__law_free_ears : FnScope n__law_free_ears ["_law_well_here", "_law_names_here", "_law_ways_here", "_law_most_here"] (defScope s__law_free_ears) := ⟨rfl, rfl, rfl, by decide +kernel, rfl, by decide +kernel, by decide +kernel⟩
def spLFree : Sp := fun vs H Q _ => ∃ (wl : Addr) (vn vw : V) (n tally most : Nat) (names : List Str) (ways : List Rows), vs = [.ref wl, vn, vw, .int (most : Int)] ∧ Well n H wl ∧ Drawn H vn vw names ways tally ∧ most ≤ 5 ∧ n + 100 ≤ 1000000000 ∧
  ∀ (l : Addr) (es : List V) (ears : List Ear) (H' : Hp), H l = none → Kp (At wl) H H' → Well (n + 100) H' wl → H' l = some (.lst es) → TpAll H' es (ears.map (earD names)) → (∀ e ∈ ears, EarOk tally ways.length e ∧ Free ways e) → ears.Nodup → ears.length ≤ most → Q (.ref l) H'
theorem ok__law_free_ears {f : Addr} {fd : FuncData} (F : DefIn K mg "_law_free_ears" s__law_free_ears ["_law_well_here", "_law_names_here", "_law_ways_here", "_law_most_here"] f fd) (B : Bt mg) (D__law_dip : Def P w K mg base "_law_dip" 1 ["_law_well_here", "_law_many"] spDip) :
    Def P w K mg base "_law_free_ears" 2 ["_law_well_here", "_law_names_here", "_law_ways_here", "_law_most_here"] spLFree := by
  refine F.ok sc__law_free_ears (fun vs H Q E h => ?_) (fun cdv A outer s H vs Q E hr h => ?_)
  · obtain ⟨wl, vn, vw, n, tally, most, names, ways, rfl, _⟩ := h
    rfl
  · obtain ⟨wl, vn, vw, n, tally, most, names, ways, rfl, hw, hD, hmost, hn, q⟩ := h
    refine ⟨_, (pss_cons (ps_set (i := 4) sc__law_free_ears.nd rfl (by first | exact Or.inl rfl | exact Or.inr rfl) (pe_lst pa_nil))
      (pss_cons (ps_for PassesOwn.never rfl (pi_range1 rfl B.range (pa_cons (pe_def (D__law_dip.mono (by decide)) hr (by rfl) (pa_cons (pv 0) (pa_cons (pe_op op_add (pv 3) pe_int) pa_nil))) pa_nil)) (pg_name (i := 5) sc__law_free_ears.nd rfl (by first | exact Or.inl rfl | exact Or.inr rfl))
      (pss_cons (ps_par3 (i := 7) (j := 8) (l := 9) rfl sc__law_free_ears.nd rfl rfl rfl (by decide) (by decide) (by decide) rfl rfl rfl (pa_cons (pe_def (D__law_dip.mono (by decide)) hr (by rfl) (pa_cons (pv 0) (pa_cons (pe_callB (r_len K) (by rfl) B.len (by decide +kernel) (pa_cons (pv 2) pa_nil)) pa_nil))) (pa_cons (pe_def (D__law_dip.mono (by decide)) hr (by rfl) (pa_cons (pv 0) (pa_cons (pe_callB (r_len K) (by rfl) B.len (by decide +kernel) (pa_cons (pv 1) pa_nil)) pa_nil))) (pa_cons (pe_def (D__law_dip.mono (by decide)) hr (by rfl) (pa_cons (pv 0) (pa_cons (pe_callB (r_len K) (by rfl) B.len (by decide +kernel) (pa_cons (pv 1) pa_nil)) pa_nil))) pa_nil))) (by rfl))
        (pss_cons (ps_set (i := 6) sc__law_free_ears.nd rfl (by first | exact Or.inl rfl | exact Or.inr rfl) (pe_tup (pa_cons (pv 7) (pa_cons (pe_ix (x_tup K) (pv 1) (pv 8) (fun _ _ => rfl)) (pa_cons (pe_ix (x_tup K) (pv 1) (pv 9) (fun _ _ => rfl)) pa_nil)))))
        (pss_one (ps_if (PW.pt (pw_and (pt_cmpR op_eq (pe_ix (x_tup K) (pe_ix (x_tup K) (pe_ix (x_tup K) (pv 2) (pv 7) (fun _ _ => rfl)) (pv 8) (fun _ _ => rfl)) (pv 9) (fun _ _ => rfl)) pe_int (nomark _)) (pw_and1 (pt_cmpR (o_notInD K hr.u65) (pv 6) (pv 4) (by rfl)))))
        (pss_one (ps_expr (pe_bm PySem.F.plainAttrs_list PySem.F.slot_list_append PySem.F.type_list_append mt_append (pv 4) (pa_cons (pv 6) pa_nil))))
        pss_nil)))))
      (pss_one (ps_ret (pv 4))))), ?_⟩
    have hsz : (2000 : Nat) < sizeLine := by decide
    obtain ⟨na, no, rfl, hna, hno⟩ := id hD.vn
    obtain ⟨wa, ws, rfl, hwa, hall⟩ := hD.vw.tuple
    have hwsl : ws.length = ways.length := by rw [hall.length, List.length_map]
    have hnaw : na ≠ wl := fun z => by
      obtain ⟨_, _, _, h, _⟩ := hw
      rw [z, h] at hna
      cases hna
    have hone := hD.one
    have htwo := hD.two
    have hfour := hD.four
    have hthree := hD.three
    have hlen := hD.len
    have W := hD.W
    have hnm := hD.nm
    refine ⟨(show 0 ≤ sizeLine by decide), fun l hl => ?_⟩
    have k1 : Kp (At wl) H (upd H l (.lst [])) := Kp.new hl
    have hw1 := hw.upd (o := .lst []) (hw.ne hl)
    have hl1 : upd H l (.lst []) l = some (.lst []) := upd_same
    have hlw := hw.ne hl
    generalize upd H l (.lst []) = H1 at *
    refine ⟨_, rfl, _, rfl, _, _, rfl, rfl, wl, n, most + 1, rfl, hw1, by omega, by omega, by omega, fun d H2 hd k2 hw2 => ?_⟩
    refine ⟨(d : Int), rfl, by omega, by omega, ?_⟩
    rw [Int.toNat_natCast]
    refine for_it walk_range0 (fun i σ H3 => Kp (At wl) H H3 ∧ Well (n + 1 + 3 * i) H3 wl ∧ ∃ (es : List V) (ears : List Ear) (o5 o6 o7 o8 o9 : Option V), σ = [some (.ref wl), some (.ref na), some (.ref wa), some (.int (most : Int)), some (.ref l), o5, o6, o7, o8, o9] ∧ H3 l = some (.lst es) ∧ TpAll H3 es (ears.map (earD names)) ∧ (∀ e ∈ ears, EarOk tally ways.length e ∧ Free ways e) ∧ ears.Nodup ∧ ears.length ≤ i)
      ⟨k1.trans k2, hw2, [], [], _, _, _, _, _, rfl, k2.kp _ _ hlw hl1, .nil, (by intro x hx; cases hx), List.nodup_nil, Nat.le_refl _⟩ (fun _ _ _ _ _ => True.intro) (fun i x σ H3 H3' hi h hy => ?_) (fun σ H3 h => ?_)
    · obtain ⟨k3, hw3, es, ears, o5, o6, o7, o8, o9, rfl, hl3, hes, hok, nd, hel⟩ := h
      obtain ⟨rfl, rfl⟩ := hy
      have hesl : es.length = ears.length := by rw [hes.length, List.length_map]
      have hwa3 := k3.tu _ _ hwa
      have hna3 := k3.kp _ _ hnaw hna
      refine ⟨_, rfl, _, rfl, wa, _, rfl, .inr (SqT.of hwa3), wl, n + 1 + 3 * i, ws.length, rfl, hw3, by omega, by omega, by omega, fun y H4 hy4 k4 hw4 => ?_⟩
      have hna4 := k4.kp _ _ hnaw hna3
      refine ⟨_, rfl, _, rfl, na, _, rfl, .inr (sqF hna4), wl, n + 1 + 3 * i + 1, (names.map V.str).length, rfl, hw4, by omega, by rw [List.length_map]; omega, by rw [List.length_map]; omega, fun a H5 ha5 k5 hw5 => ?_⟩
      have hna5 := k5.kp _ _ hnaw hna4
      refine ⟨_, rfl, _, rfl, na, _, rfl, .inr (sqF hna5), wl, n + 1 + 3 * i + 2, (names.map V.str).length, rfl, hw5, by omega, by rw [List.length_map]; omega, by rw [List.length_map]; omega, fun b H6 hb6 k6 hw6 => ?_⟩
      have hna6 := k6.kp _ _ hnaw hna5
      rw [List.length_map, hlen] at ha5 hb6
      rw [hwsl] at hy4
      have kk6 := (k4.trans k5).trans k6
      have hl6 := kk6.kp _ _ hlw hl3
      refine ⟨_, _, _, rfl, ?_⟩
      refine ⟨_, rfl, _, rfl, _, rfl, na, _, (a : Int), .str (nm names a), rfl, rfl, sqF hna6, atI_nat (by rw [List.getElem?_map, nm_at (by rw [hlen]; exact ha5)]; rfl), _, rfl, _, rfl, na, _, (b : Int), .str (nm names b), rfl, rfl, sqF hna6, atI_nat (by rw [List.getElem?_map, nm_at (by rw [hlen]; exact hb6)]; rfl), (show 3 ≤ sizeLine by omega), fun T2 hT2 => ?_⟩
      have k8 : Kp (At wl) H6 (upd H6 T2 (.tup [.int (y : Int), .str (nm names a), .str (nm names b)])) := Kp.new hT2
      have hw8 := hw6.upd (o := .tup [.int (y : Int), .str (nm names a), .str (nm names b)]) (hw6.ne hT2)
      have hT8 : upd H6 T2 (.tup [.int (y : Int), .str (nm names a), .str (nm names b)]) T2 = some (.tup [.int (y : Int), .str (nm names a), .str (nm names b)]) := upd_same
      generalize upd H6 T2 (.tup [.int (y : Int), .str (nm names a), .str (nm names b)]) = H8 at *
      have kk8 := kk6.trans k8
      have hl8 := k8.kp _ _ hlw hl6
      have hv8 : Tp H8 (.ref T2) (earD names (y, a, b)) := .tup hT8 (.cons (.int _) (.cons (.str _) (.cons (.str _) .nil)))
      obtain ⟨d1, hd1, hvr⟩ := (TpAll.mono (k3.trans kk8).tu hall).get' (i := y) (d := wayD (ways.getD y [])) (by rw [List.getElem?_map, getD_of hy4 []]; rfl)
      have hWy := W.way _ (List.mem_of_getElem? (getD_of hy4 []))
      have hwa8 := (k3.trans kk8).tu _ _ hwa
      have hfr : ((ways.getD y []).getD a []).getD b 0 = 0 → Free ways (y, a, b) := fun z => z
      generalize ways.getD y [] = rows at *
      obtain ⟨ra, rvs, rfl, hra, hrall⟩ := hvr.tuple
      have hya : a < rows.length := by rw [hWy.len]; exact ha5
      obtain ⟨d2, hd2, hvr2⟩ := hrall.get' (i := a) (d := rowD (rows.getD a [])) (by rw [List.getElem?_map, getD_of hya []]; rfl)
      have hrl := hWy.row _ (List.mem_of_getElem? (getD_of hya []))
      generalize rows.getD a [] = row at *
      obtain ⟨rb, rws, rfl, hrb, hrow⟩ := hvr2.tuple
      obtain rfl := TpAll.ints_inv hrow
      refine ⟨_, rfl, _, rfl, wa, _, (y : Int), .ref ra, rfl, rfl, SqT.of hwa8, atI_nat hd1, _, rfl, ra, _, (a : Int), .ref rb, rfl, rfl, SqT.of hra, atI_nat hd2, _, rfl, rb, _, (b : Int), .int (row.getD b 0), rfl, rfl, SqT.of hrb, atI_nat (by rw [List.getElem?_map, getD_of (by rw [hrl]; exact hb6) 0]; rfl), rfl, _, rfl, ?_⟩
      have hes8 := hes.mono kk8.tu
      have hOk : EarOk tally ways.length (y, a, b) := ⟨hy4, ha5, hb6⟩
      have kk := k3.trans kk8
      have rest : ∀ o5 o6 o7 o8 o9 : Option V, Kp (At wl) H H8 ∧ Well (n + 1 + 3 * (i + 1)) H8 wl ∧ ∃ (es : List V) (ears : List Ear) (p5 p6 p7 p8 p9 : Option V), ([some (.ref wl), some (.ref na), some (.ref wa), some (.int (most : Int)), some (.ref l), o5, o6, o7, o8, o9] : L2.St) = [some (.ref wl), some (.ref na), some (.ref wa), some (.int (most : Int)), some (.ref l), p5, p6, p7, p8, p9] ∧ H8 l = some (.lst es) ∧ TpAll H8 es (ears.map (earD names)) ∧ (∀ e ∈ ears, EarOk tally ways.length e ∧ Free ways e) ∧ ears.Nodup ∧ ears.length ≤ i + 1 :=
        fun o5 o6 o7 o8 o9 => ⟨kk, hw8, es, ears, _, _, _, _, _, rfl, hl8, hes8, hok, nd, by omega⟩
      refine ite2 (fun h => ?_) (fun h => ?_)
      · have hz : row.getD b 0 = 0 := V.int.inj (of_decide_eq_true h)
        refine ⟨_, rfl, _, rfl, earD names (y, a, b), ears.map (earD names), hv8.dp K, .lst (SqL.of hl8) (hes8.dp K), shaped_of (earD_lay hnm _) (by have := earD_depth names (y, a, b); omega), list_shaped (earD names) ears 2 (by decide) (fun e _ => ⟨earD_lay hnm e, earD_depth names e⟩), _, rfl, ?_⟩
        have hany : ((ears.map (earD names)).any fun z => PyData.eqv z (earD names (y, a, b))) = decide ((y, a, b) ∈ ears) := by
          rw [List.any_map, Bool.eq_iff_iff, List.any_eq_true, decide_eq_true_eq]
          constructor
          · rintro ⟨e, he, hq⟩
            have hq : PyData.eqv (earD names e) (earD names (y, a, b)) = true := hq
            rw [earD_eqv hnm.nd hlen (hok e he).1 hOk] at hq
            rw [← of_decide_eq_true hq]
            exact he
          · intro he
            exact ⟨_, he, by show PyData.eqv (earD names (y, a, b)) (earD names (y, a, b)) = true; rw [earD_eqv hnm.nd hlen hOk hOk]; exact decide_eq_true rfl⟩
        rw [hany]
        refine ite2 (fun h => ?_) (fun h => rest _ _ _ _ _)
        have hni : (y, a, b) ∉ ears := by simpa using h
        refine ⟨_, rfl, .inl ⟨rfl, _, SqL.of hl8⟩, _, rfl, l, _, _, rfl, rfl, hl8, by omega, ?_⟩
        refine ⟨Kp.own kk hl hl8 (by intro xs z; cases z), hw8.upd hlw, es ++ [.ref T2], ears ++ [(y, a, b)], _, _, _, _, _, rfl, upd_same, ?_, fun e he => ?_, ?_, by rw [List.length_append, List.length_singleton]; omega⟩
        · rw [List.map_append]
          exact (hes8.snoc hv8).mono (TK.upd_lst hl8)
        · rcases List.mem_append.mp he with he | he
          · exact hok e he
          · obtain rfl := List.mem_singleton.mp he
            exact ⟨hOk, hfr hz⟩
        · rw [List.nodup_append]
          exact ⟨nd, by simp, fun x hx z hz e => hni (by rw [List.mem_singleton.mp hz] at e; rw [← e]; exact hx)⟩
      · exact rest _ _ _ _ _
    · obtain ⟨k3, hw3, es, ears, o5, o6, o7, o8, o9, rfl, hl3, hes, hok, nd, hel⟩ := h
      exact ⟨_, rfl, q l es ears H3 hl k3 (hw3.mono (by omega)) hl3 hes hok nd (by omega)⟩
end
end AA

/-! ## T23 -/
set_option Elab.async false
set_option linter.all false
set_option maxRecDepth 100000
set_option maxHeartbeats 4000000
/-! T23: defs whose promise holds where no repr is under way (repr of a list asks the guards), and calls with keywords alone. -/
namespace AA
open PySem PySem.Spec PyProof.Rows L2 PySem.W
/-- as FnOk, at a place where nothing is guarded -/
structure FnG (P : Program) (w : World) (K : PySem.W.Frag) (mg : Str → Option Value) (base : Heap) (k : Nat) (f : Addr) (fd : FuncData) (ps : List Str) (sp : Sp) : Prop where
  size : ∀ {args : List V} {G : Hp} {R : VK} {T : XK}, sp args G R T → args.length = ps.length
  goes : ∀ {Z : Around} {fr : List Env} {st : Shared} {G : Hp} {given : Args} {raw : List Value} {args : List V} {R : VK} {T : XK}, Room k Z → Z.guards = some [] → Env0 P w K mg base Z fr st G → BindsTo st fd given (ps.zip raw) → Vals args raw → sp args G R T →
    codeAny (model P w) Z (.call (.ref f) given) (CR CX0 fr P w G st R T) st
section
variable {P : Program} {w : World} {K : PySem.W.Frag} {mg : Str → Option Value} {base : Heap}
theorem DefIn.okG {x : Str} {st : Stmt} {f : Addr} {fd : FuncData} {N ps : List Str} {k : Nat} {sp : Sp} (D : DefIn K mg x st ps f fd) (S : FnScope N ps (defScope st)) (size : ∀ vs H Q E, sp vs H Q E → vs.length = ps.length)
    (body : ∀ (cdv : Value) (A : Around) (outer : List Env) (s : Shared) (H : Hp) (vs : List V) (Q : VK) (E : XK), Room k (A.deeper (envOfC x (defScope st) s.heap.objs.size f cdv)) → (A.deeper (envOfC x (defScope st) s.heap.objs.size f cdv)).guards = some [] → sp vs H Q E →
      ∃ t, PSs (cxOf CX0 P w K mg base N x (defScope st) f cdv A outer s H E).nox (defBody st) t ∧ t { nx := fun _ H' => Q .non H', rt := Q } (start N vs) H) : FnG P w K mg base (k + 1) f fd ps sp := by
  obtain ⟨oc, od, kV, doc, pm, an, cdv, ct, osl, rfl, lk, hcd⟩ := D.fn.ex
  refine ⟨fun h => size _ _ _ _ h, fun {Z fr st' G given raw args R T} room free e0 bind rel want => ?_⟩
  have keep : ∀ (b : Addr) (o : Obj), base.get? b = some o → st'.heap.get? b = some o := fun b o e => (e0.bs b o e).1
  have inK := e0.mod.kin.keeps keep
  obtain ⟨t, ht, hq⟩ := body cdv Z fr st' G args R T (room.deeper _) free want
  refine codeAny_call_function room.depth (inK _ _ lk) rfl S.co S.gen rfl (PySem.W.codeRec_of inK hcd) (bind _ _ _ _ (wpAny_newFunctionEnv_cells S.kind (fun y hy => ?_) fun env he s1 grew => ?_))
  · rcases S.par y.1 (List.of_mem_zip hy).1 with loc | cell
    · exact .inl loc
    · exact .inr ⟨cell, PySem.W.cellsFrom_some _ _ _ (.inl cell)⟩
  · subst he
    refine ⟨(e0.mod.nolimit.keeps keep).keeps grew.toInCall.keep, codeAny_func ?_⟩
    have I := inv_start (CX := CX0) (E := T) S room.hd e0 (size _ _ _ _ want) rel grew
    refine wpAny_mono (ht.nox.run [] s1 (start N args) G _ I hq) (fun fl s' hs => ?_) fun _ _ hs => hs
    cases fl with
    | ret u =>
      obtain ⟨v, σ', G', J, rv, q⟩ := hs
      exact ⟨v, G', J.os, J.bare, J.base, J.hok, rv, q⟩
    | next =>
      obtain ⟨σ', G', J, q⟩ := hs
      exact ⟨V.non, G', J.os, J.bare, J.base, J.hok, rfl, q⟩
    | brk =>
      obtain ⟨_, _, _, q⟩ := hs
      exact q.elim
    | cont =>
      obtain ⟨_, _, _, q⟩ := hs
      exact q.elim
end
/-- a def that keeps a promise where nothing is guarded stands under its name -/
structure DefG (P : Program) (w : World) (K : PySem.W.Frag) (mg : Str → Option Value) (base : Heap) (x : Str) (k : Nat) (ps : List Str) (sp : Sp) : Prop where
  ex : ∃ f fd, FnG P w K mg base k f fd ps sp ∧ mg x = some (.ref f) ∧ PySem.W.keepIn K (.ref f) = true ∧ Binds K fd ps []
theorem FnG.mono {P : Program} {w : World} {K : PySem.W.Frag} {mg : Str → Option Value} {base : Heap} {j k : Nat} {f : Addr} {fd : FuncData} {ps : List Str} {sp : Sp} (F : FnG P w K mg base j f fd ps sp) (h : j ≤ k) : FnG P w K mg base k f fd ps sp :=
  ⟨F.size, fun room => F.goes (room.mono h)⟩
theorem DefG.mono {P : Program} {w : World} {K : PySem.W.Frag} {mg : Str → Option Value} {base : Heap} {x : Str} {j k : Nat} {ps : List Str} {sp : Sp} (D : DefG P w K mg base x j ps sp) (h : j ≤ k) : DefG P w K mg base x k ps sp := by
  obtain ⟨f, fd, F, h1⟩ := D
  exact ⟨f, fd, F.mono h, h1⟩
section
variable {X : Cx} {x : Str} {k : Nat} {ps ks : List Str} {sp : Sp} {p pos : Pos} {e : Expr} {es : List Expr} {t tk : TA} {kws : List Keyword}
/-- f(e, ..) where nothing is guarded -/
theorem pe_defG (D : DefG X.prog X.w X.K X.mg X.base x k ps sp) (hr : Room k X.A) (free : X.A.guards = some []) (hg : Gl X x) (ha : PA X (e :: es) t) (hdb : (x == ("__debug__" : Str)) = false := by decide)
    (he : starEach (e :: es) X.env = (false, eval e X.env) :: starEach es X.env := by rfl) (hpl : (backTo pos (starEach es X.env)).any (·.1) = false := by rfl) : PE X (.Call (.Name x p) (e :: es) [] pos) (tCall sp [] E0 t) := by
  obtain ⟨f, fd, F, hm, hk, hb⟩ := D
  refine ⟨fun pins s σ H Q I want => wpAny_Call_Name_kw (ld_glob I hg hm ?_ hdb)⟩
  refine PySem.W.callWith_K (h₀ := X.base) I.ok.mod.kin hk (thn (ha.run pos pins s σ H _ I want) fun us s1 got => ?_) he hpl
  obtain ⟨args, H1, J, rel, q⟩ := got
  rw [List.append_nil] at q
  refine ⟨J.kIn, wpAny_call (codeAny_mono (F.goes hr free J.env0 ?_ rel q) fun out s2 post => ?_)⟩
  · have := hb s1 us J.kIn (by rw [List.append_nil, ← rel.length]; exact F.size q)
    rwa [List.append_nil] at this
  · match out, post with
    | .ok (.ret _), post => exact J.after post
    | .error _, post => exact pass0 pins σ H1 s1 _ s2 J post
    | .ok .next, post => exact post.elim
    | .ok .brk, post => exact post.elim
    | .ok .cont, post => exact post.elim
/-- a def of two parameters, called by keywords alone, the second first -/
structure DefK (P : Program) (w : World) (K : PySem.W.Frag) (mg : Str → Option Value) (base : Heap) (x : Str) (k : Nat) (p1 p2 : Str) (sp : Sp) : Prop where
  ex : ∃ f fd, FnOk P w K mg base CX0 k f fd [p1, p2] sp ∧ mg x = some (.ref f) ∧ PySem.W.keepIn K (.ref f) = true ∧ ∀ (s : Shared) (a b : Value), BindsTo s fd ⟨[], [(p2, b), (p1, a)]⟩ [(p1, a), (p2, b)]
theorem DefK.mono {P : Program} {w : World} {K : PySem.W.Frag} {mg : Str → Option Value} {base : Heap} {x : Str} {j k : Nat} {p1 p2 : Str} {sp : Sp} (D : DefK P w K mg base x j p1 p2 sp) (h : j ≤ k) : DefK P w K mg base x k p1 p2 sp := by
  obtain ⟨f, fd, F, h1⟩ := D
  exact ⟨f, fd, F.mono h, h1⟩
def tCallW (sp : Sp) (tk : TA) : TE := fun σ H Q => tk σ H fun zs H1 => ∃ b a, zs = [b, a] ∧ sp [a, b] H1 Q E0
/-- f(second = .., first = ..) -/
theorem pe_kw {p1 p2 : Str} (D : DefK X.prog X.w X.K X.mg X.base x k p1 p2 sp) (hr : Room k X.A) (hg : Gl X x) (hkw : PK X kws tk) (hall : (backToKw pos (keywordEach kws X.env)).all (·.1.isSome) = true := by rfl)
    (hks : (backToKw pos (keywordEach kws X.env)).filterMap (·.1) = [p2, p1] := by rfl) (hdb : (x == ("__debug__" : Str)) = false := by decide)
    (hpl : ((backTo pos (starEach [] X.env)).any (·.1) || (backToKw pos (keywordEach kws X.env)).any (·.1.isNone)) = false := by rfl) : PE X (.Call (.Name x p) [] kws pos) (tCallW sp tk) := by
  obtain ⟨f, fd, F, hm, hk, hb⟩ := D
  refine ⟨fun pins s σ H Q I want => wpAny_Call_Name_kw (ld_glob I hg hm ?_ hdb)⟩
  refine PySem.W.callWith_KW0 (h₀ := X.base) I.ok.mod.kin hk hall (thn (hkw.run pos pins s σ H _ I want) fun ws s2 got => ?_) hpl
  obtain ⟨zs, H2, J, rz, b, a, rfl, q⟩ := got
  obtain ⟨wb, wa, rfl, rb, ra⟩ := vals2 rz
  rw [hks]
  refine ⟨J.kIn, wpAny_call (codeAny_mono (F.run X.A X.stack s2 H2 _ [wa, wb] [a, b] Q E0 hr J.env0 (hb s2 wa wb) (.cons ra (.cons rb .nil)) q) fun out s3 post => ?_)⟩
  match out, post with
  | .ok (.ret _), post => exact J.after post
  | .error _, post => exact pass0 pins σ H2 s2 _ s3 J post
  | .ok .next, post => exact post.elim
  | .ok .brk, post => exact post.elim
  | .ok .cont, post => exact post.elim
end
end AA

/-! ## Sh -/
set_option Elab.async false
set_option linter.all false
set_option maxRecDepth 100000
set_option maxHeartbeats 4000000
/-! Sh: data that repr shows: how long the text can be. -/
namespace AA
open PySem PySem.Spec PyProof.Rows L2 PySem.W
/-- repr shows it: at most n signs and places, m deep -/
structure Shw (n m : Nat) (d : PyData) : Prop where
  nd : d.hasDict = false
  sh : d.showable = true
  lv : d.leavesShort 13 = true
  wt : d.weight ≤ n
  dp : d.depth ≤ m
theorem shw_non (m : Nat) : Shw 0 (m + 1) .none := ⟨rfl, rfl, rfl, Nat.le_refl _, by rw [PyData.depth]; omega⟩
theorem log_le {k : Nat} (h : k < 2 ^ 30) : k.log2 ≤ 30 := by
  rcases Nat.eq_zero_or_pos k with rfl | h0
  · decide
  · exact Nat.le_of_lt ((Nat.log2_lt (by omega)).mpr h)
theorem shw_int {i : Int} (h : i.natAbs < 2 ^ 30) (m : Nat) : Shw 31 (m + 1) (.int i) := by
  have hl := log_le h
  refine ⟨rfl, ?_, ?_, ?_, by rw [PyData.depth]; omega⟩
  · rw [PyData.showable]
    exact decide_eq_true (by omega)
  · rw [PyData.leavesShort]
    exact decide_eq_true (PyData.shown_int_le (by omega))
  · rw [PyData.weight]
    split <;> omega
theorem shw_all {n m : Nat} : ∀ {ds : List PyData}, (∀ d ∈ ds, Shw n m d) → PyData.hasDictAll ds = false ∧ PyData.showableAll ds = true ∧ PyData.leavesShortAll 13 ds = true ∧ PyData.weightAll ds ≤ (n + 1) * ds.length ∧ PyData.depthAll ds ≤ m
  | [], _ => ⟨rfl, rfl, rfl, by rw [PyData.weightAll]; omega, by rw [PyData.depthAll]; omega⟩
  | d :: ds, h => by
    obtain ⟨h1, h2, h3, h4, h5⟩ := shw_all (ds := ds) fun x hx => h x (List.mem_cons_of_mem _ hx)
    have k := h d List.mem_cons_self
    refine ⟨?_, ?_, ?_, ?_, ?_⟩
    · rw [PyData.hasDictAll, k.nd, h1]; rfl
    · rw [PyData.showableAll, k.sh, h2]; rfl
    · rw [PyData.leavesShortAll, k.lv, h3]; rfl
    · rw [PyData.weightAll, List.length_cons, Nat.mul_succ]
      have := k.wt
      omega
    · rw [PyData.depthAll]
      have := k.dp
      omega
theorem shw_tuple {n m : Nat} {ds : List PyData} (h : ∀ d ∈ ds, Shw n m d) : Shw ((n + 1) * ds.length) (m + 1) (.tuple ds) := by
  obtain ⟨h1, h2, h3, h4, h5⟩ := shw_all h
  exact ⟨by rw [PyData.hasDict]; exact h1, by rw [PyData.showable]; exact h2, by rw [PyData.leavesShort]; exact h3, by rw [PyData.weight]; exact h4, by rw [PyData.depth]; omega⟩
theorem shw_list {n m : Nat} {ds : List PyData} (h : ∀ d ∈ ds, Shw n m d) : Shw ((n + 1) * ds.length) (m + 1) (.list ds) := by
  obtain ⟨h1, h2, h3, h4, h5⟩ := shw_all h
  exact ⟨by rw [PyData.hasDict]; exact h1, by rw [PyData.showable]; exact h2, by rw [PyData.leavesShort]; exact h3, by rw [PyData.weight]; exact h4, by rw [PyData.depth]; omega⟩
theorem Shw.mono {n n' m m' : Nat} {d : PyData} (h : Shw n m d) (hn : n ≤ n') (hm : m ≤ m') : Shw n' m' d := ⟨h.nd, h.sh, h.lv, Nat.le_trans h.wt hn, Nat.le_trans h.dp hm⟩
/-- a list of two of them -/
theorem shw_two {n m : Nat} {x y : PyData} (hx : Shw n m x) (hy : Shw n m y) : Shw ((n + 1) * 2) (m + 1) (.list [x, y]) :=
  shw_list (ds := [x, y]) fun d hd => by
    rcases List.mem_cons.mp hd with rfl | hd
    · exact hx
    · rw [List.mem_singleton.mp hd]
      exact hy
theorem shw_lot {l : Lot} (h : ∀ k ∈ l, k < 1000) (hl : l.length ≤ 6) : Shw 192 2 (lotD l) := by
  refine (shw_tuple (n := 31) (m := 1) fun d hd => ?_).mono (by rw [List.length_map]; omega) (by omega)
  obtain ⟨k, hk, rfl⟩ := List.mem_map.mp hd
  have := h k hk
  exact shw_int (by omega) 0
theorem shw_lots {ls : List Lot} (h : ∀ l ∈ ls, (∀ k ∈ l, k < 1000) ∧ l.length ≤ 6) (hl : ls.length ≤ 1000) : Shw 193000 3 (.tuple (ls.map lotD)) := by
  refine (shw_tuple (n := 192) (m := 2) fun d hd => ?_).mono (by rw [List.length_map]; omega) (by omega)
  obtain ⟨l, hk, rfl⟩ := List.mem_map.mp hd
  exact shw_lot (h l hk).1 (h l hk).2
/-- what repr asks -/
theorem Shw.out {n m : Nat} {d : PyData} (h : Shw n m d) (hn : n ≤ 1000000) (hm : m ≤ 60) : d.hasDict = false ∧ d.showable = true ∧ d.depth ≤ 60 ∧ d.shown.length ≤ sizeLine :=
  ⟨h.nd, h.sh, Nat.le_trans h.dp hm, PyData.shown_fits (by decide) (by decide) h.lv (Nat.le_trans h.wt (Nat.le_trans hn (by decide)))⟩
end AA

/-! ## T24 -/
set_option Elab.async false
set_option linter.all false
set_option maxRecDepth 100000
set_option maxHeartbeats 4000000
namespace AA
open PySem PySem.Spec PyProof.Rows L2 PySem.W
theorem keepW_nil (ways : List Rows) : keepW ways [] = ways := by
  unfold keepW
  rw [List.filter_eq_self.mpr (fun i _ => by simp)]
  have := range_get ways (fun x => x) []
  rw [List.map_id'] at this
  exact this
/-- the law's pairs: the worst case and its place -/
def lawPair (rows : List Lot) (k : Nat) : PyData := lotD [worstW rows k, k]
theorem lawPair_lt (rows : List Lot) (i j : Nat) : dataLt (lawPair rows i) (lawPair rows j) = decide (worstW rows i < worstW rows j ∨ (worstW rows i = worstW rows j ∧ i < j)) := by
  unfold lawPair
  rw [dataLt_lot, show lexLtN [worstW rows i, i] [worstW rows j, j] = (if worstW rows i = worstW rows j then (if i = j then false else decide (i < j)) else decide (worstW rows i < worstW rows j)) from rfl, Bool.eq_iff_iff]
  split
  · split
    · simp; omega
    · simp; omega
  · simp; omega
theorem law_min (rows : List Lot) (m : Nat) : ∃ j, minD (lawPair rows 0) ((List.range m).map fun i => lawPair rows (i + 1)) = lawPair rows j ∧ j ≤ m ∧ (∀ k, k ≤ m → worstW rows j ≤ worstW rows k) ∧ ∀ k, k < j → worstW rows j < worstW rows k := by
  induction m with
  | zero => exact ⟨0, rfl, Nat.le_refl _, fun k hk => by rw [show k = 0 by omega]; exact Nat.le_refl _, fun k hk => absurd hk (Nat.not_lt_zero _)⟩
  | succ m ih =>
    obtain ⟨j, h1, h2, h3, h4⟩ := ih
    unfold minD at h1 ⊢
    rw [List.range_succ, List.map_append, List.foldl_append, h1]
    show ∃ j', (if dataLt (lawPair rows (m + 1)) (lawPair rows j) then lawPair rows (m + 1) else lawPair rows j) = lawPair rows j' ∧ _
    rw [lawPair_lt]
    by_cases h : worstW rows (m + 1) < worstW rows j
    · refine ⟨m + 1, if_pos (decide_eq_true (.inl h)), Nat.le_refl _, fun k hk => ?_, fun k hk => ?_⟩
      · rcases Nat.lt_or_ge k (m + 1) with z | z
        · have := h3 k (by omega)
          omega
        · rw [show k = m + 1 by omega]
          exact Nat.le_refl _
      · have := h3 k (by omega)
        omega
    · refine ⟨j, if_neg (by simp; omega), by omega, fun k hk => ?_, h4⟩
      rcases Nat.lt_or_ge k (m + 1) with z | z
      · exact h3 k (by omega)
      · rw [show k = m + 1 by omega]
        omega
theorem depthAll_le {m : Nat} : ∀ {ds : List PyData}, (∀ d ∈ ds, d.depth ≤ m) → PyData.depthAll ds ≤ m
  | [], _ => by rw [PyData.depthAll]; omega
  | d :: ds, h => by
    rw [PyData.depthAll]
    have h1 := h d List.mem_cons_self
    have h2 := depthAll_le (ds := ds) fun x hx => h x (List.mem_cons_of_mem _ hx)
    omega
theorem tNext_intro {X b c : L2.St → Hp → Prop} {r : VK} {σ : L2.St} {H : Hp} (h : X σ H) : tNext { nx := X, rt := r, bk := b, ct := c } σ H := h
theorem join_if {te : TE} {g : TG} {t : TT} {a b rest : TS} {D : L2.Ends} {σ : L2.St} {H : Hp} (I : L2.St → Hp → Prop) (key : ∀ σ H, I σ H → rest D σ H) (h : (∀ σ H, I σ H → rest D σ H) → tSeq (tAsg te g) (tSeq (tIfS t a b) rest) D σ H) : tSeq (tAsg te g) (tSeq (tIfS t a b) rest) D σ H := h key
theorem shw_optV {o : Option Nat} (h : ∀ j, o = some j → j < 1000) : ∃ d, (∀ H, Tp H (optV o) d) ∧ Shw 31 1 d := by
  cases o with
  | none => exact ⟨.none, fun H => .non, (shw_non 0).mono (by omega) (Nat.le_refl _)⟩
  | some j => exact ⟨.int (j : Int), fun H => .int _, shw_int (by have := h j rfl; omega) 0⟩
section
variable {P : Program} {w : World} {K : PySem.W.Frag} {mg : Str → Option Value} {base : Heap}
abbrev s__law_doubts_right : Stmt := top 73
abbrev n__law_doubts_right : List Str := ["_law_made", "_law_names_here", "_law_ways_here", "_law_ears_here", "_law_good", "_law_row_here", "_law_due", "_law_told", "_law_worst", "_law_k", "_law_there"]
theorem sc__law_doubts_right : FnScope n__law_doubts_right ["_law_made", "_law_names_here", "_law_ways_here", "_law_ears_here"] (defScope s__law_doubts_right) := ⟨rfl, rfl, rfl, by decide +kernel, rfl, by decide +kernel, by decide +kernel⟩
def spDoubtsR (C : Addr) (T : List (Addr × Str)) : Sp := fun vs H Q _ => ∃ (c vn vw ve : V) (n : Nat) (names : List Str) (ways : List Rows) (ears : List Ear), vs = [c, vn, vw, ve] ∧ CouncilAt C H c names ways ∧ Drawn H vn vw names ways n ∧ Tp H ve (.tuple (ears.map (earD names))) ∧ (∀ e ∈ ears, EarOk n ways.length e ∧ Free ways e) ∧ ears.Nodup ∧ ears.length ≤ 6 ∧ LamX.Tabs T H ∧
  ∀ H', KN No H H' → LamX.Tabs T H' → Q (.bl true) H'
theorem ok__law_doubts_right {f C : Addr} {T : List (Addr × Str)} {fd : FuncData} (F : DefIn K mg "_law_doubts_right" s__law_doubts_right ["_law_made", "_law_names_here", "_law_ways_here", "_law_ears_here"] f fd) (B : Bt mg)
    (D__law_sets : Def P w K mg base "_law_sets" 1 ["_law_tally"] spLSets) (D__law_is_good : Def P w K mg base "_law_is_good" 4 ["_law_ways_here"] spLGood) (D__law_with : Def P w K mg base "_law_with" 1 ["_law_names_here", "_law_ways_here", "_law_ears_here", "_law_struck"] spLWith)
    (D_doubtful : Def P w K mg base "doubtful" 7 ["council", "doubts"] (spDoubtful C T)) (W_doubtful : DefK P w K mg base "doubtful" 7 "council" "doubts" (spDoubtful C T))
    (D_telling_doubt : Def P w K mg base "telling_doubt" 7 ["council", "doubts"] (spTelling C T)) (W_telling_doubt : DefK P w K mg base "telling_doubt" 7 "council" "doubts" (spTelling C T)) :
    FnG P w K mg base 8 f fd ["_law_made", "_law_names_here", "_law_ways_here", "_law_ears_here"] (spDoubtsR C T) := by
  refine F.okG sc__law_doubts_right (fun vs H Q E h => ?_) (fun cdv A outer s H vs Q E hr hg h => ?_)
  · obtain ⟨c, vn, vw, ve, _, _, _, _, rfl, _⟩ := h
    rfl
  · obtain ⟨c, vn, vw, ve, n, names, ways, ears, rfl, hco, hD, hv, hok, nd, h6, hT, q⟩ := h
    refine ⟨_, (pss_cons (ps_set (i := 4) sc__law_doubts_right.nd rfl (by first | exact Or.inl rfl | exact Or.inr rfl) (pe_lst pa_nil))
      (pss_cons (ps_for PassesOwn.never rfl (pi_listK K (pe_def (D__law_sets.mono (by decide)) hr (by rfl) (pa_cons (pe_callB (r_len K) (by rfl) B.len (by decide +kernel) (pa_cons (pv 3) pa_nil)) pa_nil))) (pg_name (i := 5) sc__law_doubts_right.nd rfl (by first | exact Or.inl rfl | exact Or.inr rfl))
      (pss_one (ps_if (pt_val (pe_def (D__law_is_good.mono (by decide)) hr (by rfl) (pa_cons (pe_def (D__law_with.mono (by decide)) hr (by rfl) (pa_cons (pv 1) (pa_cons (pv 2) (pa_cons (pe_lc rfl sc__law_doubts_right.nd (pi_tupK K (pv 5)) (blkOk_by (own := [("_law_k", 9)]) (N := n__law_doubts_right) (sc := defScope s__law_doubts_right) (by decide +kernel)) (fun _ _ _ _ _ => (pg_name (i := 9) sc__law_doubts_right.nd rfl (by first | exact Or.inl rfl | exact Or.inr rfl))) (fun _ _ _ _ _ => pts_nil) (fun _ _ _ _ _ => (pe_ix (x_tup K) (pv 3) (pv 9) (fun _ _ => rfl)))) (pa_cons (pe_lst pa_nil) pa_nil))))) pa_nil)))
        (pss_one (ps_expr (pe_bm PySem.F.plainAttrs_list PySem.F.slot_list_append PySem.F.type_list_append mt_append (pv 4) (pa_cons (pv 5) pa_nil))))
        pss_nil)))
      (pss_cons (ps_if (pt_cmpR op_ne (pe_callB (r_repr K hg hr.units) (by rfl) B.repr (by decide +kernel) (pa_cons (pe_lst (pa_cons (pe_def (D_doubtful.mono (by decide)) hr (by rfl) (pa_cons (pv 0) (pa_cons (pv 3) pa_nil))) (pa_cons (pe_kw (W_doubtful.mono (by decide)) hr (by rfl) (pk_cons (pv 3) (pk_cons (pv 0) pk_nil))) pa_nil))) pa_nil)) (pe_callB (r_repr K hg hr.units) (by rfl) B.repr (by decide +kernel) (pa_cons (pe_op op_rep (pe_lst (pa_cons (pe_callB (r_len K) (by rfl) B.len (by decide +kernel) (pa_cons (pv 4) pa_nil)) pa_nil)) pe_int) pa_nil)) (nomark _))
      (pss_one (ps_ret pe_bl))
      pss_nil)
      (pss_cons (ps_set (i := 6) sc__law_doubts_right.nd rfl (by first | exact Or.inl rfl | exact Or.inr rfl) pe_non)
      (pss_cons (ps_if (PW.pt (pw_and (pt_cmpR (o_neD K hr.units) (pv 4) (pe_lst pa_nil) (nomark _)) (pw_and1 (pt_cmpR op_ne (pe_callB (r_len K) (by rfl) B.len (by decide +kernel) (pa_cons (pv 4) pa_nil)) (pe_callB (r_len K) (by rfl) B.len (by decide +kernel) (pa_cons (pe_def (D__law_sets.mono (by decide)) hr (by rfl) (pa_cons (pe_callB (r_len K) (by rfl) B.len (by decide +kernel) (pa_cons (pv 3) pa_nil)) pa_nil)) pa_nil)) (nomark _)))))
      (pss_cons (ps_set (i := 8) sc__law_doubts_right.nd rfl (by first | exact Or.inl rfl | exact Or.inr rfl) (pe_lst pa_nil))
        (pss_cons (ps_for PassesOwn.never rfl (pi_range1 rfl B.range (pa_cons (pe_callB (r_len K) (by rfl) B.len (by decide +kernel) (pa_cons (pv 3) pa_nil)) pa_nil)) (pg_name (i := 9) sc__law_doubts_right.nd rfl (by first | exact Or.inl rfl | exact Or.inr rfl))
        (pss_cons (ps_set (i := 10) sc__law_doubts_right.nd rfl (by first | exact Or.inl rfl | exact Or.inr rfl) (pe_callB (r_len K) (by rfl) B.len (by decide +kernel) (pa_cons (pe_lc rfl sc__law_doubts_right.nd (pi_listK K (pv 4)) (blkOk_by (own := [("_law_row_here", 5)]) (N := n__law_doubts_right) (sc := defScope s__law_doubts_right) (by decide +kernel)) (fun _ _ _ _ _ => (pg_name (i := 5) sc__law_doubts_right.nd rfl (by first | exact Or.inl rfl | exact Or.inr rfl))) (fun _ _ _ _ _ => (pts_one (pt_cmpR (o_in K) (pv 9) (pv 5) (by rfl)))) (fun _ _ _ _ _ => (pv 5))) pa_nil)))
          (pss_one (ps_expr (pe_bm PySem.F.plainAttrs_list PySem.F.slot_list_append PySem.F.type_list_append mt_append (pv 8) (pa_cons (pe_tup (pa_cons (pe_callB (r_max2 hr.units) (by rfl) B.max (by decide +kernel) (pa_cons (pv 10) (pa_cons (pe_op op_sub (pe_callB (r_len K) (by rfl) B.len (by decide +kernel) (pa_cons (pv 4) pa_nil)) (pv 10)) pa_nil))) (pa_cons (pv 9) pa_nil))) pa_nil))))))
        (pss_one (ps_set (i := 6) sc__law_doubts_right.nd rfl (by first | exact Or.inl rfl | exact Or.inr rfl) (pe_ix (x_tup K) (pe_callB (r_minD K hr.units) (by rfl) B.min (by decide +kernel) (pa_cons (pv 8) pa_nil)) pe_int (fun _ _ => rfl))))))
      pss_nil)
      (pss_cons (ps_set (i := 7) sc__law_doubts_right.nd rfl (by first | exact Or.inl rfl | exact Or.inr rfl) (pe_lst (pa_cons (pe_def (D_telling_doubt.mono (by decide)) hr (by rfl) (pa_cons (pv 0) (pa_cons (pv 3) pa_nil))) (pa_cons (pe_kw (W_telling_doubt.mono (by decide)) hr (by rfl) (pk_cons (pv 3) (pk_cons (pv 0) pk_nil))) pa_nil))))
      (pss_one (ps_ret (pe_cmpR op_eq (pe_callB (r_repr K hg hr.units) (by rfl) B.repr (by decide +kernel) (pa_cons (pv 7) pa_nil)) (pe_callB (r_repr K hg hr.units) (by rfl) B.repr (by decide +kernel) (pa_cons (pe_lst (pa_cons (pv 6) (pa_cons (pv 6) pa_nil))) pa_nil)) (nomark _)))))))))), ?_⟩
    have hsz : (2000 : Nat) < sizeLine := by decide
    have W := hD.W
    have hnm := hD.nm
    have hnn := hD.len
    have htwo := hD.two
    have hfour := hD.four
    obtain ⟨a, xs, rfl, ha, hall⟩ := id hv.tuple
    have hxl : xs.length = ears.length := by rw [hall.length, List.length_map]
    refine ⟨(show 0 ≤ sizeLine by decide), fun r hr0 => ?_⟩
    have kr : Kp No H (upd H r (.lst [])) := Kp.new hr0
    have hrr : upd H r (.lst []) r = some (.lst []) := upd_same
    generalize upd H r (.lst []) = H1 at *
    refine ⟨_, rfl, a, xs, rfl, .inr (SqT.of (kr.tu _ _ ha)), ?_⟩
    rw [hxl]
    refine ⟨ears.length, rfl, h6, fun l ls H2 k2 hl0 hl2 hls => ⟨l, rfl, ⟨ls, SqL.of hl2⟩, ?_⟩⟩
    have hlsl : ls.length = (setsOf ears.length).length := by rw [hls.length, List.length_map]
    have hl64 := setsOf_few h6
    have kk2 : Kp No H H2 := kr.trans k2
    have hrl : r ≠ l := fun z => ne_of_none hrr hl0 z
    refine for_it walk_list (fun i σ H3 => Kp No H H3 ∧ H3 l = some (.lst ls) ∧ TpAll H3 ls ((setsOf ears.length).map lotD) ∧ ∃ (o5 : Option V) (acc : List V), σ = [some c, some vn, some vw, some (.ref a), some (.ref r), o5, none, none, none, none, none] ∧ H3 r = some (.lst acc) ∧ acc.length ≤ i ∧ TpAll H3 acc ((((setsOf ears.length).take i).filter fun row => good n (withE ways (pickE ears row))).map lotD))
      ⟨kk2, hl2, hls, _, [], rfl, k2.at hrr, Nat.le_refl _, .nil⟩ (fun i σ H3 _ h => SqL.of h.2.1) (fun i x σ H3 H3' hi h hy => ?_) (fun σ H3 h => ?_)
    · obtain ⟨k3, hl3, hls3, o5, acc, rfl, hr3, hal, hacc⟩ := h
      obtain ⟨rfl, hx⟩ := hy
      have hi' : i < (setsOf ears.length).length := by omega
      obtain ⟨d, hd, hv⟩ := hls3.get hx
      rw [List.getElem?_map, getD_of hi' []] at hd
      obtain rfl := Option.some.inj hd
      have hm := setsOf_mem (List.mem_of_getElem? (getD_of hi' []))
      obtain ⟨hlt, hll⟩ := lots_lt hm
      have htk := take_filt (setsOf ears.length) (fun row => good n (withE ways (pickE ears row))) (getD_of hi' [])
      rw [htk]
      generalize (setsOf ears.length).getD i [] = row at *
      obtain ⟨b, rfl, hb⟩ := lot_of hv
      have ha3 := k3.tu _ _ ha
      have hall3 := hall.mono k3.tu
      refine ⟨_, rfl, _, rfl, _, rfl, b, rfl, ⟨_, SqT.of hb⟩, fun D hD0 => ?_⟩
      refine lc_mapD (S := No) walk_tup (by rw [List.length_map, List.length_map]; omega) hD0 (fun z => z) (fun j => earD names ((pickE ears row).getD j (0, 0, 0))) (fun H4 k4 => SqT.of (k4.tu _ _ hb)) (fun j x H4 H5 acc2 N hj k4 hacc2 hy4 hN => ?_) (fun acc2 H4 k4 hacc2 hr4 => ?_)
      · obtain ⟨rfl, hx⟩ := hy4
        rw [List.length_map, List.length_map] at hj
        rw [List.getElem?_map, List.getElem?_map, getD_of hj 0] at hx
        obtain rfl := Option.some.inj hx
        have hmj := hlt _ (List.mem_of_getElem? (getD_of hj 0))
        obtain ⟨u, hu, tu⟩ := (hall3.mono k4.tu).get' (i := row.getD j 0) (d := earD names (ears.getD (row.getD j 0) (0, 0, 0))) (by rw [List.getElem?_map, getD_of hmj (0, 0, 0)]; rfl)
        have epk : (pickE ears row).getD j (0, 0, 0) = ears.getD (row.getD j 0) (0, 0, 0) := by
          unfold pickE pick
          rw [List.getD_eq_getElem?_getD, List.getElem?_map, getD_of hj 0]
          rfl
        rw [epk] at hN
        exact ⟨rfl, _, rfl, _, rfl, a, xs, _, u, rfl, rfl, SqT.of (k4.tu _ _ ha3), atI_nat hu, hN _ _ (Kp.refl _ _) tu⟩
      · have hpl : row.length = (pickE ears row).length := by unfold pickE pick; rw [List.length_map]
        rw [List.length_map, List.length_map, hpl, range_get (pickE ears row) (earD names) (0, 0, 0)] at hr4
        have hokp : ∀ e ∈ pickE ears row, EarOk n ways.length e := fun e he => (hok e (pick_mem hlt he)).1
        refine ⟨(show 0 ≤ sizeLine by decide), fun S hS0 => ?_⟩
        have k5 : Kp No H4 (upd H4 S (.lst [])) := Kp.new hS0
        have hS5 : upd H4 S (.lst []) S = some (.lst []) := upd_same
        generalize upd H4 S (.lst []) = H5 at *
        have kk5 := (k3.trans k4).trans k5
        refine ⟨vn, vw, D, S, n, acc2, names, ways, pickE ears row, [], rfl, hD.vn.k kk5, hD.vw.mono kk5.tu, hnm.nd, hnn, W, Nat.le_trans (by decide) htwo, k5.at hacc2, hr4.mono k5.tu, hS5, hokp, by rw [← hpl]; omega, fun v2 H6 k6 hv2 => ?_⟩
        rw [keepW_nil] at hv2
        have hW5 := withE_ok W hokp
        refine ⟨v2, n, _, rfl, hv2, hW5, Nat.le_trans (by decide) htwo, hfour, fun bb H7 k7 hbb => ⟨bb, rfl, ?_⟩⟩
        rw [good_of hbb]
        have k37 : Kp No H3' H7 := ((k4.trans k5).trans k6).trans k7
        have kk7 : Kp No H H7 := k3.trans k37
        have hr7 := k37.at hr3
        refine ite2 (fun h => ?_) (fun h => ?_)
        · rw [if_pos h]
          have hl7 := k37.at hl3
          refine ⟨_, rfl, .inl ⟨rfl, _, SqL.of hr7⟩, _, rfl, r, acc, _, rfl, rfl, hr7, by omega, Kp.own kk7 hr0 hr7 (by intro xs z; cases z), by rw [upd_ne (fun z => hrl z.symm)]; exact hl7, (hls3.mono k37.tu).mono (TK.upd_lst hr7), _, _, rfl, upd_same, by rw [List.length_append, List.length_singleton]; omega, ?_⟩
          rw [List.map_append]
          exact ((hacc.mono k37.tu).mono (TK.upd_lst hr7)).snoc (((hv.mono k37.tu)).mono (TK.upd_lst hr7))
        · rw [if_neg h, List.append_nil]
          exact ⟨kk7, k37.at hl3, hls3.mono k37.tu, _, acc, rfl, hr7, by omega, hacc.mono k37.tu⟩
    · obtain ⟨k3, hl3, hls3, o5, acc, rfl, hr3, hal, hacc⟩ := h
      rw [hlsl, List.take_length] at hacc
      have hacc : TpAll H3 acc ((goodRows n ways ears).map lotD) := hacc
      have hgl : (goodRows n ways ears).length ≤ 64 := by
        unfold goodRows
        exact Nat.le_trans (List.length_filter_le _ _) hl64
      have hgl2 : (goodRows n ways ears).length ≤ (setsOf ears.length).length := by
        unfold goodRows
        exact List.length_filter_le _ _
      have hgm : ∀ row ∈ goodRows n ways ears, row ∈ setsOf ears.length := fun row h => (List.mem_filter.mp h).1
      have hT3 := tabs_mono k3 hT
      have hacl : acc.length = (goodRows n ways ears).length := by rw [hacc.length, List.length_map]
      have h1n : 1 ≤ n := Nat.le_trans (by decide) htwo
      have hr0' : Fr H r := Fr.none hr0
      refine ⟨_, rfl, _, rfl, c, .ref a, n, names, ways, ears, rfl, hco.mono k3.n, hnm, hnn, h1n, W, hv.mono k3.tu, hok, nd, h6, hT3, fun H4 k4 hT4 => ?_⟩
      have kk4 : KN No H H4 := k3.n.trans k4
      refine ⟨_, rfl, _, rfl, _, _, rfl, c, .ref a, n, names, ways, ears, rfl, hco.mono kk4, hnm, hnn, h1n, W, hv.mono kk4.tu, hok, nd, h6, hT4, fun H5 k5 hT5 => ?_⟩
      have kk5 : KN No H H5 := kk4.trans k5
      have hr5 := (k4.trans k5).at lst_noTbl hr3
      have hacc5 := hacc.mono (k4.trans k5).tu
      generalize hG : goodRows n ways ears = rows at *
      have hshg : Shw 31 1 (.int ((rows.length : Nat) : Int)) := shw_int (by omega) 0
      refine ⟨(show 2 ≤ sizeLine by omega), fun p hp => ?_⟩
      have k6 : Kp No H5 (upd H5 p (.lst [.int ((rows.length : Nat) : Int), .int ((rows.length : Nat) : Int)])) := Kp.new hp
      have hp6 : upd H5 p (.lst [.int ((rows.length : Nat) : Int), .int ((rows.length : Nat) : Int)]) p = some (.lst [.int ((rows.length : Nat) : Int), .int ((rows.length : Nat) : Int)]) := upd_same
      generalize upd H5 p (.lst [.int ((rows.length : Nat) : Int), .int ((rows.length : Nat) : Int)]) = H6 at *
      obtain ⟨w1, w2, w3, w4⟩ := (shw_two hshg hshg).out (by decide) (by decide)
      refine ⟨p, _, rfl, .lst (SqL.of hp6) (.cons (.int _) (.cons (.int _) .nil)), w1, w2, w3, w4, ?_⟩
      refine ⟨_, rfl, r, acc, rfl, .inl (SqL.of (k6.at hr5)), (show 1 ≤ sizeLine by omega), fun p2 hp2 => ?_⟩
      rw [hacl]
      have k7 : Kp No H6 (upd H6 p2 (.lst [.int ((rows.length : Nat) : Int)])) := Kp.new hp2
      have hp7 : upd H6 p2 (.lst [.int ((rows.length : Nat) : Int)]) p2 = some (.lst [.int ((rows.length : Nat) : Int)]) := upd_same
      generalize upd H6 p2 (.lst [.int ((rows.length : Nat) : Int)]) = H7 at *
      refine ⟨p2, 2, _, rfl, rfl, hp7, by decide, by decide, (show 1 * 2 ≤ sizeLine by omega), fun p3 hp3 => ?_⟩
      have k8 : Kp No H7 (upd H7 p3 (.lst [.int ((rows.length : Nat) : Int), .int ((rows.length : Nat) : Int)])) := Kp.new hp3
      have hp8 : upd H7 p3 (.lst [.int ((rows.length : Nat) : Int), .int ((rows.length : Nat) : Int)]) p3 = some (.lst [.int ((rows.length : Nat) : Int), .int ((rows.length : Nat) : Int)]) := upd_same
      rw [show (List.replicate (2 : Int).toNat [V.int ((rows.length : Nat) : Int)]).flatten = [.int ((rows.length : Nat) : Int), .int ((rows.length : Nat) : Int)] from rfl]
      generalize upd H7 p3 (.lst [.int ((rows.length : Nat) : Int), .int ((rows.length : Nat) : Int)]) = H8 at *
      refine ⟨p3, _, rfl, .lst (SqL.of hp8) (.cons (.int _) (.cons (.int _) .nil)), w1, w2, w3, w4, ?_⟩
      refine ⟨rfl, _, rfl, ?_⟩
      rw [decide_eq_true rfl]
      have kn8 : Kp No H5 H8 := (k6.trans k7).trans k8
      have kk8 : KN No H H8 := kk5.trans kn8.n
      have hT8 := tabs_mono kn8 hT5
      have hr8 := kn8.at hr5
      have hacc8 := hacc5.mono kn8.tu
      clear hp7 hp6 hp8 hp3 hp2 hp
      show tNext _ _ _
      refine tNext_intro ?_
      refine join_if (fun σ H9 => KN No H H9 ∧ LamX.Tabs T H9 ∧ ∃ (o : Option Nat) (p5 p8 p9 p10 : Option V), σ = [some c, some vn, some vw, some (.ref a), some (.ref r), p5, some (optV o), none, p8, p9, p10] ∧ Told rows ears.length o) (fun σ H9 h => ?_) (fun key => ?_)
      · obtain ⟨kk9, hT9, o, p5, p8, p9, p10, rfl, told⟩ := h
        refine ⟨_, rfl, _, rfl, c, .ref a, n, names, ways, ears, rfl, hco.mono kk9, hnm, hnn, h1n, W, hv.mono kk9.tu, hok, nd, h6, hT9, fun o1 H10 k10 hT10 told1 => ?_⟩
        have kk10 : KN No H H10 := kk9.trans k10
        refine ⟨_, rfl, _, rfl, _, _, rfl, c, .ref a, n, names, ways, ears, rfl, hco.mono kk10, hnm, hnn, h1n, W, hv.mono kk10.tu, hok, nd, h6, hT10, fun o2 H11 k11 hT11 told2 => ?_⟩
        rw [hG] at told1 told2
        obtain rfl := told.uniq told1
        obtain rfl := told.uniq told2
        have kk11 : KN No H H11 := kk10.trans k11
        obtain ⟨d, hd, hsd⟩ := shw_optV (o := o) fun j hj => by
          rcases told with ⟨_, z⟩ | ⟨_, _, j', z, hlt, _⟩
          · rw [hj] at z; cases z
          · rw [hj] at z; cases z; omega
        obtain ⟨w1, w2, w3, w4⟩ := (shw_two hsd hsd).out (by decide) (by decide)
        refine ⟨(show 2 ≤ sizeLine by omega), fun p hp => ?_⟩
        have k12 : Kp No H11 (upd H11 p (.lst [optV o, optV o])) := Kp.new hp
        have hp12 : upd H11 p (.lst [optV o, optV o]) p = some (.lst [optV o, optV o]) := upd_same
        have hT12 := tabs_mono k12 hT11
        generalize upd H11 p (.lst [optV o, optV o]) = H12 at *
        refine ⟨_, rfl, p, _, rfl, .lst (SqL.of hp12) (.cons ((hd H12).dp K) (.cons ((hd H12).dp K) .nil)), w1, w2, w3, w4, ?_⟩
        refine ⟨_, rfl, _, rfl, (show 2 ≤ sizeLine by omega), fun p2 hp2 => ?_⟩
        have k13 : Kp No H12 (upd H12 p2 (.lst [optV o, optV o])) := Kp.new hp2
        have hp13 : upd H12 p2 (.lst [optV o, optV o]) p2 = some (.lst [optV o, optV o]) := upd_same
        have hT13 := tabs_mono k13 hT12
        generalize upd H12 p2 (.lst [optV o, optV o]) = H13 at *
        refine ⟨p2, _, rfl, .lst (SqL.of hp13) (.cons ((hd H13).dp K) (.cons ((hd H13).dp K) .nil)), w1, w2, w3, w4, ?_⟩
        refine ⟨rfl, ?_⟩
        rw [decide_eq_true rfl]
        exact q H13 (kk11.trans (k12.trans k13).n) hT13
      · refine ⟨_, rfl, (show 0 ≤ sizeLine by decide), fun p0 hp0 => ⟨.list (rows.map lotD), .list [], .lst (SqL.of ((Kp.new (S := No) hp0).at hr8)) ((hacc8.mono (TK.new hp0)).dp K), .lst (SqL.of upd_same) .nil, list_shaped lotD _ 2 (by decide) (fun p _ => ⟨lotD_lay p, lotD_depth p⟩), nil_shaped, _, rfl, ?_⟩⟩
        have kn9 : Kp No H8 (upd H8 p0 (.lst [])) := Kp.new hp0
        have hT9 := tabs_mono kn9 hT8
        have hr9 := kn9.at hr8
        have hacc9 := hacc8.mono kn9.tu
        generalize upd H8 p0 (.lst []) = H9 at *
        have kk9 := kk8.trans kn9.n
        rw [eqv_nilL]
        have hrs : ∀ row ∈ rows, row.length ≤ 6 := fun row hrow => by
          have := (lots_lt (setsOf_mem (hgm row hrow))).2
          omega
        refine ite2 (fun h => ?_) (fun h => ?_)
        · have hne : rows ≠ [] := fun z => by subst z; exact absurd h (by decide)
          refine ⟨_, rfl, r, acc, rfl, .inl (SqL.of hr9), ?_⟩
          refine ⟨_, rfl, a, xs, rfl, .inr (SqT.of (kk9.tu _ _ ha)), ?_⟩
          rw [hxl]
          refine ⟨ears.length, rfl, h6, fun l2 ls2 H10 k10 hl20 hl210 hls2 => ?_⟩
          have hl2len : ls2.length = (setsOf ears.length).length := by rw [hls2.length, List.length_map]
          have kk10 := kk9.trans k10.n
          have hT10 := tabs_mono k10 hT9
          have hr10 := k10.at hr9
          have hacc10 := hacc9.mono k10.tu
          refine ⟨l2, ls2, rfl, .inl (SqL.of hl210), rfl, _, rfl, ?_⟩
          rw [hacl, hl2len]
          refine ite2 (fun h => ?_) (fun h => ?_)
          · have hns : rows.length ≠ (setsOf ears.length).length := fun z => by rw [z] at h; simp at h
            have hpos : 0 < ears.length := by
              rcases Nat.eq_zero_or_pos ears.length with z | z
              · have h1 : (setsOf ears.length).length = 1 := by rw [setsOf_length, z]
                have h2 : 0 < rows.length := List.length_pos_iff.mpr hne
                omega
              · exact z
            refine ⟨(show 0 ≤ sizeLine by decide), fun wl hwl => ?_⟩
            have k11 : Kp No H10 (upd H10 wl (.lst [])) := Kp.new hwl
            have hw11 : upd H10 wl (.lst []) wl = some (.lst []) := upd_same
            generalize upd H10 wl (.lst []) = H11 at *
            have ha10 := kk10.tu _ _ ha
            refine ⟨_, rfl, a, xs, rfl, .inr (SqT.of (k11.tu _ _ ha10)), (xs.length : Int), rfl, by omega, by omega, ?_⟩
            rw [Int.toNat_natCast]
            refine for_it walk_range0 (fun i σ H12 => Kp No H10 H12 ∧ ∃ (ps : List V) (o9 o10 : Option V), σ = [some c, some vn, some vw, some (.ref a), some (.ref r), o5, some .non, none, some (.ref wl), o9, o10] ∧ H12 wl = some (.lst ps) ∧ TpAll H12 ps ((List.range i).map (lawPair rows)))
              ⟨k11, [], _, _, rfl, hw11, .nil⟩ (fun _ _ _ _ _ => True.intro) (fun i x σ H12 H12' hi h hy => ?_) (fun σ H12 h => ?_)
            · obtain ⟨k12, ps, o9, o10, rfl, hw12, hps⟩ := h
              obtain ⟨rfl, rfl⟩ := hy
              have hr12 := k12.at hr10
              have hacc12 := hacc10.mono k12.tu
              have hpsl : ps.length = i := by rw [hps.length, List.length_map, List.length_range]
              refine ⟨_, rfl, r, rfl, ⟨_, SqL.of hr12⟩, fun D hD0 => ?_⟩
              refine lc_filtD (S := No) walk_list (by omega) hD0 (fun z => z) (fun j => decide (i ∈ rows.getD j [])) (fun j => lotD (rows.getD j [])) (fun H13 k13 => SqL.of (k13.at hr12)) (fun j x H13 H14 acc2 N N0 hj k13 hacc2 hy13 hN hN0 => ?_) (fun acc2 H13 k13 hacc2 hr13 => ?_)
              · obtain ⟨rfl, hx⟩ := hy13
                have hj' : j < rows.length := by omega
                obtain ⟨d, hd, hvj⟩ := (hacc12.mono k13.tu).get hx
                rw [List.getElem?_map, getD_of hj' []] at hd
                obtain rfl := Option.some.inj hd
                generalize rows.getD j [] = row at *
                obtain ⟨b, rfl, hb⟩ := lot_of hvj
                refine ⟨rfl, _, rfl, _, rfl, b, _, rfl, .inr (SqT.of hb), rfl, flat_ints _, _, rfl, ?_⟩
                show (if inV (.int (i : Int)) _ = true then _ else _)
                rw [inV_lot]
                exact ite2 (fun h => ⟨_, rfl, hN _ _ h (Kp.refl _ _) hvj⟩) (fun h => hN0 _ (Bool.eq_false_iff.mpr h) (Kp.refl _ _))
              · rw [hacl, range_filt rows (fun row => decide (i ∈ row)) lotD []] at hr13
                have hal2 : acc2.length = cntOf rows i := by rw [hr13.length, List.length_map]; rfl
                have hw13 := k13.at hw12
                have hcl := cnt_le rows i
                refine ⟨D, acc2, rfl, .inl (SqL.of hacc2), ?_⟩
                rw [hal2]
                refine ⟨_, rfl, .inl ⟨rfl, _, SqL.of hw13⟩, _, rfl, _, rfl, r, acc, rfl, .inl (SqL.of (k13.at hr12)), _, rfl, _, _, rfl, rfl, ?_⟩
                rw [hacl]
                have esub : ((rows.length : Nat) : Int) - ((cntOf rows i : Nat) : Int) = ((rows.length - cntOf rows i : Nat) : Int) := by omega
                refine ⟨_, _, .int ((cntOf rows i : Nat) : Int), .int ((rows.length - cntOf rows i : Nat) : Int), rfl, .int _, by show Tp H13 (.int (((rows.length : Nat) : Int) - ((cntOf rows i : Nat) : Int))) _; rw [esub]; exact .int _, alike_ints _ _, depthAll_ints2 _ _, ?_⟩
                have emax : (if dataLt (.int ((cntOf rows i : Nat) : Int)) (.int ((rows.length - cntOf rows i : Nat) : Int)) = true then V.int (((rows.length : Nat) : Int) - ((cntOf rows i : Nat) : Int)) else V.int ((cntOf rows i : Nat) : Int)) = V.int ((worstW rows i : Nat) : Int) := by
                  rw [esub]
                  exact pick_max _ _
                rw [emax]
                refine ⟨_, rfl, (show 2 ≤ sizeLine by omega), fun t ht => ?_⟩
                have k14 : Kp No H13 (upd H13 t (.tup [.int ((worstW rows i : Nat) : Int), .int (i : Int)])) := Kp.new ht
                have ht14 : upd H13 t (.tup [.int ((worstW rows i : Nat) : Int), .int (i : Int)]) t = some (.tup [.int ((worstW rows i : Nat) : Int), .int (i : Int)]) := upd_same
                generalize upd H13 t (.tup [.int ((worstW rows i : Nat) : Int), .int (i : Int)]) = H14 at *
                have hw14 := k14.at hw13
                have kk14 := (k12.trans k13).trans k14
                refine ⟨wl, _, _, rfl, rfl, hw14, by omega, Kp.own kk14 hwl hw14 (by intro xs z; cases z), _, _, _, rfl, upd_same, ?_⟩
                rw [List.range_succ, List.map_append]
                exact ((hps.mono (k13.trans k14).tu).snoc (.tup ht14 (.cons (.int _) (.cons (.int _) .nil)))).mono (TK.upd_lst hw14)
            · obtain ⟨k12, ps, o9, o10, rfl, hw12, hps⟩ := h
              rw [hxl] at hps
              obtain ⟨m, hm⟩ : ∃ m, ears.length = m + 1 := ⟨ears.length - 1, by omega⟩
              have hps2 : TpAll H12 ps (lawPair rows 0 :: (List.range m).map fun i => lawPair rows (i + 1)) := by
                rw [hm, List.range_succ_eq_map, List.map_cons, List.map_map] at hps
                exact hps
              have hin : ∀ d ∈ (lawPair rows 0 :: (List.range m).map fun i => lawPair rows (i + 1)), ∃ k, d = lawPair rows k := fun d hd => by
                rcases List.mem_cons.mp hd with rfl | hd
                · exact ⟨0, rfl⟩
                · obtain ⟨k, _, rfl⟩ := List.mem_map.mp hd
                  exact ⟨k + 1, rfl⟩
              refine ⟨_, rfl, wl, ps, _, _, rfl, SqL.of hw12, hps2, ⟨fun x hx y hy => ?_, fun x hx => ?_⟩, ?_, fun v hv => ?_⟩
              · obtain ⟨i, rfl⟩ := hin x hx
                obtain ⟨j, rfl⟩ := hin y hy
                exact alike_lot _ _
              · obtain ⟨i, rfl⟩ := hin x hx
                intro z
                cases z
              · refine Nat.le_trans (depthAll_le (m := 2) fun d hd => ?_) (by decide)
                obtain ⟨i, rfl⟩ := hin d hd
                exact lotD_depth _
              · obtain ⟨j, h1, h2, h3, h4⟩ := law_min rows m
                rw [h1] at hv
                obtain ⟨b, rfl, hb⟩ := lot_of hv
                refine ⟨b, _, 1, .int (j : Int), rfl, rfl, SqT.of hb, atI_nat (j := 1) rfl, ?_⟩
                refine key _ _ ⟨kk10.trans k12.n, tabs_mono k12 hT10, some j, _, _, _, _, rfl, .inr ⟨hne, hns, j, rfl, by omega, fun k hk => h3 k (by omega), h4⟩⟩
          · have e : rows.length = (setsOf ears.length).length := by
              apply Classical.byContradiction
              intro z
              exact h (by simp; omega)
            exact key _ _ ⟨kk10, hT10, none, _, _, _, _, rfl, .inl ⟨.inr e, rfl⟩⟩
        · have hnil : rows = [] := by
            cases rows with
            | nil => rfl
            | cons x l => exact absurd rfl h
          exact key _ _ ⟨kk9, hT9, none, _, _, _, _, rfl, .inl ⟨.inl hnil, rfl⟩⟩
end
end AA

/-! ## Mc -/
set_option Elab.async false
set_option linter.all false
set_option maxRecDepth 100000
set_option maxHeartbeats 4000000
/-! Mc: a council is made; a list is unpacked. -/
namespace AA
open PySem PySem.Spec PyProof.Rows L2 PySem.W
/-- all that is wanted of the class under its name -/
structure MkC (P : Program) (w : World) (K : PySem.W.Frag) (mg : Str → Option Value) (base : Heap) (C : Addr) : Prop where
  ex : ∃ f fd, Mk K C f ∧ FnOk P w K mg base CX0 6 f fd ["self", "minds", "ways"] (spInit C) ∧ mg "Council" = some (.ref C) ∧ Binds K fd ["self", "minds", "ways"] []
theorem roomDown {A : Around} {k : Nat} (r : Room k A) (h : 7 ≤ k) : Room (6 + 1) A := ⟨r.hd, by have := r.dp; omega, by have := r.un; omega⟩
section
variable {X : Cx} {C : Addr} {e : Expr} {es : List Expr} {t : TA} {p pos : Pos} {k : Nat}
theorem pe_mkC (M : MkC X.prog X.w X.K X.mg X.base C) (hr : Room k X.A) (h7 : 7 ≤ k) (hg : Gl X "Council") (ha : PA X (e :: es) t)
    (he : starEach (e :: es) X.env = (false, eval e X.env) :: starEach es X.env := by rfl) (hpl : (backTo pos (starEach es X.env)).any (·.1) = false := by rfl) : PE X (.Call (.Name "Council" p) (e :: es) [] pos) (tMake C (spInit C) [] E0 t) := by
  obtain ⟨f, fd, mk, F, hm, hb⟩ := M
  exact pe_make mk F (roomDown hr h7) hg hm hb .nil pass0 ha (by decide) he hpl
theorem pg_lstK (K : PySem.W.Frag) {es : List Expr} {m : Nat} {t : TGs} (n : Nat) (h : PGs X es t) (hK : X.K = K := by rfl) (hc : X.calm = true := by rfl) (hn : (assignEach es X.env).length = n := by rfl) (hst : (assignEach es X.env).findIdx? (·.1) = none := by rfl) : PG X (.Tuple es m pos) (gLst K n t) := hK ▸ pg_lst hc h hn hst
end
end AA

/-! ## T25 -/
set_option Elab.async false
set_option linter.all false
set_option maxRecDepth 100000
set_option maxHeartbeats 4000000
namespace AA
open PySem PySem.Spec PyProof.Rows L2 PySem.W
theorem Kp.over {S : Addr → Prop} {H H1 H2 : Hp} {x : Addr} (k : Kp S H H1) (k' : Kp (At x) H1 H2) (n : H x = none) : Kp S H H2 :=
  ⟨fun b o hs e => k'.kp b o (fun z => by rw [show b = x from z, n] at e; cases e) (k.kp b o hs e), fun b xs e => k'.tu b xs (k.tu b xs e), fun b e => k.fr b (k'.fr b e)⟩
theorem tabs_at {T : List (Addr × Str)} {H H' : Hp} {a : Addr} {xs : List V} (k : Kp (At a) H H') (e : H a = some (.lst xs)) (t : LamX.Tabs T H) : LamX.Tabs T H' := by
  obtain ⟨o, ho⟩ : ∃ o, H' a = some o := by
    cases h : H' a with
    | none =>
      rw [k.fr a h] at e
      cases e
    | some o => exact ⟨o, rfl⟩
  have e1 : H' = upd (upd H' a (.lst xs)) a o := by
    funext b
    by_cases h : b = a
    · rw [h, upd_same, ho]
    · rw [upd_ne h, upd_ne h]
  rw [e1]
  refine tabs_lst (xs := xs) upd_same (t.ext fun b u hb => ?_)
  by_cases h : b = a
  · rw [h, e] at hb
    rw [h, upd_same]
    exact hb
  · rw [upd_ne h]
    exact k.kp b u h hb
theorem Kp.toN {H H' : Hp} {a : Addr} {xs ys : List V} (k : Kp (At a) H H') (e : H a = some (.lst xs)) (e' : H' a = some (.lst ys)) : KN (At a) H H' :=
  ⟨fun b o n _ h => k.kp b o n h, k.tu, fun b o n h => by
    by_cases hb : b = a
    · exact ⟨_, by rw [hb]; exact e', lst_noTbl⟩
    · exact ⟨o, k.kp b o hb h, n⟩⟩
theorem Well.kn {n m : Nat} {H H' : Hp} {wl : Addr} (h : Well n H wl) (k : Kp (At wl) H H') (h' : Well m H' wl) : KN (At wl) H H' := by
  obtain ⟨xs, e⟩ := h.lst
  obtain ⟨ys, e'⟩ := h'.lst
  exact k.toN e e'
theorem Well.tabs {T : List (Addr × Str)} {n : Nat} {H H' : Hp} {wl : Addr} (h : Well n H wl) (k : Kp (At wl) H H') (t : LamX.Tabs T H) : LamX.Tabs T H' := by
  obtain ⟨xs, e⟩ := h.lst
  exact tabs_at k e t
theorem Well.frz {n : Nat} {H : Hp} {wl : Addr} (h : Well n H wl) : ∀ a o u, H a = some (.frz o u) → ¬ (At wl) a := fun a o u e z => by
  obtain ⟨xs, h⟩ := h.lst
  rw [show a = wl from z, h] at e
  cases e
theorem Well.kkn {n : Nat} {S : Addr → Prop} {H H' : Hp} {wl : Addr} (h : Well n H wl) (k : KN S H H') (hs : ¬ S wl) : Well n H' wl := by
  obtain ⟨a, b, c, h1, h2⟩ := h
  exact ⟨a, b, c, k.kp _ _ hs lst_noTbl h1, h2⟩
theorem off_ear {H : Hp} {v : V} {names : List Str} {e : Ear} (h : Tp H v (offD names (.ear e))) : ∃ b, v = .ref b ∧ H b = some (.tup [.str sEar, .int (e.1 : Int), .str (nm names e.2.1), .str (nm names e.2.2)]) := by
  obtain ⟨b, us, rfl, hb, hus⟩ := h.tuple
  cases hus with
  | cons h1 hus =>
    cases hus with
    | cons h2 hus =>
      cases hus with
      | cons h3 hus =>
        cases hus with
        | cons h4 hus =>
          cases hus
          rw [h1.str_inv, h2.int_inv, h3.str_inv, h4.str_inv] at hb
          exact ⟨b, rfl, hb⟩
theorem off_strike {H : Hp} {v : V} {names : List Str} {j : Nat} (h : Tp H v (offD names (.strike j))) : ∃ b, v = .ref b ∧ H b = some (.tup [.str sStrike, .int (j : Int)]) := by
  obtain ⟨b, us, rfl, hb, hus⟩ := h.tuple
  cases hus with
  | cons h1 hus =>
    cases hus with
    | cons h2 hus =>
      cases hus
      rw [h1.str_inv, h2.int_inv] at hb
      exact ⟨b, rfl, hb⟩
theorem strikesOf_take (offs : List Off) {i : Nat} (h : i < offs.length) (d : Off) : strikesOf (offs.take (i + 1)) = strikesOf (offs.take i) ++ (match offs.getD i d with | .ear _ => [] | .strike k => [k]) := by
  unfold strikesOf
  rw [List.take_succ, getD_of h d, List.filterMap_append]
  congr 1
  show List.filterMap _ [offs.getD i d] = _
  cases offs.getD i d <;> rfl
theorem NamesAt.at {n : Nat} {H H' : Hp} {v : V} {names : List Str} {wl : Addr} (h : NamesAt H v names) (k : Kp (At wl) H H') (hw : Well n H wl) : NamesAt H' v names := by
  obtain ⟨a, o, e, h1, h2⟩ := h
  exact ⟨a, o, e, k.kp _ _ (hw.frz _ _ _ h1) h1, h2⟩
def strD (k : Nat) : PyData := .int (k : Int)
theorem Drawn.k {S : Addr → Prop} {H H' : Hp} {vn vw : V} {names : List Str} {ways : List Rows} {n : Nat} (h : Drawn H vn vw names ways n) (k : KN S H H') (hs : ∀ a o u, H a = some (.frz o u) → ¬ S a) : Drawn H' vn vw names ways n :=
  ⟨h.vn.mono k hs, h.vw.mono k.tu, h.nm, h.len, h.two, h.four, h.names, h.W, h.one, h.three, h.rows⟩
section
variable {P : Program} {w : World} {K : PySem.W.Frag} {mg : Str → Option Value} {base : Heap}
abbrev s__law_right : Stmt := top 74
abbrev n__law_right : List Str := ["_law_well_here", "_law_turn", "_law_each", "_law_draw", "_law_row_here", "_law_told", "_law_ears_here", "_law_names_here", "_law_ways_here", "_law_made", "_law_offers_here", "_law_due", "_law_offer", "_law_some", "_law_left", "_law_k", "_law_less"]
theorem sc__law_right : FnScope n__law_right ["_law_well_here"] (defScope s__law_right) := ⟨rfl, rfl, rfl, by decide +kernel, rfl, by decide +kernel, by decide +kernel⟩
def spLRight (T : List (Addr × Str)) : Sp := fun vs H Q _ => ∃ (wl : Addr) (n : Nat), vs = [.ref wl] ∧ Well n H wl ∧ n + 5000 ≤ 1000000000 ∧ LamX.Tabs T H ∧ ∀ H', KN (At wl) H H' → LamX.Tabs T H' → Q (.bl true) H'
theorem ok__law_right {f C : Addr} {T : List (Addr × Str)} {fd : FuncData} (F : DefIn K mg "_law_right" s__law_right ["_law_well_here"] f fd) (B : Bt mg) (MK : MkC P w K mg base C) (D__law_dip : Def P w K mg base "_law_dip" 1 ["_law_well_here", "_law_many"] spDip)
    (D__law_drawn : Def P w K mg base "_law_drawn" 5 ["_law_well_here", "_law_tallies", "_law_most_here"] spLDrawn) (D__law_free_ears : Def P w K mg base "_law_free_ears" 2 ["_law_well_here", "_law_names_here", "_law_ways_here", "_law_most_here"] spLFree)
    (D__law_sets : Def P w K mg base "_law_sets" 1 ["_law_tally"] spLSets) (D__law_is_good : Def P w K mg base "_law_is_good" 4 ["_law_ways_here"] spLGood) (D__law_with : Def P w K mg base "_law_with" 1 ["_law_names_here", "_law_ways_here", "_law_ears_here", "_law_struck"] spLWith)
    (D_mending : Def P w K mg base "mending" 6 ["council", "offers"] (spMending C T)) (W_mending : DefK P w K mg base "mending" 6 "council" "offers" (spMending C T))
    (D__law_doubts_right : DefG P w K mg base "_law_doubts_right" 8 ["_law_made", "_law_names_here", "_law_ways_here", "_law_ears_here"] (spDoubtsR C T)) :
    FnG P w K mg base 9 f fd ["_law_well_here"] (spLRight T) := by
  refine F.okG sc__law_right (fun vs H Q E h => ?_) (fun cdv A outer s H vs Q E hr hg h => ?_)
  · obtain ⟨wl, n, rfl, _⟩ := h
    rfl
  · obtain ⟨wl, n, rfl, hw, hn, hT, q⟩ := h
    refine ⟨_, (pss_cons (ps_for PassesOwn.never rfl (pi_range1 rfl B.range (pa_cons pe_int pa_nil)) (pg_name (i := 1) sc__law_right.nd rfl (by first | exact Or.inl rfl | exact Or.inr rfl))
      (pss_cons (ps_asg (pe_def (D__law_drawn.mono (by decide)) hr (by rfl) (pa_cons (pv 0) (pa_cons (pe_lst (pa_cons pe_int (pa_cons pe_int (pa_cons pe_int (pa_cons pe_int pa_nil))))) (pa_cons pe_int pa_nil)))) (pg_lstK K 2 (pgs_cons (pg_name (i := 7) sc__law_right.nd rfl (by first | exact Or.inl rfl | exact Or.inr rfl)) (pgs_cons (pg_name (i := 8) sc__law_right.nd rfl (by first | exact Or.inl rfl | exact Or.inr rfl)) pgs_nil))))
        (pss_cons (ps_asg (pe_tup (pa_cons (pe_mkC MK hr (by decide) (by rfl) (pa_cons (pv 7) (pa_cons (pv 8) pa_nil))) (pa_cons (pe_lst pa_nil) (pa_cons (pe_lst pa_nil) pa_nil)))) (pg_tupK K 3 (pgs_cons (pg_name (i := 9) sc__law_right.nd rfl (by first | exact Or.inl rfl | exact Or.inr rfl)) (pgs_cons (pg_name (i := 10) sc__law_right.nd rfl (by first | exact Or.inl rfl | exact Or.inr rfl)) (pgs_cons (pg_name (i := 11) sc__law_right.nd rfl (by first | exact Or.inl rfl | exact Or.inr rfl)) pgs_nil)))))
        (pss_cons (ps_for PassesOwn.never rfl (pi_listK K (pe_def (D__law_free_ears.mono (by decide)) hr (by rfl) (pa_cons (pv 0) (pa_cons (pv 7) (pa_cons (pv 8) (pa_cons pe_int pa_nil)))))) (pg_name (i := 2) sc__law_right.nd rfl (by first | exact Or.inl rfl | exact Or.inr rfl))
        (pss_one (ps_expr (pe_bm PySem.F.plainAttrs_list PySem.F.slot_list_append PySem.F.type_list_append mt_append (pv 10) (pa_cons (pe_op (o_catA K) (pe_tup (pa_cons pe_str pa_nil)) (pv 2)) pa_nil)))))
        (pss_cons (ps_for PassesOwn.never rfl (pi_range1 rfl B.range (pa_cons (pe_def (D__law_dip.mono (by decide)) hr (by rfl) (pa_cons (pv 0) (pa_cons pe_int pa_nil))) pa_nil)) (pg_name (i := 3) sc__law_right.nd rfl (by first | exact Or.inl rfl | exact Or.inr rfl))
        (pss_cons (ps_set (i := 12) sc__law_right.nd rfl (by first | exact Or.inl rfl | exact Or.inr rfl) (pe_tup (pa_cons pe_str (pa_cons (pe_def (D__law_dip.mono (by decide)) hr (by rfl) (pa_cons (pv 0) (pa_cons (pe_callB (r_len K) (by rfl) B.len (by decide +kernel) (pa_cons (pv 8) pa_nil)) pa_nil))) pa_nil))))
          (pss_one (ps_if (pt_cmpR (o_notInD K hr.u65) (pv 12) (pv 10) (by rfl))
          (pss_one (ps_expr (pe_bm PySem.F.plainAttrs_list PySem.F.slot_list_append PySem.F.type_list_append mt_append (pv 10) (pa_cons (pv 12) pa_nil))))
          pss_nil))))
        (pss_cons (ps_for PassesOwn.never rfl (pi_listK K (pe_def (D__law_sets.mono (by decide)) hr (by rfl) (pa_cons (pe_callB (r_len K) (by rfl) B.len (by decide +kernel) (pa_cons (pv 10) pa_nil)) pa_nil))) (pg_name (i := 4) sc__law_right.nd rfl (by first | exact Or.inl rfl | exact Or.inr rfl))
        (pss_one (ps_if (pt_not (pt_val (pe_callB (r_any K) (by rfl) B.any (by decide +kernel) (pa_cons (pe_lc rfl sc__law_right.nd (pi_listK K (pv 11)) (blkOk_by (own := [("_law_less", 16)]) (N := n__law_right) (sc := defScope s__law_right) (by decide +kernel)) (fun _ _ _ _ _ => (pg_name (i := 16) sc__law_right.nd rfl (by first | exact Or.inl rfl | exact Or.inr rfl))) (fun _ _ _ _ _ => pts_nil) (fun _ _ _ _ _ => (pe_callB (r_all K) (by rfl) B.all (by decide +kernel) (pa_cons (pe_lc rfl sc__law_right.nd (pi_tupK K (pv 16)) (blkOk_by (own := [("_law_k", 15)]) (N := n__law_right) (sc := relS _ (defScope s__law_right)) (by decide +kernel)) (fun _ _ _ _ _ => (pg_name (i := 15) sc__law_right.nd rfl (by first | exact Or.inl rfl | exact Or.inr rfl))) (fun _ _ _ _ _ => pts_nil) (fun _ _ _ _ _ => (pe_cmpR (o_in K) (pv 15) (pv 4) (by rfl)))) pa_nil)))) pa_nil))))
          (pss_cons (ps_setLc (i := 13) rfl sc__law_right.nd rfl rfl (sw_true rfl rfl rfl (by decide +kernel)) (pi_tupK K (pv 4)) (blkOk_by (own := [("_law_k", 15)]) (N := n__law_right) (sc := defScope s__law_right) (by decide +kernel)) (fun _ _ _ _ _ => (pg_name (i := 15) sc__law_right.nd rfl (by first | exact Or.inl rfl | exact Or.inr rfl))) (fun _ _ _ _ _ => pts_nil) (fun _ _ _ _ _ => (pe_ix (x_list K) (pv 10) (pv 15) (fun _ _ => rfl))))
            (pss_cons (ps_setLc (i := 6) rfl sc__law_right.nd rfl rfl (sw_true rfl rfl rfl (by decide +kernel)) (pi_listK K (pv 13)) (blkOk_by (own := [("_law_each", 2)]) (N := n__law_right) (sc := defScope s__law_right) (by decide +kernel)) (fun _ _ _ _ _ => (pg_name (i := 2) sc__law_right.nd rfl (by first | exact Or.inl rfl | exact Or.inr rfl))) (fun _ _ _ _ _ => (pts_one (pt_cmpR op_eq (pe_ix (x_tup K) (pv 2) pe_int (fun _ _ => rfl)) pe_str (nomark _)))) (fun _ _ _ _ _ => (pe_slice (s_tup K) (pv 2) (po_some pe_int) po_none)))
            (pss_cons (ps_set (i := 14) sc__law_right.nd rfl (by first | exact Or.inl rfl | exact Or.inr rfl) (pe_def (D__law_with.mono (by decide)) hr (by rfl) (pa_cons (pv 7) (pa_cons (pv 8) (pa_cons (pv 6) (pa_cons (pe_lc rfl sc__law_right.nd (pi_listK K (pv 13)) (blkOk_by (own := [("_law_each", 2)]) (N := n__law_right) (sc := defScope s__law_right) (by decide +kernel)) (fun _ _ _ _ _ => (pg_name (i := 2) sc__law_right.nd rfl (by first | exact Or.inl rfl | exact Or.inr rfl))) (fun _ _ _ _ _ => (pts_one (pt_cmpR op_eq (pe_ix (x_tup K) (pv 2) pe_int (fun _ _ => rfl)) pe_str (nomark _)))) (fun _ _ _ _ _ => (pe_ix (x_tup K) (pv 2) pe_int (fun _ _ => rfl)))) pa_nil))))))
            (pss_one (ps_if (pt_val (pe_def (D__law_is_good.mono (by decide)) hr (by rfl) (pa_cons (pv 14) pa_nil)))
            (pss_one (ps_expr (pe_bm PySem.F.plainAttrs_list PySem.F.slot_list_append PySem.F.type_list_append mt_append (pv 11) (pa_cons (pv 4) pa_nil))))
            pss_nil)))))
          pss_nil)))
        (pss_cons (ps_set (i := 5) sc__law_right.nd rfl (by first | exact Or.inl rfl | exact Or.inr rfl) (pe_lst (pa_cons (pe_def (D_mending.mono (by decide)) hr (by rfl) (pa_cons (pv 9) (pa_cons (pe_callTy (r_tuple K) (by rfl) B.tuple (by decide +kernel) (pa_cons (pv 10) pa_nil)) pa_nil))) (pa_cons (pe_kw (W_mending.mono (by decide)) hr (by rfl) (pk_cons (pe_callTy (r_tuple K) (by rfl) B.tuple (by decide +kernel) (pa_cons (pv 10) pa_nil)) (pk_cons (pv 9) pk_nil))) pa_nil))))
        (pss_cons (ps_if (pt_cmpR op_ne (pe_callB (r_repr K hg hr.units) (by rfl) B.repr (by decide +kernel) (pa_cons (pv 5) pa_nil)) (pe_callB (r_repr K hg hr.units) (by rfl) B.repr (by decide +kernel) (pa_cons (pe_lst (pa_cons (pe_callTy (r_tuple K) (by rfl) B.tuple (by decide +kernel) (pa_cons (pv 11) pa_nil)) (pa_cons (pe_callTy (r_tuple K) (by rfl) B.tuple (by decide +kernel) (pa_cons (pv 11) pa_nil)) pa_nil))) pa_nil)) (nomark _))
        (pss_one (ps_ret pe_bl))
        pss_nil)
        (pss_cons (ps_set (i := 6) sc__law_right.nd rfl (by first | exact Or.inl rfl | exact Or.inr rfl) (pe_callTy (r_tuple K) (by rfl) B.tuple (by decide +kernel) (pa_cons (pe_def (D__law_free_ears.mono (by decide)) hr (by rfl) (pa_cons (pv 0) (pa_cons (pv 7) (pa_cons (pv 8) (pa_cons pe_int pa_nil))))) pa_nil)))
        (pss_one (ps_if (pt_not (pt_val (pe_defG (D__law_doubts_right.mono (by decide)) hr hg (by rfl) (pa_cons (pv 9) (pa_cons (pv 7) (pa_cons (pv 8) (pa_cons (pv 6) pa_nil)))))))
        (pss_one (ps_ret pe_bl))
        pss_nil)))))))))))
      (pss_one (ps_ret pe_bl))), ?_⟩
    have hsz : (2000 : Nat) < sizeLine := by decide
    refine ⟨(2 : Int), rfl, by decide, by decide, ?_⟩
    refine for_it (n := 2) walk_range0 (fun i σ H1 => KN (At wl) H H1 ∧ LamX.Tabs T H1 ∧ Well (n + 2500 * i) H1 wl ∧ ∃ o1 o2 o3 o4 o5 o6 o7 o8 o9 o10 o11 o12 o13 o14 o15 o16 : Option V, σ = [some (.ref wl), o1, o2, o3, o4, o5, o6, o7, o8, o9, o10, o11, o12, o13, o14, o15, o16])
      ⟨KN.refl _ _, hT, hw, _, _, _, _, _, _, _, _, _, _, _, _, _, _, _, _, rfl⟩ (fun _ _ _ _ _ => True.intro) (fun i x σ H1 H1' hi h hy => ?_) (fun σ H1 h => ?_)
    · obtain ⟨k1, hT1, hw1, o1, o2, o3, o4, o5, o6, o7, o8, o9, o10, o11, o12, o13, o14, o15, o16, rfl⟩ := h
      obtain ⟨rfl, rfl⟩ := hy
      refine ⟨_, rfl, (show 4 ≤ sizeLine by omega), fun lt hlt => ?_⟩
      have k2 : Kp No H1' (upd H1' lt (.lst [.int 2, .int 3, .int 3, .int 4])) := Kp.new hlt
      have hlt2 : upd H1' lt (.lst [.int 2, .int 3, .int 3, .int 4]) lt = some (.lst [.int 2, .int 3, .int 3, .int 4]) := upd_same
      have hw2 := hw1.k k2 (fun z => z)
      generalize upd H1' lt (.lst [.int 2, .int 3, .int 3, .int 4]) = H2 at *
      refine ⟨wl, lt, n + 2500 * i, rfl, hw2, hlt2, by omega, fun r vn vw names ways tally H3 hr0 k3 hw3 hr3 hD3 => ?_⟩
      refine ⟨r, _, rfl, SqL.of hr3, rfl, _, _, rfl, _, _, rfl, rfl, ?_⟩
      refine ⟨_, rfl, _, rfl, fun x dx hx hdx hne => ?_⟩
      have k4 : Kp No H3 (upd (upd H3 dx (.own x)) x (.ins C dx [])) := (Kp.new hdx).trans (Kp.new (by rw [upd_ne (fun z => hne z.symm)]; exact hx))
      have hx4 : upd (upd H3 dx (.own x)) x (.ins C dx []) x = some (.ins C dx []) := upd_same
      generalize upd (upd H3 dx (.own x)) x (.ins C dx []) = H4 at *
      refine ⟨x, dx, vn, vw, tally, names, ways, rfl, hx4, hD3.vn.k k4, hD3.nm, hD3.len, Nat.le_trans (by decide) hD3.two, hD3.names, hD3.vw.mono k4.tu, hD3.W, hD3.one, hD3.rows, fun H5 fs k5 hx5 hf1 hf2 => ⟨rfl, ?_⟩⟩
      have k35 : Kp No H3 H5 := k4.over k5 hx
      have hD5 := hD3.k k35.n (fun _ _ _ _ z => z)
      have hco5 : CouncilAt C H5 (.ref x) names ways := ⟨x, dx, fs, vn, vw, rfl, hx5, hf1, hf2, hD5.vn, hD5.vw⟩
      have hw5 := hw3.k k35 (fun z => z)
      have k25 : Kp (At wl) H1' H5 := (k2.no.trans k3).trans k35.no
      have hT5 := hw1.tabs k25 hT1
      have kn5 : KN (At wl) H H5 := k1.trans (hw1.kn k25 hw5)
      refine ⟨(show 0 ≤ sizeLine by decide), fun po hpo => ?_⟩
      have k6 : Kp No H5 (upd H5 po (.lst [])) := Kp.new hpo
      have hpo6 : upd H5 po (.lst []) po = some (.lst []) := upd_same
      generalize upd H5 po (.lst []) = H6 at *
      refine ⟨(show 0 ≤ sizeLine by decide), fun pd hpd => ?_⟩
      have k7 : Kp No H6 (upd H6 pd (.lst [])) := Kp.new hpd
      have hpd7 : upd H6 pd (.lst []) pd = some (.lst []) := upd_same
      generalize upd H6 pd (.lst []) = H7 at *
      refine ⟨(show 3 ≤ sizeLine by omega), fun tt htt => ⟨tt, _, rfl, SqT.of upd_same, rfl, _, _, rfl, _, _, rfl, _, _, rfl, rfl, ?_⟩⟩
      have k8 : Kp No H7 (upd H7 tt (.tup [.ref x, .ref po, .ref pd])) := Kp.new htt
      generalize upd H7 tt (.tup [.ref x, .ref po, .ref pd]) = H8 at *
      have k58 : Kp No H5 H8 := (k6.trans k7).trans k8
      have hpo8 := (k7.trans k8).at hpo6
      have hpd8 := k8.at hpd7
      have hpn : po ≠ pd := ne_of_none hpo6 hpd
      have hfpo : Fr H5 po := Fr.none hpo
      have hfpd : Fr H5 pd := Fr.none (k6.fr _ hpd)
      have hw8 := hw5.k k58 (fun z => z)
      have hT8 := tabs_mono k58 hT5
      have hD8 := hD5.k k58.n (fun _ _ _ _ z => z)
      have hpow : po ≠ wl := hw5.ne hpo
      have hpdw : pd ≠ wl := hw5.ne (k6.fr _ hpd)
      have hw1n := hD3.one
      have hw3n := hD3.three
      have ht2 := hD3.two
      have ht4 := hD3.four
      refine ⟨_, rfl, _, rfl, _, rfl, wl, vn, vw, n + 2500 * i + 1000, tally, 3, names, ways, rfl, hw8, hD8, by decide, by omega, fun le es ears H9 hle k9 hw9 hle9 hes hok nd hel => ?_⟩
      have hpo9 := k9.kp _ _ hpow hpo8
      have hpd9 := k9.kp _ _ hpdw hpd8
      have hlw : le ≠ wl := hw8.ne hle
      have hlpo : le ≠ po := fun z => by rw [z, hpo8] at hle; cases hle
      have hlpd : le ≠ pd := fun z => by rw [z, hpd8] at hle; cases hle
      refine ⟨le, rfl, ⟨_, SqL.of hle9⟩, ?_⟩
      have hesl : es.length = ears.length := by rw [hes.length, List.length_map]
      have k89 := k58.no.trans k9
      refine for_it walk_list (fun j σ H10 => Kp (At wl) H5 H10 ∧ TK H9 H10 ∧ Well (n + 2500 * i + 1100) H10 wl ∧ H10 le = some (.lst es) ∧ H10 pd = some (.lst []) ∧ ∃ (acc : List V) (o2 o3 o4 o5 o6 o12 o13 o14 o15 o16 : Option V), σ = [some (.ref wl), some (.int (i : Int)), o2, o3, o4, o5, o6, some vn, some vw, some (.ref x), some (.ref po), some (.ref pd), o12, o13, o14, o15, o16] ∧ H10 po = some (.lst acc) ∧ acc.length = j ∧ TpAll H10 acc (((ears.take j).map Off.ear).map (offD names)))
        ⟨k89, fun _ _ z => z, hw9, hle9, hpd9, [], _, _, _, _, _, _, _, _, _, _, rfl, hpo9, rfl, .nil⟩ (fun j σ H10 _ h => SqL.of h.2.2.2.1) (fun j y σ H10 H10' hj h hy => ?_) (fun σ H10 h => ?_)
      · obtain ⟨k10, tk10, hw10, hle10, hpd10, acc, o2, o3, o4, o5, o6, o12, o13, o14, o15, o16, rfl, hpo10, hal, hacc⟩ := h
        obtain ⟨rfl, hy⟩ := hy
        have hj' : j < ears.length := by omega
        obtain ⟨d, hd, hvy⟩ := (hes.mono tk10).get hy
        rw [List.getElem?_map, getD_of hj' (0, 0, 0)] at hd
        obtain rfl := Option.some.inj hd
        have etk : (ears.take (j + 1)) = ears.take j ++ [ears.getD j (0, 0, 0)] := by
          rw [List.take_succ, getD_of hj' (0, 0, 0)]
          rfl
        rw [etk]
        generalize ears.getD j (0, 0, 0) = e at *
        obtain ⟨b, us, rfl, hb, hus⟩ := hvy.tuple
        have hul : us.length = 3 := by rw [hus.length]; rfl
        have hune : us ≠ [] := fun z => by rw [z] at hul; cases hul
        refine ⟨_, rfl, .inl ⟨rfl, _, SqL.of hpo10⟩, (show 1 ≤ sizeLine by omega), fun t1 ht1 => ?_⟩
        have k11 : Kp No H10' (upd H10' t1 (.tup [.str "ear"])) := Kp.new ht1
        have ht11 : upd H10' t1 (.tup [.str "ear"]) t1 = some (.tup [.str "ear"]) := upd_same
        refine ⟨_, rfl, t1, b, [.str "ear"], us, rfl, rfl, SqT.of ht11, SqT.of (k11.tu _ _ hb), by rw [hul]; show 1 + 3 ≤ sizeLine; omega, fun z => (List.cons_ne_nil _ _ z).elim, fun _ z => absurd z hune, fun _ _ t2 ht2 => ?_⟩
        have k12 : Kp No H10' (upd (upd H10' t1 (.tup [.str "ear"])) t2 (.tup ([.str "ear"] ++ us))) := k11.trans (Kp.new ht2)
        have ht12 : upd (upd H10' t1 (.tup [.str "ear"])) t2 (.tup ([.str "ear"] ++ us)) t2 = some (.tup ([.str "ear"] ++ us)) := upd_same
        generalize upd (upd H10' t1 (.tup [.str "ear"])) t2 (.tup ([.str "ear"] ++ us)) = H12 at *
        have hpo12 := k12.at hpo10
        refine ⟨po, acc, _, rfl, rfl, hpo12, by omega, Kp.own (k10.trans k12.no) hpo hpo12 (by intro xs z; cases z), (tk10.trans k12.tu).trans (TK.upd_lst hpo12), (hw10.k k12 (fun z => z)).upd hpow, by rw [upd_ne hlpo]; exact k12.at hle10, by rw [upd_ne (fun z => hpn z.symm)]; exact k12.at hpd10, acc ++ [.ref t2], _, _, _, _, _, _, _, _, _, _, rfl, upd_same, by rw [List.length_append, hal]; rfl, ?_⟩
        rw [List.map_append, List.map_append]
        refine ((hacc.mono k12.tu).snoc ?_).mono (TK.upd_lst hpo12)
        exact .tup ht12 (.cons (.str _) (hus.mono k12.tu))
      · obtain ⟨k10, tk10, hw10, hle10, hpd10, acc, o2, o3, o4, o5, o6, o12, o13, o14, o15, o16, rfl, hpo10, hal, hacc⟩ := h
        rw [hesl, List.take_length] at hacc
        obtain ⟨wa, ws, hvw, hwa, hwall⟩ := hD5.vw.tuple
        subst hvw
        have hwsl : ws.length = ways.length := by rw [hwall.length, List.length_map]
        refine ⟨_, rfl, wl, _, 3, rfl, hw10, by omega, by decide, by decide, fun dn H11 hdn k11 hw11 => ⟨(dn : Int), rfl, by omega, by omega, ?_⟩⟩
        rw [Int.toNat_natCast]
        refine for_it walk_range0 (fun j σ H12 => Kp (At wl) H5 H12 ∧ Well (n + 2500 * i + 1101 + j) H12 wl ∧ H12 pd = some (.lst []) ∧ ∃ (offs : List Off) (acc : List V) (o2 o3 o4 o5 o6 o12 o13 o14 o15 o16 : Option V), σ = [some (.ref wl), some (.int (i : Int)), o2, o3, o4, o5, o6, some vn, some (.ref wa), some (.ref x), some (.ref po), some (.ref pd), o12, o13, o14, o15, o16] ∧ H12 po = some (.lst acc) ∧ TpAll H12 acc (offs.map (offD names)) ∧ (∀ o ∈ offs, OffOk tally ways.length o ∧ OffFree ways o) ∧ offs.Nodup ∧ offs.length ≤ 3 + j)
          ⟨k10.trans k11, hw11, k11.kp _ _ hpdw hpd10, ears.map Off.ear, acc, _, _, _, _, _, _, _, _, _, _, rfl, k11.kp _ _ hpow hpo10, hacc.mono k11.tu, fun o ho => by
            obtain ⟨e, he, rfl⟩ := List.mem_map.mp ho
            exact hok e he, by
            rw [List.nodup_iff_pairwise_ne, List.pairwise_map]
            exact List.Pairwise.imp (fun h z => h (Off.ear.inj z)) (List.nodup_iff_pairwise_ne.mp nd), by rw [List.length_map]; omega⟩ (fun _ _ _ _ _ => True.intro) (fun j y σ H12 H12' hj h hy => ?_) (fun σ H12 h => ?_)
        · obtain ⟨k12, hw12, hpd12, offs, acc, o2, o3, o4, o5, o6, o12, o13, o14, o15, o16, rfl, hpo12, hacc, hoff, ndo, hofl⟩ := h
          obtain ⟨rfl, rfl⟩ := hy
          have hwa12 := k12.tu _ _ hwa
          refine ⟨_, rfl, _, rfl, wa, ws, rfl, .inr (SqT.of hwa12), wl, n + 2500 * i + 1101 + j, ws.length, rfl, hw12, by omega, by omega, by omega, fun y H13 hy13 k13 hw13 => ⟨(show 2 ≤ sizeLine by omega), fun t ht => ?_⟩⟩
          rw [hwsl] at hy13
          have k14 : Kp No H13 (upd H13 t (.tup [.str "strike", .int (y : Int)])) := Kp.new ht
          have ht14 : upd H13 t (.tup [.str "strike", .int (y : Int)]) t = some (.tup [.str "strike", .int (y : Int)]) := upd_same
          have hw14 := hw13.k k14 (fun z => z)
          generalize upd H13 t (.tup [.str "strike", .int (y : Int)]) = H14 at *
          have k1214 : Kp (At wl) H12' H14 := k13.trans k14.no
          have hpo14 := k1214.kp _ _ hpow hpo12
          have hpd14 := k1214.kp _ _ hpdw hpd12
          have hacc14 := hacc.mono k1214.tu
          have hv14 : Tp H14 (.ref t) (offD names (.strike y)) := .tup ht14 (.cons (.str _) (.cons (.int _) .nil))
          have hacl : acc.length = offs.length := by rw [hacc.length, List.length_map]
          refine ⟨_, rfl, _, rfl, offD names (.strike y), offs.map (offD names), hv14.dp K, .lst (SqL.of hpo14) (hacc14.dp K), shaped_of (offD_lay hD3.nm _) (by have := offD_depth names (.strike y); omega), list_shaped (offD names) offs 2 (by decide) (fun o _ => ⟨offD_lay hD3.nm o, offD_depth names o⟩), _, rfl, ?_⟩
          rw [any_strike]
          refine ite2 (fun h => ?_) (fun h => ?_)
          · have hni : Off.strike y ∉ offs := fun z => by
              have : y ∈ strikesOf offs := List.mem_filterMap.mpr ⟨_, z, rfl⟩
              simp [this] at h
            refine ⟨_, rfl, .inl ⟨rfl, _, SqL.of hpo14⟩, _, rfl, po, acc, _, rfl, rfl, hpo14, by omega, ?_⟩
            refine ⟨Kp.own (k12.trans k1214) hpo hpo14 (by intro xs z; cases z), hw14.upd hpow, by rw [upd_ne (fun z => hpn z.symm)]; exact hpd14, offs ++ [.strike y], acc ++ [.ref t], _, _, _, _, _, _, _, _, _, _, rfl, upd_same, ?_, fun o ho => ?_, ?_, by rw [List.length_append, List.length_singleton]; omega⟩
            · rw [List.map_append]
              exact (hacc14.snoc hv14).mono (TK.upd_lst hpo14)
            · rcases List.mem_append.mp ho with ho | ho
              · exact hoff o ho
              · obtain rfl := List.mem_singleton.mp ho
                exact ⟨hy13, True.intro⟩
            · rw [List.nodup_append]
              exact ⟨ndo, by simp, fun o ho o' ho' e => hni (by rw [List.mem_singleton.mp ho'] at e; rw [← e]; exact ho)⟩
          · exact ⟨k12.trans k1214, hw14, hpd14, offs, acc, _, _, _, _, _, _, _, _, _, _, rfl, hpo14, hacc14, hoff, ndo, by omega⟩
        · obtain ⟨k12, hw12, hpd12, offs, acc, o2, o3, o4, o5, o6, o12, o13, o14, o15, o16, rfl, hpo12, hacc, hoff, ndo, hofl⟩ := h
          have hacl : acc.length = offs.length := by rw [hacc.length, List.length_map]
          have h6 : offs.length ≤ 6 := by omega
          refine ⟨_, rfl, po, acc, rfl, .inl (SqL.of hpo12), ?_⟩
          rw [hacl]
          refine ⟨offs.length, rfl, h6, fun l ls H13 k13 hl0 hl13 hls => ⟨l, rfl, ⟨ls, SqL.of hl13⟩, ?_⟩⟩
          have hlsl : ls.length = (setsOf offs.length).length := by rw [hls.length, List.length_map]
          have hl64 := setsOf_few h6
          have hlpd2 : l ≠ pd := fun z => by rw [z, hpd12] at hl0; cases hl0
          have hlpo2 : l ≠ po := fun z => by rw [z, hpo12] at hl0; cases hl0
          have hokp1 : ∀ o ∈ offs, OffOk tally ways.length o := fun o ho => (hoff o ho).1
          refine for_it walk_list (fun j σ H14 => Kp (At wl) H5 H14 ∧ Well (n + 2500 * i + 1110) H14 wl ∧ H14 po = some (.lst acc) ∧ TpAll H14 acc (offs.map (offD names)) ∧ H14 l = some (.lst ls) ∧ TpAll H14 ls ((setsOf offs.length).map lotD) ∧ ∃ (dacc : List V) (o2 o3 o4 o5 o6 o12 o13 o14 o15 o16 : Option V), σ = [some (.ref wl), some (.int (i : Int)), o2, o3, o4, o5, o6, some vn, some (.ref wa), some (.ref x), some (.ref po), some (.ref pd), o12, o13, o14, o15, o16] ∧ H14 pd = some (.lst dacc) ∧ dacc.length ≤ j ∧ TpAll H14 dacc ((((setsOf offs.length).take j).foldl (mendStep tally ways offs) []).map lotD))
            ⟨k12.trans k13.no, (hw12.k k13 (fun z => z)).mono (by omega), k13.at hpo12, hacc.mono k13.tu, hl13, hls, [], _, _, _, _, _, _, _, _, _, _, rfl, k13.at hpd12, Nat.le_refl _, .nil⟩ (fun j σ H14 _ h => SqL.of h.2.2.2.2.1) (fun j y σ H14 H14' hj h hy => ?_) (fun σ H14 h => ?_)
          · obtain ⟨k14, hw14, hpo14, hacc14, hl14, hls14, dacc, o2, o3, o4, o5, o6, o12, o13, o14, o15, o16, rfl, hpd14, hdl, hdacc⟩ := h
            obtain ⟨rfl, hx⟩ := hy
            have hj' : j < (setsOf offs.length).length := by omega
            obtain ⟨d, hd, hv⟩ := hls14.get hx
            rw [List.getElem?_map, getD_of hj' []] at hd
            obtain rfl := Option.some.inj hd
            have hm := setsOf_mem (List.mem_of_getElem? (getD_of hj' []))
            obtain ⟨hlt, hll⟩ := lots_lt hm
            have htk : ((setsOf offs.length).take (j + 1)).foldl (mendStep tally ways offs) [] = mendStep tally ways offs (((setsOf offs.length).take j).foldl (mendStep tally ways offs) []) ((setsOf offs.length).getD j []) := by
              rw [List.take_succ, getD_of hj' [], List.foldl_append]
              rfl
            rw [htk]
            have hfl : ∀ less ∈ ((setsOf offs.length).take j).foldl (mendStep tally ways offs) [], less.length ≤ 6 := mend_mem (fun x => x.length ≤ 6) _ _ (fun x hx => absurd hx List.not_mem_nil) fun x hx => by
              have := (lots_lt (setsOf_mem (List.mem_of_mem_take hx))).2
              omega
            generalize (setsOf offs.length).getD j [] = row at *
            generalize ((setsOf offs.length).take j).foldl (mendStep tally ways offs) [] = fnd at *
            have hafl : dacc.length = fnd.length := by rw [hdacc.length, List.length_map]
            obtain ⟨b, rfl, hb⟩ := lot_of hv
            refine ⟨_, rfl, pd, rfl, ⟨_, SqL.of hpd14⟩, fun D hD => ?_⟩
            refine lc_mapD (S := No) walk_list (by omega) hD (fun z => z) (fun j => .bool ((fnd.getD j []).all fun a => decide (a ∈ row))) (fun H15 k15 => SqL.of (k15.at hpd14)) (fun m x H15 H16 acc2 N hm k15 hacc2 hy15 hN => ?_) (fun acc2 H15 k15 hacc2 hr15 => ?_)
            · obtain ⟨rfl, hx⟩ := hy15
              have hm' : m < fnd.length := by omega
              obtain ⟨d, hd, hvj⟩ := (hdacc.mono k15.tu).get hx
              rw [List.getElem?_map, getD_of hm' []] at hd
              obtain rfl := Option.some.inj hd
              have hl6 := hfl _ (List.mem_of_getElem? (getD_of hm' []))
              generalize fnd.getD m [] = less at *
              obtain ⟨b2, rfl, hb2⟩ := lot_of hvj
              refine ⟨rfl, _, rfl, b2, rfl, ⟨_, SqT.of hb2⟩, fun D2 hD2 => ?_⟩
              refine lc_mapD (S := No) walk_tup (by rw [List.length_map, List.length_map]; omega) hD2 (fun z => z) (fun m => .bool (decide (less.getD m 0 ∈ row))) (fun H17 k17 => SqT.of (k17.tu _ _ hb2)) (fun m x H17 H18 acc3 N2 hm2 k17 hacc3 hy17 hN2 => ?_) (fun acc3 H17 k17 hacc3 hr17 => ?_)
              · obtain ⟨rfl, hx⟩ := hy17
                rw [List.length_map, List.length_map] at hm2
                rw [List.getElem?_map, List.getElem?_map, getD_of hm2 0] at hx
                obtain rfl := Option.some.inj hx
                refine ⟨rfl, _, rfl, _, rfl, b, _, rfl, .inr (SqT.of ((k15.trans k17).tu _ _ hb)), rfl, flat_ints _, hN2 _ _ (Kp.refl _ _) ?_⟩
                show Tp H18 (.bl (inV _ _)) _
                rw [inV_lot]
                exact .bl _
              · rw [List.length_map, List.length_map, range_get less (fun a => PyData.bool (decide (a ∈ row))) 0] at hr17
                obtain rfl := hr17.bls_map _
                refine ⟨D2, _, rfl, SqL.of hacc3, hN _ _ k17 ?_⟩
                rw [List.all_map]
                exact .bl _
            · rw [hafl, range_get fnd (fun less => PyData.bool (less.all fun a => decide (a ∈ row))) []] at hr15
              obtain rfl := hr15.bls_map _
              refine ⟨D, _, rfl, SqL.of hacc2, ?_⟩
              rw [List.any_map]
              refine ⟨wider fnd row, rfl, ?_⟩
              have kk15 : Kp (At wl) H5 H15 := k14.trans k15.no
              have hw15 := hw14.k k15 (fun z => z)
              have hpo15 := k15.at hpo14
              have hpd15 := k15.at hpd14
              have hl15 := k15.at hl14
              have hacc15 := hacc14.mono k15.tu
              have hdacc15 := hdacc.mono k15.tu
              have hls15 := hls14.mono k15.tu
              cases hwd : wider fnd row with
              | true =>
                refine ite2 (fun h => absurd h (by decide)) (fun _ => ?_)
                have hstep : mendStep tally ways offs fnd row = fnd := by
                  unfold mendStep
                  rw [hwd]
                  rfl
                rw [hstep]
                exact ⟨kk15, hw15, hpo15, hacc15, hl15, hls15, dacc, _, _, _, _, _, _, _, _, _, _, rfl, hpd15, by omega, hdacc15⟩
              | false =>
                refine ite2 (fun _ => ?_) (fun h => absurd rfl h)
                have hb15 := k15.tu _ _ hb
                refine ⟨_, rfl, b, rfl, ⟨_, SqT.of hb15⟩, fun D3 hD3 => ?_⟩
                refine lc_mapD (S := No) walk_tup (by rw [List.length_map, List.length_map]; omega) hD3 (fun z => z) (fun j => offD names ((pickO offs row).getD j (.strike 0))) (fun H16 k16 => SqT.of (k16.tu _ _ hb15)) (fun m x H16 H17 acc3 N hm k16 hacc3 hy16 hN => ?_) (fun acc3 H16 k16 hacc3 hr16 => ?_)
                · obtain ⟨rfl, hx⟩ := hy16
                  rw [List.length_map, List.length_map] at hm
                  rw [List.getElem?_map, List.getElem?_map, getD_of hm 0] at hx
                  obtain rfl := Option.some.inj hx
                  have hmj := hlt _ (List.mem_of_getElem? (getD_of hm 0))
                  obtain ⟨u, hu, tu⟩ := (hacc15.mono k16.tu).get' (i := row.getD m 0) (d := offD names (offs.getD (row.getD m 0) (.strike 0))) (by rw [List.getElem?_map, getD_of hmj (.strike 0)]; rfl)
                  have epk : (pickO offs row).getD m (.strike 0) = offs.getD (row.getD m 0) (.strike 0) := by
                    unfold pickO pick
                    rw [List.getD_eq_getElem?_getD, List.getElem?_map, getD_of hm 0]
                    rfl
                  rw [epk] at hN
                  exact ⟨rfl, _, rfl, _, rfl, po, acc, _, u, rfl, rfl, SqL.of (k16.at hpo15), atI_nat hu, hN _ _ (Kp.refl _ _) tu⟩
                · have hpl : row.length = (pickO offs row).length := by unfold pickO pick; rw [List.length_map]
                  rw [List.length_map, List.length_map, hpl, range_get (pickO offs row) (offD names) (.strike 0)] at hr16
                  have hokp : ∀ o ∈ pickO offs row, OffOk tally ways.length o := fun o ho => hokp1 o (pick_mem hlt ho)
                  have hp6 : (pickO offs row).length ≤ 6 := by rw [← hpl]; omega
                  have hstep : mendStep tally ways offs fnd row = if good tally (chW ways (pickO offs row)) = true then fnd ++ [row] else fnd := by
                    unfold mendStep
                    rw [hwd]
                    rfl
                  rw [hstep]
                  generalize pickO offs row = ps at *
                  have hal3 : acc3.length = ps.length := by rw [hr16.length, List.length_map]
                  refine ⟨_, rfl, D3, rfl, ⟨_, SqL.of hacc3⟩, fun D4 hD4 => ?_⟩
                  refine lc_grow (S := No) walk_list (by omega) hD4 (fun z => z) (fun m acc H17 => TpAll H17 acc ((earsOf (ps.take m)).map (earD names))) (fun _ _ _ _ _ _ k h => h.mono k) (fun _ _ => .nil) (fun H17 k => SqL.of (k.at hacc3)) (fun m x H17 H18 acc4 N N0 hm k hl4 hR hy hN hN0 => ?_) (fun acc4 H17 k17 hl4 hlen4 hR4 => ?_)
                  · obtain ⟨rfl, hx⟩ := hy
                    have hm' : m < ps.length := by omega
                    obtain ⟨d, hd, hv⟩ := (hr16.mono k.tu).get hx
                    rw [List.getElem?_map, getD_of hm' (.strike 0)] at hd
                    obtain rfl := Option.some.inj hd
                    rw [earsOf_take ps hm' (.strike 0), List.map_append] at hN hN0
                    generalize ps.getD m (.strike 0) = o at *
                    cases o with
                    | ear e =>
                      obtain ⟨b2, rfl, hb2⟩ := off_ear hv
                      refine ⟨rfl, _, rfl, b2, _, 0, .str sEar, rfl, rfl, SqT.of hb2, atI_nat (j := 0) rfl, rfl, _, rfl, ?_⟩
                      refine ite2 (fun _ => ?_) (fun h => absurd (decide_eq_true rfl) h)
                      refine ⟨_, rfl, 1, rfl, b2, _, rfl, SqT.of hb2, fun z => absurd (show (1 : Nat) = 0 from z.1) (by decide), fun _ t ht => ?_⟩
                      rw [show cutV [V.str sEar, .int (e.1 : Int), .str (nm names e.2.1), .str (nm names e.2.2)] (some 1) none = [.int (e.1 : Int), .str (nm names e.2.1), .str (nm names e.2.2)] from cut1 _]
                      exact hN _ _ (Kp.new ht) ((hR.mono (TK.new ht)).snoc (.tup upd_same (.cons (.int _) (.cons (.str _) (.cons (.str _) .nil)))))
                    | strike k' =>
                      obtain ⟨b2, rfl, hb2⟩ := off_strike hv
                      refine ⟨rfl, _, rfl, b2, _, 0, .str sStrike, rfl, rfl, SqT.of hb2, atI_nat (j := 0) rfl, rfl, _, rfl, ?_⟩
                      refine ite2 (fun h => absurd (V.str.inj (of_decide_eq_true h)) (by decide)) (fun _ => ?_)
                      exact hN0 _ (Kp.refl _ _) (by rw [List.map_nil, List.append_nil]; exact hR)
                  · rw [hal3, List.take_length] at hR4
                    have hD317 := k17.at hacc3
                    have hr17 := hr16.mono k17.tu
                    refine ⟨_, rfl, _, rfl, _, rfl, _, rfl, D3, rfl, ⟨_, SqL.of hD317⟩, fun D5 hD5n => ?_⟩
                    refine lc_grow (S := No) walk_list (by omega) hD5n (fun z => z) (fun m acc H18 => TpAll H18 acc ((strikesOf (ps.take m)).map strD)) (fun _ _ _ _ _ _ k h => h.mono k) (fun _ _ => .nil) (fun H18 k => SqL.of (k.at hD317)) (fun m x H18 H19 acc5 N N0 hm k hl5 hR hy hN hN0 => ?_) (fun acc5 H18 k18 hl5 _ hR5 => ?_)
                    · obtain ⟨rfl, hx⟩ := hy
                      have hm' : m < ps.length := by omega
                      obtain ⟨d, hd, hv⟩ := (hr17.mono k.tu).get hx
                      rw [List.getElem?_map, getD_of hm' (.strike 0)] at hd
                      obtain rfl := Option.some.inj hd
                      rw [strikesOf_take ps hm' (.strike 0), List.map_append] at hN hN0
                      generalize ps.getD m (.strike 0) = o at *
                      cases o with
                      | ear e =>
                        obtain ⟨b2, rfl, hb2⟩ := off_ear hv
                        refine ⟨rfl, _, rfl, b2, _, 0, .str sEar, rfl, rfl, SqT.of hb2, atI_nat (j := 0) rfl, rfl, _, rfl, ?_⟩
                        refine ite2 (fun h => absurd (V.str.inj (of_decide_eq_true h)) (by decide)) (fun _ => ?_)
                        exact hN0 _ (Kp.refl _ _) (by rw [List.map_nil, List.append_nil]; exact hR)
                      | strike k' =>
                        obtain ⟨b2, rfl, hb2⟩ := off_strike hv
                        refine ⟨rfl, _, rfl, b2, _, 0, .str sStrike, rfl, rfl, SqT.of hb2, atI_nat (j := 0) rfl, rfl, _, rfl, ?_⟩
                        refine ite2 (fun _ => ?_) (fun h => absurd (decide_eq_true rfl) h)
                        exact ⟨_, rfl, b2, _, 1, .int (k' : Int), rfl, rfl, SqT.of hb2, atI_nat (j := 1) rfl, hN _ _ (Kp.refl _ _) (hR.snoc (.int _))⟩
                    · rw [hal3, List.take_length] at hR5
                      have hst : acc5 = ((strikesOf ps).map fun (k : Nat) => (k : Int)).map V.int := by
                        have := hR5.ints_map (fun k : Nat => (k : Int))
                        exact this
                      subst hst
                      have kk18 : Kp No H15 H18 := (k16.trans k17).trans k18
                      have k518 : Kp (At wl) H5 H18 := kk15.trans kk18.no
                      have hekp := earsOf_ok hokp
                      refine ⟨vn, .ref wa, D4, D5, tally, acc4, names, ways, earsOf ps, strikesOf ps, rfl, hD5.vn.at k518 hw5, hD5.vw.mono k518.tu, hD5.nm.nd, hD5.len, hD5.W, Nat.le_trans (by decide) ht2, k18.at hl4, hR4.mono k18.tu, hl5, hekp, Nat.le_trans (List.length_filterMap_le _ _) (by omega), fun v2 H19 k19 hv2 => ?_⟩
                      have hW5 := chW_ok hD5.W hokp
                      refine ⟨_, rfl, v2, tally, _, rfl, hv2, hW5, Nat.le_trans (by decide) ht2, ht4, fun bb H20 k20 hbb => ⟨bb, rfl, ?_⟩⟩
                      rw [good_of hbb]
                      have k1520 : Kp No H15 H20 := (kk18.trans k19).trans k20
                      have hpd20 := k1520.at hpd15
                      have k520 := kk15.trans k1520.no
                      refine ite2 (fun h => ?_) (fun h => ?_)
                      · rw [if_pos (show good tally (chW ways ps) = true from h)]
                        refine ⟨_, rfl, .inl ⟨rfl, _, SqL.of hpd20⟩, _, rfl, pd, dacc, _, rfl, rfl, hpd20, by omega, Kp.own k520 (k6.fr _ hpd) hpd20 (by intro xs z; cases z), (hw15.k k1520 (fun z => z)).upd hpdw, by rw [upd_ne hpn]; exact k1520.at hpo15, (hacc15.mono k1520.tu).mono (TK.upd_lst hpd20), by rw [upd_ne hlpd2]; exact k1520.at hl15, (hls15.mono k1520.tu).mono (TK.upd_lst hpd20), dacc ++ [.ref b], _, _, _, _, _, _, _, _, _, _, rfl, upd_same, by rw [List.length_append, List.length_singleton]; omega, ?_⟩
                        rw [List.map_append]
                        exact ((hdacc15.mono k1520.tu).mono (TK.upd_lst hpd20)).snoc (((hv.mono k15.tu).mono k1520.tu).mono (TK.upd_lst hpd20))
                      · rw [if_neg (show ¬ good tally (chW ways ps) = true from h)]
                        exact ⟨k520, hw15.k k1520 (fun z => z), k1520.at hpo15, hacc15.mono k1520.tu, k1520.at hl15, hls15.mono k1520.tu, dacc, _, _, _, _, _, _, _, _, _, _, rfl, hpd20, by omega, hdacc15.mono k1520.tu⟩
          · obtain ⟨k14, hw14, hpo14, hacc14, hl14, hls14, dacc, o2, o3, o4, o5, o6, o12, o13, o14, o15, o16, rfl, hpd14, hdl, hdacc⟩ := h
            rw [hlsl, List.take_length] at hdacc
            have hdacc : TpAll H14 dacc ((mendOf tally ways offs).map lotD) := hdacc
            have hn5 := (hw5.kn k14 hw14)
            have hT14 := hw5.tabs k14 hT5
            have kn14 : KN (At wl) H H14 := kn5.trans hn5
            have hxw : ¬ (At wl) x := fun z => by
              obtain ⟨_, h⟩ := hw5.lst
              rw [show x = wl from z, h] at hx5
              cases hx5
            have hnm14 := hD5.vn.at k14 hw5
            have hvw14 : Tp H14 (.ref wa) (waysD ways) := hD5.vw.mono k14.tu
            have hco14 : CouncilAt C H14 (.ref x) names ways := ⟨x, dx, fs, vn, .ref wa, rfl, k14.kp _ _ hxw hx5, hf1, hf2, hnm14, hvw14⟩
            refine ⟨_, rfl, _, rfl, po, acc, rfl, .inl ⟨SqL.of hpo14, fun t1 ht1 => ?_⟩⟩
            have k15 : Kp No H14 (upd H14 t1 (.tup acc)) := Kp.new ht1
            have hv15 : Tp (upd H14 t1 (.tup acc)) (.ref t1) (.tuple (offs.map (offD names))) := .tup upd_same (hacc14.mono k15.tu)
            have hT15 := tabs_mono k15 hT14
            generalize upd H14 t1 (.tup acc) = H15 at *
            have hml : (mendOf tally ways offs).length ≤ 64 := by
              have : dacc.length = (mendOf tally ways offs).length := by rw [hdacc.length, List.length_map]
              omega
            have hmm : ∀ lot ∈ mendOf tally ways offs, (∀ k ∈ lot, k < 1000) ∧ lot.length ≤ 6 := mend_mem (fun lot => (∀ k ∈ lot, k < 1000) ∧ lot.length ≤ 6) _ _ (fun x hx => absurd hx List.not_mem_nil) fun lot hlot => by
              obtain ⟨e1, e2⟩ := lots_lt (setsOf_mem hlot)
              exact ⟨fun k hk => by have := e1 k hk; omega, by omega⟩
            have hshw := shw_lots hmm (by omega)
            refine ⟨.ref x, .ref t1, tally, names, ways, offs, rfl, hco14.mono k15.n, hD5.nm, hD5.len, Nat.le_trans (by decide) ht2, hD5.W, hv15, hoff, ndo, h6, hT15, fun v1 H16 k16 hT16 hv1 => ?_⟩
            have k1416 : KN No H14 H16 := k15.n.trans k16
            have hpo16 := k1416.at lst_noTbl hpo14
            refine ⟨_, rfl, po, acc, rfl, .inl ⟨SqL.of hpo16, fun t2 ht2' => ?_⟩⟩
            have k17 : Kp No H16 (upd H16 t2 (.tup acc)) := Kp.new ht2'
            have hv17 : Tp (upd H16 t2 (.tup acc)) (.ref t2) (.tuple (offs.map (offD names))) := .tup upd_same ((hacc14.mono k1416.tu).mono k17.tu)
            have hT17 := tabs_mono k17 hT16
            generalize upd H16 t2 (.tup acc) = H17 at *
            have k1417 : KN No H14 H17 := k1416.trans k17.n
            refine ⟨_, rfl, _, _, rfl, .ref x, .ref t2, tally, names, ways, offs, rfl, hco14.mono k1417, hD5.nm, hD5.len, Nat.le_trans (by decide) ht2, hD5.W, hv17, hoff, ndo, h6, hT17, fun v2 H18 k18 hT18 hv2 => ?_⟩
            have k1418 : KN No H14 H18 := k1417.trans k18
            refine ⟨(show 2 ≤ sizeLine by omega), fun tl htl => ?_⟩
            have k19 : Kp No H18 (upd H18 tl (.lst [v1, v2])) := Kp.new htl
            have htl19 : upd H18 tl (.lst [v1, v2]) tl = some (.lst [v1, v2]) := upd_same
            have hT19 := tabs_mono k19 hT18
            generalize upd H18 tl (.lst [v1, v2]) = H19 at *
            have k1419 : KN No H14 H19 := k1418.trans k19.n
            have hv1' := (hv1.mono k17.tu).mono (k18.tu.trans k19.tu)
            have hv2' := hv2.mono k19.tu
            obtain ⟨w1, w2, w3, w4⟩ := (shw_two hshw hshw).out (by decide) (by decide)
            refine ⟨_, rfl, tl, _, rfl, .lst (SqL.of htl19) (.cons (hv1'.dp K) (.cons (hv2'.dp K) .nil)), w1, w2, w3, w4, ?_⟩
            have hpd19 := k1419.at lst_noTbl hpd14
            refine ⟨_, rfl, pd, dacc, rfl, .inl ⟨SqL.of hpd19, fun t3 ht3 => ?_⟩⟩
            have k20 : Kp No H19 (upd H19 t3 (.tup dacc)) := Kp.new ht3
            have ht20 : upd H19 t3 (.tup dacc) t3 = some (.tup dacc) := upd_same
            have hT20 := tabs_mono k20 hT19
            generalize upd H19 t3 (.tup dacc) = H20 at *
            refine ⟨_, rfl, pd, dacc, rfl, .inl ⟨SqL.of (k20.at hpd19), fun t4 ht4' => ?_⟩⟩
            have k21 : Kp No H20 (upd H20 t4 (.tup dacc)) := Kp.new ht4'
            have ht21 : upd H20 t4 (.tup dacc) t4 = some (.tup dacc) := upd_same
            have hT21 := tabs_mono k21 hT20
            generalize upd H20 t4 (.tup dacc) = H21 at *
            refine ⟨(show 2 ≤ sizeLine by omega), fun t5 ht5 => ?_⟩
            have k22 : Kp No H21 (upd H21 t5 (.lst [.ref t3, .ref t4])) := Kp.new ht5
            have ht22 : upd H21 t5 (.lst [.ref t3, .ref t4]) t5 = some (.lst [.ref t3, .ref t4]) := upd_same
            have hT22 := tabs_mono k22 hT21
            generalize upd H21 t5 (.lst [.ref t3, .ref t4]) = H22 at *
            have k1922 := (k20.trans k21).trans k22
            have hd3 : Tp H22 (.ref t3) (.tuple ((mendOf tally ways offs).map lotD)) := .tup ((k21.trans k22).tu _ _ ht20) ((hdacc.mono k1419.tu).mono k1922.tu)
            have hd4 : Tp H22 (.ref t4) (.tuple ((mendOf tally ways offs).map lotD)) := .tup (k22.tu _ _ ht21) ((hdacc.mono k1419.tu).mono k1922.tu)
            refine ⟨t5, _, rfl, .lst (SqL.of ht22) (.cons (hd3.dp K) (.cons (hd4.dp K) .nil)), w1, w2, w3, w4, ?_⟩
            refine ⟨rfl, _, rfl, ?_⟩
            rw [decide_eq_true rfl]
            have k1422 : KN No H14 H22 := k1419.trans k1922.n
            show tNext _ _ _
            refine tNext_intro ?_
            have k522 : KN (At wl) H5 H22 := hn5.trans k1422.no
            have hw22 : Well (n + 2500 * i + 1110) H22 wl := hw14.kkn k1422 (fun z => z)
            have hD22 := hD5.k k522 hw5.frz
            have hco22 := hco14.mono k1422
            refine ⟨_, rfl, _, rfl, _, rfl, wl, vn, .ref wa, n + 2500 * i + 1110, tally, 4, names, ways, rfl, hw22, hD22, by decide, by omega, fun le2 es2 ears2 H23 hle2 k23 hw23 hle23 hes2 hok2 nd2 hel2 => ⟨le2, es2, rfl, .inl ⟨SqL.of hle23, fun t6 ht6 => ?_⟩⟩⟩
            have k24 : Kp No H23 (upd H23 t6 (.tup es2)) := Kp.new ht6
            have hv24 : Tp (upd H23 t6 (.tup es2)) (.ref t6) (.tuple (ears2.map (earD names))) := .tup upd_same (hes2.mono k24.tu)
            have hT23 := hw22.tabs k23 hT22
            have hT24 := tabs_mono k24 hT23
            have hw24 := hw23.k k24 (fun z => z)
            generalize upd H23 t6 (.tup es2) = H24 at *
            have k2224 : KN (At wl) H22 H24 := (hw22.kn k23 hw23).trans k24.n
            have k524 := k522.trans k2224
            have hD24 := hD5.k k524 hw5.frz
            have hco24 : CouncilAt C H24 (.ref x) names ways := by
              obtain ⟨x', dx', fs', vn', vw', e1, e2, e3, e4, e5, e6⟩ := hco22
              cases e1
              exact ⟨x, dx', fs', vn', vw', rfl, k24.at (k23.kp _ _ hxw e2), e3, e4, (e5.at k23 hw22).k k24, (e6.mono k23.tu).mono k24.tu⟩
            refine ⟨_, rfl, _, rfl, _, rfl, _, rfl, .ref x, vn, .ref wa, .ref t6, tally, names, ways, ears2, rfl, hco24, hD24, hv24, hok2, nd2, by omega, hT24, fun H25 k25 hT25 => ⟨true, rfl, ?_⟩⟩
            refine ite2 (fun h => absurd h (by decide)) (fun _ => ?_)
            exact ⟨(kn5.trans k524).trans k25.no, hT25, (hw24.kkn k25 (fun z => z)).mono (by omega), _, _, _, _, _, _, _, _, _, _, _, _, _, _, _, _, rfl⟩
    · obtain ⟨k1, hT1, hw1, o1, o2, o3, o4, o5, o6, o7, o8, o9, o10, o11, o12, o13, o14, o15, o16, rfl⟩ := h
      exact q H1 k1 hT1
end
end AA

/-! ## T26 -/
set_option Elab.async false
set_option linter.all false
set_option maxRecDepth 100000
set_option maxHeartbeats 4000000
namespace AA
open PySem PySem.Spec PyProof.Rows L2 PySem.W
theorem sql_kn {K : PySem.W.Frag} {S : Addr → Prop} {H H' : Hp} {a : Addr} {xs : List V} (h : SqL K H a xs) (k : KN S H H') (hs : ∀ o, H a = some o → ¬ S a) : SqL K H' a xs := by
  rcases h with h | h
  · rcases h with h | ⟨o, h⟩
    · exact .inl (.inl (k.kp _ _ (hs _ h) lst_noTbl h))
    · exact .inl (.inr ⟨o, k.kp _ _ (hs _ h) frz_noTbl h⟩)
  · exact .inr h
section
variable {P : Program} {w : World} {K : PySem.W.Frag} {mg : Str → Option Value} {base : Heap}
abbrev s_law : Stmt := top 75
abbrev n_law : List Str := ["_law_script", "_law_k"]
theorem sc_law : FnScope n_law ["_law_script"] (defScope s_law) := ⟨rfl, rfl, rfl, by decide +kernel, rfl, by decide +kernel, by decide +kernel⟩
def spLaw (K : PySem.W.Frag) (T : List (Addr × Str)) : Sp := fun vs H Q _ => ∃ (l : Addr) (ns : List Int), vs = [.ref l] ∧ SqL K H l (ns.map V.int) ∧ ns.length < 1000 ∧ LamX.Tabs T H ∧ ∀ H', Q (.bl true) H'
theorem ok_law {f : Addr} {T : List (Addr × Str)} {fd : FuncData} (F : DefIn K mg "law" s_law ["_law_script"] f fd) (B : Bt mg) (D__law_well : Def P w K mg base "_law_well" 1 ["_law_script", "_law_k"] (spWell (K := K))) (D__law_right : DefG P w K mg base "_law_right" 9 ["_law_well_here"] (spLRight T)) :
    FnG P w K mg base 10 f fd ["_law_script"] (spLaw K T) := by
  refine F.okG sc_law (fun vs H Q E h => ?_) (fun cdv A outer s H vs Q E hr hg h => ?_)
  · obtain ⟨l, ns, rfl, _⟩ := h
    rfl
  · obtain ⟨l, ns, rfl, hl, hn, hT, q⟩ := h
    refine ⟨_, (pss_cons (ps_for PassesOwn.never rfl (pi_range1 rfl B.range (pa_cons (pe_callB (r_max2 hr.units) (by rfl) B.max (by decide +kernel) (pa_cons pe_int (pa_cons (pe_callB (r_min2 hr.units) (by rfl) B.min (by decide +kernel) (pa_cons (pe_callB (r_len K) (by rfl) B.len (by decide +kernel) (pa_cons (pv 0) pa_nil)) (pa_cons pe_int pa_nil))) pa_nil))) pa_nil)) (pg_name (i := 1) sc_law.nd rfl (by first | exact Or.inl rfl | exact Or.inr rfl))
      (pss_one (ps_if (pt_not (pt_val (pe_defG (D__law_right.mono (by decide)) hr hg (by rfl) (pa_cons (pe_def (D__law_well.mono (by decide)) hr (by rfl) (pa_cons (pv 0) (pa_cons (pv 1) pa_nil))) pa_nil))))
        (pss_one (ps_ret pe_bl))
        pss_nil)))
      (pss_one (ps_ret pe_bl))), ?_⟩
    have hsz : (2000 : Nat) < sizeLine := by decide
    have hlen : (ns.map V.int).length = ns.length := List.length_map ..
    refine ⟨_, rfl, l, _, rfl, .inl hl, _, _, .int (((ns.map V.int).length : Nat) : Int), .int 3, rfl, .int _, .int _, alike_ints _ _, depthAll_ints2 _ _, ?_⟩
    obtain ⟨z, hz, hz3⟩ : ∃ z : Int, (if dataLt (.int 3) (.int (((ns.map V.int).length : Nat) : Int)) = true then V.int 3 else V.int (((ns.map V.int).length : Nat) : Int)) = V.int z ∧ z ≤ 3 := by
      rw [dataLt_int]
      split
      · exact ⟨3, rfl, by decide⟩
      · rename_i h
        exact ⟨_, rfl, by simpa using h⟩
    rw [hz]
    refine ⟨_, _, .int 2, .int z, rfl, .int _, .int _, alike_ints _ _, depthAll_ints2 _ _, ?_⟩
    obtain ⟨m, hm, hm3⟩ : ∃ m : Nat, (if dataLt (.int 2) (.int z) = true then V.int z else V.int 2) = V.int (m : Int) ∧ m ≤ 3 := by
      rw [dataLt_int]
      split
      · rename_i h
        have h := of_decide_eq_true h
        exact ⟨z.toNat, by rw [Int.toNat_of_nonneg (by omega)], by omega⟩
      · exact ⟨2, rfl, by decide⟩
    rw [hm]
    refine ⟨(m : Int), rfl, by omega, by omega, ?_⟩
    rw [Int.toNat_natCast]
    refine for_it walk_range0 (fun i σ H1 => LamX.Tabs T H1 ∧ SqL K H1 l (ns.map V.int) ∧ ∃ o : Option V, σ = [some (.ref l), o]) ⟨hT, hl, _, rfl⟩ (fun _ _ _ _ _ => True.intro) (fun i x σ H1 H1' hi h hy => ?_) (fun σ H1 h => ?_)
    · obtain ⟨hT1, hl1, o, rfl⟩ := h
      obtain ⟨rfl, rfl⟩ := hy
      refine ⟨_, rfl, _, rfl, l, ns, i, rfl, hl1, hn, by omega, fun wl H2 hwl k2 hw2 => ?_⟩
      refine ⟨wl, 0, rfl, hw2, by omega, tabs_mono k2 hT1, fun H3 k3 hT3 => ⟨true, rfl, ?_⟩⟩
      refine ite2 (fun h => absurd h (by decide)) (fun _ => ⟨hT3, ?_, _, rfl⟩)
      have hl2 : SqL K H2 l (ns.map V.int) := sql_kn (S := No) hl1 k2.n (fun _ _ z => z)
      by_cases hw : l = wl
      · rcases hl1 with hh | hh
        · rcases hh with hh | ⟨o, hh⟩
          · rw [hw, hwl] at hh; cases hh
          · rw [hw, hwl] at hh; cases hh
        · exact .inr hh
      · exact sql_kn hl2 k3 (fun _ _ z => hw z)
    · obtain ⟨hT1, hl1, o, rfl⟩ := h
      exact q H1
end
end AA

/-! ## T27 -/
set_option Elab.async false
set_option linter.all false
set_option maxRecDepth 100000
set_option maxHeartbeats 4000000
/-! T27: the end of a law whose promise holds where nothing is guarded, with tables of code objects. -/
namespace AA
open PySem PySem.Spec PyProof.Rows L2 PySem.W
/-- what is tracked at the start: the tables, and the script where the written part does not hold it -/
def trackAt (T : List Addr) (a : Addr) (free : Bool) (vs : List Value) (ns : List Int) : Hp := fun b =>
  if b ∈ T then some (.tbl #[]) else if b = a ∧ free = true then some (.frz { cls := .type "list", data := .seq vs.toArray } (.lst (ns.map V.int))) else none
section
variable {T : List Addr} {a b : Addr} {free : Bool} {vs : List Value} {ns : List Int} {u : HO}
theorem trackAt_inv (h : trackAt T a free vs ns b = some u) : (b ∈ T ∧ u = .tbl #[]) ∨ (b ∉ T ∧ b = a ∧ free = true ∧ u = .frz { cls := .type "list", data := .seq vs.toArray } (.lst (ns.map V.int))) := by
  unfold trackAt at h
  split at h
  · rename_i m
    exact .inl ⟨m, (Option.some.inj h).symm⟩
  · rename_i m
    split at h
    · rename_i z
      exact .inr ⟨m, z.1, z.2, (Option.some.inj h).symm⟩
    · cases h
theorem trackAt_tbl (h : b ∈ T) : trackAt T a free vs ns b = some (.tbl #[]) := if_pos h
theorem trackAt_none (h1 : b ∉ T) (h2 : b ≠ a ∨ free = false) : trackAt T a free vs ns b = none := by
  unfold trackAt
  rw [if_neg h1, if_neg (fun z => h2.elim (fun q => q z.1) (fun q => by rw [z.2] at q; cases q))]
end
theorem law_callG {P : Program} {w : World} {K : PySem.W.Frag} {mg mb : Str → Option Value} {k : Nat} {fa a : Addr} {cs : List (Addr × Addr)} {fd : FuncData} {x : Str} {sp : Sp} {st : Shared} {vs : List Value} {ns : List Int}
    (inK : K.In st.heap) (nsG : st.heap.Ns mainGlobals mg) (nsB : st.heap.Ns builtinsNs mb) (boots : ∀ y : Str, y ≠ "__name__" → mb y = bootBuiltins y) (nl : st.heap.NoLimit) (calm : st.gens = #[])
    (tab : ∀ p ∈ cs, st.heap.get? p.2 = some { cls := .none, data := .fields #[] }) (nk : ∀ p ∈ cs, K.lookup p.2 = none) (code : ∀ p ∈ cs, PySem.W.CodeHd st.heap p.1 p.2)
    (bmod : ∃ (m : Addr) (o : Obj), mg "__builtins__" = some (.ref m) ∧ m ≠ builtinsNs ∧ st.heap.get? m = some o ∧ o.cls = .type "module" ∧ o.dict = some builtinsNs ∧ o.data = .plain)
    (scr : st.heap.get? a = some { cls := .type "list", data := .seq vs.toArray }) (isInts : IntsAre vs ns) (few : ns.length ≤ sizeLine) (room : Room k callerA)
    (F : ∀ base : Heap, K.In base → base.Ns mainGlobals mg → (∀ p ∈ cs, LamX.TabB base mg p.1 p.2) → FnG P w K mg base k fa fd [x] sp) (bind : ∀ (s : Shared) (u : Value), BindsTo s fd ⟨[u], []⟩ [(x, u)])
    (want : ∀ H : Hp, (∀ p ∈ cs, H p.2 = some (.tbl #[])) → SqL K H a (ns.map V.int) → sp [.ref a] H (fun v _ => v = .bl true) fun _ _ _ => False) :
    codeAny (model P w) callerA (.call (.ref fa) ⟨[.ref a], []⟩) (fun r s' => r = .ok (.ret (.bool true)) ∧ OldK st.heap s'.heap ∧ s'.os = st.os ∧ AllBare s'.gens) st := by
  have vals := L2.vals_ints isInts
  obtain ⟨T, hT⟩ : ∃ T, T = cs.map (·.2) := ⟨_, rfl⟩
  have inT : ∀ p ∈ cs, p.2 ∈ T := fun p hp => by rw [hT]; exact List.mem_map_of_mem hp
  have ofT : ∀ b ∈ T, ∃ p ∈ cs, p.2 = b := fun b hb => by rw [hT] at hb; exact List.mem_map.mp hb
  have tabT : ∀ b ∈ T, st.heap.get? b = some { cls := .none, data := .fields #[] } := fun b hb => by
    obtain ⟨p, hp, rfl⟩ := ofT b hb
    exact tab p hp
  have aT : a ∉ T := fun z => by
    have e := (tabT a z).symm.trans scr
    cases e
  obtain ⟨H, hH⟩ : ∃ H, H = trackAt T a (K.lookup a).isNone vs ns := ⟨_, rfl⟩
  -- what is not of these two kinds is not tracked
  have loose : ∀ {b : Addr} {o : Obj}, st.heap.get? b = some o → (∀ zs m, o.data ≠ .seq zs m) → o.data ≠ .fields #[] → H b = none := fun {b o} e n1 n2 => by
    rw [hH]
    refine trackAt_none (fun z => ?_) (.inl fun z => ?_)
    · rw [tabT b z] at e
      exact n2 (by rw [← Option.some.inj e])
    · rw [z, scr] at e
      exact n1 vs.toArray 0 (by rw [← Option.some.inj e])
  have hid : ∀ {b : Addr} {m : Str → Option Value}, st.heap.Ns b m → (hidT st.heap H).Ns b m := fun {b m} h => by
    obtain ⟨o, es, ep, e, hd, r⟩ := h
    exact ⟨o, es, ep, hidT_get e (loose e (fun zs q z => by rw [hd] at z; cases z) (fun z => by rw [hd] at z; cases z)), hd, r⟩
  have tblH : ∀ b ∈ T, H b = some (.tbl #[]) := fun b hb => by rw [hH]; exact trackAt_tbl hb
  have inK' : K.In (hidT st.heap H) := fun b o e => by
    refine hidT_get (inK b o e) ?_
    rw [hH]
    refine trackAt_none (fun z => ?_) ?_
    · obtain ⟨p, hp, rfl⟩ := ofT b z
      rw [nk p hp] at e
      cases e
    · by_cases z : b = a
      · subst z
        exact .inr (by rw [show K.lookup b = some o from e]; rfl)
      · exact .inl z
  have hok : HOk P w H st.heap := fun b u e => by
    rw [hH] at e
    rcases trackAt_inv e with ⟨m, rfl⟩ | ⟨_, rfl, _, rfl⟩
    · exact tabT b m
    · exact ⟨scr, by rw [List.length_map]; exact few, vs, _, vals, scr⟩
  have seq : SqL K H a (ns.map V.int) := by
    cases hk : K.lookup a with
    | none =>
      refine .inl (.inr ⟨{ cls := .type "list", data := .seq vs.toArray }, ?_⟩)
      rw [hH]
      unfold trackAt
      rw [if_neg aT, if_pos ⟨rfl, by rw [hk]; rfl⟩]
    | some o =>
      have e := (inK a o hk).symm.trans scr
      cases e
      refine .inr ⟨_, vs.toArray, _, hk, rfl, rfl, rfl, ?_, by simpa using vals⟩
      rw [List.size_toArray, isInts.length]
      exact few
  have TB : ∀ p ∈ cs, LamX.TabB (hidT st.heap H) mg p.1 p.2 := fun p hp => by
    obtain ⟨oG, es, ep, eG, dG, _⟩ := nsG
    refine ⟨?_, ?_, fun z => ?_⟩
    · obtain ⟨o, us, file, tf, flags, tg, inF, text, tt, e1, r1, r2, r3, rest⟩ := code p hp
      refine ⟨o, us, file, tf, flags, tg, inF, text, tt, hidT_get e1 (loose e1 (fun zs q z => by rw [r2] at z; cases z) (fun z => ?_)), r1, r2, r3, rest⟩
      rw [r2] at z
      cases z
      simp at r3
    · obtain ⟨m, o, b1, b2, b3, b4, b5, b6⟩ := bmod
      refine ⟨m, o, b1, b2, fun z => ?_, fun z => ?_, hidT_get b3 (loose b3 (fun zs q z => by rw [b6] at z; cases z) (fun z => by rw [b6] at z; cases z)), b4, b5, b6⟩
      · rw [z, eG] at b3
        cases b3
        rw [dG] at b6
        cases b6
      · rw [z, tab p hp] at b3
        cases b3
        cases b6
    · rw [z, tab p hp] at eG
      cases eG
      cases dG
  obtain ⟨lim, n1, n2⟩ := nl
  have e0 : Env0 P w K mg (hidT st.heap H) callerA [] st H := ⟨rfl, ⟨inK', hid nsG, ⟨mb, hid nsB, boots⟩, ⟨lim, hid n1, n2⟩⟩, fun b o e => of_hidT e, Nat.le_of_eq (hidT_size _ _), trivial, fun b hb => (List.not_mem_nil hb).elim, hok, .of_eq calm⟩
  refine codeAny_mono ((F _ inK' (hid nsG) TB).goes (raw := [.ref a]) (args := [.ref a]) room rfl e0 (bind st (.ref a)) (.cons rfl .nil) (want H (fun p hp => tblH _ (inT p hp)) seq)) fun r s' post => ?_
  match r, post with
  | .error _, post => exact post.elim
  | .ok .next, post => exact post.elim
  | .ok .brk, post => exact post.elim
  | .ok .cont, post => exact post.elim
  | .ok (.ret u), post =>
    obtain ⟨v, H', os, bare, un, hok', rv, rfl⟩ := post
    obtain rfl : u = Value.bool true := rv
    have stays : ∀ b o, b ∉ T → st.heap.get? b = some o → s'.heap.get? b = some o := fun b o nb e => by
      cases q : H b with
      | none => exact un.keep b o e q (fun z => (List.not_mem_nil z).elim) (fun z => (List.not_mem_nil z).elim)
      | some u =>
        have q' := q
        rw [hH] at q'
        rcases trackAt_inv q' with ⟨m, _⟩ | ⟨_, _, _, rfl⟩
        · exact absurd m nb
        · obtain ⟨e1, _⟩ := hok b _ q
          obtain ⟨e2, _⟩ := hok' b _ (un.frzs b _ _ q)
          rw [e1] at e
          cases e
          exact e2
    have grows : ∀ b ∈ T, ∃ more : Array Value, s'.heap.get? b = some { cls := .none, data := .fields more } := fun b hb => by
      obtain ⟨more, z⟩ := un.tbls b #[] (tblH b hb)
      exact ⟨_, hok' b _ z⟩
    refine ⟨rfl, ⟨fun b o e => ?_, fun b o e => ?_⟩, os, bare⟩
    · by_cases hb : b ∈ T
      · obtain ⟨p, hp, rfl⟩ := ofT b hb
        obtain ⟨more, hm⟩ := grows _ hb
        rw [tab p hp] at e
        cases e
        exact .inr (.inl ⟨((code p hp).tab (tab p hp)).isCodeTable, rfl, #[], more, rfl, by rw [Array.empty_append]; exact hm⟩)
      · exact .inl (stays b o hb e)
    · by_cases hb : b ∈ T
      · obtain ⟨more, hm⟩ := grows b hb
        exact ⟨_, hm⟩
      · exact ⟨o, stays b o hb e⟩
/-- what is known of the law's promise at the head's heap -/
def LawAtG (l : PySem.W.OpenLaw) (w : World) (K : PySem.W.Frag) (k n : Nat) (x : Str) (mg : Str → Option Value) (fa : Addr) (h : Heap) : Prop :=
  ∃ (fd : FuncData) (cs : List (Addr × Addr)) (sp : Sp), ((∀ p ∈ cs, h.get? p.2 = some { cls := .none, data := .fields #[] }) ∧ (∀ p ∈ cs, K.lookup p.2 = none) ∧ ∀ p ∈ cs, PySem.W.CodeHd h p.1 p.2) ∧ (∀ (s : Shared) (u : Value), BindsTo s fd ⟨[u], []⟩ [(x, u)]) ∧
    (∀ (H : Hp) (a : Addr) (ns : List Int), ns.length ≤ n → (∀ p ∈ cs, H p.2 = some (.tbl #[])) → SqL K H a (ns.map V.int) → sp [.ref a] H (fun v _ => v = .bl true) fun _ _ _ => False) ∧
    ∀ base : Heap, K.In base → base.Ns mainGlobals mg → (∀ p ∈ cs, LamX.TabB base mg p.1 p.2) → FnG l.prog w K mg base k fa fd [x] sp
theorem walk_ofG {l : PySem.W.OpenLaw} {n k : Nat} {q : Program} {loose : List Str} {XP : (Str → Option Value) → Heap → Prop} {YP : World → Heap → Prop} {d : DefRec} {K : Params → PySem.W.Frag} {x : Str}
    (most : l.most = some n) (small : n ≤ sizeLine) (plain : d.params.defaults = []) (room : Room k callerA) (hY : ∀ (w : World) (h : Heap), YP w h → (K w.params).In h)
    (F : ∀ (w : World) (mg : Str → Option Value) (fa : Addr) (h : Heap), YP w h → (K w.params).In h → h.Ns mainGlobals mg → mg d.name = some (.ref fa) → LawAtG l w (K w.params) k n x mg fa h) :
    PySem.W.WalkO q loose XP YP l.row.toRowW d [] (fun f vs => PySem.call f vs) := by
  refine Att.attach_callB most plain fun w _ st mg mb fa _ _ _ _ a vs ns G Y _ _ _ named scr isInts len _ calm => ?_
  have inK := hY w _ Y
  obtain ⟨fd, cs, sp, ⟨t1, t2, t3⟩, b, want, R⟩ := F w mg fa _ Y inK G.T.g named
  exact law_callG inK G.T.g G.T.b G.T.builtins G.T.nolimit calm t1 t2 t3 G.T.bmain scr isInts (Nat.le_trans len small) room R b fun H h1 h2 => want H a ns len h1 h2
end AA

/-! ## T28 -/
set_option Elab.async false
set_option linter.all false
set_option maxRecDepth 100000
set_option maxHeartbeats 4000000
/-! T28: all defs put together (printed by mk28.py). -/
namespace AA
open PySem PySem.Spec PyProof.Rows L2 PySem.W
theorem DefIn.of {P : Program} {w : World} {K : PySem.W.Frag} {mg : Str → Option Value} {base : Heap} {x : Str} {st : Stmt} {ps : List Str} {f : Addr} {fd : FuncData} {k : Nat} {sp : Sp} (D : DefIn K mg x st ps f fd) (O : FnOk P w K mg base CX0 k f fd ps sp) : Def P w K mg base x k ps sp := ⟨f, fd, O, D.mg, D.fn.kp, D.bi⟩
theorem DefIn.ofG {P : Program} {w : World} {K : PySem.W.Frag} {mg : Str → Option Value} {base : Heap} {x : Str} {st : Stmt} {ps : List Str} {f : Addr} {fd : FuncData} {k : Nat} {sp : Sp} (D : DefIn K mg x st ps f fd) (O : FnG P w K mg base k f fd ps sp) : DefG P w K mg base x k ps sp := ⟨f, fd, O, D.mg, D.fn.kp, D.bi⟩
theorem DefIn.ofK {P : Program} {w : World} {K : PySem.W.Frag} {mg : Str → Option Value} {base : Heap} {x : Str} {st : Stmt} {p1 p2 : Str} {f : Addr} {fd : FuncData} {k : Nat} {sp : Sp} (D : DefIn K mg x st [p1, p2] f fd) (O : FnOk P w K mg base CX0 k f fd [p1, p2] sp)
    (b : ∀ (s : Shared) (a b : Value), BindsTo s fd ⟨[], [(p2, b), (p1, a)]⟩ [(p1, a), (p2, b)]) : DefK P w K mg base x k p1 p2 sp := ⟨f, fd, O, D.mg, D.fn.kp, b⟩
theorem law_all {P : Program} {w : World} {K : PySem.W.Frag} {mg : Str → Option Value} {base : Heap} {C c PT fl : Addr} {fd : FuncData} (B : Bt mg) (F_law : DefIn K mg "law" s_law ["_law_script"] fl fd)
    (F__law_well : ∃ f fd, DefIn K mg "_law_well" s__law_well ["_law_script", "_law_k"] f fd)
    (F__law_dip : ∃ f fd, DefIn K mg "_law_dip" s__law_dip ["_law_well_here", "_law_many"] f fd)
    (F__law_weight : ∃ f fd, DefIn K mg "_law_weight" s__law_weight ["_law_well_here"] f fd)
    (F__law_row : ∃ f fd, DefIn K mg "_law_row" s__law_row ["_law_well_here", "_law_tally", "_law_at"] f fd)
    (F__law_way : ∃ f fd, DefIn K mg "_law_way" s__law_way ["_law_well_here", "_law_tally"] f fd)
    (F__law_drawn : ∃ f fd, DefIn K mg "_law_drawn" s__law_drawn ["_law_well_here", "_law_tallies", "_law_most_here"] f fd)
    (F__law_free_ears : ∃ f fd, DefIn K mg "_law_free_ears" s__law_free_ears ["_law_well_here", "_law_names_here", "_law_ways_here", "_law_most_here"] f fd)
    (F__law_sets : ∃ f fd, DefIn K mg "_law_sets" s__law_sets ["_law_tally"] f fd)
    (F__law_heard : ∃ f fd, DefIn K mg "_law_heard" s__law_heard ["_law_ways_here"] f fd)
    (F__law_bits : ∃ f fd, DefIn K mg "_law_bits" s__law_bits ["_law_heard_here"] f fd)
    (F__law_ears : ∃ f fd, DefIn K mg "_law_ears" s__law_ears ["_law_rows", "_law_herd", "_law_tally"] f fd)
    (F__law_graph : ∃ f fd, DefIn K mg "_law_graph" s__law_graph ["_law_heard_here"] f fd)
    (F__law_longest : ∃ f fd, DefIn K mg "_law_longest" s__law_longest ["_law_graph_here"] f fd)
    (F__law_days : ∃ f fd, DefIn K mg "_law_days" s__law_days ["_law_heard_here"] f fd)
    (F__law_is_good : ∃ f fd, DefIn K mg "_law_is_good" s__law_is_good ["_law_ways_here"] f fd)
    (F__law_with : ∃ f fd, DefIn K mg "_law_with" s__law_with ["_law_names_here", "_law_ways_here", "_law_ears_here", "_law_struck"] f fd)
    (F_check_council : ∃ f fd, DefIn K mg "check_council" s_check_council ["value"] f fd)
    (F_is_integer : ∃ f fd, DefIn K mg "is_integer" s_is_integer ["value"] f fd)
    (F_is_within : ∃ f fd, DefIn K mg "is_within" s_is_within ["value", "least", "most"] f fd)
    (F_is_ear : ∃ f fd, DefIn K mg "is_ear" s_is_ear ["council", "value"] f fd)
    (F_is_offer : ∃ f fd, DefIn K mg "is_offer" s_is_offer ["council", "value"] f fd)
    (F_check_offers : ∃ f fd, DefIn K mg "check_offers" s_check_offers ["council", "offers"] f fd)
    (F_sets_of : ∃ f fd, DefIn K mg "sets_of" s_sets_of ["many"] f fd ∧ fd.code = .ref c)
    (F_start_pairs : ∃ f fd, DefIn K mg "start_pairs" s_start_pairs ["count"] f fd)
    (F_ears_of : ∃ f fd, DefIn K mg "ears_of" s_ears_of ["rows", "lot"] f fd)
    (F_joined : ∃ f fd, DefIn K mg "joined" s_joined ["one", "other"] f fd)
    (F_steps_from : ∃ f fd, DefIn K mg "steps_from" s_steps_from ["ways", "pair"] f fd)
    (F_all_steps : ∃ f fd, DefIn K mg "all_steps" s_all_steps ["count", "ways"] f fd)
    (F_longest_rows : ∃ f fd, DefIn K mg "longest_rows" s_longest_rows ["steps"] f fd)
    (F_days_of : ∃ f fd, DefIn K mg "days_of" s_days_of ["count", "ways"] f fd)
    (F_is_good : ∃ f fd, DefIn K mg "is_good" s_is_good ["count", "ways"] f fd)
    (F_with_ears : ∃ f fd, DefIn K mg "with_ears" s_with_ears ["council", "ears"] f fd)
    (F_changed : ∃ f fd, DefIn K mg "changed" s_changed ["council", "offers"] f fd)
    (F_mending : ∃ f fd, DefIn K mg "mending" s_mending ["council", "offers"] f fd ∧ ∀ (s : Shared) (a b : Value), BindsTo s fd ⟨[], [("offers", b), ("council", a)]⟩ [("council", a), ("offers", b)])
    (F_check_doubts : ∃ f fd, DefIn K mg "check_doubts" s_check_doubts ["council", "doubts"] f fd)
    (F_good_rows : ∃ f fd, DefIn K mg "good_rows" s_good_rows ["council", "doubts"] f fd)
    (F_doubtful : ∃ f fd, DefIn K mg "doubtful" s_doubtful ["council", "doubts"] f fd ∧ ∀ (s : Shared) (a b : Value), BindsTo s fd ⟨[], [("doubts", b), ("council", a)]⟩ [("council", a), ("doubts", b)])
    (F_telling_doubt : ∃ f fd, DefIn K mg "telling_doubt" s_telling_doubt ["council", "doubts"] f fd ∧ ∀ (s : Shared) (a b : Value), BindsTo s fd ⟨[], [("doubts", b), ("council", a)]⟩ [("council", a), ("doubts", b)])
    (F__law_doubts_right : ∃ f fd, DefIn K mg "_law_doubts_right" s__law_doubts_right ["_law_made", "_law_names_here", "_law_ways_here", "_law_ears_here"] f fd)
    (F_is_name : ∃ f fd, DefIn K mg "is_name" s_is_name ["value"] f fd)
    (F_wrong_mind : ∃ f fd, DefIn K mg "wrong_mind" s_wrong_mind ["minds"] f fd)
    (F_is_row : ∃ f fd, DefIn K mg "is_row" s_is_row ["value", "count"] f fd)
    (F_is_way : ∃ f fd, DefIn K mg "is_way" s_is_way ["value", "count"] f fd)
    (F_wrong_way : ∃ f fd, DefIn K mg "wrong_way" s_wrong_way ["ways", "count"] f fd)
    (F__law_right : ∃ f fd, DefIn K mg "_law_right" s__law_right ["_law_well_here"] f fd)
    (G_Council : Gs mg "Council" (.ref C))
    (G_DIGITS : Gs mg "DIGITS" (.str sDigits))
    (G_EAR : Gs mg "EAR" (.str sEar))
    (G_LETTERS : Gs mg "LETTERS" (.str sLetters))
    (G_LONGEST_NAME : Gs mg "LONGEST_NAME" (.int 8))
    (G_MOST_DOUBTS : Gs mg "MOST_DOUBTS" (.int 6))
    (G_MOST_MINDS : Gs mg "MOST_MINDS" (.int 6))
    (G_MOST_OFFERS : Gs mg "MOST_OFFERS" (.int 6))
    (G_MOST_WAYS : Gs mg "MOST_WAYS" (.int 6))
    (G_MOST_WEIGHT : Gs mg "MOST_WEIGHT" (.int 1000000000))
    (G_STRIKE : Gs mg "STRIKE" (.str sStrike))
    (cl : Cls K C) (nh : NoAttr K C "heads") (nt : NoAttr K C "tables") (hC : C8.InsC K C) (D_ways : Prp P w K mg base C "ways" "tables") (D_minds : Prp P w K mg base C "minds" "heads")
    (I : ∃ f fd, Fun K "__init__" "Council.__init__" s___init__ f fd ∧ Mk K C f ∧ Binds K fd ["self", "minds", "ways"] []) (mC : mg "Council" = some (.ref C))
    (L : ∃ f fd, Fun K "__len__" "Council.__len__" s___len__ f fd ∧ PySem.W.findIn K (.ref C) "__len__" = some (some (.ref f)) ∧ PySem.W.isFn K (.ref f) = true ∧ Binds K fd ["self"] []) (TB : LamX.TabB base mg c PT) :
    FnG P w K mg base 10 fl fd ["_law_script"] (spLaw K [(PT, Str.ofString "sets_of.<locals>.<lambda>")]) := by
  obtain ⟨f__law_well, fd__law_well, F__law_well⟩ := F__law_well
  have D__law_well := ok__law_well (P := P) (w := w) (base := base) F__law_well B
  obtain ⟨f__law_dip, fd__law_dip, F__law_dip⟩ := F__law_dip
  have D__law_dip := ok__law_dip (P := P) (w := w) (base := base) F__law_dip B
  obtain ⟨f__law_weight, fd__law_weight, F__law_weight⟩ := F__law_weight
  have D__law_weight := ok__law_weight (P := P) (w := w) (base := base) F__law_weight B D__law_dip
  obtain ⟨f__law_row, fd__law_row, F__law_row⟩ := F__law_row
  have D__law_row := ok__law_row (P := P) (w := w) (base := base) F__law_row B D__law_dip D__law_weight
  obtain ⟨f__law_way, fd__law_way, F__law_way⟩ := F__law_way
  have D__law_way := ok__law_way (P := P) (w := w) (base := base) F__law_way B D__law_dip D__law_weight D__law_row
  obtain ⟨f__law_drawn, fd__law_drawn, F__law_drawn⟩ := F__law_drawn
  have D__law_drawn := ok__law_drawn (P := P) (w := w) (base := base) F__law_drawn B D__law_dip D__law_way
  obtain ⟨f__law_free_ears, fd__law_free_ears, F__law_free_ears⟩ := F__law_free_ears
  have D__law_free_ears := ok__law_free_ears (P := P) (w := w) (base := base) F__law_free_ears B D__law_dip
  obtain ⟨f__law_sets, fd__law_sets, F__law_sets⟩ := F__law_sets
  have D__law_sets := ok__law_sets (P := P) (w := w) (base := base) F__law_sets B
  obtain ⟨f__law_heard, fd__law_heard, F__law_heard⟩ := F__law_heard
  have D__law_heard := ok__law_heard (P := P) (w := w) (base := base) F__law_heard B
  obtain ⟨f__law_bits, fd__law_bits, F__law_bits⟩ := F__law_bits
  have D__law_bits := ok__law_bits (P := P) (w := w) (base := base) F__law_bits B
  obtain ⟨f__law_ears, fd__law_ears, F__law_ears⟩ := F__law_ears
  have D__law_ears := ok__law_ears (P := P) (w := w) (base := base) F__law_ears B
  obtain ⟨f__law_graph, fd__law_graph, F__law_graph⟩ := F__law_graph
  have D__law_graph := ok__law_graph (P := P) (w := w) (base := base) F__law_graph B D__law_bits D__law_ears
  obtain ⟨f__law_longest, fd__law_longest, F__law_longest⟩ := F__law_longest
  have D__law_longest := ok__law_longest (P := P) (w := w) (base := base) F__law_longest B
  obtain ⟨f__law_days, fd__law_days, F__law_days⟩ := F__law_days
  have D__law_days := ok__law_days (P := P) (w := w) (base := base) F__law_days B D__law_graph D__law_longest
  obtain ⟨f__law_is_good, fd__law_is_good, F__law_is_good⟩ := F__law_is_good
  have D__law_is_good := ok__law_is_good (P := P) (w := w) (base := base) F__law_is_good B D__law_heard D__law_days
  obtain ⟨f__law_with, fd__law_with, F__law_with⟩ := F__law_with
  have D__law_with := ok__law_with (P := P) (w := w) (base := base) F__law_with B
  obtain ⟨f_check_council, fd_check_council, F_check_council⟩ := F_check_council
  have D_check_council := ok_check_council (P := P) (w := w) (base := base) F_check_council B hC G_Council
  obtain ⟨f_is_integer, fd_is_integer, F_is_integer⟩ := F_is_integer
  have D_is_integer := ok_is_integer (P := P) (w := w) (base := base) F_is_integer B
  obtain ⟨f_is_within, fd_is_within, F_is_within⟩ := F_is_within
  have D_is_within := ok_is_within (P := P) (w := w) (base := base) F_is_within B D_is_integer
  obtain ⟨f_is_ear, fd_is_ear, F_is_ear⟩ := F_is_ear
  have D_is_ear := ok_is_ear (P := P) (w := w) (base := base) F_is_ear B D_ways D_minds D_is_within
  obtain ⟨f_is_offer, fd_is_offer, F_is_offer⟩ := F_is_offer
  have D_is_offer := ok_is_offer (P := P) (w := w) (base := base) F_is_offer B G_EAR G_STRIKE D_ways D_is_within D_is_ear
  obtain ⟨f_check_offers, fd_check_offers, F_check_offers⟩ := F_check_offers
  have D_check_offers := ok_check_offers (P := P) (w := w) (base := base) F_check_offers B G_MOST_OFFERS D_is_offer
  obtain ⟨f_sets_of, fd_sets_of, F_sets_of, hcode⟩ := F_sets_of
  have D_sets_of := ok_sets_of (P := P) (w := w) (base := base) (T := [(PT, Str.ofString "sets_of.<locals>.<lambda>")]) F_sets_of hcode B TB (List.mem_singleton.mpr rfl) (fun p hp _ => by rw [List.mem_singleton.mp hp])
  obtain ⟨f_start_pairs, fd_start_pairs, F_start_pairs⟩ := F_start_pairs
  have D_start_pairs := ok_start_pairs (P := P) (w := w) (base := base) F_start_pairs B
  obtain ⟨f_ears_of, fd_ears_of, F_ears_of⟩ := F_ears_of
  have D_ears_of := ok_ears_of (P := P) (w := w) (base := base) F_ears_of B
  obtain ⟨f_joined, fd_joined, F_joined⟩ := F_joined
  have D_joined := ok_joined (P := P) (w := w) (base := base) F_joined B
  obtain ⟨f_steps_from, fd_steps_from, F_steps_from⟩ := F_steps_from
  have D_steps_from := ok_steps_from (P := P) (w := w) (base := base) F_steps_from B D_ears_of D_joined
  obtain ⟨f_all_steps, fd_all_steps, F_all_steps⟩ := F_all_steps
  have D_all_steps := ok_all_steps (P := P) (w := w) (base := base) F_all_steps B D_start_pairs D_steps_from
  obtain ⟨f_longest_rows, fd_longest_rows, F_longest_rows⟩ := F_longest_rows
  have D_longest_rows := ok_longest_rows (P := P) (w := w) (base := base) F_longest_rows B
  obtain ⟨f_days_of, fd_days_of, F_days_of⟩ := F_days_of
  have D_days_of := ok_days_of (P := P) (w := w) (base := base) F_days_of B D_all_steps D_longest_rows
  obtain ⟨f_is_good, fd_is_good, F_is_good⟩ := F_is_good
  have D_is_good := ok_is_good (P := P) (w := w) (base := base) F_is_good B D_days_of
  obtain ⟨f_with_ears, fd_with_ears, F_with_ears⟩ := F_with_ears
  have D_with_ears := ok_with_ears (P := P) (w := w) (base := base) F_with_ears B D_ways D_minds
  obtain ⟨f_changed, fd_changed, F_changed⟩ := F_changed
  have D_changed := ok_changed (P := P) (w := w) (base := base) F_changed B G_EAR G_STRIKE D_with_ears
  obtain ⟨f_len, fd_len, F_len, l1, l2, l3⟩ := L
  have D_len : LenOf P w K mg base C := ⟨f_len, fd_len, l1, l2, ok_len F_len B cl nh, l3⟩
  obtain ⟨f_mending, fd_mending, F_mending, w_mending⟩ := F_mending
  have O_mending := fo_mending (T := [(PT, Str.ofString "sets_of.<locals>.<lambda>")]) (P := P) (w := w) (base := base) F_mending B D_len D_check_council D_check_offers D_sets_of D_is_good D_changed
  have D_mending := F_mending.of O_mending
  have W_mending := F_mending.ofK O_mending w_mending
  obtain ⟨f_check_doubts, fd_check_doubts, F_check_doubts⟩ := F_check_doubts
  have D_check_doubts := ok_check_doubts (P := P) (w := w) (base := base) F_check_doubts B G_MOST_DOUBTS D_is_ear
  obtain ⟨f_good_rows, fd_good_rows, F_good_rows⟩ := F_good_rows
  have D_good_rows := ok_good_rows (P := P) (w := w) (base := base) (T := [(PT, Str.ofString "sets_of.<locals>.<lambda>")]) F_good_rows B D_len D_sets_of D_is_good D_with_ears
  obtain ⟨f_doubtful, fd_doubtful, F_doubtful, w_doubtful⟩ := F_doubtful
  have O_doubtful := fo_doubtful (T := [(PT, Str.ofString "sets_of.<locals>.<lambda>")]) (P := P) (w := w) (base := base) F_doubtful B D_check_council D_check_doubts D_good_rows
  have D_doubtful := F_doubtful.of O_doubtful
  have W_doubtful := F_doubtful.ofK O_doubtful w_doubtful
  obtain ⟨f_telling_doubt, fd_telling_doubt, F_telling_doubt, w_telling_doubt⟩ := F_telling_doubt
  have O_telling_doubt := fo_telling_doubt (T := [(PT, Str.ofString "sets_of.<locals>.<lambda>")]) (P := P) (w := w) (base := base) F_telling_doubt B D_check_council D_check_doubts D_good_rows D_sets_of
  have D_telling_doubt := F_telling_doubt.of O_telling_doubt
  have W_telling_doubt := F_telling_doubt.ofK O_telling_doubt w_telling_doubt
  obtain ⟨f__law_doubts_right, fd__law_doubts_right, F__law_doubts_right⟩ := F__law_doubts_right
  have D__law_doubts_right := F__law_doubts_right.ofG (ok__law_doubts_right F__law_doubts_right B D__law_sets D__law_is_good D__law_with D_doubtful W_doubtful D_telling_doubt W_telling_doubt)
  obtain ⟨f_is_name, fd_is_name, F_is_name⟩ := F_is_name
  have D_is_name := ok_is_name (P := P) (w := w) (base := base) F_is_name B G_LONGEST_NAME G_LETTERS G_DIGITS
  obtain ⟨f_wrong_mind, fd_wrong_mind, F_wrong_mind⟩ := F_wrong_mind
  have D_wrong_mind := ok_wrong_mind (P := P) (w := w) (base := base) F_wrong_mind B G_MOST_MINDS D_is_name
  obtain ⟨f_is_row, fd_is_row, F_is_row⟩ := F_is_row
  have D_is_row := ok_is_row (P := P) (w := w) (base := base) F_is_row B G_MOST_WEIGHT D_is_within
  obtain ⟨f_is_way, fd_is_way, F_is_way⟩ := F_is_way
  have D_is_way := ok_is_way (P := P) (w := w) (base := base) F_is_way B D_is_row
  obtain ⟨f_wrong_way, fd_wrong_way, F_wrong_way⟩ := F_wrong_way
  have D_wrong_way := ok_wrong_way (P := P) (w := w) (base := base) F_wrong_way B G_MOST_WAYS D_is_way
  obtain ⟨f_init, fd_init, F_init, i1, i2⟩ := I
  have MK : MkC P w K mg base C := ⟨f_init, fd_init, i1, ok_init F_init B cl nh nt D_wrong_mind D_wrong_way, mC, i2⟩
  obtain ⟨f__law_right, fd__law_right, F__law_right⟩ := F__law_right
  have D__law_right := F__law_right.ofG (ok__law_right F__law_right B MK D__law_dip D__law_drawn D__law_free_ears D__law_sets D__law_is_good D__law_with D_mending W_mending D__law_doubts_right)
  exact ok_law F_law B D__law_well D__law_right
end AA

/-! ## T29 -/
set_option Elab.async false
set_option linter.all false
set_option maxRecDepth 100000
set_option maxHeartbeats 0
/-! T29: what is asked of the state behind the top; the top run in the kernel (printed by mk29.py). -/
namespace AA
open PySem PySem.Spec PyProof.Rows L2
abbrev s_minds : Stmt := inClass (top 31) 2
abbrev s_ways : Stmt := inClass (top 31) 3
/-! ### a property of the class -/
def prAt (K : PySem.W.Frag) (x : Str) : Addr :=
  match PySem.W.findIn K (.ref (He.ga K "Council")) x with
  | some (some (.ref p)) => p
  | _ => 0
def geAt (K : PySem.W.Frag) (x : Str) : Addr :=
  match PySem.W.recIn K (prAt K x) "property" with
  | some (.ref g :: _) => g
  | _ => 0
/-- the function at a place, less what hangs on the run -/
def fnAt (K : PySem.W.Frag) (g : Addr) : He.FnW :=
  match K.lookup g with
  | some u => (match u.data with
    | .func z => some (z.name, z.qualname, z.params, z.body, z.scope, z.globals, z.closure, z.builtins)
    | _ => none)
  | none => none
def fnSays (x qual : Str) (st : Stmt) : He.FnW := some (x, qual, defArgs st, .stmts (defBody st), defScope st, mainGlobals, [], builtinsNs)
def bareAt (K : PySem.W.Frag) (g : Addr) (qual : Str) : Bool :=
  match K.lookup g with
  | some u => (match u.data with
    | .func z => PySem.W.codeIn K z.code qual && He.dflB K z.defaults []
    | _ => false)
  | none => false
def prOk (K : PySem.W.Frag) (x qual : Str) : Bool :=
  He.eqO (PySem.W.findIn K (.ref (He.ga K "Council")) x) (some (some (.ref (prAt K x)))) &&
  (He.eqO (PySem.W.specialIn K (.ref (prAt K x)) "__get__") (some (some (.builtin "property.__get__"))) &&
  (decide (PySem.W.takesIn K (.ref (prAt K x)) = some true) &&
  ((match PySem.W.recIn K (prAt K x) "property" with
    | some (.ref g :: _) => decide (g = geAt K x)
    | _ => false) && bareAt K (geAt K x) qual)))
theorem fn_bare {K : PySem.W.Frag} {g : Addr} {x qual : Str} {st : Stmt} (e : fnAt K g = fnSays x qual st) (c : bareAt K g qual = true) :
    ∃ (oc : Value) (od : Option Addr) (osl : Array (Option Value)) (kV doc pm : Value) (an : Option Addr) (cdv ct : Value), K.lookup g = some ⟨oc, od, .func (PySem.W.fnOf x qual (defArgs st) (defBody st) (defScope st) .none kV doc pm an cdv ct), osl⟩ ∧ PySem.W.codeIn K cdv qual = true := by
  unfold bareAt at c
  unfold fnAt at e
  cases l : K.lookup g with
  | none => rw [l] at c; cases c
  | some u =>
    rw [l] at c e
    obtain ⟨oc, od, dt, osl⟩ := u
    cases dt with
    | func z =>
      obtain ⟨z1, z2, z3, z4, z5, z6, z7, z8, z9, z10, z11, z12, z13, z14, z15⟩ := z
      have c' : (PySem.W.codeIn K z13 qual && He.dflB K z8 []) = true := c
      obtain ⟨c1, c2⟩ := He.ba c'
      have e' : (some (z1, z2, z3, z4, z5, z6, z7, z15) : He.FnW) = fnSays x qual st := e
      simp only [fnSays, Option.some.injEq, Prod.mk.injEq] at e'
      obtain ⟨r1, r2, r3, r4, r5, r6, r7, r8⟩ := e'
      subst r1 r2 r3 r4 r5 r6 r7 r8
      rcases He.dflB_ok c2 with ⟨_, d⟩ | ⟨d, _⟩
      · subst d
        exact ⟨oc, od, osl, z9, z10, z11, z12, z13, z14, rfl, c1⟩
      · exact absurd rfl d
    | _ => cases c
theorem prop_of {K : PySem.W.Frag} {x qual : Str} (c : prOk K x qual = true) : PropOf K (He.ga K "Council") x (prAt K x) (geAt K x) ∧ bareAt K (geAt K x) qual = true := by
  obtain ⟨c1, c⟩ := He.ba c
  obtain ⟨c2, c⟩ := He.ba c
  obtain ⟨c3, c⟩ := He.ba c
  obtain ⟨c4, c5⟩ := He.ba c
  refine ⟨⟨He.eqO_ok c1, He.eqO_ok c2, of_decide_eq_true c3, ?_⟩, c5⟩
  split at c4
  · rename_i g r e
    exact ⟨r, by rw [e, of_decide_eq_true c4]⟩
  · cases c4
/-! ### isinstance of the class -/
def insOk (K : PySem.W.Frag) : Bool :=
  He.eqO (PySem.W.findIn K (.ref (He.ga K "Council")) "__class__") (some (some (.builtin "object.__class__"))) &&
  (He.eqO (PySem.W.specialIn K (.builtin "object.__class__") "__get__") (some (some (.builtin "getset_descriptor.__get__"))) &&
  (decide (PySem.W.takesIn K (.builtin "object.__class__") = some true) &&
  (decide (PySem.W.mroIn K (He.ga K "Council") (.type "object") = some true) &&
  decide (PySem.W.kitOne K (.ref (He.ga K "Council")) (.ref (He.ga K "Council")) = some true))))
theorem ins_of {K : PySem.W.Frag} (cl : Cls K (He.ga K "Council")) (c : insOk K = true) : C8.InsC K (He.ga K "Council") := by
  obtain ⟨c1, c⟩ := He.ba c
  obtain ⟨c2, c⟩ := He.ba c
  obtain ⟨c3, c⟩ := He.ba c
  obtain ⟨c4, c5⟩ := He.ba c
  exact ⟨cl, He.eqO_ok c1, He.eqO_ok c2, of_decide_eq_true c3, of_decide_eq_true c4, of_decide_eq_true c5⟩
/-! ### all that is asked -/
def moreOk (K : PySem.W.Frag) : Bool := insOk K && (prOk K "minds" "Council.minds" && prOk K "ways" "Council.ways")
def hFa : List He.Fa := [.glo "Council", .cls "Council", .noat "Council" "heads", .noat "Council" "tables", .mkr "Council", .meth "Council" "__len__", .str "DIGITS" sDigits, .str "EAR" sEar, .str "LETTERS" sLetters, .int "LONGEST_NAME" 8, .int "MOST_DOUBTS" 6, .int "MOST_MINDS" 6, .int "MOST_OFFERS" 6, .int "MOST_WAYS" 6, .int "MOST_WEIGHT" 1000000000, .str "STRIKE" sStrike, .free "len", .free "isinstance", .free "range", .free "enumerate", .free "all", .free "any", .free "sum", .free "tuple", .free "list", .free "min", .free "max", .free "sorted", .free "int", .free "bool", .free "str", .free "abs", .free "divmod", .free "repr", .free "dict", .glo "law", .glo "_law_well", .glo "_law_dip", .glo "_law_weight", .glo "_law_row", .glo "_law_way", .glo "_law_drawn", .glo "_law_free_ears", .glo "_law_sets", .glo "_law_heard", .glo "_law_bits", .glo "_law_ears", .glo "_law_graph", .glo "_law_longest", .glo "_law_days", .glo "_law_is_good", .glo "_law_with", .glo "check_council", .glo "is_integer", .glo "is_within", .glo "is_ear", .glo "is_offer", .glo "check_offers", .glo "sets_of", .glo "start_pairs", .glo "ears_of", .glo "joined", .glo "steps_from", .glo "all_steps", .glo "longest_rows", .glo "days_of", .glo "is_good", .glo "with_ears", .glo "changed", .glo "mending", .glo "check_doubts", .glo "good_rows", .glo "doubtful", .glo "telling_doubt", .glo "_law_doubts_right", .glo "is_name", .glo "wrong_mind", .glo "is_row", .glo "is_way", .glo "wrong_way", .glo "_law_right"]
def hFn0 : List He.DefD := [⟨("law", none), "law", "law", defArgs s_law, defBody s_law, defScope s_law, [], []⟩,
  ⟨("_law_well", none), "_law_well", "_law_well", defArgs s__law_well, defBody s__law_well, defScope s__law_well, [], []⟩,
  ⟨("_law_dip", none), "_law_dip", "_law_dip", defArgs s__law_dip, defBody s__law_dip, defScope s__law_dip, [], []⟩,
  ⟨("_law_weight", none), "_law_weight", "_law_weight", defArgs s__law_weight, defBody s__law_weight, defScope s__law_weight, [], []⟩,
  ⟨("_law_row", none), "_law_row", "_law_row", defArgs s__law_row, defBody s__law_row, defScope s__law_row, [], []⟩,
  ⟨("_law_way", none), "_law_way", "_law_way", defArgs s__law_way, defBody s__law_way, defScope s__law_way, [], []⟩,
  ⟨("_law_drawn", none), "_law_drawn", "_law_drawn", defArgs s__law_drawn, defBody s__law_drawn, defScope s__law_drawn, [], []⟩,
  ⟨("_law_free_ears", none), "_law_free_ears", "_law_free_ears", defArgs s__law_free_ears, defBody s__law_free_ears, defScope s__law_free_ears, [], []⟩,
  ⟨("_law_sets", none), "_law_sets", "_law_sets", defArgs s__law_sets, defBody s__law_sets, defScope s__law_sets, [], []⟩,
  ⟨("_law_heard", none), "_law_heard", "_law_heard", defArgs s__law_heard, defBody s__law_heard, defScope s__law_heard, [], []⟩,
  ⟨("_law_bits", none), "_law_bits", "_law_bits", defArgs s__law_bits, defBody s__law_bits, defScope s__law_bits, [], []⟩,
  ⟨("_law_ears", none), "_law_ears", "_law_ears", defArgs s__law_ears, defBody s__law_ears, defScope s__law_ears, [], []⟩]
def hFn1 : List He.DefD := [⟨("_law_graph", none), "_law_graph", "_law_graph", defArgs s__law_graph, defBody s__law_graph, defScope s__law_graph, [], []⟩,
  ⟨("_law_longest", none), "_law_longest", "_law_longest", defArgs s__law_longest, defBody s__law_longest, defScope s__law_longest, [], []⟩,
  ⟨("_law_days", none), "_law_days", "_law_days", defArgs s__law_days, defBody s__law_days, defScope s__law_days, [], []⟩,
  ⟨("_law_is_good", none), "_law_is_good", "_law_is_good", defArgs s__law_is_good, defBody s__law_is_good, defScope s__law_is_good, [], []⟩,
  ⟨("_law_with", none), "_law_with", "_law_with", defArgs s__law_with, defBody s__law_with, defScope s__law_with, [], []⟩,
  ⟨("check_council", none), "check_council", "check_council", defArgs s_check_council, defBody s_check_council, defScope s_check_council, [], []⟩,
  ⟨("is_integer", none), "is_integer", "is_integer", defArgs s_is_integer, defBody s_is_integer, defScope s_is_integer, [], []⟩,
  ⟨("is_within", none), "is_within", "is_within", defArgs s_is_within, defBody s_is_within, defScope s_is_within, [], []⟩,
  ⟨("is_ear", none), "is_ear", "is_ear", defArgs s_is_ear, defBody s_is_ear, defScope s_is_ear, [], []⟩,
  ⟨("is_offer", none), "is_offer", "is_offer", defArgs s_is_offer, defBody s_is_offer, defScope s_is_offer, [], []⟩,
  ⟨("check_offers", none), "check_offers", "check_offers", defArgs s_check_offers, defBody s_check_offers, defScope s_check_offers, [], []⟩,
  ⟨("sets_of", none), "sets_of", "sets_of", defArgs s_sets_of, defBody s_sets_of, defScope s_sets_of, [], []⟩]
def hFn2 : List He.DefD := [⟨("start_pairs", none), "start_pairs", "start_pairs", defArgs s_start_pairs, defBody s_start_pairs, defScope s_start_pairs, [], []⟩,
  ⟨("ears_of", none), "ears_of", "ears_of", defArgs s_ears_of, defBody s_ears_of, defScope s_ears_of, [], []⟩,
  ⟨("joined", none), "joined", "joined", defArgs s_joined, defBody s_joined, defScope s_joined, [], []⟩,
  ⟨("steps_from", none), "steps_from", "steps_from", defArgs s_steps_from, defBody s_steps_from, defScope s_steps_from, [], []⟩,
  ⟨("all_steps", none), "all_steps", "all_steps", defArgs s_all_steps, defBody s_all_steps, defScope s_all_steps, [], []⟩,
  ⟨("longest_rows", none), "longest_rows", "longest_rows", defArgs s_longest_rows, defBody s_longest_rows, defScope s_longest_rows, [], []⟩,
  ⟨("days_of", none), "days_of", "days_of", defArgs s_days_of, defBody s_days_of, defScope s_days_of, [], []⟩,
  ⟨("is_good", none), "is_good", "is_good", defArgs s_is_good, defBody s_is_good, defScope s_is_good, [], []⟩,
  ⟨("with_ears", none), "with_ears", "with_ears", defArgs s_with_ears, defBody s_with_ears, defScope s_with_ears, [], []⟩,
  ⟨("changed", none), "changed", "changed", defArgs s_changed, defBody s_changed, defScope s_changed, [], []⟩,
  ⟨("mending", none), "mending", "mending", defArgs s_mending, defBody s_mending, defScope s_mending, [], []⟩,
  ⟨("check_doubts", none), "check_doubts", "check_doubts", defArgs s_check_doubts, defBody s_check_doubts, defScope s_check_doubts, [], []⟩]
def hFn3 : List He.DefD := [⟨("good_rows", none), "good_rows", "good_rows", defArgs s_good_rows, defBody s_good_rows, defScope s_good_rows, [], []⟩,
  ⟨("doubtful", none), "doubtful", "doubtful", defArgs s_doubtful, defBody s_doubtful, defScope s_doubtful, [], []⟩,
  ⟨("telling_doubt", none), "telling_doubt", "telling_doubt", defArgs s_telling_doubt, defBody s_telling_doubt, defScope s_telling_doubt, [], []⟩,
  ⟨("_law_doubts_right", none), "_law_doubts_right", "_law_doubts_right", defArgs s__law_doubts_right, defBody s__law_doubts_right, defScope s__law_doubts_right, [], []⟩,
  ⟨("is_name", none), "is_name", "is_name", defArgs s_is_name, defBody s_is_name, defScope s_is_name, [], []⟩,
  ⟨("wrong_mind", none), "wrong_mind", "wrong_mind", defArgs s_wrong_mind, defBody s_wrong_mind, defScope s_wrong_mind, [], []⟩,
  ⟨("is_row", none), "is_row", "is_row", defArgs s_is_row, defBody s_is_row, defScope s_is_row, [], []⟩,
  ⟨("is_way", none), "is_way", "is_way", defArgs s_is_way, defBody s_is_way, defScope s_is_way, [], []⟩,
  ⟨("wrong_way", none), "wrong_way", "wrong_way", defArgs s_wrong_way, defBody s_wrong_way, defScope s_wrong_way, [], []⟩,
  ⟨("_law_right", none), "_law_right", "_law_right", defArgs s__law_right, defBody s__law_right, defScope s__law_right, [], []⟩,
  ⟨("Council", some "__init__"), "__init__", "Council.__init__", defArgs s___init__, defBody s___init__, defScope s___init__, [], []⟩,
  ⟨("Council", some "__len__"), "__len__", "Council.__len__", defArgs s___len__, defBody s___len__, defScope s___len__, [], []⟩]
def hFn : List He.DefD := hFn0 ++ hFn1 ++ hFn2 ++ hFn3
def hTf : List He.Defn := [("sets_of", none)]
/-! ### what is reached from the module's names: classes and their dicts, functions and their code objects, properties -/
def nextO (o : Obj) : List Addr := match o.data with
  | .dict es _ => es.toList.flatMap fun e => He.refV e.val
  | .cls d => d.ns :: d.mro.flatMap He.refV
  | .func z => He.refV z.code
  | .fields vs => (match o.cls with
    | .type "property" => vs.toList.flatMap He.refV
    | _ => [])
  | _ => []
def nextL (g : Addr → Option Obj) (as : List Addr) : List Addr := as.flatMap fun a => match g a with
  | some o => nextO o
  | none => []
def stage (g : Addr → Option Obj) : Nat → List Addr → List Addr
  | 0, as => as
  | n + 1, as => as ++ stage g n (nextL g as)
def reach (g : Addr → Option Obj) : List Addr := stage g 5 [mainGlobals]
abbrev AlP : Type := He.AlX × (He.FnW × He.FnW)
def lookK (g : Addr → Option Obj) (K : PySem.W.Frag) : AlP := ((He.obsT hFa hFn [] K, moreOk K && He.tabsB g hTf K), (fnAt K (geAt K "minds"), fnAt K (geAt K "ways")))
def lookP (g : Addr → Option Obj) : AlP := lookK g (He.frT g (reach g))
def dueP (w : World) : AlP := (He.valX hFn [] w, (fnSays "minds" "Council.minds" s_minds, fnSays "ways" "Council.ways" s_ways))
structure SaysP (w : World) (h : Heap) (K : PySem.W.Frag) : Prop where
  x : He.SaysX hFa hFn [] hTf moreOk w h K
  minds : fnAt K (geAt K "minds") = fnSays "minds" "Council.minds" s_minds
  ways : fnAt K (geAt K "ways") = fnSays "ways" "Council.ways" s_ways
theorem saysP_of {w : World} {h : Heap} {as : List Addr} (e : lookK h.get? (He.frT h.get? as) = dueP w) : SaysP w h (He.frT h.get? as) := by
  generalize hK : He.frT h.get? as = K at e
  obtain ⟨e1, e2⟩ := Prod.mk.inj e
  obtain ⟨t, m⟩ := Prod.mk.inj e1
  obtain ⟨m, tb⟩ := He.ba m
  have each : ∀ p ∈ hTf, PySem.W.codeHdIn K (He.cT K p).1 (He.cT K p).2 = true ∧ ∃ o, h.get? (He.cT K p).2 = some o ∧ He.emptyTab o = true := fun p hp => by
    obtain ⟨a, b⟩ := He.ba (List.all_eq_true.mp tb p hp)
    refine ⟨a, ?_⟩
    split at b
    · rename_i o q
      exact ⟨o, q, b⟩
    · cases b
  refine ⟨⟨t, m, fun p hp => (each p hp).1, fun p hp => ?_, fun p hp => ?_⟩, congrArg Prod.fst e2, congrArg Prod.snd e2⟩
  · obtain ⟨_, o, q, z⟩ := each p hp
    rw [← hK] at q ⊢
    exact He.frT_none q z
  · obtain ⟨_, o, q, z⟩ := each p hp
    rw [q, He.emptyTab_eq z]
def hookP : PySem.W.Hook where
  α := AlP
  obs := fun z => lookP z.heap.get?
  val := dueP
  says := fun w h => ∃ K : PySem.W.Frag, K.In h ∧ SaysP w h K
  of := fun w z e => ⟨_, He.frT_in, saysP_of e⟩
  keeps := fun w h h' ⟨K, i, c⟩ k => ⟨K, PySem.W.Frag.In.keeps i k, ⟨c.x.t, c.x.more, c.x.hd, c.x.out, fun p hp => k _ _ (c.x.empty p hp)⟩, c.minds, c.ways⟩
def obP (s : PySem.W.SharedT) : AlP := lookP (HandSHeadRun.getT s)
theorem obP_eq (s : PySem.W.SharedT) : obP s = hookP.obs s.abs := by
  have e : HandSHeadRun.getT s = s.abs.heap.get? := funext (HandSHeadRun.getT_eq s)
  unfold obP
  rw [e] <;> rfl
abbrev theRow : PySem.W.OpenRow := PySem.W.OpenLaw.row PySem.Challenge.rw_alwaysagree_k37_whole_mendings_and_doubt
def loose0 : List PySem.Str := ["_wall", "WrongValue", "InvalidText", "NotACouncil", "InvalidMinds", "InvalidWays", "InvalidOffers", "InvalidDoubts", "MOST_MINDS", "MOST_WAYS", "MOST_WEIGHT", "MOST_OFFERS", "MOST_DOUBTS", "LETTERS", "DIGITS", "LONGEST_NAME", "is_integer", "is_within", "is_name", "read_number", "wrong_mind", "is_row", "is_way", "wrong_way", "way_text", "lines_of", "read_way", "read_council", "Council", "check_council"]
def loose1 : List PySem.Str := ["ears_of", "joined", "start_pairs", "steps_from", "all_steps", "longest_rows", "days_of", "EAR", "STRIKE", "sets_of", "is_ear", "is_offer", "check_offers", "check_doubts", "with_ears", "is_good", "changed", "good_rows", "mending", "doubtful", "telling_doubt", "_law_well", "_law_dip", "_law_weight", "_law_row", "_law_way", "_law_drawn", "_law_heard", "_law_bits", "_law_ears"]
def loose2 : List PySem.Str := ["_law_graph", "_law_longest", "_law_days", "_law_sets", "_law_with", "_law_is_good", "_law_free_ears", "_law_doubts_right", "_law_right"]
def looseAll : List PySem.Str := loose0 ++ loose1 ++ loose2
theorem run_top (w : World) : HandSHeadRun.RunEq theRow (PySem.W.view theRow.prog [75]) hookP obP 20000 looseAll w := by
  intro os
  kernel_rfl
end AA

/-! ## T30 -/
set_option Elab.async false
set_option linter.all false
set_option maxRecDepth 100000
set_option maxHeartbeats 0
/-! T30: the end (printed by mk29.py). -/
namespace AA
open PySem PySem.Spec PyProof.Rows L2
theorem funOf {K : PySem.W.Frag} {x qual : Str} {st : Stmt} {f : Addr} {fd : FuncData} (F : FunD K x qual (defArgs st) (defBody st) (defScope st) [] [] f fd) : Fun K x qual st f fd := by
  obtain ⟨oc, od, dV, kV, doc, pm, an, cdv, ct, osl, rfl, lk, co, no, _⟩ := F.ex
  rcases no with ⟨_, rfl⟩ | ⟨z, _⟩
  · exact ⟨⟨oc, od, kV, doc, pm, an, cdv, ct, osl, rfl, lk, co⟩, F.kp⟩
  · exact absurd rfl z
section
variable {K : PySem.W.Frag} {h : Heap} {mg : Str → Option Value}
theorem gsInt (X : K.In h) (G : h.Ns mainGlobals mg) (c : He.SaysD hFa hFn K) {x : Str} {v : Int} (j : Nat) (hj : hFa[j]? = some (.int x v)) : Gs mg x (.int v) := by
  obtain ⟨t, e⟩ := He.int_ok X G (c.fact j hj)
  exact ⟨_, e, t, rfl⟩
theorem gsStr (X : K.In h) (G : h.Ns mainGlobals mg) (c : He.SaysD hFa hFn K) {x v : Str} (j : Nat) (hj : hFa[j]? = some (.str x v)) : Gs mg x (.str v) := by
  obtain ⟨t, e⟩ := He.str_ok X G (c.fact j hj)
  exact ⟨_, e, t, rfl⟩
theorem isFree (X : K.In h) (G : h.Ns mainGlobals mg) (c : He.SaysD hFa hFn K) {x : Str} (j : Nat) (hj : hFa[j]? = some (.free x)) : mg x = none := He.free_ok X G (c.fact j hj)
abbrev Takes (x qual : Str) (st : Stmt) (ps : List Str) : Prop := ∀ (kV doc pm : Value) (an : Option Addr) (cdv ct : Value) (us : List Value), us.length = ps.length →
  bindArgs (PySem.W.fnOf x qual (defArgs st) (defBody st) (defScope st) .none kV doc pm an cdv ct) ⟨us, []⟩ = pure (ps.zip us)
abbrev TakesK (x : Str) (st : Stmt) (p1 p2 : Str) : Prop := ∀ (kV doc pm : Value) (an : Option Addr) (cdv ct a b : Value),
  bindArgs (PySem.W.fnOf x x (defArgs st) (defBody st) (defScope st) .none kV doc pm an cdv ct) ⟨[], [(p2, b), (p1, a)]⟩ = pure [(p1, a), (p2, b)]
theorem defAt (X : K.In h) (G : h.Ns mainGlobals mg) (c : He.SaysD hFa hFn K) {x : Str} {st : Stmt} {ps : List Str} (i j : Nat) (hi : hFn[i]? = some ⟨(x, none), x, x, defArgs st, defBody st, defScope st, [], []⟩) (hj : hFa[j]? = some (.glo x)) (b : Takes x x st ps) :
    ∃ fd, DefIn K mg x st ps (He.ga K x) fd := by
  obtain ⟨fd, F⟩ := c.def_ i hi
  have F' := funOf F
  exact ⟨fd, F', He.glo_ok X G (c.fact j hj), F'.binds b⟩
theorem defAtK (X : K.In h) (G : h.Ns mainGlobals mg) (c : He.SaysD hFa hFn K) {x p1 p2 : Str} {st : Stmt} (i j : Nat) (hi : hFn[i]? = some ⟨(x, none), x, x, defArgs st, defBody st, defScope st, [], []⟩) (hj : hFa[j]? = some (.glo x)) (b : Takes x x st [p1, p2]) (bk : TakesK x st p1 p2) :
    ∃ f fd, DefIn K mg x st [p1, p2] f fd ∧ ∀ (s : Shared) (a b : Value), BindsTo s fd ⟨[], [(p2, b), (p1, a)]⟩ [(p1, a), (p2, b)] := by
  obtain ⟨fd, D⟩ := defAt X G c i j hi hj b
  refine ⟨_, fd, D, fun s u v => ?_⟩
  obtain ⟨oc, od, kV, doc, pm, an, cdv, ct, osl, rfl, _⟩ := D.fn.ex
  exact .of_eq (bk kV doc pm an cdv ct u v)
theorem defAtC (X : K.In h) (G : h.Ns mainGlobals mg) (c : He.SaysD hFa hFn K) {x : Str} {st : Stmt} {ps : List Str} (i j : Nat) (hi : hFn[i]? = some ⟨(x, none), x, x, defArgs st, defBody st, defScope st, [], []⟩) (hj : hFa[j]? = some (.glo x)) (b : Takes x x st ps) :
    ∃ f fd, DefIn K mg x st ps f fd ∧ fd.code = .ref (He.codeOf K (x, none)) := by
  obtain ⟨fd, D⟩ := defAt X G c i j hi hj b
  refine ⟨_, fd, D, ?_⟩
  obtain ⟨oc, od, kV, doc, pm, an, cdv, ct, osl, rfl, lk, co⟩ := D.fn.ex
  obtain ⟨a, rfl⟩ := He.codeIn_ref co
  rw [He.codeOf_eq (p := (x, none)) lk rfl] <;> rfl
theorem methAt (c : He.SaysD hFa hFn K) {x qual : Str} {st : Stmt} (i : Nat) (hi : hFn[i]? = some ⟨("Council", some x), x, qual, defArgs st, defBody st, defScope st, [], []⟩) :
    ∃ fd, Fun K x qual st (He.ma K (He.ga K "Council") x) fd := by
  obtain ⟨fd, F⟩ := c.def_ i hi
  exact ⟨fd, funOf F⟩
theorem prpAt {P : Program} {w : World} {base : Heap} {x qual f : Str} {st : Stmt} {p1 p2 p3 : Pos} (cl : Cls K (He.ga K "Council")) (n : NoAttr K (He.ga K "Council") f) (po : prOk K x qual = true) (e : fnAt K (geAt K x) = fnSays x qual st)
    (S : FnScope ["self"] ["self"] (defScope st)) (hb : defBody st = [.Return (some (.Attribute (.Name "self" p1) f p2)) p3]) (b : Takes x qual st ["self"]) : Prp P w K mg base (He.ga K "Council") x f := by
  obtain ⟨q, ba⟩ := prop_of po
  obtain ⟨oc, od, osl, kV, doc, pm, an, cdv, ct, lk, co⟩ := fn_bare e ba
  exact ⟨_, _, _, cl, q, fn_getter lk co S rfl hb cl n, .all (b kV doc pm an cdv ct)⟩
end
theorem sc_minds : FnScope ["self"] ["self"] (defScope s_minds) := ⟨rfl, rfl, rfl, by decide +kernel, rfl, by decide +kernel, by decide +kernel⟩
theorem sc_ways : FnScope ["self"] ["self"] (defScope s_ways) := ⟨rfl, rfl, rfl, by decide +kernel, rfl, by decide +kernel, by decide +kernel⟩
abbrev theLaw : PySem.W.OpenLaw := PySem.Challenge.rw_alwaysagree_k37_whole_mendings_and_doubt
theorem tk_law : Takes "law" "law" s_law ["_law_script"] := fun _ _ _ _ _ _ us hl => match us, hl with | [_], _ => rfl
theorem tk__law_well : Takes "_law_well" "_law_well" s__law_well ["_law_script", "_law_k"] := fun _ _ _ _ _ _ us hl => match us, hl with | [_, _], _ => rfl
theorem tk__law_dip : Takes "_law_dip" "_law_dip" s__law_dip ["_law_well_here", "_law_many"] := fun _ _ _ _ _ _ us hl => match us, hl with | [_, _], _ => rfl
theorem tk__law_weight : Takes "_law_weight" "_law_weight" s__law_weight ["_law_well_here"] := fun _ _ _ _ _ _ us hl => match us, hl with | [_], _ => rfl
theorem tk__law_row : Takes "_law_row" "_law_row" s__law_row ["_law_well_here", "_law_tally", "_law_at"] := fun _ _ _ _ _ _ us hl => match us, hl with | [_, _, _], _ => rfl
theorem tk__law_way : Takes "_law_way" "_law_way" s__law_way ["_law_well_here", "_law_tally"] := fun _ _ _ _ _ _ us hl => match us, hl with | [_, _], _ => rfl
theorem tk__law_drawn : Takes "_law_drawn" "_law_drawn" s__law_drawn ["_law_well_here", "_law_tallies", "_law_most_here"] := fun _ _ _ _ _ _ us hl => match us, hl with | [_, _, _], _ => rfl
theorem tk__law_free_ears : Takes "_law_free_ears" "_law_free_ears" s__law_free_ears ["_law_well_here", "_law_names_here", "_law_ways_here", "_law_most_here"] := fun _ _ _ _ _ _ us hl => match us, hl with | [_, _, _, _], _ => rfl
theorem tk__law_sets : Takes "_law_sets" "_law_sets" s__law_sets ["_law_tally"] := fun _ _ _ _ _ _ us hl => match us, hl with | [_], _ => rfl
theorem tk__law_heard : Takes "_law_heard" "_law_heard" s__law_heard ["_law_ways_here"] := fun _ _ _ _ _ _ us hl => match us, hl with | [_], _ => rfl
theorem tk__law_bits : Takes "_law_bits" "_law_bits" s__law_bits ["_law_heard_here"] := fun _ _ _ _ _ _ us hl => match us, hl with | [_], _ => rfl
theorem tk__law_ears : Takes "_law_ears" "_law_ears" s__law_ears ["_law_rows", "_law_herd", "_law_tally"] := fun _ _ _ _ _ _ us hl => match us, hl with | [_, _, _], _ => rfl
theorem tk__law_graph : Takes "_law_graph" "_law_graph" s__law_graph ["_law_heard_here"] := fun _ _ _ _ _ _ us hl => match us, hl with | [_], _ => rfl
theorem tk__law_longest : Takes "_law_longest" "_law_longest" s__law_longest ["_law_graph_here"] := fun _ _ _ _ _ _ us hl => match us, hl with | [_], _ => rfl
theorem tk__law_days : Takes "_law_days" "_law_days" s__law_days ["_law_heard_here"] := fun _ _ _ _ _ _ us hl => match us, hl with | [_], _ => rfl
theorem tk__law_is_good : Takes "_law_is_good" "_law_is_good" s__law_is_good ["_law_ways_here"] := fun _ _ _ _ _ _ us hl => match us, hl with | [_], _ => rfl
theorem tk__law_with : Takes "_law_with" "_law_with" s__law_with ["_law_names_here", "_law_ways_here", "_law_ears_here", "_law_struck"] := fun _ _ _ _ _ _ us hl => match us, hl with | [_, _, _, _], _ => rfl
theorem tk_check_council : Takes "check_council" "check_council" s_check_council ["value"] := fun _ _ _ _ _ _ us hl => match us, hl with | [_], _ => rfl
theorem tk_is_integer : Takes "is_integer" "is_integer" s_is_integer ["value"] := fun _ _ _ _ _ _ us hl => match us, hl with | [_], _ => rfl
theorem tk_is_within : Takes "is_within" "is_within" s_is_within ["value", "least", "most"] := fun _ _ _ _ _ _ us hl => match us, hl with | [_, _, _], _ => rfl
theorem tk_is_ear : Takes "is_ear" "is_ear" s_is_ear ["council", "value"] := fun _ _ _ _ _ _ us hl => match us, hl with | [_, _], _ => rfl
theorem tk_is_offer : Takes "is_offer" "is_offer" s_is_offer ["council", "value"] := fun _ _ _ _ _ _ us hl => match us, hl with | [_, _], _ => rfl
theorem tk_check_offers : Takes "check_offers" "check_offers" s_check_offers ["council", "offers"] := fun _ _ _ _ _ _ us hl => match us, hl with | [_, _], _ => rfl
theorem tk_sets_of : Takes "sets_of" "sets_of" s_sets_of ["many"] := fun _ _ _ _ _ _ us hl => match us, hl with | [_], _ => rfl
theorem tk_start_pairs : Takes "start_pairs" "start_pairs" s_start_pairs ["count"] := fun _ _ _ _ _ _ us hl => match us, hl with | [_], _ => rfl
theorem tk_ears_of : Takes "ears_of" "ears_of" s_ears_of ["rows", "lot"] := fun _ _ _ _ _ _ us hl => match us, hl with | [_, _], _ => rfl
theorem tk_joined : Takes "joined" "joined" s_joined ["one", "other"] := fun _ _ _ _ _ _ us hl => match us, hl with | [_, _], _ => rfl
theorem tk_steps_from : Takes "steps_from" "steps_from" s_steps_from ["ways", "pair"] := fun _ _ _ _ _ _ us hl => match us, hl with | [_, _], _ => rfl
theorem tk_all_steps : Takes "all_steps" "all_steps" s_all_steps ["count", "ways"] := fun _ _ _ _ _ _ us hl => match us, hl with | [_, _], _ => rfl
theorem tk_longest_rows : Takes "longest_rows" "longest_rows" s_longest_rows ["steps"] := fun _ _ _ _ _ _ us hl => match us, hl with | [_], _ => rfl
theorem tk_days_of : Takes "days_of" "days_of" s_days_of ["count", "ways"] := fun _ _ _ _ _ _ us hl => match us, hl with | [_, _], _ => rfl
theorem tk_is_good : Takes "is_good" "is_good" s_is_good ["count", "ways"] := fun _ _ _ _ _ _ us hl => match us, hl with | [_, _], _ => rfl
theorem tk_with_ears : Takes "with_ears" "with_ears" s_with_ears ["council", "ears"] := fun _ _ _ _ _ _ us hl => match us, hl with | [_, _], _ => rfl
theorem tk_changed : Takes "changed" "changed" s_changed ["council", "offers"] := fun _ _ _ _ _ _ us hl => match us, hl with | [_, _], _ => rfl
theorem tk_mending : Takes "mending" "mending" s_mending ["council", "offers"] := fun _ _ _ _ _ _ us hl => match us, hl with | [_, _], _ => rfl
theorem tk_check_doubts : Takes "check_doubts" "check_doubts" s_check_doubts ["council", "doubts"] := fun _ _ _ _ _ _ us hl => match us, hl with | [_, _], _ => rfl
theorem tk_good_rows : Takes "good_rows" "good_rows" s_good_rows ["council", "doubts"] := fun _ _ _ _ _ _ us hl => match us, hl with | [_, _], _ => rfl
theorem tk_doubtful : Takes "doubtful" "doubtful" s_doubtful ["council", "doubts"] := fun _ _ _ _ _ _ us hl => match us, hl with | [_, _], _ => rfl
theorem tk_telling_doubt : Takes "telling_doubt" "telling_doubt" s_telling_doubt ["council", "doubts"] := fun _ _ _ _ _ _ us hl => match us, hl with | [_, _], _ => rfl
theorem tk__law_doubts_right : Takes "_law_doubts_right" "_law_doubts_right" s__law_doubts_right ["_law_made", "_law_names_here", "_law_ways_here", "_law_ears_here"] := fun _ _ _ _ _ _ us hl => match us, hl with | [_, _, _, _], _ => rfl
theorem tk_is_name : Takes "is_name" "is_name" s_is_name ["value"] := fun _ _ _ _ _ _ us hl => match us, hl with | [_], _ => rfl
theorem tk_wrong_mind : Takes "wrong_mind" "wrong_mind" s_wrong_mind ["minds"] := fun _ _ _ _ _ _ us hl => match us, hl with | [_], _ => rfl
theorem tk_is_row : Takes "is_row" "is_row" s_is_row ["value", "count"] := fun _ _ _ _ _ _ us hl => match us, hl with | [_, _], _ => rfl
theorem tk_is_way : Takes "is_way" "is_way" s_is_way ["value", "count"] := fun _ _ _ _ _ _ us hl => match us, hl with | [_, _], _ => rfl
theorem tk_wrong_way : Takes "wrong_way" "wrong_way" s_wrong_way ["ways", "count"] := fun _ _ _ _ _ _ us hl => match us, hl with | [_, _], _ => rfl
theorem tk__law_right : Takes "_law_right" "_law_right" s__law_right ["_law_well_here"] := fun _ _ _ _ _ _ us hl => match us, hl with | [_], _ => rfl
theorem tk___init__ : Takes "__init__" "Council.__init__" s___init__ ["self", "minds", "ways"] := fun _ _ _ _ _ _ us hl => match us, hl with | [_, _, _], _ => rfl
theorem tk___len__ : Takes "__len__" "Council.__len__" s___len__ ["self"] := fun _ _ _ _ _ _ us hl => match us, hl with | [_], _ => rfl
theorem tk_minds : Takes "minds" "Council.minds" s_minds ["self"] := fun _ _ _ _ _ _ us hl => match us, hl with | [_], _ => rfl
theorem tk_ways : Takes "ways" "Council.ways" s_ways ["self"] := fun _ _ _ _ _ _ us hl => match us, hl with | [_], _ => rfl
theorem tkk_doubtful : TakesK "doubtful" s_doubtful "council" "doubts" := fun _ _ _ _ _ _ _ _ => rfl
theorem tkk_mending : TakesK "mending" s_mending "council" "offers" := fun _ _ _ _ _ _ _ _ => rfl
theorem tkk_telling_doubt : TakesK "telling_doubt" s_telling_doubt "council" "doubts" := fun _ _ _ _ _ _ _ _ => rfl
theorem law_at {w : World} {mg : Str → Option Value} {fa : Addr} {h : Heap} (Y : hookP.says w h) (G : h.Ns mainGlobals mg) (hmg : mg "law" = some (.ref fa)) : ∃ K : PySem.W.Frag, K.In h ∧ LawAtG theLaw w K 10 63 "_law_script" mg fa h := by
  obtain ⟨K, X, S⟩ := Y
  refine ⟨K, X, ?_⟩
  have c : He.SaysD hFa hFn K := S.x.t.d
  have cl : Cls K (He.ga K "Council") := He.cls_ok (c.fact 1 (f := .cls "Council") rfl)
  have nh : NoAttr K (He.ga K "Council") "heads" := He.noat_ok (c.fact 2 (f := .noat "Council" "heads") rfl)
  have nt : NoAttr K (He.ga K "Council") "tables" := He.noat_ok (c.fact 3 (f := .noat "Council" "tables") rfl)
  have mk := He.mkr_ok (c.fact 4 (f := .mkr "Council") rfl)
  have ml := He.meth_ok (c.fact 5 (f := .meth "Council" "__len__") rfl)
  have mC : mg "Council" = some (.ref (He.ga K "Council")) := He.glo_ok X G (c.fact 0 (f := .glo "Council") rfl)
  obtain ⟨m1, m2⟩ := He.ba S.x.more
  obtain ⟨m2, m3⟩ := He.ba m2
  have hC := ins_of cl m1
  have B : Bt mg := ⟨isFree X G c 16 rfl, isFree X G c 17 rfl, isFree X G c 18 rfl, isFree X G c 19 rfl, isFree X G c 20 rfl, isFree X G c 21 rfl, isFree X G c 22 rfl, isFree X G c 23 rfl, isFree X G c 24 rfl, isFree X G c 25 rfl, isFree X G c 26 rfl, isFree X G c 27 rfl, isFree X G c 28 rfl, isFree X G c 29 rfl, isFree X G c 30 rfl, isFree X G c 31 rfl, isFree X G c 32 rfl, isFree X G c 33 rfl, isFree X G c 34 rfl⟩
  have G_Council : Gs mg "Council" (.ref (He.ga K "Council")) := ⟨_, mC, rfl⟩
  have G_DIGITS : Gs mg "DIGITS" (.str sDigits) := gsStr X G c 6 rfl
  have G_EAR : Gs mg "EAR" (.str sEar) := gsStr X G c 7 rfl
  have G_LETTERS : Gs mg "LETTERS" (.str sLetters) := gsStr X G c 8 rfl
  have G_LONGEST_NAME : Gs mg "LONGEST_NAME" (.int 8) := gsInt X G c 9 rfl
  have G_MOST_DOUBTS : Gs mg "MOST_DOUBTS" (.int 6) := gsInt X G c 10 rfl
  have G_MOST_MINDS : Gs mg "MOST_MINDS" (.int 6) := gsInt X G c 11 rfl
  have G_MOST_OFFERS : Gs mg "MOST_OFFERS" (.int 6) := gsInt X G c 12 rfl
  have G_MOST_WAYS : Gs mg "MOST_WAYS" (.int 6) := gsInt X G c 13 rfl
  have G_MOST_WEIGHT : Gs mg "MOST_WEIGHT" (.int 1000000000) := gsInt X G c 14 rfl
  have G_STRIKE : Gs mg "STRIKE" (.str sStrike) := gsStr X G c 15 rfl
  obtain ⟨fd, F_law⟩ : ∃ fd, DefIn K mg "law" s_law ["_law_script"] (He.ga K "law") fd := defAt X G c 0 35 rfl rfl tk_law
  have F__law_well : ∃ f fd, DefIn K mg "_law_well" s__law_well ["_law_script", "_law_k"] f fd := ⟨_, defAt X G c 1 36 rfl rfl tk__law_well⟩
  have F__law_dip : ∃ f fd, DefIn K mg "_law_dip" s__law_dip ["_law_well_here", "_law_many"] f fd := ⟨_, defAt X G c 2 37 rfl rfl tk__law_dip⟩
  have F__law_weight : ∃ f fd, DefIn K mg "_law_weight" s__law_weight ["_law_well_here"] f fd := ⟨_, defAt X G c 3 38 rfl rfl tk__law_weight⟩
  have F__law_row : ∃ f fd, DefIn K mg "_law_row" s__law_row ["_law_well_here", "_law_tally", "_law_at"] f fd := ⟨_, defAt X G c 4 39 rfl rfl tk__law_row⟩
  have F__law_way : ∃ f fd, DefIn K mg "_law_way" s__law_way ["_law_well_here", "_law_tally"] f fd := ⟨_, defAt X G c 5 40 rfl rfl tk__law_way⟩
  have F__law_drawn : ∃ f fd, DefIn K mg "_law_drawn" s__law_drawn ["_law_well_here", "_law_tallies", "_law_most_here"] f fd := ⟨_, defAt X G c 6 41 rfl rfl tk__law_drawn⟩
  have F__law_free_ears : ∃ f fd, DefIn K mg "_law_free_ears" s__law_free_ears ["_law_well_here", "_law_names_here", "_law_ways_here", "_law_most_here"] f fd := ⟨_, defAt X G c 7 42 rfl rfl tk__law_free_ears⟩
  have F__law_sets : ∃ f fd, DefIn K mg "_law_sets" s__law_sets ["_law_tally"] f fd := ⟨_, defAt X G c 8 43 rfl rfl tk__law_sets⟩
  have F__law_heard : ∃ f fd, DefIn K mg "_law_heard" s__law_heard ["_law_ways_here"] f fd := ⟨_, defAt X G c 9 44 rfl rfl tk__law_heard⟩
  have F__law_bits : ∃ f fd, DefIn K mg "_law_bits" s__law_bits ["_law_heard_here"] f fd := ⟨_, defAt X G c 10 45 rfl rfl tk__law_bits⟩
  have F__law_ears : ∃ f fd, DefIn K mg "_law_ears" s__law_ears ["_law_rows", "_law_herd", "_law_tally"] f fd := ⟨_, defAt X G c 11 46 rfl rfl tk__law_ears⟩
  have F__law_graph : ∃ f fd, DefIn K mg "_law_graph" s__law_graph ["_law_heard_here"] f fd := ⟨_, defAt X G c 12 47 rfl rfl tk__law_graph⟩
  have F__law_longest : ∃ f fd, DefIn K mg "_law_longest" s__law_longest ["_law_graph_here"] f fd := ⟨_, defAt X G c 13 48 rfl rfl tk__law_longest⟩
  have F__law_days : ∃ f fd, DefIn K mg "_law_days" s__law_days ["_law_heard_here"] f fd := ⟨_, defAt X G c 14 49 rfl rfl tk__law_days⟩
  have F__law_is_good : ∃ f fd, DefIn K mg "_law_is_good" s__law_is_good ["_law_ways_here"] f fd := ⟨_, defAt X G c 15 50 rfl rfl tk__law_is_good⟩
  have F__law_with : ∃ f fd, DefIn K mg "_law_with" s__law_with ["_law_names_here", "_law_ways_here", "_law_ears_here", "_law_struck"] f fd := ⟨_, defAt X G c 16 51 rfl rfl tk__law_with⟩
  have F_check_council : ∃ f fd, DefIn K mg "check_council" s_check_council ["value"] f fd := ⟨_, defAt X G c 17 52 rfl rfl tk_check_council⟩
  have F_is_integer : ∃ f fd, DefIn K mg "is_integer" s_is_integer ["value"] f fd := ⟨_, defAt X G c 18 53 rfl rfl tk_is_integer⟩
  have F_is_within : ∃ f fd, DefIn K mg "is_within" s_is_within ["value", "least", "most"] f fd := ⟨_, defAt X G c 19 54 rfl rfl tk_is_within⟩
  have F_is_ear : ∃ f fd, DefIn K mg "is_ear" s_is_ear ["council", "value"] f fd := ⟨_, defAt X G c 20 55 rfl rfl tk_is_ear⟩
  have F_is_offer : ∃ f fd, DefIn K mg "is_offer" s_is_offer ["council", "value"] f fd := ⟨_, defAt X G c 21 56 rfl rfl tk_is_offer⟩
  have F_check_offers : ∃ f fd, DefIn K mg "check_offers" s_check_offers ["council", "offers"] f fd := ⟨_, defAt X G c 22 57 rfl rfl tk_check_offers⟩
  have F_sets_of := defAtC (st := s_sets_of) X G c 23 58 rfl rfl tk_sets_of
  have F_start_pairs : ∃ f fd, DefIn K mg "start_pairs" s_start_pairs ["count"] f fd := ⟨_, defAt X G c 24 59 rfl rfl tk_start_pairs⟩
  have F_ears_of : ∃ f fd, DefIn K mg "ears_of" s_ears_of ["rows", "lot"] f fd := ⟨_, defAt X G c 25 60 rfl rfl tk_ears_of⟩
  have F_joined : ∃ f fd, DefIn K mg "joined" s_joined ["one", "other"] f fd := ⟨_, defAt X G c 26 61 rfl rfl tk_joined⟩
  have F_steps_from : ∃ f fd, DefIn K mg "steps_from" s_steps_from ["ways", "pair"] f fd := ⟨_, defAt X G c 27 62 rfl rfl tk_steps_from⟩
  have F_all_steps : ∃ f fd, DefIn K mg "all_steps" s_all_steps ["count", "ways"] f fd := ⟨_, defAt X G c 28 63 rfl rfl tk_all_steps⟩
  have F_longest_rows : ∃ f fd, DefIn K mg "longest_rows" s_longest_rows ["steps"] f fd := ⟨_, defAt X G c 29 64 rfl rfl tk_longest_rows⟩
  have F_days_of : ∃ f fd, DefIn K mg "days_of" s_days_of ["count", "ways"] f fd := ⟨_, defAt X G c 30 65 rfl rfl tk_days_of⟩
  have F_is_good : ∃ f fd, DefIn K mg "is_good" s_is_good ["count", "ways"] f fd := ⟨_, defAt X G c 31 66 rfl rfl tk_is_good⟩
  have F_with_ears : ∃ f fd, DefIn K mg "with_ears" s_with_ears ["council", "ears"] f fd := ⟨_, defAt X G c 32 67 rfl rfl tk_with_ears⟩
  have F_changed : ∃ f fd, DefIn K mg "changed" s_changed ["council", "offers"] f fd := ⟨_, defAt X G c 33 68 rfl rfl tk_changed⟩
  have F_mending := defAtK (st := s_mending) X G c 34 69 rfl rfl tk_mending tkk_mending
  have F_check_doubts : ∃ f fd, DefIn K mg "check_doubts" s_check_doubts ["council", "doubts"] f fd := ⟨_, defAt X G c 35 70 rfl rfl tk_check_doubts⟩
  have F_good_rows : ∃ f fd, DefIn K mg "good_rows" s_good_rows ["council", "doubts"] f fd := ⟨_, defAt X G c 36 71 rfl rfl tk_good_rows⟩
  have F_doubtful := defAtK (st := s_doubtful) X G c 37 72 rfl rfl tk_doubtful tkk_doubtful
  have F_telling_doubt := defAtK (st := s_telling_doubt) X G c 38 73 rfl rfl tk_telling_doubt tkk_telling_doubt
  have F__law_doubts_right : ∃ f fd, DefIn K mg "_law_doubts_right" s__law_doubts_right ["_law_made", "_law_names_here", "_law_ways_here", "_law_ears_here"] f fd := ⟨_, defAt X G c 39 74 rfl rfl tk__law_doubts_right⟩
  have F_is_name : ∃ f fd, DefIn K mg "is_name" s_is_name ["value"] f fd := ⟨_, defAt X G c 40 75 rfl rfl tk_is_name⟩
  have F_wrong_mind : ∃ f fd, DefIn K mg "wrong_mind" s_wrong_mind ["minds"] f fd := ⟨_, defAt X G c 41 76 rfl rfl tk_wrong_mind⟩
  have F_is_row : ∃ f fd, DefIn K mg "is_row" s_is_row ["value", "count"] f fd := ⟨_, defAt X G c 42 77 rfl rfl tk_is_row⟩
  have F_is_way : ∃ f fd, DefIn K mg "is_way" s_is_way ["value", "count"] f fd := ⟨_, defAt X G c 43 78 rfl rfl tk_is_way⟩
  have F_wrong_way : ∃ f fd, DefIn K mg "wrong_way" s_wrong_way ["ways", "count"] f fd := ⟨_, defAt X G c 44 79 rfl rfl tk_wrong_way⟩
  have F__law_right : ∃ f fd, DefIn K mg "_law_right" s__law_right ["_law_well_here"] f fd := ⟨_, defAt X G c 45 80 rfl rfl tk__law_right⟩
  obtain ⟨fdi, Fi⟩ := methAt (st := s___init__) c 46 rfl
  obtain ⟨fdl, Fl⟩ := methAt (st := s___len__) c 47 rfl
  have ee := hmg.symm.trans F_law.mg
  cases ee
  have bl : ∀ (s : Shared) (u : Value), BindsTo s fd ⟨[u], []⟩ [("_law_script", u)] := fun s u => by
    obtain ⟨oc, od, kV, doc, pm, an, cdv, ct, osl, rfl, _⟩ := F_law.fn.ex
    exact .of_eq (tk_law kV doc pm an cdv ct [u] rfl)
  have tm : ((("sets_of" : Str), none) : He.Defn) ∈ hTf := List.mem_singleton.mpr rfl
  refine ⟨fd, [He.cT K ("sets_of", none)], spLaw K [((He.cT K ("sets_of", none)).2, Str.ofString "sets_of.<locals>.<lambda>")], ⟨fun p hp => ?_, fun p hp => ?_, fun p hp => ?_⟩, bl, fun H a ns le tb sq => ?_, fun base bK bN TB => ?_⟩
  · rw [List.mem_singleton.mp hp]
    exact S.x.empty _ tm
  · rw [List.mem_singleton.mp hp]
    exact S.x.out _ tm
  · rw [List.mem_singleton.mp hp]
    exact PySem.W.codeHd_of_K X (S.x.hd _ tm)
  · refine ⟨a, ns, rfl, sq, by omega, fun p hp => ?_, fun H' => rfl⟩
    rw [List.mem_singleton.mp hp]
    exact LamX.TabS.nil (tb _ (List.mem_singleton.mpr rfl))
  · exact law_all (c := (He.cT K ("sets_of", none)).1) B F_law F__law_well F__law_dip F__law_weight F__law_row F__law_way F__law_drawn F__law_free_ears F__law_sets F__law_heard F__law_bits F__law_ears F__law_graph F__law_longest F__law_days F__law_is_good F__law_with F_check_council F_is_integer F_is_within F_is_ear F_is_offer F_check_offers F_sets_of F_start_pairs F_ears_of F_joined F_steps_from F_all_steps F_longest_rows F_days_of F_is_good F_with_ears F_changed F_mending F_check_doubts F_good_rows F_doubtful F_telling_doubt F__law_doubts_right F_is_name F_wrong_mind F_is_row F_is_way F_wrong_way F__law_right
      G_Council G_DIGITS G_EAR G_LETTERS G_LONGEST_NAME G_MOST_DOUBTS G_MOST_MINDS G_MOST_OFFERS G_MOST_WAYS G_MOST_WEIGHT G_STRIKE
      cl nh nt hC (prpAt cl nt m3 S.ways sc_ways rfl tk_ways) (prpAt cl nh m2 S.minds sc_minds rfl tk_minds)
      ⟨_, fdi, Fi, mk, Fi.binds tk___init__⟩ mC ⟨_, fdl, Fl, ml.1, ml.2, Fl.binds tk___len__⟩ (TB _ (List.mem_singleton.mpr rfl))
/-- the end, the written part by what is told of the head -/
theorem walk_here {q : Program} {loose : List Str} {XP : (Str → Option Value) → Heap → Prop} {d : DefRec} (nm : d.name = ("law" : Str)) (plain : d.params.defaults = []) (most : theLaw.most = some 63) :
    PySem.W.WalkO q loose XP hookP.says theLaw.row.toRowW d [] (fun f vs => PySem.call f vs) := by
  refine Att.attach_callB most plain fun w _ st mg mb fa _ _ _ _ a vs ns G Y _ _ _ named scr isInts len _ calm => ?_
  obtain ⟨K, inK, fd, cs, sp, ⟨t1, t2, t3⟩, b, want, R⟩ := law_at Y G.T.g (by rw [← nm]; exact named)
  exact law_callG inK G.T.g G.T.b G.T.builtins G.T.nolimit calm t1 t2 t3 G.T.bmain scr isInts (Nat.le_trans len (by decide)) ⟨rfl, by decide, by decide⟩ R b fun H h1 h2 => want H a ns len h1 h2
end AA
open PySem PySem.W PySem.Calls PyProof.Rows
theorem PySem.Challenge.cw_alwaysagree_k37_whole_mendings_and_doubt_holds : PySem.Challenge.rw_alwaysagree_k37_whole_mendings_and_doubt.Holds := by
  w_on; o_law
  refine HandSHeadRun.head_any (r := AA.theRow) (q := PySem.W.view AA.theRow.prog [75]) (H := AA.hookP) (ob := AA.obP) (M := 20000) (loose := AA.looseAll) (d := HandSHeadRun.topDef AA.theRow.prog 75) (kwd := []) AA.obP_eq
    (by kernel_rfl) (fun s => by kernel_rfl) AA.run_top (by kernel_rfl) (by kernel_rfl) (by kernel_rfl) (by rfl) (by first | assumption | decide +kernel) (by decide +kernel) ⟨rfl, rfl, rfl, rfl, rfl, by decide +kernel⟩ ?hw ?hc
  case hw => w_witness2
  case hc => exact AA.walk_here (by kernel_rfl) (by kernel_rfl) rfl
