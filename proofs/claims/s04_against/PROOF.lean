import PyProof.Rows.All
import Wide.All
import OpenK.AllK
import Wide.FinOn
import PyProof.EqAt
import PyProof.EqKinds
import PyProof.TupleCall
import Open.SpecLaws
import KE.OsGo
import KE.DataMinMax
import HandS.ForSpec
import HandS.Comp
import HandS.Iter
import HandS.Zip
import HandS.SortKw
import HandS.Codes
import PySem.Challenge.RW_boardshares_s04_against
set_option Elab.async false
set_option maxRecDepth 100000
set_option maxHeartbeats 2000000
-- M1
namespace Bs
open Md21 (less larger choose)

/-! ### order of lists -/
theorem less_cons (x y : Nat) (l r : List Nat) : less (x :: l) (y :: r) = (decide (x < y) || (x == y && less l r)) := rfl
theorem less_irrefl : ∀ l : List Nat, less l l = false
  | [] => rfl
  | x :: l => by rw [less_cons, less_irrefl l]; simp
theorem less_total : ∀ a b : List Nat, less a b = false → less b a = false → a = b
  | [], [], _, _ => rfl
  | [], _ :: _, h, _ => by simp [less] at h
  | _ :: _, [], _, h => by simp [less] at h
  | x :: l, y :: r, h1, h2 => by
    rw [less_cons] at h1 h2
    simp only [Bool.or_eq_false_iff, decide_eq_false_iff_not, Bool.and_eq_false_iff, beq_eq_false_iff_ne] at h1 h2
    have e : x = y := by omega
    subst e
    have := less_total l r (by simpa using h1.2) (by simpa using h2.2)
    rw [this]
theorem less_trans : ∀ a b c : List Nat, less a b = true → less b c = true → less a c = true
  | [], [], _, h, _ => by simp [less] at h
  | [], _ :: _, [], _, h => by simp [less] at h
  | [], _ :: _, _ :: _, _, _ => rfl
  | _ :: _, [], _, h, _ => by simp [less] at h
  | _ :: _, _ :: _, [], _, h => by simp [less] at h
  | x :: a, y :: b, z :: c, h1, h2 => by
    rw [less_cons] at *
    simp only [Bool.or_eq_true, decide_eq_true_eq, Bool.and_eq_true, beq_iff_eq] at *
    rcases h1 with h1 | ⟨rfl, h1⟩
    · rcases h2 with h2 | ⟨rfl, h2⟩
      · left; omega
      · left; exact h1
    · rcases h2 with h2 | ⟨rfl, h2⟩
      · left; exact h2
      · right; exact ⟨rfl, less_trans a b c h1 h2⟩
theorem less_asymm {a b : List Nat} (h : less a b = true) : less b a = false := by
  cases e : less b a with
  | false => rfl
  | true => have := less_trans a b a h e; rw [less_irrefl] at this; cases this
/-- not above: a ≥ b -/
abbrev Ge (a b : List Nat) : Prop := less a b = false
theorem ge_refl (a : List Nat) : Ge a a := less_irrefl a
theorem ge_trans {a b c : List Nat} (h1 : Ge a b) (h2 : Ge b c) : Ge a c := by
  cases e : less a c with
  | false => exact e
  | true =>
    cases e2 : less c b with
    | true => have := less_trans a c b e e2; rw [h1] at this; cases this
    | false => have := less_total b c h2 e2; subst this; rw [h1] at e; cases e
theorem ge_antisymm {a b : List Nat} (h1 : Ge a b) (h2 : Ge b a) : a = b := less_total a b h1 h2
theorem ge_nil (a : List Nat) : Ge a [] := by cases a <;> rfl
theorem ge_head {x y : Nat} (l r : List Nat) (h : y < x) : Ge (x :: l) (y :: r) := by
  show less _ _ = false
  rw [less_cons]; simp; omega
theorem ge_tail {x : Nat} {l r : List Nat} (h : Ge l r) : Ge (x :: l) (x :: r) := by
  show less _ _ = false
  rw [less_cons, h]; simp
theorem ge_cons {x y : Nat} {l r : List Nat} (h : y ≤ x) (h2 : x = y → Ge l r) : Ge (x :: l) (y :: r) := by
  rcases Nat.lt_or_ge y x with h' | h'
  · exact ge_head _ _ h'
  · have e : x = y := by omega
    subst e
    exact ge_tail (h2 rfl)
theorem ge_append : ∀ {a b : List Nat} {l r : List Nat}, a.length = b.length → Ge a b → (a = b → Ge l r) → Ge (a ++ l) (b ++ r)
  | [], [], _, _, _, _, h => h rfl
  | x :: a, y :: b, l, r, e, h1, h2 => by
    have e' : a.length = b.length := by simpa using e
    have h1' : less (x :: a) (y :: b) = false := h1
    rw [less_cons] at h1'
    simp only [Bool.or_eq_false_iff, decide_eq_false_iff_not, Bool.and_eq_false_iff, beq_eq_false_iff_ne] at h1'
    refine ge_cons (by omega) fun e3 => ?_
    subst e3
    exact ge_append e' (by simpa using h1'.2) fun e4 => h2 (by rw [e4])

theorem larger_ge (a b : List Nat) : Ge (larger a b) a ∧ Ge (larger a b) b ∧ (larger a b = a ∨ larger a b = b) := by
  unfold larger
  cases e : less a b with
  | true => exact ⟨less_asymm e, ge_refl b, .inr rfl⟩
  | false => exact ⟨ge_refl a, e, .inl rfl⟩
theorem fold_larger : ∀ (l : List (List Nat)) (a : List Nat), Ge (l.foldl larger a) a ∧ (∀ x ∈ l, Ge (l.foldl larger a) x) ∧ (l.foldl larger a = a ∨ l.foldl larger a ∈ l)
  | [], a => ⟨ge_refl a, (fun _ h => by simp at h), .inl rfl⟩
  | x :: l, a => by
    obtain ⟨h1, h2, h3⟩ := fold_larger l (larger a x)
    obtain ⟨g1, g2, g3⟩ := larger_ge a x
    rw [List.foldl_cons]
    refine ⟨ge_trans h1 g1, ?_, ?_⟩
    · intro y hy
      rcases List.mem_cons.mp hy with rfl | hy
      · exact ge_trans h1 g2
      · exact h2 y hy
    · rcases h3 with h3 | h3
      · rcases g3 with g3 | g3
        · left; rw [h3, g3]
        · right; rw [h3, g3]; exact List.mem_cons_self
      · right; exact List.mem_cons_of_mem _ h3
theorem fold_larger_eq {l : List (List Nat)} {W : List Nat} (h1 : W ∈ l) (h2 : ∀ x ∈ l, Ge W x) : l.foldl larger [] = W := by
  obtain ⟨g1, g2, g3⟩ := fold_larger l []
  refine ge_antisymm (g2 W h1) ?_
  rcases g3 with e | e
  · rw [e]; exact ge_nil W
  · exact h2 _ e

/-! ### choices -/
theorem mem_choose : ∀ {k : Nat} {l s : List Nat}, s ∈ choose k l ↔ s.Sublist l ∧ s.length = k
  | 0, l, s => by
    simp only [choose, List.mem_singleton, List.length_eq_zero_iff]
    constructor
    · rintro rfl; exact ⟨List.nil_sublist _, rfl⟩
    · exact fun h => h.2
  | k + 1, [], s => by
    simp only [choose, List.not_mem_nil, false_iff, List.sublist_nil, not_and]
    rintro rfl; simp
  | k + 1, x :: l, s => by
    simp only [choose, List.mem_append, List.mem_map, mem_choose (k := k) (l := l), mem_choose (k := k + 1) (l := l)]
    constructor
    · rintro (⟨r, ⟨h1, h2⟩, rfl⟩ | ⟨h1, h2⟩)
      · exact ⟨h1.cons_cons x, by simp [h2]⟩
      · exact ⟨h1.cons x, h2⟩
    · rintro ⟨h1, h2⟩
      cases h1 with
      | cons _ h => exact .inr ⟨h, h2⟩
      | cons_cons _ h => exact .inl ⟨_, ⟨h, by simpa using h2⟩, rfl⟩

/-! ### descending filters -/
def desc (p : Nat → Bool) : List Nat := (List.range 13).reverse.filter p
theorem mem_desc {p : Nat → Bool} {r : Nat} : r ∈ desc p ↔ r < 13 ∧ p r = true := by
  simp [desc]
theorem range_desc : (List.range 13).reverse.Pairwise (· > ·) := by decide
theorem desc_pw (p : Nat → Bool) : (desc p).Pairwise (· > ·) := range_desc.filter _
theorem pw_nodup {l : List Nat} (h : l.Pairwise (· > ·)) : l.Nodup := h.imp (fun h => by omega)
/-- a falling list within a falling list is not above its start -/
theorem ge_take : ∀ {A b : List Nat}, A.Pairwise (· > ·) → b.Pairwise (· > ·) → (∀ x ∈ b, x ∈ A) → Ge (A.take b.length) b
  | A, [], _, _, _ => ge_nil _
  | [], y :: b, _, _, h => by have := h y List.mem_cons_self; simp at this
  | x :: A, y :: b, hA, hb, h => by
    rw [List.length_cons, List.take_succ_cons]
    have hx := List.pairwise_cons.mp hA
    have hy := List.pairwise_cons.mp hb
    have h1 : y ≤ x := by
      rcases List.mem_cons.mp (h y List.mem_cons_self) with e | e
      · omega
      · have := hx.1 y e; omega
    refine ge_cons h1 fun e => ?_
    subst e
    refine ge_take hx.2 hy.2 fun z hz => ?_
    have := hy.1 z hz
    rcases List.mem_cons.mp (h z (List.mem_cons_of_mem _ hz)) with e | e
    · omega
    · exact e
/-- falling lists with the same members are the same -/
theorem pw_unique : ∀ {a b : List Nat}, a.Pairwise (· > ·) → b.Pairwise (· > ·) → (∀ x, x ∈ a ↔ x ∈ b) → a = b
  | [], [], _, _, _ => rfl
  | [], y :: b, _, _, h => by have := (h y).mpr List.mem_cons_self; simp at this
  | x :: a, [], _, _, h => by have := (h x).mp List.mem_cons_self; simp at this
  | x :: a, y :: b, ha, hb, h => by
    have hx := List.pairwise_cons.mp ha
    have hy := List.pairwise_cons.mp hb
    have e : x = y := by
      rcases List.mem_cons.mp ((h x).mp List.mem_cons_self) with e | e
      · exact e
      · rcases List.mem_cons.mp ((h y).mpr List.mem_cons_self) with e2 | e2
        · exact e2.symm
        · have := hx.1 y e2; have := hy.1 x e; omega
    subst e
    rw [pw_unique hx.2 hy.2 fun z => ?_]
    constructor
    · intro hz
      rcases List.mem_cons.mp ((h z).mp (List.mem_cons_of_mem _ hz)) with e | e
      · have := hx.1 z hz; omega
      · exact e
    · intro hz
      rcases List.mem_cons.mp ((h z).mpr (List.mem_cons_of_mem _ hz)) with e | e
      · have := hy.1 z hz; omega
      · exact e
theorem desc_eq {p : Nat → Bool} {l : List Nat} (h : l.Pairwise (· > ·)) (hm : ∀ r, r ∈ l ↔ r < 13 ∧ p r = true) : desc p = l :=
  pw_unique (desc_pw p) h fun r => mem_desc.trans (hm r).symm
end Bs
-- M2
namespace Bs
open Md21 (less larger choose rank suit groups)

/-! ### counts of ranks -/
def cnt (h : List Nat) (r : Nat) : Nat := (h.filter fun c => rank c == r).length
theorem cnt_nil (r : Nat) : cnt [] r = 0 := rfl
theorem cnt_cons (c : Nat) (h : List Nat) (r : Nat) : cnt (c :: h) r = (if rank c = r then 1 else 0) + cnt h r := by
  unfold cnt
  rw [List.filter_cons]
  by_cases e : rank c = r
  · simp [e]; omega
  · simp [e]
theorem cnt_sub {s h : List Nat} (e : s.Sublist h) (r : Nat) : cnt s r ≤ cnt h r := (e.filter _).length_le
theorem cnt_append (a b : List Nat) (r : Nat) : cnt (a ++ b) r = cnt a r + cnt b r := by simp [cnt]
theorem cnt_pos {h : List Nat} {r : Nat} : 0 < cnt h r ↔ ∃ c ∈ h, rank c = r := by
  unfold cnt
  rw [List.length_pos_iff_exists_mem]
  simp
theorem cnt_perm {a b : List Nat} (h : a.Perm b) (r : Nat) : cnt a r = cnt b r := (h.filter _).length_eq

theorem sum_map_add {α : Type} (f g : α → Nat) : ∀ l : List α, (l.map fun x => f x + g x).sum = (l.map f).sum + (l.map g).sum
  | [] => rfl
  | x :: l => by simp [sum_map_add f g l]; omega
theorem sum_ind (r : Nat) (h : r < 13) : ((List.range 13).map fun x => if r = x then 1 else 0).sum = 1 := by
  have : ∀ r : Fin 13, ((List.range 13).map fun x => if r.1 = x then 1 else 0).sum = 1 := by decide
  exact this ⟨r, h⟩
theorem sum_cnt : ∀ h : List Nat, (∀ c ∈ h, c < 52) → ((List.range 13).map (cnt h)).sum = h.length
  | [], _ => by decide
  | c :: h, hc => by
    have e : cnt (c :: h) = fun r => (if rank c = r then 1 else 0) + cnt h r := funext fun r => cnt_cons c h r
    have hr : rank c < 13 := by
      have := hc c List.mem_cons_self
      unfold rank; omega
    rw [e, sum_map_add, sum_ind _ hr, sum_cnt h fun c hh => hc c (List.mem_cons_of_mem _ hh), List.length_cons]
    omega

theorem nodup_le : ∀ {l m : List Nat}, l.Nodup → (∀ x ∈ l, x ∈ m) → l.length ≤ m.length
  | [], _, _, _ => Nat.zero_le _
  | x :: l, m, hn, hs => by
    have hx := List.nodup_cons.mp hn
    have hm := hs x List.mem_cons_self
    have := nodup_le (l := l) (m := m.erase x) hx.2 fun y hy => by
      have hne : y ≠ x := fun e => hx.1 (e ▸ hy)
      exact (List.mem_erase_of_ne hne).mpr (hs y (List.mem_cons_of_mem _ hy))
    rw [List.length_erase_of_mem hm] at this
    have : 0 < m.length := List.length_pos_of_mem hm
    rw [List.length_cons]; omega
theorem cnt_le4 {h : List Nat} (hn : h.Nodup) (r : Nat) : cnt h r ≤ 4 := by
  have := nodup_le (l := h.filter fun c => rank c == r) (m := [4 * r, 4 * r + 1, 4 * r + 2, 4 * r + 3]) (hn.filter _) fun x hx => by
    have e := (List.mem_filter.mp hx).2
    simp only [rank, beq_iff_eq] at e
    simp; omega
  simpa [cnt] using this

/-! ### groups -/
theorem groups_eq (s : List Nat) : groups s = (desc fun r => cnt s r == 4).map (fun r => (4, r)) ++ ((desc fun r => cnt s r == 3).map (fun r => (3, r)) ++ ((desc fun r => cnt s r == 2).map (fun r => (2, r)) ++ (desc fun r => cnt s r == 1).map (fun r => (1, r)))) := by
  unfold groups
  simp only [List.flatMap_cons, List.flatMap_nil, List.append_nil]
  rfl
theorem sum_split (f : Nat → Nat) (h4 : ∀ r, f r ≤ 4) : ∀ l : List Nat, (l.map f).sum = 4 * (l.filter fun r => f r == 4).length + 3 * (l.filter fun r => f r == 3).length + 2 * (l.filter fun r => f r == 2).length + (l.filter fun r => f r == 1).length
  | [] => rfl
  | x :: l => by
    have := h4 x
    have ih := sum_split f h4 l
    rw [List.map_cons, List.sum_cons, ih, List.filter_cons, List.filter_cons, List.filter_cons, List.filter_cons]
    have : f x = 0 ∨ f x = 1 ∨ f x = 2 ∨ f x = 3 ∨ f x = 4 := by omega
    rcases this with e | e | e | e | e <;> simp [e] <;> omega
theorem sum_rev (f : Nat → Nat) (l : List Nat) : (l.reverse.map f).sum = (l.map f).sum := by
  rw [List.map_reverse, List.sum_reverse]

/-- five cards of a kind -/
structure Five (s : List Nat) : Prop where
  nd : s.Nodup
  lt : ∀ c ∈ s, c < 52
  len : s.length = 5
theorem Five.split {s : List Nat} (h : Five s) : 4 * (desc fun r => cnt s r == 4).length + 3 * (desc fun r => cnt s r == 3).length + 2 * (desc fun r => cnt s r == 2).length + (desc fun r => cnt s r == 1).length = 5 := by
  have e := sum_cnt s h.lt
  rw [h.len, ← sum_rev, sum_split (cnt s) (cnt_le4 h.nd)] at e
  exact e

theorem len0 {l : List Nat} (h : l.length = 0) : l = [] := List.length_eq_zero_iff.mp h
theorem len1 {l : List Nat} (h : l.length = 1) : ∃ a, l = [a] := by
  match l, h with
  | [a], _ => exact ⟨a, rfl⟩
theorem len2 {l : List Nat} (h : l.length = 2) : ∃ a b, l = [a, b] := by
  match l, h with
  | [a, b], _ => exact ⟨a, b, rfl⟩
theorem len3 {l : List Nat} (h : l.length = 3) : ∃ a b c, l = [a, b, c] := by
  match l, h with
  | [a, b, c], _ => exact ⟨a, b, c, rfl⟩
theorem len5 {l : List Nat} (h : l.length = 5) : ∃ a b c d e, l = [a, b, c, d, e] := by
  match l, h with
  | [a, b, c, d, e], _ => exact ⟨a, b, c, d, e, rfl⟩

/-- the six shapes of five cards by ranks -/
inductive Shape (f : Nat → Nat) : List (Nat × Nat) → Prop where
  | four {a b : Nat} (ha : a < 13 ∧ f a = 4) (hb : b < 13 ∧ f b = 1) : Shape f [(4, a), (1, b)]
  | full {a b : Nat} (ha : a < 13 ∧ f a = 3) (hb : b < 13 ∧ f b = 2) : Shape f [(3, a), (2, b)]
  | three {a b c : Nat} (ha : a < 13 ∧ f a = 3) (hb : b < 13 ∧ f b = 1) (hc : c < 13 ∧ f c = 1) (h : c < b) : Shape f [(3, a), (1, b), (1, c)]
  | two {a b c : Nat} (ha : a < 13 ∧ f a = 2) (hb : b < 13 ∧ f b = 2) (hc : c < 13 ∧ f c = 1) (h : b < a) : Shape f [(2, a), (2, b), (1, c)]
  | pair {a b c d : Nat} (ha : a < 13 ∧ f a = 2) (hb : b < 13 ∧ f b = 1) (hc : c < 13 ∧ f c = 1) (hd : d < 13 ∧ f d = 1) (h : c < b) (h' : d < c) : Shape f [(2, a), (1, b), (1, c), (1, d)]
  | none {a b c d e : Nat} (ha : a < 13 ∧ f a = 1) (hb : b < 13 ∧ f b = 1) (hc : c < 13 ∧ f c = 1) (hd : d < 13 ∧ f d = 1) (he : e < 13 ∧ f e = 1) (h1 : b < a) (h2 : c < b) (h3 : d < c) (h4 : e < d) : Shape f [(1, a), (1, b), (1, c), (1, d), (1, e)]

theorem in_desc {f : Nat → Nat} {k r : Nat} {l : List Nat} (h : (desc fun r => f r == k) = l) (hr : r ∈ l) : r < 13 ∧ f r = k := by
  rw [← h, mem_desc] at hr
  simpa using hr

theorem Five.shape {s : List Nat} (h : Five s) : Shape (cnt s) (groups s) := by
  have e := h.split
  rw [groups_eq]
  generalize e4 : (desc fun r => cnt s r == 4) = l4 at *
  generalize e3 : (desc fun r => cnt s r == 3) = l3 at *
  generalize e2 : (desc fun r => cnt s r == 2) = l2 at *
  generalize e1 : (desc fun r => cnt s r == 1) = l1 at *
  have p4 := desc_pw fun r => cnt s r == 4
  have p3 := desc_pw fun r => cnt s r == 3
  have p2 := desc_pw fun r => cnt s r == 2
  have p1 := desc_pw fun r => cnt s r == 1
  rw [e4] at p4; rw [e3] at p3; rw [e2] at p2; rw [e1] at p1
  have cases6 : (l4.length = 1 ∧ l3.length = 0 ∧ l2.length = 0 ∧ l1.length = 1) ∨ (l4.length = 0 ∧ l3.length = 1 ∧ l2.length = 1 ∧ l1.length = 0) ∨ (l4.length = 0 ∧ l3.length = 1 ∧ l2.length = 0 ∧ l1.length = 2) ∨ (l4.length = 0 ∧ l3.length = 0 ∧ l2.length = 2 ∧ l1.length = 1) ∨ (l4.length = 0 ∧ l3.length = 0 ∧ l2.length = 1 ∧ l1.length = 3) ∨ (l4.length = 0 ∧ l3.length = 0 ∧ l2.length = 0 ∧ l1.length = 5) := by
    have b4 : l4.length = 0 ∨ l4.length = 1 := by omega
    have b3 : l3.length = 0 ∨ l3.length = 1 := by omega
    have b2 : l2.length = 0 ∨ l2.length = 1 ∨ l2.length = 2 := by omega
    rcases b4 with b4 | b4 <;> rcases b3 with b3 | b3 <;> rcases b2 with b2 | b2 | b2 <;> omega
  rcases cases6 with ⟨h4, h3, h2, h1⟩ | ⟨h4, h3, h2, h1⟩ | ⟨h4, h3, h2, h1⟩ | ⟨h4, h3, h2, h1⟩ | ⟨h4, h3, h2, h1⟩ | ⟨h4, h3, h2, h1⟩
  · obtain ⟨a, rfl⟩ := len1 h4; obtain ⟨b, rfl⟩ := len1 h1
    rw [len0 h3, len0 h2]
    exact .four (in_desc e4 (by simp)) (in_desc e1 (by simp))
  · obtain ⟨a, rfl⟩ := len1 h3; obtain ⟨b, rfl⟩ := len1 h2
    rw [len0 h4, len0 h1]
    exact .full (in_desc e3 (by simp)) (in_desc e2 (by simp))
  · obtain ⟨a, rfl⟩ := len1 h3; obtain ⟨b, c, rfl⟩ := len2 h1
    rw [len0 h4, len0 h2]
    simp at p1
    exact .three (in_desc e3 (by simp)) (in_desc e1 (by simp)) (in_desc e1 (by simp)) p1
  · obtain ⟨a, b, rfl⟩ := len2 h2; obtain ⟨c, rfl⟩ := len1 h1
    rw [len0 h4, len0 h3]
    simp at p2
    exact .two (in_desc e2 (by simp)) (in_desc e2 (by simp)) (in_desc e1 (by simp)) p2
  · obtain ⟨a, rfl⟩ := len1 h2; obtain ⟨b, c, d, rfl⟩ := len3 h1
    rw [len0 h4, len0 h3]
    simp at p1
    exact .pair (in_desc e2 (by simp)) (in_desc e1 (by simp)) (in_desc e1 (by simp)) (in_desc e1 (by simp)) p1.1.1 p1.2
  · obtain ⟨a, b, c, d, e, rfl⟩ := len5 h1
    rw [len0 h4, len0 h3, len0 h2]
    simp at p1
    obtain ⟨⟨q1, q2⟩, ⟨q3, q4⟩, ⟨q5, q7⟩, q6⟩ := p1
    exact .none (in_desc e1 (by simp)) (in_desc e1 (by simp)) (in_desc e1 (by simp)) (in_desc e1 (by simp)) (in_desc e1 (by simp)) q1 q3 q5 q6
end Bs
-- M3
namespace Bs
open Md21 (less larger choose rank suit groups)

/-! ### the mirror of worths.py -/
def suitedOf (h : List Nat) (s : Nat) : List Nat := desc fun r => h.contains (4 * r + s)
def suitMany (h : List Nat) (s : Nat) : Nat := (h.filter fun c => suit c == s).length
def flushR (h : List Nat) : List Nat := match (List.range 4).find? fun s => decide (5 ≤ suitMany h s) with
  | some s => suitedOf h s
  | none => []
def rowAt (b : Nat → Bool) (h : Nat) : Bool := b h && (b (h - 1) && (b (h - 2) && (b (h - 3) && b (h - 4))))
def highs : List Nat := [12, 11, 10, 9, 8, 7, 6, 5, 4]
def highRow (b : Nat → Bool) : Option Nat := match highs.find? (rowAt b) with
  | some h => some h
  | none => if (b 12 && (b 0 && (b 1 && (b 2 && b 3)))) = true then some 3 else none
def ranksW (f : Nat → Nat) (least : Nat) : List Nat := desc fun r => decide (least ≤ f r)
def others (f : Nat → Nat) (xs : List Nat) (many : Nat) : List Nat := ((ranksW f 1).filter fun r => !xs.contains r).take many
def likeRanks (f : Nat → Nat) : Nat × List Nat :=
  if 0 < (ranksW f 3).length then (3, (ranksW f 3).take 1 ++ others f ((ranksW f 3).take 1) 2)
  else if 1 < (ranksW f 2).length then (2, (ranksW f 2).take 2 ++ others f ((ranksW f 2).take 2) 1)
  else if (ranksW f 2).length = 1 then (1, ranksW f 2 ++ others f (ranksW f 2) 3)
  else (0, others f [] 5)
def manyAlike (f : Nat → Nat) : Option (Nat × List Nat) :=
  if 0 < (ranksW f 4).length then some (7, (ranksW f 4).take 1 ++ others f ((ranksW f 4).take 1) 1)
  else match ranksW f 3 with
    | [] => none
    | a :: _ => match (ranksW f 2).filter fun r => decide (r ≠ a) with
      | [] => none
      | b :: _ => some (6, [a, b])
def sfRow (h : List Nat) : Option Nat := if flushR h = [] then none else highRow fun r => (flushR h).contains r
def worthOf (h : List Nat) : Nat × List Nat := match sfRow h with
  | some r => (8, [r])
  | none => match manyAlike (cnt h) with
    | some m => m
    | none => if flushR h ≠ [] then (5, (flushR h).take 5) else match highRow fun r => decide (0 < cnt h r) with
      | some r => (4, [r])
      | none => likeRanks (cnt h)

/-! ### its cases -/
inductive Cas (h : List Nat) : Nat × List Nat → Prop where
  | sf {r : Nat} (hr : sfRow h = some r) : Cas h (8, [r])
  | four {a : Nat} {l : List Nat} (hr : sfRow h = none) (e4 : ranksW (cnt h) 4 = a :: l) : Cas h (7, [a] ++ others (cnt h) [a] 1)
  | full {a b : Nat} {l m : List Nat} (hr : sfRow h = none) (e4 : ranksW (cnt h) 4 = []) (e3 : ranksW (cnt h) 3 = a :: l) (e2 : ((ranksW (cnt h) 2).filter fun r => decide (r ≠ a)) = b :: m) : Cas h (6, [a, b])
  | flush (hr : sfRow h = none) (e4 : ranksW (cnt h) 4 = []) (e3 : ∀ a l, ranksW (cnt h) 3 = a :: l → ((ranksW (cnt h) 2).filter fun r => decide (r ≠ a)) = []) (hf : flushR h ≠ []) : Cas h (5, (flushR h).take 5)
  | straight {r : Nat} (e4 : ranksW (cnt h) 4 = []) (e3 : ∀ a l, ranksW (cnt h) 3 = a :: l → ((ranksW (cnt h) 2).filter fun r => decide (r ≠ a)) = []) (hf : flushR h = []) (hs : highRow (fun r => decide (0 < cnt h r)) = some r) : Cas h (4, [r])
  | three {a : Nat} {l : List Nat} (e4 : ranksW (cnt h) 4 = []) (e2 : ((ranksW (cnt h) 2).filter fun r => decide (r ≠ a)) = []) (hf : flushR h = []) (hs : highRow (fun r => decide (0 < cnt h r)) = none) (e3 : ranksW (cnt h) 3 = a :: l) : Cas h (3, [a] ++ others (cnt h) [a] 2)
  | two {a b : Nat} {l : List Nat} (hf : flushR h = []) (hs : highRow (fun r => decide (0 < cnt h r)) = none) (e3 : ranksW (cnt h) 3 = []) (e2 : ranksW (cnt h) 2 = a :: b :: l) : Cas h (2, [a, b] ++ others (cnt h) [a, b] 1)
  | pair {a : Nat} (hf : flushR h = []) (hs : highRow (fun r => decide (0 < cnt h r)) = none) (e3 : ranksW (cnt h) 3 = []) (e2 : ranksW (cnt h) 2 = [a]) : Cas h (1, [a] ++ others (cnt h) [a] 3)
  | none (hf : flushR h = []) (hs : highRow (fun r => decide (0 < cnt h r)) = none) (e3 : ranksW (cnt h) 3 = []) (e2 : ranksW (cnt h) 2 = []) : Cas h (0, others (cnt h) [] 5)

theorem ranksW_mono {f : Nat → Nat} {k m : Nat} (h : k ≤ m) {r : Nat} (hr : r ∈ ranksW f m) : r ∈ ranksW f k := by
  unfold ranksW at *
  rw [mem_desc] at *
  simp at *
  omega
theorem ranksW_nil {f : Nat → Nat} {k m : Nat} (h : k ≤ m) (e : ranksW f k = []) : ranksW f m = [] := by
  rw [List.eq_nil_iff_forall_not_mem] at *
  exact fun r hr => e r (ranksW_mono h hr)
theorem mem_ranksW {f : Nat → Nat} {k r : Nat} : r ∈ ranksW f k ↔ r < 13 ∧ k ≤ f r := by
  unfold ranksW; rw [mem_desc]; simp
theorem ranksW_pw (f : Nat → Nat) (k : Nat) : (ranksW f k).Pairwise (· > ·) := desc_pw _

theorem many_none {f : Nat → Nat} (h : manyAlike f = none) : ranksW f 4 = [] ∧ ∀ a l, ranksW f 3 = a :: l → ((ranksW f 2).filter fun r => decide (r ≠ a)) = [] := by
  unfold manyAlike at h
  split at h
  · cases h
  · rename_i h4
    refine ⟨len0 (by omega), fun a l e => ?_⟩
    rw [e] at h
    simp only at h
    split at h
    · assumption
    · cases h
theorem worthOf_cas (h : List Nat) : Cas h (worthOf h) := by
  unfold worthOf
  split
  · exact .sf (by assumption)
  rename_i hr
  split
  · rename_i m hm
    unfold manyAlike at hm
    split at hm
    · rename_i h4
      cases e4 : ranksW (cnt h) 4 with
      | nil => rw [e4] at h4; simp at h4
      | cons a l =>
        rw [e4] at hm
        cases hm
        exact .four hr e4
    · rename_i h4
      split at hm
      · cases hm
      · rename_i a l e3
        split at hm
        · cases hm
        · rename_i b m e2
          cases hm
          exact .full hr (len0 (by omega)) e3 e2
  · rename_i hm
    obtain ⟨e4, e3⟩ := many_none hm
    split
    · rename_i hf
      exact .flush hr e4 e3 hf
    · rename_i hf
      have hf : flushR h = [] := Classical.byContradiction hf
      split
      · rename_i r hs
        exact .straight e4 e3 hf hs
      · rename_i hs
        unfold likeRanks
        split
        · rename_i h3
          cases q3 : ranksW (cnt h) 3 with
          | nil => rw [q3] at h3; simp at h3
          | cons a l =>
            exact .three e4 (e3 a l q3) hf hs q3
        · rename_i h3
          have q3 : ranksW (cnt h) 3 = [] := len0 (by omega)
          split
          · rename_i h2
            match q2 : ranksW (cnt h) 2, h2 with
            | a :: b :: l, _ => exact .two hf hs q3 q2
          · rename_i h2
            split
            · rename_i h1
              obtain ⟨a, ha⟩ := len1 h1
              rw [ha]
              exact .pair hf hs q3 ha
            · exact .none hf hs q3 (len0 (by omega))

/-! ### rows -/
theorem find_desc {p : Nat → Bool} : ∀ {l : List Nat} {y : Nat}, l.Pairwise (· > ·) → y ∈ l → p y = true → ∃ x, l.find? p = some x ∧ y ≤ x
  | [], y, _, h, _ => by simp at h
  | x :: l, y, hp, hy, py => by
    rw [List.find?_cons]
    cases e : p x with
    | true =>
      refine ⟨x, rfl, ?_⟩
      rcases List.mem_cons.mp hy with rfl | hy
      · exact Nat.le_refl _
      · have := (List.pairwise_cons.mp hp).1 y hy; omega
    | false =>
      rcases List.mem_cons.mp hy with rfl | hy
      · rw [py] at e; cases e
      · exact find_desc (List.pairwise_cons.mp hp).2 hy py
theorem highs_pw : highs.Pairwise (· > ·) := by decide
theorem mem_highs {a : Nat} : a ∈ highs ↔ 4 ≤ a ∧ a ≤ 12 := by
  simp [highs]; omega
theorem highRow_row {b : Nat → Bool} {a : Nat} (h4 : 4 ≤ a) (h12 : a ≤ 12) (h : rowAt b a = true) : ∃ r, highRow b = some r ∧ a ≤ r := by
  obtain ⟨x, e, hx⟩ := find_desc highs_pw (mem_highs.mpr ⟨h4, h12⟩) h
  exact ⟨x, by unfold highRow; rw [e], hx⟩
theorem highRow_wheel {b : Nat → Bool} (h : (b 12 && (b 0 && (b 1 && (b 2 && b 3)))) = true) : ∃ r, highRow b = some r ∧ 3 ≤ r := by
  unfold highRow
  cases e : highs.find? (rowAt b) with
  | some x => exact ⟨x, rfl, by have := mem_highs.mp (List.mem_of_find?_eq_some e); omega⟩
  | none => exact ⟨3, by simp only [if_pos h], Nat.le_refl _⟩
theorem highRow_is {b : Nat → Bool} {r : Nat} (h : highRow b = some r) : (4 ≤ r ∧ r ≤ 12 ∧ rowAt b r = true) ∨ (r = 3 ∧ (b 12 && (b 0 && (b 1 && (b 2 && b 3)))) = true) := by
  unfold highRow at h
  cases e : highs.find? (rowAt b) with
  | some x =>
    rw [e] at h
    cases h
    have := mem_highs.mp (List.mem_of_find?_eq_some e)
    exact .inl ⟨this.1, this.2, List.find?_some e⟩
  | none =>
    rw [e] at h
    simp only at h
    split at h
    · cases h; exact .inr ⟨rfl, by assumption⟩
    · cases h
end Bs
-- M4
namespace Bs
open Md21 (less larger choose rank suit groups)

/-! ### what five cards are worth, by their shape -/
theorem worth_four {s : List Nat} {a b : Nat} (e : groups s = [(4, a), (1, b)]) : Md21.worth s = [7, a, b] := by
  simp [Md21.worth, Md21.straight, e]
theorem worth_full {s : List Nat} {a b : Nat} (e : groups s = [(3, a), (2, b)]) : Md21.worth s = [6, a, b] := by
  simp [Md21.worth, Md21.straight, e]
theorem worth_three {s : List Nat} {a b c : Nat} (e : groups s = [(3, a), (1, b), (1, c)]) : Md21.worth s = if Md21.flush s = true then [5, a, b, c] else [3, a, b, c] := by
  simp [Md21.worth, Md21.straight, e]
theorem worth_two {s : List Nat} {a b c : Nat} (e : groups s = [(2, a), (2, b), (1, c)]) : Md21.worth s = if Md21.flush s = true then [5, a, b, c] else [2, a, b, c] := by
  simp [Md21.worth, Md21.straight, e]
theorem worth_pair {s : List Nat} {a b c d : Nat} (e : groups s = [(2, a), (1, b), (1, c), (1, d)]) : Md21.worth s = if Md21.flush s = true then [5, a, b, c, d] else [1, a, b, c, d] := by
  simp [Md21.worth, Md21.straight, e]
theorem worth_none {s : List Nat} {a b c d e : Nat} (q : groups s = [(1, a), (1, b), (1, c), (1, d), (1, e)]) :
    Md21.worth s = (match (if a = e + 4 then some a else if [a, b, c, d, e] = [12, 3, 2, 1, 0] then some 3 else none : Option Nat) with
      | some r => if Md21.flush s = true then [8, r] else [4, r]
      | none => if Md21.flush s = true then [5, a, b, c, d, e] else [0, a, b, c, d, e]) := by
  unfold Md21.worth Md21.straight
  simp only [q]
  simp
  generalize (if a = e + 4 then some a else if a = 12 ∧ b = 3 ∧ c = 2 ∧ d = 1 ∧ e = 0 then some 3 else none : Option Nat) = o
  cases o <;> rfl

/-! ### each kind against each case -/
theorem ge_len {A b : List Nat} {n : Nat} (hn : b.length = n) (h1 : A.Pairwise (· > ·)) (h2 : b.Pairwise (· > ·)) (h3 : ∀ x ∈ b, x ∈ A) : Ge (A.take n) b := by
  subst hn; exact ge_take h1 h2 h3
theorem others_ge {f : Nat → Nat} {xs b : List Nat} {n : Nat} (hn : b.length = n) (h2 : b.Pairwise (· > ·)) (h3 : ∀ x ∈ b, x < 13 ∧ 1 ≤ f x ∧ x ∉ xs) : Ge (others f xs n) b := by
  unfold others
  refine ge_len hn ((ranksW_pw f 1).filter _) h2 fun x hx => ?_
  obtain ⟨q1, q2, q3⟩ := h3 x hx
  rw [List.mem_filter]
  exact ⟨mem_ranksW.mpr ⟨q1, q2⟩, by simpa using q3⟩
theorem head_ge {l A : List Nat} {x a : Nat} (e : l = a :: A) (hp : l.Pairwise (· > ·)) (h : x ∈ l) : x ≤ a := by
  subst e
  rcases List.mem_cons.mp h with rfl | h
  · exact Nat.le_refl _
  · have := (List.pairwise_cons.mp hp).1 x h; omega

section
variable {h : List Nat} {W : Nat × List Nat}

theorem k8 {r r' : Nat} (e : sfRow h = some r') (hr : r ≤ r') (C : Cas h W) : Ge (W.1 :: W.2) [8, r] := by
  cases C with
  | sf q => rw [e] at q; cases q; exact ge_tail (ge_cons hr fun _ => ge_refl _)
  | four q | full q | flush q => rw [e] at q; cases q
  | straight _ _ q | three _ _ q | two q | pair q | none q => unfold sfRow at e; rw [q] at e; simp at e
theorem k7 {a b : Nat} (ha : a < 13) (ca : 4 ≤ cnt h a) (hb : b < 13) (cb : 1 ≤ cnt h b) (ne : b ≠ a) (C : Cas h W) : Ge (W.1 :: W.2) [7, a, b] := by
  have ma : a ∈ ranksW (cnt h) 4 := mem_ranksW.mpr ⟨ha, ca⟩
  have m3 : a ∈ ranksW (cnt h) 3 := ranksW_mono (by omega) ma
  have m2 : a ∈ ranksW (cnt h) 2 := ranksW_mono (by omega) ma
  cases C with
  | sf q => exact ge_head _ _ (by omega)
  | four q e4 =>
    refine ge_tail (ge_cons (head_ge e4 (ranksW_pw _ _) ma) fun e => ?_)
    subst e
    exact others_ge rfl (by simp) (by simpa using ⟨hb, cb, ne⟩)
  | full _ e4 | flush _ e4 | straight e4 | three e4 => rw [e4] at ma; simp at ma
  | two _ _ e3 | pair _ _ e3 | none _ _ e3 => rw [e3] at m3; simp at m3
theorem full_no {f : Nat → Nat} {a b : Nat} (ha : a < 13) (ca : 3 ≤ f a) (hb : b < 13) (cb : 2 ≤ f b) (ne : b ≠ a) (q : ∀ a l, ranksW f 3 = a :: l → ((ranksW f 2).filter fun r => decide (r ≠ a)) = []) : False := by
  have ma : a ∈ ranksW f 3 := mem_ranksW.mpr ⟨ha, ca⟩
  cases e : ranksW f 3 with
  | nil => rw [e] at ma; simp at ma
  | cons x l =>
    have q' := q x l e
    rw [List.filter_eq_nil_iff] at q'
    by_cases h : x = a
    · exact q' b (mem_ranksW.mpr ⟨hb, cb⟩) (by simp; omega)
    · exact q' a (mem_ranksW.mpr ⟨ha, by omega⟩) (by simp; omega)
theorem k6 {a b : Nat} (ha : a < 13) (ca : 3 ≤ cnt h a) (hb : b < 13) (cb : 2 ≤ cnt h b) (ne : b ≠ a) (C : Cas h W) : Ge (W.1 :: W.2) [6, a, b] := by
  have ma : a ∈ ranksW (cnt h) 3 := mem_ranksW.mpr ⟨ha, ca⟩
  have mb : b ∈ ranksW (cnt h) 2 := mem_ranksW.mpr ⟨hb, cb⟩
  cases C with
  | sf q => exact ge_head _ _ (by omega)
  | four q e4 => exact ge_head _ _ (by omega)
  | full _ _ e3 e2 =>
    refine ge_tail (ge_cons (head_ge e3 (ranksW_pw _ _) ma) fun e => ?_)
    subst e
    exact ge_cons (head_ge e2 ((ranksW_pw _ _).filter _) (List.mem_filter.mpr ⟨mb, by simpa using ne⟩)) fun _ => ge_refl _
  | flush _ _ q => exact (full_no ha ca hb cb ne q).elim
  | straight _ q => exact (full_no ha ca hb cb ne q).elim
  | three _ e2 _ _ e3 =>
    refine (full_no ha ca hb cb ne fun x l e => ?_).elim
    rw [e3] at e
    cases e
    exact e2
  | two _ _ e3 | pair _ _ e3 | none _ _ e3 => rw [e3] at ma; simp at ma
theorem k5 {l : List Nat} (hl : l.length = 5) (hp : l.Pairwise (· > ·)) (hm : ∀ x ∈ l, x ∈ flushR h) (C : Cas h W) (hfp : (flushR h).Pairwise (· > ·)) : Ge (W.1 :: W.2) (5 :: l) := by
  have ne : flushR h ≠ [] := by
    obtain ⟨a, b, c, d, e, rfl⟩ := len5 hl
    intro z
    have := hm a (by simp)
    rw [z] at this; simp at this
  cases C with
  | sf q => exact ge_head _ _ (by omega)
  | four q e4 => exact ge_head _ _ (by omega)
  | full _ _ e3 e2 => exact ge_head _ _ (by omega)
  | flush => exact ge_tail (ge_len hl hfp hp hm)
  | straight _ _ q | three _ _ q | two q | pair q | none q => exact absurd q ne
theorem k4 {r r' : Nat} (e : highRow (fun r => decide (0 < cnt h r)) = some r') (hr : r ≤ r') (C : Cas h W) : Ge (W.1 :: W.2) [4, r] := by
  cases C with
  | sf q => exact ge_head _ _ (by omega)
  | four q e4 => exact ge_head _ _ (by omega)
  | full _ _ e3 e2 => exact ge_head _ _ (by omega)
  | flush => exact ge_head _ _ (by omega)
  | straight _ _ _ q => rw [e] at q; cases q; exact ge_tail (ge_cons hr fun _ => ge_refl _)
  | three _ _ _ q | two _ q | pair _ q | none _ q => rw [e] at q; cases q
theorem k3 {a b c : Nat} (ha : a < 13) (ca : 3 ≤ cnt h a) (hb : b < 13) (cb : 1 ≤ cnt h b) (hc : c < 13) (cc : 1 ≤ cnt h c) (lt : c < b) (n1 : b ≠ a) (n2 : c ≠ a) (C : Cas h W) : Ge (W.1 :: W.2) [3, a, b, c] := by
  have ma : a ∈ ranksW (cnt h) 3 := mem_ranksW.mpr ⟨ha, ca⟩
  cases C with
  | sf q => exact ge_head _ _ (by omega)
  | four q e4 => exact ge_head _ _ (by omega)
  | full _ _ e3 e2 => exact ge_head _ _ (by omega)
  | flush => exact ge_head _ _ (by omega)
  | straight => exact ge_head _ _ (by omega)
  | three _ _ _ _ e3 =>
    refine ge_tail (ge_cons (head_ge e3 (ranksW_pw _ _) ma) fun e => ?_)
    subst e
    exact others_ge rfl (by simpa using lt) (by simpa using ⟨⟨hb, cb, n1⟩, hc, cc, n2⟩)
  | two _ _ e3 | pair _ _ e3 | none _ _ e3 => rw [e3] at ma; simp at ma
theorem k2 {a b c : Nat} (ha : a < 13) (ca : 2 ≤ cnt h a) (hb : b < 13) (cb : 2 ≤ cnt h b) (hc : c < 13) (cc : 1 ≤ cnt h c) (lt : b < a) (n1 : c ≠ a) (n2 : c ≠ b) (C : Cas h W) : Ge (W.1 :: W.2) [2, a, b, c] := by
  have ma : a ∈ ranksW (cnt h) 2 := mem_ranksW.mpr ⟨ha, ca⟩
  have mb : b ∈ ranksW (cnt h) 2 := mem_ranksW.mpr ⟨hb, cb⟩
  cases C with
  | sf q => exact ge_head _ _ (by omega)
  | four q e4 => exact ge_head _ _ (by omega)
  | full _ _ e3 e2 => exact ge_head _ _ (by omega)
  | flush => exact ge_head _ _ (by omega)
  | straight => exact ge_head _ _ (by omega)
  | three => exact ge_head _ _ (by omega)
  | @two x y l _ _ _ e2 =>
    have g := ge_len (A := ranksW (cnt h) 2) (b := [a, b]) (n := 2) rfl (ranksW_pw _ _) (by simpa using lt) (by simpa using ⟨ma, mb⟩)
    rw [e2] at g
    have g' : Ge [x, y] [a, b] := g
    refine ge_tail (ge_append (a := [x, y]) (b := [a, b]) rfl g' fun e => ?_)
    cases e
    exact others_ge rfl (by simp) (by simpa using ⟨hc, cc, n1, n2⟩)
  | pair _ _ _ e2 =>
    rw [e2] at ma mb
    simp at ma mb
    omega
  | none _ _ _ e2 => rw [e2] at ma; simp at ma
theorem k1 {a b c d : Nat} (ha : a < 13) (ca : 2 ≤ cnt h a) (hb : b < 13) (cb : 1 ≤ cnt h b) (hc : c < 13) (cc : 1 ≤ cnt h c) (hd : d < 13) (cd : 1 ≤ cnt h d) (l1 : c < b) (l2 : d < c) (n1 : b ≠ a) (n2 : c ≠ a) (n3 : d ≠ a) (C : Cas h W) : Ge (W.1 :: W.2) [1, a, b, c, d] := by
  have ma : a ∈ ranksW (cnt h) 2 := mem_ranksW.mpr ⟨ha, ca⟩
  cases C with
  | sf q => exact ge_head _ _ (by omega)
  | four q e4 => exact ge_head _ _ (by omega)
  | full _ _ e3 e2 => exact ge_head _ _ (by omega)
  | flush => exact ge_head _ _ (by omega)
  | straight => exact ge_head _ _ (by omega)
  | three => exact ge_head _ _ (by omega)
  | two => exact ge_head _ _ (by omega)
  | pair _ _ _ e2 =>
    refine ge_tail (ge_cons (head_ge e2 (ranksW_pw _ _) ma) fun e => ?_)
    subst e
    exact others_ge rfl (by simp; omega) (by simpa using ⟨⟨hb, cb, n1⟩, ⟨hc, cc, n2⟩, hd, cd, n3⟩)
  | none _ _ _ e2 => rw [e2] at ma; simp at ma
theorem k0 {l : List Nat} (hl : l.length = 5) (hp : l.Pairwise (· > ·)) (hm : ∀ x ∈ l, x < 13 ∧ 1 ≤ cnt h x) (C : Cas h W) : Ge (W.1 :: W.2) (0 :: l) := by
  cases C with
  | sf q => exact ge_head _ _ (by omega)
  | four q e4 => exact ge_head _ _ (by omega)
  | full _ _ e3 e2 => exact ge_head _ _ (by omega)
  | flush => exact ge_head _ _ (by omega)
  | straight => exact ge_head _ _ (by omega)
  | three => exact ge_head _ _ (by omega)
  | two => exact ge_head _ _ (by omega)
  | pair => exact ge_head _ _ (by omega)
  | none => exact ge_tail (others_ge hl hp fun x hx => ⟨(hm x hx).1, (hm x hx).2, by simp⟩)
end

/-! ### flushes -/
theorem flush_iff {s : List Nat} : Md21.flush s = true ↔ ∃ u, u < 4 ∧ ∀ c ∈ s, suit c = u := by
  simp [Md21.flush]
theorem filters_le {p q : Nat → Bool} (h : ∀ x, p x = true → q x = true → False) : ∀ l : List Nat, (l.filter p).length + (l.filter q).length ≤ l.length
  | [] => Nat.le_refl _
  | x :: l => by
    have ih := filters_le h l
    have hx := h x
    rw [List.filter_cons, List.filter_cons]
    cases e1 : p x <;> cases e2 : q x <;> simp <;> first | omega | exact (hx e1 e2).elim
theorem flushR_at {h : List Nat} {u : Nat} (h7 : h.length ≤ 7) (hu : u < 4) (h5 : 5 ≤ suitMany h u) : flushR h = suitedOf h u := by
  unfold flushR
  cases e : (List.range 4).find? fun s => decide (5 ≤ suitMany h s) with
  | none =>
    rw [List.find?_eq_none] at e
    exact absurd (decide_eq_true h5) (e u (List.mem_range.mpr hu))
  | some v =>
    have hv := List.find?_some e
    simp only [decide_eq_true_eq] at hv
    by_cases q : v = u
    · rw [q]
    · have : suitMany h v + suitMany h u ≤ h.length := filters_le (fun x h1 h2 => by
        simp at h1 h2; omega) h
      omega
theorem mem_suitedOf {h : List Nat} {u r : Nat} : r ∈ suitedOf h u ↔ r < 13 ∧ 4 * r + u ∈ h := by
  unfold suitedOf; rw [mem_desc]; simp
theorem flushR_pw (h : List Nat) : (flushR h).Pairwise (· > ·) := by
  unfold flushR
  split
  · exact desc_pw _
  · exact .nil
theorem card_of {c u r : Nat} (h1 : rank c = r) (h2 : suit c = u) : c = 4 * r + u := by
  unfold rank at h1; unfold suit at h2; omega
theorem flush_in {h s : List Nat} {u : Nat} (h7 : h.length ≤ 7) (hs : s.Sublist h) (F : Five s) (hu : u < 4) (ha : ∀ c ∈ s, suit c = u) : flushR h = suitedOf h u ∧ (∀ r, 0 < cnt s r → r ∈ flushR h) ∧ ∀ r, cnt s r ≤ 1 := by
  have e5 : 5 ≤ suitMany h u := by
    have q := (hs.filter fun c => suit c == u).length_le
    have q2 : s.filter (fun c => suit c == u) = s := List.filter_eq_self.mpr fun c hc => by simpa using ha c hc
    rw [q2, F.len] at q
    exact q
  have e := flushR_at h7 hu e5
  refine ⟨e, fun r hr => ?_, fun r => ?_⟩
  · obtain ⟨c, hc, rfl⟩ := cnt_pos.mp hr
    rw [e, mem_suitedOf]
    have := F.lt c hc
    exact ⟨by unfold rank; omega, by rw [← card_of rfl (ha c hc)]; exact hs.subset hc⟩
  · have := nodup_le (l := s.filter fun c => rank c == r) (m := [4 * r + u]) (F.nd.filter _) fun x hx => by
      obtain ⟨q1, q2⟩ := List.mem_filter.mp hx
      simp only [beq_iff_eq] at q2
      simpa using card_of q2 (ha x q1)
    simpa [cnt] using this

/-! ### the upper bound -/
theorem upper {h s : List Nat} {W : Nat × List Nat} (h7 : h.length ≤ 7) (hs : s.Sublist h) (F : Five s) (C : Cas h W) : Ge (W.1 :: W.2) (Md21.worth s) := by
  have up := cnt_sub hs
  have noF : ∀ r, 2 ≤ cnt s r → Md21.flush s = false := fun r hr => by
    cases e : Md21.flush s with
    | false => rfl
    | true =>
      obtain ⟨u, hu, ha⟩ := flush_iff.mp e
      have := (flush_in h7 hs F hu ha).2.2 r
      omega
  have S := F.shape
  generalize eg : groups s = g at S
  cases S with
  | @four a b ha hb =>
    rw [worth_four eg]
    have := up a; have := up b
    exact k7 ha.1 (by omega) hb.1 (by omega) (by rintro rfl; omega) C
  | @full a b ha hb =>
    rw [worth_full eg]
    have := up a; have := up b
    exact k6 ha.1 (by omega) hb.1 (by omega) (by rintro rfl; omega) C
  | @three a b c ha hb hc hlt =>
    rw [worth_three eg, noF a (by omega)]
    have := up a; have := up b; have := up c
    exact k3 ha.1 (by omega) hb.1 (by omega) hc.1 (by omega) hlt (by rintro rfl; omega) (by rintro rfl; omega) C
  | @two a b c ha hb hc hlt =>
    rw [worth_two eg, noF a (by omega)]
    have := up a; have := up b; have := up c
    exact k2 ha.1 (by omega) hb.1 (by omega) hc.1 (by omega) hlt (by rintro rfl; omega) (by rintro rfl; omega) C
  | @pair a b c d ha hb hc hd hlt hlt' =>
    rw [worth_pair eg, noF a (by omega)]
    have := up a; have := up b; have := up c; have := up d
    exact k1 ha.1 (by omega) hb.1 (by omega) hc.1 (by omega) hd.1 (by omega) hlt hlt' (by rintro rfl; omega) (by rintro rfl; omega) (by rintro rfl; omega) C
  | @none a b c d e ha hb hc hd he h1 h2 h3 h4 =>
    have pw : [a, b, c, d, e].Pairwise (· > ·) := by simp; omega
    have all : ∀ x ∈ [a, b, c, d, e], x < 13 ∧ cnt s x = 1 := by
      simp only [List.mem_cons, List.not_mem_nil, or_false]
      rintro x (rfl | rfl | rfl | rfl | rfl) <;> assumption
    have one : ∀ x ∈ [a, b, c, d, e], x < 13 ∧ 1 ≤ cnt h x := fun x hx => ⟨(all x hx).1, by have := up x; have := (all x hx).2; omega⟩
    rw [worth_none eg]
    -- rows
    have row : ∀ B : Nat → Bool, (∀ x ∈ [a, b, c, d, e], B x = true) → ∀ r, (if a = e + 4 then some a else if [a, b, c, d, e] = [12, 3, 2, 1, 0] then some 3 else none : Option Nat) = some r → ∃ r', highRow B = some r' ∧ r ≤ r' := fun B hB r hr => by
      have Ba := hB a (by simp); have Bb := hB b (by simp); have Bc := hB c (by simp); have Bd := hB d (by simp); have Be := hB e (by simp)
      split at hr
      · cases hr
        refine highRow_row (by omega) (by omega) ?_
        have eb : a - 1 = b := by omega
        have ec : a - 2 = c := by omega
        have ed : a - 3 = d := by omega
        have ee : a - 4 = e := by omega
        unfold rowAt
        rw [eb, ec, ed, ee, Ba, Bb, Bc, Bd, Be]
        rfl
      · split at hr
        · rename_i q
          cases hr
          cases q
          refine highRow_wheel ?_
          rw [Ba, Bb, Bc, Bd, Be]
          rfl
        · cases hr
    cases fl : Md21.flush s with
    | true =>
      obtain ⟨u, hu, hsu⟩ := flush_iff.mp fl
      obtain ⟨f1, f2, f3⟩ := flush_in h7 hs F hu hsu
      have inF : ∀ x ∈ [a, b, c, d, e], x ∈ flushR h := fun x hx => f2 x (by rw [(all x hx).2]; exact Nat.one_pos)
      split
      · rename_i r hr
        obtain ⟨r', e', le⟩ := row (fun r => (flushR h).contains r) (fun x hx => by simpa using inF x hx) r hr
        have ne : flushR h ≠ [] := fun z => by have := inF a (by simp); rw [z] at this; simp at this
        simp only [if_true]
        exact k8 (by unfold sfRow; rw [if_neg ne]; exact e') le C
      · simp only [if_true]
        exact k5 (l := [a, b, c, d, e]) rfl pw inF C (flushR_pw h)
    | false =>
      split
      · rename_i r hr
        obtain ⟨r', e', le⟩ := row (fun r => decide (0 < cnt h r)) (fun x hx => decide_eq_true (one x hx).2) r hr
        simp only [Bool.false_eq_true, if_false]
        exact k4 e' le C
      · simp only [Bool.false_eq_true, if_false]
        exact k0 (l := [a, b, c, d, e]) rfl pw one C
end Bs
-- M5
namespace Bs
open Md21 (less larger choose rank suit groups)

/-! ### taking so many of each rank -/
def takeQ : (Nat → Nat) → List Nat → List Nat
  | _, [] => []
  | q, c :: h => if 0 < q (rank c) then c :: takeQ (fun r => if r = rank c then q r - 1 else q r) h else takeQ q h
theorem takeQ_sub : ∀ (h : List Nat) (q : Nat → Nat), (takeQ q h).Sublist h
  | [], _ => .slnil
  | c :: h, q => by
    unfold takeQ
    split
    · exact (takeQ_sub h _).cons_cons c
    · exact (takeQ_sub h q).cons c
theorem takeQ_cnt : ∀ (h : List Nat) (q : Nat → Nat) (r : Nat), cnt (takeQ q h) r = min (q r) (cnt h r)
  | [], q, r => by simp [takeQ, cnt_nil]
  | c :: h, q, r => by
    unfold takeQ
    split
    · rename_i hq
      rw [cnt_cons, cnt_cons, takeQ_cnt h]
      by_cases e : rank c = r
      · subst e; simp; omega
      · have e' : ¬ r = rank c := fun z => e z.symm
        simp [e, e']
    · rename_i hq
      rw [cnt_cons, takeQ_cnt h]
      by_cases e : rank c = r
      · subst e; simp; omega
      · simp [e]
/-- so many of each rank, told by a list -/
def qty : List (Nat × Nat) → Nat → Nat
  | [], _ => 0
  | x :: l, r => (if x.2 = r then x.1 else 0) + qty l r
theorem sum_ind2 (k r : Nat) (h : r < 13) : ((List.range 13).map fun x => if r = x then k else 0).sum = k := by
  have e : (fun x => if r = x then k else 0) = fun x => k * (if r = x then 1 else 0) := by
    funext x; split <;> simp
  have mul : ∀ (f : Nat → Nat) (l : List Nat), (l.map fun x => k * f x).sum = k * (l.map f).sum := fun f l => by
    induction l with
    | nil => rfl
    | cons a l ih => simp [ih, Nat.mul_add]
  rw [e, mul, sum_ind r h]
  omega
theorem sum_qty : ∀ (l : List (Nat × Nat)), (∀ x ∈ l, x.2 < 13) → ((List.range 13).map (qty l)).sum = (l.map (·.1)).sum
  | [], _ => by decide
  | x :: l, h => by
    have e : qty (x :: l) = fun r => (if x.2 = r then x.1 else 0) + qty l r := rfl
    rw [e, sum_map_add, sum_ind2 _ _ (h x List.mem_cons_self), sum_qty l fun y hy => h y (List.mem_cons_of_mem _ hy), List.map_cons, List.sum_cons]
theorem take_five {h : List Nat} (hn : h.Nodup) (hl : ∀ c ∈ h, c < 52) (l : List (Nat × Nat)) (h5 : (l.map (·.1)).sum = 5) (h13 : ∀ x ∈ l, x.2 < 13) (hq : ∀ r, qty l r ≤ cnt h r) :
    ∃ s, s.Sublist h ∧ Five s ∧ ∀ r, cnt s r = qty l r := by
  have sb := takeQ_sub h (qty l)
  have e : ∀ r, cnt (takeQ (qty l) h) r = qty l r := fun r => by rw [takeQ_cnt]; have := hq r; omega
  refine ⟨_, sb, ⟨hn.sublist sb, fun c hc => hl c (sb.subset hc), ?_⟩, e⟩
  rw [← sum_cnt _ fun c hc => hl c (sb.subset hc), show cnt (takeQ (qty l) h) = qty l from funext e, sum_qty l h13, h5]

/-! ### the shape told by the counts -/
theorem single {f : Nat → Nat} {k a : Nat} (ha : a < 13) (h : ∀ r, r < 13 → (f r = k ↔ r = a)) : (desc fun r => f r == k) = [a] :=
  desc_eq (by simp) fun r => by
    simp only [List.mem_singleton, beq_iff_eq]
    constructor
    · rintro rfl; exact ⟨ha, (h r ha).mpr rfl⟩
    · rintro ⟨h1, h2⟩; exact (h r h1).mp h2
theorem shape_list {f : Nat → Nat} {k : Nat} {l : List Nat} (hp : l.Pairwise (· > ·)) (h13 : ∀ x ∈ l, x < 13) (h : ∀ r, r < 13 → (f r = k ↔ r ∈ l)) : (desc fun r => f r == k) = l :=
  desc_eq hp fun r => by
    simp only [beq_iff_eq]
    constructor
    · intro hr; exact ⟨h13 r hr, (h r (h13 r hr)).mpr hr⟩
    · rintro ⟨h1, h2⟩; exact (h r h1).mp h2
theorem groups_of {s : List Nat} {l4 l3 l2 l1 : List Nat} (h4 : (desc fun r => cnt s r == 4) = l4) (h3 : (desc fun r => cnt s r == 3) = l3) (h2 : (desc fun r => cnt s r == 2) = l2) (h1 : (desc fun r => cnt s r == 1) = l1) :
    groups s = l4.map (fun r => (4, r)) ++ (l3.map (fun r => (3, r)) ++ (l2.map (fun r => (2, r)) ++ l1.map (fun r => (1, r)))) := by
  rw [groups_eq, h4, h3, h2, h1]

theorem ge_flush5 {s : List Nat} {k : Nat} {l : List Nat} (hk : k ≤ 5) : Ge (if Md21.flush s = true then 5 :: l else k :: l) (k :: l) := by
  split
  · rcases Nat.lt_or_ge k 5 with h | h
    · exact ge_head _ _ h
    · have : k = 5 := by omega
      subst this; exact ge_refl _
  · exact ge_refl _

/-- five of h that are worth at least so much -/
abbrev Has (h : List Nat) (w : List Nat) : Prop := ∃ s, s.Sublist h ∧ Five s ∧ Ge (Md21.worth s) w

section
variable {h : List Nat} (hn : h.Nodup) (hl : ∀ c ∈ h, c < 52)
include hn hl
theorem has7 {a b : Nat} (ha : a < 13) (ca : 4 ≤ cnt h a) (hb : b < 13) (cb : 1 ≤ cnt h b) (ne : b ≠ a) : Has h [7, a, b] := by
  obtain ⟨s, hs, F, e⟩ := take_five hn hl [(4, a), (1, b)] (by rfl) (by simp; omega) (fun r => by simp [qty]; ((repeat' split) <;> (try subst_vars) <;> omega))
  refine ⟨s, hs, F, ?_⟩
  have g : groups s = [(4, a), (1, b)] := by
    have e' : ∀ r, cnt s r = (if a = r then 4 else 0) + ((if b = r then 1 else 0) + 0) := e
    refine groups_of (l4 := [a]) (l3 := []) (l2 := []) (l1 := [b]) (shape_list ?_ ?_ ?_) (shape_list ?_ ?_ ?_) (shape_list ?_ ?_ ?_) (shape_list ?_ ?_ ?_)
    all_goals first
      | (simp; done)
      | (simp; omega)
      | (intro r hr; rw [e']; simp; ((repeat' split) <;> (try subst_vars) <;> omega))
  rw [worth_four g]
  exact ge_refl _
theorem has6 {a b : Nat} (ha : a < 13) (ca : 3 ≤ cnt h a) (hb : b < 13) (cb : 2 ≤ cnt h b) (ne : b ≠ a) : Has h [6, a, b] := by
  obtain ⟨s, hs, F, e⟩ := take_five hn hl [(3, a), (2, b)] (by rfl) (by simp; omega) (fun r => by simp [qty]; ((repeat' split) <;> (try subst_vars) <;> omega))
  refine ⟨s, hs, F, ?_⟩
  have g : groups s = [(3, a), (2, b)] := by
    have e' : ∀ r, cnt s r = (if a = r then 3 else 0) + ((if b = r then 2 else 0) + 0) := e
    refine groups_of (l4 := []) (l3 := [a]) (l2 := [b]) (l1 := []) (shape_list ?_ ?_ ?_) (shape_list ?_ ?_ ?_) (shape_list ?_ ?_ ?_) (shape_list ?_ ?_ ?_)
    all_goals first
      | (simp; done)
      | (simp; omega)
      | (intro r hr; rw [e']; simp; ((repeat' split) <;> (try subst_vars) <;> omega))
  rw [worth_full g]
  exact ge_refl _
theorem has3 {a b c : Nat} (ha : a < 13) (ca : 3 ≤ cnt h a) (hb : b < 13) (cb : 1 ≤ cnt h b) (hc : c < 13) (cc : 1 ≤ cnt h c) (lt : c < b) (n1 : b ≠ a) (n2 : c ≠ a) : Has h [3, a, b, c] := by
  obtain ⟨s, hs, F, e⟩ := take_five hn hl [(3, a), (1, b), (1, c)] (by rfl) (by simp; omega) (fun r => by simp [qty]; ((repeat' split) <;> (try subst_vars) <;> omega))
  refine ⟨s, hs, F, ?_⟩
  have g : groups s = [(3, a), (1, b), (1, c)] := by
    have e' : ∀ r, cnt s r = (if a = r then 3 else 0) + ((if b = r then 1 else 0) + ((if c = r then 1 else 0) + 0)) := e
    refine groups_of (l4 := []) (l3 := [a]) (l2 := []) (l1 := [b, c]) (shape_list ?_ ?_ ?_) (shape_list ?_ ?_ ?_) (shape_list ?_ ?_ ?_) (shape_list ?_ ?_ ?_)
    all_goals first
      | (simp; done)
      | (simp; omega)
      | (intro r hr; rw [e']; simp; ((repeat' split) <;> (try subst_vars) <;> omega))
  rw [worth_three g]
  exact ge_flush5 (by omega)
theorem has2 {a b c : Nat} (ha : a < 13) (ca : 2 ≤ cnt h a) (hb : b < 13) (cb : 2 ≤ cnt h b) (hc : c < 13) (cc : 1 ≤ cnt h c) (lt : b < a) (n1 : c ≠ a) (n2 : c ≠ b) : Has h [2, a, b, c] := by
  obtain ⟨s, hs, F, e⟩ := take_five hn hl [(2, a), (2, b), (1, c)] (by rfl) (by simp; omega) (fun r => by simp [qty]; ((repeat' split) <;> (try subst_vars) <;> omega))
  refine ⟨s, hs, F, ?_⟩
  have g : groups s = [(2, a), (2, b), (1, c)] := by
    have e' : ∀ r, cnt s r = (if a = r then 2 else 0) + ((if b = r then 2 else 0) + ((if c = r then 1 else 0) + 0)) := e
    refine groups_of (l4 := []) (l3 := []) (l2 := [a, b]) (l1 := [c]) (shape_list ?_ ?_ ?_) (shape_list ?_ ?_ ?_) (shape_list ?_ ?_ ?_) (shape_list ?_ ?_ ?_)
    all_goals first
      | (simp; done)
      | (simp; omega)
      | (intro r hr; rw [e']; simp; ((repeat' split) <;> (try subst_vars) <;> omega))
  rw [worth_two g]
  exact ge_flush5 (by omega)
theorem has1 {a b c d : Nat} (ha : a < 13) (ca : 2 ≤ cnt h a) (hb : b < 13) (cb : 1 ≤ cnt h b) (hc : c < 13) (cc : 1 ≤ cnt h c) (hd : d < 13) (cd : 1 ≤ cnt h d) (l1 : c < b) (l2 : d < c) (n1 : b ≠ a) (n2 : c ≠ a) (n3 : d ≠ a) : Has h [1, a, b, c, d] := by
  obtain ⟨s, hs, F, e⟩ := take_five hn hl [(2, a), (1, b), (1, c), (1, d)] (by rfl) (by simp; omega) (fun r => by simp [qty]; ((repeat' split) <;> (try subst_vars) <;> omega))
  refine ⟨s, hs, F, ?_⟩
  have g : groups s = [(2, a), (1, b), (1, c), (1, d)] := by
    have e' : ∀ r, cnt s r = (if a = r then 2 else 0) + ((if b = r then 1 else 0) + ((if c = r then 1 else 0) + ((if d = r then 1 else 0) + 0))) := e
    refine groups_of (l4 := []) (l3 := []) (l2 := [a]) (l1 := [b, c, d]) (shape_list ?_ ?_ ?_) (shape_list ?_ ?_ ?_) (shape_list ?_ ?_ ?_) (shape_list ?_ ?_ ?_)
    all_goals first
      | (simp; done)
      | (simp; omega)
      | (intro r hr; rw [e']; simp; ((repeat' split) <;> (try subst_vars) <;> omega))
  rw [worth_pair g]
  exact ge_flush5 (by omega)
omit hn hl in
theorem groups_ones {s : List Nat} {l : List Nat} (hp : l.Pairwise (· > ·)) (h13 : ∀ x ∈ l, x < 13) (e : ∀ r, r < 13 → cnt s r = if r ∈ l then 1 else 0) : groups s = l.map (fun r => (1, r)) := by
  have := groups_of (s := s) (l4 := []) (l3 := []) (l2 := []) (l1 := l) (shape_list .nil (by simp) fun r hr => by rw [e r hr]; split <;> simp) (shape_list .nil (by simp) fun r hr => by rw [e r hr]; split <;> simp) (shape_list .nil (by simp) fun r hr => by rw [e r hr]; split <;> simp) (shape_list hp h13 fun r hr => by rw [e r hr]; split <;> simp [*])
  simpa using this
omit hn hl in
theorem qty_ones : ∀ (l : List Nat), l.Nodup → ∀ r, qty (l.map fun x => (1, x)) r = if r ∈ l then 1 else 0
  | [], _, r => rfl
  | x :: l, hn, r => by
    have hx := List.nodup_cons.mp hn
    show (if x = r then 1 else 0) + qty (l.map fun x => (1, x)) r = _
    rw [qty_ones l hx.2 r]
    by_cases e : x = r
    · subst e; simp [hx.1]
    · have e' : ¬ r = x := fun z => e z.symm
      simp [e, e']
/-- five ranks that are there -/
theorem take_ones {l : List Nat} (h5 : l.length = 5) (hp : l.Pairwise (· > ·)) (hm : ∀ x ∈ l, x < 13 ∧ 1 ≤ cnt h x) : ∃ s, s.Sublist h ∧ Five s ∧ groups s = l.map (fun r => (1, r)) := by
  obtain ⟨s, hs, F, e⟩ := take_five hn hl (l.map fun x => (1, x)) (by
      rw [List.map_map]
      obtain ⟨a, b, c, d, e, rfl⟩ := len5 h5
      rfl) (by simpa using fun x hx => (hm x hx).1) (fun r => by
      rw [qty_ones l (pw_nodup hp)]
      split
      · exact (hm r (by assumption)).2
      · exact Nat.zero_le _)
  exact ⟨s, hs, F, groups_ones hp (fun x hx => (hm x hx).1) fun r _ => by rw [e, qty_ones l (pw_nodup hp)]⟩
theorem has0 {l : List Nat} (h5 : l.length = 5) (hp : l.Pairwise (· > ·)) (hm : ∀ x ∈ l, x < 13 ∧ 1 ≤ cnt h x) : Has h (0 :: l) := by
  obtain ⟨s, hs, F, g⟩ := take_ones hn hl h5 hp hm
  refine ⟨s, hs, F, ?_⟩
  obtain ⟨a, b, c, d, e, rfl⟩ := len5 h5
  rw [worth_none g]
  split
  · split <;> exact ge_head _ _ (by omega)
  · exact ge_flush5 (by omega)
omit hn hl in
theorem straight_of {a b c d e r : Nat} (q : (r = a ∧ a = e + 4) ∨ (r = 3 ∧ [a, b, c, d, e] = [12, 3, 2, 1, 0])) : (if a = e + 4 then some a else if [a, b, c, d, e] = [12, 3, 2, 1, 0] then some 3 else none : Option Nat) = some r := by
  rcases q with ⟨rfl, q⟩ | ⟨rfl, q⟩
  · rw [if_pos q]
  · rw [if_neg (by cases q; omega), if_pos q]
/-- the five ranks of a row -/
def rowOf (r : Nat) : List Nat := if r = 3 then [12, 3, 2, 1, 0] else [r, r - 1, r - 2, r - 3, r - 4]
omit hn hl in
theorem rowOf_len (r : Nat) : (rowOf r).length = 5 := by unfold rowOf; split <;> rfl
omit hn hl in
theorem row_is {b : Nat → Bool} {r : Nat} (e : highRow b = some r) : (rowOf r).Pairwise (· > ·) ∧ (∀ x ∈ rowOf r, x < 13 ∧ b x = true) ∧ ∃ a b c d e, rowOf r = [a, b, c, d, e] ∧ ((r = a ∧ a = e + 4) ∨ (r = 3 ∧ [a, b, c, d, e] = [12, 3, 2, 1, 0])) := by
  rcases highRow_is e with ⟨h4, h12, q⟩ | ⟨rfl, q⟩
  · have e3 : rowOf r = [r, r - 1, r - 2, r - 3, r - 4] := if_neg (by omega)
    rw [e3]
    unfold rowAt at q
    simp only [Bool.and_eq_true] at q
    refine ⟨by simp; omega, ?_, _, _, _, _, _, rfl, .inl ⟨rfl, by omega⟩⟩
    simp only [List.mem_cons, List.not_mem_nil, or_false]
    rintro x (rfl | rfl | rfl | rfl | rfl)
    · exact ⟨by omega, q.1⟩
    · exact ⟨by omega, q.2.1⟩
    · exact ⟨by omega, q.2.2.1⟩
    · exact ⟨by omega, q.2.2.2.1⟩
    · exact ⟨by omega, q.2.2.2.2⟩
  · have e3 : rowOf 3 = [12, 3, 2, 1, 0] := rfl
    rw [e3]
    simp only [Bool.and_eq_true] at q
    refine ⟨by decide, ?_, _, _, _, _, _, rfl, .inr ⟨rfl, rfl⟩⟩
    simp only [List.mem_cons, List.not_mem_nil, or_false]
    rintro x (rfl | rfl | rfl | rfl | rfl)
    · exact ⟨by omega, q.1⟩
    · exact ⟨by omega, q.2.2.2.2⟩
    · exact ⟨by omega, q.2.2.2.1⟩
    · exact ⟨by omega, q.2.2.1⟩
    · exact ⟨by omega, q.2.1⟩
theorem has4 {r : Nat} (e : highRow (fun r => decide (0 < cnt h r)) = some r) : Has h [4, r] := by
  obtain ⟨hp, hm, a, b, c, d, e, q, q2⟩ := row_is e
  obtain ⟨s, hs, F, g⟩ := take_ones hn hl (rowOf_len r) hp fun x hx => ⟨(hm x hx).1, of_decide_eq_true (hm x hx).2⟩
  refine ⟨s, hs, F, ?_⟩
  rw [q] at g
  rw [worth_none g, straight_of q2]
  simp only
  split
  · exact ge_head _ _ (by omega)
  · exact ge_refl _
omit hn hl in
theorem nodup_ext : ∀ {a b : List Nat}, a.Nodup → b.Nodup → (∀ x, x ∈ a ↔ x ∈ b) → a.length = b.length := fun ha hb h =>
  Nat.le_antisymm (nodup_le ha fun x hx => (h x).mp hx) (nodup_le hb fun x hx => (h x).mpr hx)
/-- five ranks of one suit -/
theorem take_suit {l : List Nat} {u : Nat} (hu : u < 4) (h5 : l.length = 5) (hp : l.Pairwise (· > ·)) (hm : ∀ x ∈ l, x ∈ suitedOf h u) : ∃ s, s.Sublist h ∧ Five s ∧ groups s = l.map (fun r => (1, r)) ∧ Md21.flush s = true := by
  have sb : (h.filter fun c => suit c == u && l.contains (rank c)).Sublist h := List.filter_sublist
  have l13 : ∀ x ∈ l, x < 13 := fun x hx => (mem_suitedOf.mp (hm x hx)).1
  have ec : ∀ r, r < 13 → cnt (h.filter fun c => suit c == u && l.contains (rank c)) r = if r ∈ l then 1 else 0 := fun r _ => by
    unfold cnt
    rw [List.filter_filter]
    split
    · rename_i hr
      have ei : 4 * r + u ∈ h := (mem_suitedOf.mp (hm r hr)).2
      refine nodup_ext (b := [4 * r + u]) (hn.filter _) (by simp) fun x => ?_
      rw [List.mem_filter]
      simp only [List.mem_singleton, Bool.and_eq_true, beq_iff_eq, List.contains_iff_mem]
      constructor
      · rintro ⟨_, q1, q2, _⟩; exact card_of q1 q2
      · rintro rfl
        have e1 : rank (4 * r + u) = r := by unfold rank; omega
        have e2 : suit (4 * r + u) = u := by unfold suit; omega
        exact ⟨ei, e1, e2, by rw [e1]; exact hr⟩
    · rename_i hr
      rw [List.length_eq_zero_iff, List.filter_eq_nil_iff]
      intro c _ q
      simp at q
      exact hr (q.1 ▸ q.2.2)
  have F : Five (h.filter fun c => suit c == u && l.contains (rank c)) := by
    refine ⟨hn.filter _, fun c hc => hl c (sb.subset hc), ?_⟩
    rw [← sum_cnt _ fun c hc => hl c (sb.subset hc)]
    have e : (List.range 13).map (cnt (h.filter fun c => suit c == u && l.contains (rank c))) = (List.range 13).map (qty (l.map fun x => (1, x))) := by
      refine List.map_congr_left fun r hr => ?_
      rw [ec r (List.mem_range.mp hr), qty_ones l (pw_nodup hp)]
    rw [e, sum_qty _ (by simpa using l13), List.map_map]
    obtain ⟨a, b, c, d, e, rfl⟩ := len5 h5
    rfl
  refine ⟨_, sb, F, groups_ones hp l13 ec, flush_iff.mpr ⟨u, hu, fun c hc => ?_⟩⟩
  have := (List.mem_filter.mp hc).2
  simp at this
  exact this.1
omit hn hl in
theorem flushR_suit {h : List Nat} (e : flushR h ≠ []) : ∃ u, u < 4 ∧ flushR h = suitedOf h u ∧ 5 ≤ suitMany h u := by
  unfold flushR at *
  cases q : (List.range 4).find? fun s => decide (5 ≤ suitMany h s) with
  | none => rw [q] at e; exact absurd rfl e
  | some u => exact ⟨u, List.mem_range.mp (List.mem_of_find?_eq_some q), rfl, by simpa using List.find?_some q⟩
omit hl in
theorem suited_len (hl : ∀ c ∈ h, c < 52) (u : Nat) (hu : u < 4) : (suitedOf h u).length = suitMany h u := by
  unfold suitMany
  have e : ((suitedOf h u).map fun r => 4 * r + u).length = (suitedOf h u).length := List.length_map _
  rw [← e]
  refine nodup_ext ?_ (hn.filter _) fun x => ?_
  · exact List.pairwise_map.mpr ((desc_pw _).imp fun {a b} h => by omega)
  · rw [List.mem_filter, List.mem_map]
    constructor
    · rintro ⟨r, hr, rfl⟩
      exact ⟨(mem_suitedOf.mp hr).2, by simp [suit]; omega⟩
    · rintro ⟨h1, h2⟩
      simp only [suit, beq_iff_eq] at h2
      have := hl x h1
      refine ⟨x / 4, mem_suitedOf.mpr ⟨by omega, ?_⟩, by omega⟩
      rw [show 4 * (x / 4) + u = x by omega]
      exact h1
theorem has8 {r : Nat} (e : sfRow h = some r) : Has h [8, r] := by
  unfold sfRow at e
  split at e
  · cases e
  rename_i ne
  obtain ⟨u, hu, eu, _⟩ := flushR_suit ne
  obtain ⟨hp, hm, a, b, c, d, e', q, q2⟩ := row_is e
  obtain ⟨s, hs, F, g, fl⟩ := take_suit hn hl hu (rowOf_len r) hp fun x hx => by
    have := (hm x hx).2
    rw [eu] at this
    simpa using this
  refine ⟨s, hs, F, ?_⟩
  rw [q] at g
  rw [worth_none g, straight_of q2]
  simp only [fl, if_true]
  exact ge_refl _
theorem has5 (e : flushR h ≠ []) : Has h (5 :: (flushR h).take 5) := by
  obtain ⟨u, hu, eu, h5⟩ := flushR_suit e
  rw [eu]
  have hlen : ((suitedOf h u).take 5).length = 5 := by
    rw [List.length_take, suited_len hn hl u hu]; omega
  obtain ⟨s, hs, F, g, fl⟩ := take_suit hn hl hu hlen ((desc_pw _).sublist (List.take_sublist _ _)) fun x hx => List.mem_of_mem_take hx
  refine ⟨s, hs, F, ?_⟩
  obtain ⟨a, b, c, d, e, q⟩ := len5 hlen
  rw [q] at g ⊢
  rw [worth_none g]
  split
  · simp only [fl, if_true]
    exact ge_head _ _ (by omega)
  · simp only [fl, if_true]
    exact ge_refl _

/-! ### enough other ranks -/
omit hn hl in
theorem sum_filter_ne (f : Nat → Nat) : ∀ l : List Nat, (l.map f).sum = ((l.filter fun r => decide (1 ≤ f r)).map f).sum
  | [] => rfl
  | x :: l => by
    rw [List.filter_cons]
    by_cases e : 1 ≤ f x
    · simp [e, sum_filter_ne f l]
    · have : f x = 0 := by omega
      simp [this, sum_filter_ne f l]
omit hn in
theorem sum_ranks : ((ranksW (cnt h) 1).map (cnt h)).sum = h.length := by
  rw [← sum_cnt h hl, ← sum_rev (cnt h) (List.range 13), sum_filter_ne (cnt h) (List.range 13).reverse]
  rfl
omit hn hl in
theorem sum_split2 (f : Nat → Nat) (p : Nat → Bool) : ∀ l : List Nat, (l.map f).sum = ((l.filter p).map f).sum + ((l.filter fun r => !p r).map f).sum
  | [] => rfl
  | x :: l => by
    rw [List.filter_cons, List.filter_cons]
    cases e : p x <;> simp [sum_split2 f p l] <;> omega
omit hn hl in
theorem sum_le (f : Nat → Nat) (k : Nat) : ∀ l : List Nat, (∀ x ∈ l, f x ≤ k) → (l.map f).sum ≤ k * l.length
  | [], _ => Nat.zero_le _
  | x :: l, h => by
    have := sum_le f k l fun y hy => h y (List.mem_cons_of_mem _ hy)
    have := h x List.mem_cons_self
    rw [List.map_cons, List.sum_cons, List.length_cons, Nat.mul_add]
    omega
omit hn in
/-- those that are not in a list of ranks, each at most k times: enough of them -/
theorem others_many (xs : List Nat) (k : Nat) (hx : xs.Pairwise (· > ·)) (hi : ∀ x ∈ xs, x < 13 ∧ 1 ≤ cnt h x) (hk : ∀ r, r < 13 → r ∉ xs → cnt h r ≤ k) : h.length ≤ (xs.map (cnt h)).sum + k * ((ranksW (cnt h) 1).filter fun r => !xs.contains r).length := by
  have e1 := sum_ranks hl
  rw [sum_split2 _ (fun r => xs.contains r)] at e1
  have e2 : (ranksW (cnt h) 1).filter (fun r => xs.contains r) = xs := pw_unique ((ranksW_pw _ _).filter _) hx fun x => by
    rw [List.mem_filter, mem_ranksW]
    simp only [List.contains_iff_mem]
    exact ⟨fun q => q.2, fun q => ⟨hi x q, q⟩⟩
  have e3 := sum_le (cnt h) k ((ranksW (cnt h) 1).filter fun r => !xs.contains r) fun x hx => by
    rw [List.mem_filter, mem_ranksW] at hx
    exact hk x hx.1.1 (by simpa using hx.2)
  rw [e2] at e1
  omega
omit hn hl in
theorem others_spec {f : Nat → Nat} {xs l : List Nat} {n : Nat} (e : others f xs n = l) : l.Pairwise (· > ·) ∧ ∀ x ∈ l, x < 13 ∧ 1 ≤ f x ∧ x ∉ xs := by
  subst e
  refine ⟨((ranksW_pw f 1).filter _).sublist (List.take_sublist _ _), fun x hx => ?_⟩
  have := List.mem_of_mem_take hx
  rw [List.mem_filter, mem_ranksW] at this
  exact ⟨this.1.1, this.1.2, by simpa using this.2⟩
omit hn hl in
theorem others_len {f : Nat → Nat} {xs : List Nat} {n : Nat} (h : n ≤ ((ranksW f 1).filter fun r => !xs.contains r).length) : (others f xs n).length = n := by
  unfold others; rw [List.length_take]; omega
omit hn hl in
theorem not_ranksW {f : Nat → Nat} {k r : Nat} (hr : r < 13) (h : r ∉ ranksW f k) : f r < k := by
  rw [mem_ranksW] at h; omega

/-! ### the mirror's worth is had by five of the cards -/
theorem attained (h5 : 5 ≤ h.length) {W : Nat × List Nat} (C : Cas h W) : Has h (W.1 :: W.2) ∧ 1 ≤ W.2.length ∧ W.2.length ≤ 5 := by
  cases C with
  | sf e => exact ⟨has8 hn hl e, by simp, by simp⟩
  | @four a l e e4 =>
    have ma : a ∈ ranksW (cnt h) 4 := by rw [e4]; simp
    have ca := mem_ranksW.mp ma
    have c4 := cnt_le4 hn a
    have q := others_many hl [a] 4 (by simp) (by simp; omega) (fun r _ _ => cnt_le4 hn r)
    simp only [List.map_cons, List.map_nil, List.sum_cons, List.sum_nil] at q
    obtain ⟨b, hb⟩ := len1 (others_len (f := cnt h) (xs := [a]) (n := 1) (by omega))
    have sp := (others_spec hb).2 b (by simp)
    rw [hb]
    exact ⟨has7 hn hl ca.1 ca.2 sp.1 sp.2.1 (by simpa using sp.2.2), by simp, by simp⟩
  | @full a b l m e e4 e3 e2 =>
    have ca := mem_ranksW.mp (show a ∈ ranksW (cnt h) 3 by rw [e3]; simp)
    have mb : b ∈ (ranksW (cnt h) 2).filter fun r => decide (r ≠ a) := by rw [e2]; simp
    rw [List.mem_filter, mem_ranksW] at mb
    exact ⟨has6 hn hl ca.1 ca.2 mb.1.1 mb.1.2 (by simpa using mb.2), by simp, by simp⟩
  | flush e e4 e3 hf =>
    refine ⟨has5 hn hl hf, ?_, ?_⟩
    · cases q : flushR h with
      | nil => exact absurd q hf
      | cons x l => simp
    · simp; omega
  | straight _ _ _ hs => exact ⟨has4 hn hl hs, by simp, by simp⟩
  | @three a l e4 e2 hf hs e3 =>
    have ca := mem_ranksW.mp (show a ∈ ranksW (cnt h) 3 by rw [e3]; simp)
    have a4 := not_ranksW (k := 4) ca.1 (by rw [e4]; simp)
    have q := others_many hl [a] 1 (by simp) (by simp; omega) (fun r hr hx => by
      have := List.filter_eq_nil_iff.mp e2 r
      simp only [List.mem_singleton] at hx
      rcases Nat.lt_or_ge (cnt h r) 2 with g | g
      · omega
      · exact absurd (by simpa using hx) (this (mem_ranksW.mpr ⟨hr, g⟩)))
    simp only [List.map_cons, List.map_nil, List.sum_cons, List.sum_nil] at q
    obtain ⟨b, c, hb⟩ := len2 (others_len (f := cnt h) (xs := [a]) (n := 2) (by omega))
    have sp := (others_spec hb)
    have sb := sp.2 b (by simp)
    have sc := sp.2 c (by simp)
    have pw := sp.1
    simp at pw
    rw [hb]
    exact ⟨has3 hn hl ca.1 ca.2 sb.1 sb.2.1 sc.1 sc.2.1 pw (by simpa using sb.2.2) (by simpa using sc.2.2), by simp, by simp⟩
  | @two a b l hf hs e3 e2 =>
    have pab := ranksW_pw (cnt h) 2
    rw [e2] at pab
    have lt : b < a := (List.pairwise_cons.mp pab).1 b List.mem_cons_self
    have ca := mem_ranksW.mp (show a ∈ ranksW (cnt h) 2 by rw [e2]; simp)
    have cb := mem_ranksW.mp (show b ∈ ranksW (cnt h) 2 by rw [e2]; simp)
    have lt3 : ∀ r, r < 13 → cnt h r < 3 := fun r hr => not_ranksW hr (by rw [e3]; simp)
    have a3 := lt3 a ca.1
    have b3 := lt3 b cb.1
    have q := others_many hl [a, b] 2 (by simpa using lt) (by simp; omega) (fun r hr _ => by have := lt3 r hr; omega)
    simp only [List.map_cons, List.map_nil, List.sum_cons, List.sum_nil] at q
    obtain ⟨c, hc⟩ := len1 (others_len (f := cnt h) (xs := [a, b]) (n := 1) (by omega))
    have sc := (others_spec hc).2 c (by simp)
    have nc : c ≠ a ∧ c ≠ b := by simpa using sc.2.2
    rw [hc]
    exact ⟨has2 hn hl ca.1 ca.2 cb.1 cb.2 sc.1 sc.2.1 lt nc.1 nc.2, by simp, by simp⟩
  | @pair a hf hs e3 e2 =>
    have ca := mem_ranksW.mp (show a ∈ ranksW (cnt h) 2 by rw [e2]; simp)
    have a3 := not_ranksW (k := 3) ca.1 (by rw [e3]; simp)
    have q := others_many hl [a] 1 (by simp) (by simp; omega) (fun r hr hx => by
      have := not_ranksW (f := cnt h) (k := 2) hr (by rw [e2]; exact hx)
      omega)
    simp only [List.map_cons, List.map_nil, List.sum_cons, List.sum_nil] at q
    obtain ⟨b, c, d, hb⟩ := len3 (others_len (f := cnt h) (xs := [a]) (n := 3) (by omega))
    have sp := (others_spec hb)
    have sb := sp.2 b (by simp)
    have sc := sp.2 c (by simp)
    have sd := sp.2 d (by simp)
    have pw := sp.1
    simp at pw
    rw [hb]
    exact ⟨has1 hn hl ca.1 ca.2 sb.1 sb.2.1 sc.1 sc.2.1 sd.1 sd.2.1 pw.1.1 pw.2 (by simpa using sb.2.2) (by simpa using sc.2.2) (by simpa using sd.2.2), by simp, by simp⟩
  | none hf hs e3 e2 =>
    have q := others_many hl [] 1 .nil (by simp) (fun r hr hx => by
      have := not_ranksW (f := cnt h) (k := 2) hr (by rw [e2]; exact hx)
      omega)
    simp only [List.map_nil, List.sum_nil] at q
    have hlen := others_len (f := cnt h) (xs := []) (n := 5) (by omega)
    have sp := others_spec (f := cnt h) (xs := []) (n := 5) rfl
    exact ⟨has0 hn hl hlen sp.1 fun x hx => ⟨(sp.2 x hx).1, (sp.2 x hx).2.1⟩, by rw [hlen]; omega, by rw [hlen]; omega⟩
end

/-- **best is the mirror's worth** -/
theorem best_is {h : List Nat} (hn : h.Nodup) (hl : ∀ c ∈ h, c < 52) (h5 : 5 ≤ h.length) (h7 : h.length ≤ 7) : Md21.best h = (worthOf h).1 :: (worthOf h).2 := by
  have C := worthOf_cas h
  unfold Md21.best
  refine fold_larger_eq ?_ ?_
  · obtain ⟨⟨s, hs, F, g⟩, _⟩ := attained hn hl h5 C
    have e := ge_antisymm (upper h7 hs F C) g
    rw [e]
    exact List.mem_map.mpr ⟨s, mem_choose.mpr ⟨hs, F.len⟩, rfl⟩
  · intro x hx
    obtain ⟨s, hs, rfl⟩ := List.mem_map.mp hx
    obtain ⟨h1, h2⟩ := mem_choose.mp hs
    exact upper h7 h1 ⟨hn.sublist h1, fun c hc => hl c (h1.subset hc), h2⟩ C
theorem worthOf_len {h : List Nat} (hn : h.Nodup) (hl : ∀ c ∈ h, c < 52) (h5 : 5 ≤ h.length) : 1 ≤ (worthOf h).2.length ∧ (worthOf h).2.length ≤ 5 := (attained hn hl h5 (worthOf_cas h)).2
end Bs
-- M6
namespace Bs
open Md21 (choose)

/-! ### choices, step by step -/
theorem choose_zero (l : List Nat) : choose 0 l = [[]] := by simp [choose]
theorem choose_cons (k x : Nat) (l : List Nat) : choose (k + 1) (x :: l) = (choose k l).map (fun r => x :: r) ++ choose (k + 1) l := by simp [choose]
theorem choose_nil (k : Nat) : choose (k + 1) [] = [] := by simp [choose]
theorem flatMap_eq {α β : Type} {f g : α → List β} : ∀ {l : List α}, (∀ x ∈ l, f x = g x) → l.flatMap f = l.flatMap g
  | [], _ => rfl
  | x :: l, h => by rw [List.flatMap_cons, List.flatMap_cons, h x List.mem_cons_self, flatMap_eq fun y hy => h y (List.mem_cons_of_mem _ hy)]
/-- one card more behind a choice: it, and where the next may stand -/
def extS (cs : List Nat) (x : List Nat × Nat) : List (List Nat × Nat) := (List.range (cs.length - x.2)).map fun j => (x.1 ++ [cs.getD (x.2 + j) 0], x.2 + j + 1)
def iterS (cs : List Nat) : Nat → List (List Nat × Nat)
  | 0 => [([], 0)]
  | n + 1 => (iterS cs n).flatMap (extS cs)
theorem flatMap_range_succ {α : Type} (n : Nat) (f : Nat → List α) : (List.range (n + 1)).flatMap f = f 0 ++ (List.range n).flatMap fun j => f (j + 1) := by
  rw [List.range_succ_eq_map, List.flatMap_cons, List.flatMap_map]
/-- the first chosen card's place first -/
theorem choose_by_place (k : Nat) : ∀ l : List Nat, choose (k + 1) l = (List.range l.length).flatMap fun j => (choose k (l.drop (j + 1))).map fun r => l.getD j 0 :: r
  | [] => rfl
  | x :: l => by
    have ih := choose_by_place k l
    rw [List.length_cons, flatMap_range_succ]
    rw [choose_cons, ih]
    rfl
theorem ext_choose (cs : List Nat) (k : Nat) (x : List Nat × Nat) : (extS cs x).flatMap (fun y => (choose k (cs.drop y.2)).map fun r => y.1 ++ r) = (choose (k + 1) (cs.drop x.2)).map fun r => x.1 ++ r := by
  unfold extS
  rw [choose_by_place, List.length_drop, List.flatMap_map, List.map_flatMap]
  refine flatMap_eq fun j hj => ?_
  have := List.mem_range.mp hj
  rw [List.map_map, List.drop_drop]
  have e1 : (cs.drop x.2).getD j 0 = cs.getD (x.2 + j) 0 := by
    rw [List.getD_eq_getElem?_getD, List.getD_eq_getElem?_getD, List.getElem?_drop]
  rw [e1]
  refine List.map_congr_left fun r _ => ?_
  simp
theorem iter_choose (cs : List Nat) : ∀ (n k : Nat), (iterS cs n).flatMap (fun y => (choose k (cs.drop y.2)).map fun r => y.1 ++ r) = choose (n + k) cs
  | 0, k => by
    show ([([], 0)] : List (List Nat × Nat)).flatMap _ = _
    rw [List.flatMap_cons, List.flatMap_nil, List.append_nil, Nat.zero_add]
    show (choose k cs).map (fun r => r) = _
    exact List.map_id' _
  | n + 1, k => by
    show ((iterS cs n).flatMap (extS cs)).flatMap _ = _
    rw [List.flatMap_assoc]
    rw [flatMap_eq (fun x _ => ext_choose cs k x), iter_choose cs n (k + 1)]
    congr 1
    omega
theorem iter_is (cs : List Nat) (n : Nat) : (iterS cs n).map (·.1) = choose n cs := by
  have := iter_choose cs n 0
  rw [Nat.add_zero] at this
  rw [← this]
  generalize iterS cs n = L
  induction L with
  | nil => rfl
  | cons x L ih =>
    rw [List.map_cons, List.flatMap_cons, ih, choose_zero, List.map_cons, List.map_nil, List.append_nil]
    rfl
theorem iter_len (cs : List Nat) (n : Nat) : (iterS cs n).length = (choose n cs).length := by rw [← iter_is, List.length_map]
theorem iter_start (cs : List Nat) : ∀ (n : Nat) (x : List Nat × Nat), x ∈ iterS cs n → x.2 ≤ cs.length
  | 0, x, h => by
    have : x = ([], 0) := by simpa [iterS] using h
    rw [this]; exact Nat.zero_le _
  | n + 1, x, h => by
    obtain ⟨y, _, h2⟩ := List.mem_flatMap.mp h
    obtain ⟨j, hj, rfl⟩ := List.mem_map.mp h2
    have := List.mem_range.mp hj
    show y.2 + j + 1 ≤ _
    omega

/-! ### how many -/
theorem choose_pow : ∀ (k : Nat) (l : List Nat), (choose k l).length ≤ 2 ^ l.length
  | 0, l => by rw [choose_zero]; exact Nat.one_le_two_pow
  | k + 1, [] => by rw [choose_nil]; exact Nat.zero_le _
  | k + 1, x :: l => by
    rw [choose_cons, List.length_append, List.length_map, List.length_cons, Nat.pow_succ]
    have := choose_pow k l
    have := choose_pow (k + 1) l
    omega
theorem choose_le_pow : ∀ (k : Nat) (l : List Nat), (choose k l).length ≤ l.length ^ k
  | 0, l => by rw [choose_zero]; simp
  | k + 1, [] => by rw [choose_nil]; exact Nat.zero_le _
  | k + 1, x :: l => by
    rw [choose_cons, List.length_append, List.length_map, List.length_cons]
    have h1 := choose_le_pow k l
    have h2 := choose_le_pow (k + 1) l
    have h3 : l.length ^ k ≤ (l.length + 1) ^ k := Nat.pow_le_pow_left (Nat.le_succ _) k
    have e1 : l.length ^ (k + 1) = l.length ^ k * l.length := Nat.pow_succ ..
    have e2 : (l.length + 1) ^ (k + 1) = (l.length + 1) ^ k * (l.length + 1) := Nat.pow_succ ..
    have h4 : l.length ^ k * l.length ≤ (l.length + 1) ^ k * l.length := Nat.mul_le_mul_right _ h3
    rw [e2, Nat.mul_add, Nat.mul_one]
    omega
/-- how many choices there are hangs on the lengths alone -/
theorem choose_len : ∀ (k : Nat) (a b : List Nat), a.length = b.length → (choose k a).length = (choose k b).length
  | 0, a, b, _ => by rw [choose_zero, choose_zero]
  | k + 1, [], [], _ => rfl
  | k + 1, [], _ :: _, h => by simp at h
  | k + 1, _ :: _, [], h => by simp at h
  | k + 1, y :: a, z :: b, h => by
    have h' : a.length = b.length := by simpa using h
    rw [choose_cons, choose_cons, List.length_append, List.length_append, List.length_map, List.length_map, choose_len k a b h', choose_len (k + 1) a b h']
end Bs
-- M7
namespace Bs
open Md21 (less larger choose)
/-! ### players, winners -/
theorem pairs_get : ∀ (l : List Nat) (i : Nat) (r : List Nat), (Md21.pairs l)[i]? = some r → r = (l.drop (2 * i)).take 2
  | [], i, r, h => by simp [Md21.pairs] at h
  | [x], i, r, h => by simp [Md21.pairs] at h
  | x :: y :: l, 0, r, h => by
    have : [x, y] = r := Option.some.inj h
    rw [← this]; rfl
  | x :: y :: l, i + 1, r, h => by
    have h' : (Md21.pairs l)[i]? = some r := h
    rw [pairs_get l i r h']
    rfl
theorem pairs_len : ∀ (p : Nat) (l : List Nat), l.length = 2 * p → (Md21.pairs l).length = p
  | 0, [], _ => rfl
  | 0, _ :: _, h => by simp at h
  | p + 1, [], h => by simp at h
  | p + 1, [_], h => by simp at h; omega
  | p + 1, x :: y :: l, h => by
    have h' : l.length = 2 * p := by simp at h; omega
    show (Md21.pairs l).length + 1 = p + 1
    rw [pairs_len p l h']
theorem pairs_flat : ∀ (p : Nat) (l : List Nat), l.length = 2 * p → (Md21.pairs l).flatten = l
  | 0, [], _ => rfl
  | 0, _ :: _, h => by simp at h
  | p + 1, [], h => by simp at h
  | p + 1, [_], h => by simp at h; omega
  | p + 1, x :: y :: l, h => by
    have h' : l.length = 2 * p := by simp at h; omega
    show ([x, y] :: Md21.pairs l).flatten = _
    rw [List.flatten_cons, pairs_flat p l h']
    rfl
theorem pairs_two : ∀ (l : List Nat) (r : List Nat), r ∈ Md21.pairs l → r.length = 2 ∧ r.Sublist l
  | [], r, h => by simp [Md21.pairs] at h
  | [x], r, h => by simp [Md21.pairs] at h
  | x :: y :: l, r, h => by
    rcases List.mem_cons.mp (show r ∈ [x, y] :: Md21.pairs l from h) with rfl | h
    · exact ⟨rfl, List.Sublist.cons_cons _ (List.Sublist.cons_cons _ (List.nil_sublist _))⟩
    · obtain ⟨h1, h2⟩ := pairs_two l r h
      exact ⟨h1, (h2.cons _).cons _⟩

/-- a worth as the specification tells it -/
def key (m : Nat × List Nat) : List Nat := m.1 :: m.2
theorem key_inj {a b : Nat × List Nat} (h : key a = key b) : a = b := by
  cases a; cases b
  unfold key at h
  injection h with h1 h2
  simp only at h1 h2
  rw [h1, h2]
/-- the greatest of worths, the first of them -/
def top1 (w : Nat × List Nat) (ws : List (Nat × List Nat)) : Nat × List Nat := ws.foldl (fun a y => if less (key a) (key y) = true then y else a) w
theorem key_top : ∀ (ws : List (Nat × List Nat)) (w : Nat × List Nat), key (top1 w ws) = (ws.map key).foldl larger (key w)
  | [], _ => rfl
  | y :: ws, w => by
    show key (top1 (if less (key w) (key y) = true then y else w) ws) = (ws.map key).foldl larger (larger (key w) (key y))
    rw [key_top ws]
    congr 1
    unfold larger
    split <;> rfl
theorem key_top_nil (w : Nat × List Nat) (ws : List (Nat × List Nat)) : key (top1 w ws) = ((w :: ws).map key).foldl larger [] := by
  rw [key_top, List.map_cons, List.foldl_cons]
  rfl
theorem top_mem : ∀ (ws : List (Nat × List Nat)) (w : Nat × List Nat), top1 w ws ∈ w :: ws
  | [], w => List.mem_singleton.mpr rfl
  | y :: ws, w => by
    show top1 (if less (key w) (key y) = true then y else w) ws ∈ _
    have := top_mem ws (if less (key w) (key y) = true then y else w)
    rcases List.mem_cons.mp this with e | e
    · rw [e]
      split
      · exact List.mem_cons_of_mem _ List.mem_cons_self
      · exact List.mem_cons_self
    · exact List.mem_cons_of_mem _ (List.mem_cons_of_mem _ e)
/-- hands that may be worth something -/
def GoodH (bd h : List Nat) : Prop := (h ++ bd).Nodup ∧ (∀ c ∈ h ++ bd, c < 52) ∧ 5 ≤ (h ++ bd).length ∧ (h ++ bd).length ≤ 7
theorem best_key {bd h : List Nat} (g : GoodH bd h) : Md21.best (h ++ bd) = key (worthOf (h ++ bd)) := best_is g.1 g.2.1 g.2.2.1 g.2.2.2
/-- who wins, by the mirror's worths -/
def winM (ws : List (Nat × List Nat)) : List Nat := match ws with
  | [] => []
  | w :: r => (List.range (w :: r).length).filter fun i => match (w :: r)[i]? with
    | some m => decide (m = top1 w r)
    | none => false
theorem winners_is {hands : List (List Nat)} {bd : List Nat} (g : ∀ h ∈ hands, GoodH bd h) : Md21.winners hands bd = winM (hands.map fun h => worthOf (h ++ bd)) := by
  have e : (hands.map fun h => Md21.best (h ++ bd)) = (hands.map fun h => worthOf (h ++ bd)).map key := by
    rw [List.map_map]
    exact List.map_congr_left fun h hh => best_key (g h hh)
  unfold Md21.winners
  simp only
  rw [show hands.length = (hands.map fun h => worthOf (h ++ bd)).length from (List.length_map _).symm, show (hands.map fun h => Md21.best (h ++ bd)) = (hands.map fun h => worthOf (h ++ bd)).map key from e]
  generalize (hands.map fun h => worthOf (h ++ bd)) = ws
  cases ws with
  | nil => rfl
  | cons w r =>
    unfold winM
    simp only
    refine List.filter_congr fun i hi => ?_
    have hi' := List.mem_range.mp hi
    rw [← key_top_nil, List.getD_eq_getElem?_getD, List.getElem?_map, List.getElem?_eq_getElem hi']
    show (key (w :: r)[i] == key (top1 w r)) = decide ((w :: r)[i] = top1 w r)
    by_cases h : (w :: r)[i] = top1 w r
    · rw [h, decide_eq_true rfl, beq_self_eq_true]
    · rw [decide_eq_false h, beq_eq_false_iff_ne]
      exact fun z => h (key_inj z)
end Bs
-- M8
namespace Bs
open Md21 (less larger choose)
/-! ### cards that aren't seen -/
theorem mem_rest {l : List Nat} {c : Nat} : c ∈ Md21.rest l ↔ c < 52 ∧ c ∉ l := by
  simp [Md21.rest, Md21.CARDS]
theorem rest_nodup (l : List Nat) : (Md21.rest l).Nodup := List.nodup_range.filter _
theorem rest_le (l : List Nat) : (Md21.rest l).length ≤ 52 := by
  have := List.length_filter_le (fun c => !l.contains c) (List.range Md21.CARDS)
  rw [List.length_range] at this
  exact this
theorem rest_congr {l m : List Nat} (h : ∀ c, c ∈ l ↔ c ∈ m) : Md21.rest l = Md21.rest m := by
  unfold Md21.rest
  refine List.filter_congr fun c _ => ?_
  have := h c
  by_cases hc : c ∈ l
  · have hm := this.mp hc
    simp [hc, hm]
  · have hm : c ∉ m := fun z => hc (this.mpr z)
    simp [hc, hm]
theorem rest_minus (l o : List Nat) : (Md21.rest l).filter (fun c => !o.contains c) = Md21.rest (o ++ l) := by
  unfold Md21.rest
  rw [List.filter_filter]
  refine List.filter_congr fun c _ => ?_
  by_cases h1 : c ∈ o <;> by_cases h2 : c ∈ l <;> simp [h1, h2]
theorem rest_len {l : List Nat} (hn : l.Nodup) (h52 : ∀ c ∈ l, c < 52) : (Md21.rest l).length = 52 - l.length := by
  have e : (Md21.rest l).length + l.length = 52 := by
    have h1 : (Md21.rest l ++ l).length = (List.range 52).length := by
      refine nodup_ext ?_ List.nodup_range fun c => ?_
      · rw [List.nodup_append]
        exact ⟨rest_nodup l, hn, fun a ha b hb z => (mem_rest.mp ha).2 (z ▸ hb)⟩
      · rw [List.mem_append, List.mem_range, mem_rest]
        constructor
        · rintro (h | h)
          · exact h.1
          · exact h52 c h
        · intro h
          by_cases hc : c ∈ l
          · exact .inr hc
          · exact .inl ⟨h, hc⟩
    rw [List.length_append, List.length_range] at h1
    exact h1
  omega
/-- a hand of the seen cards with a board whose further cards aren't seen -/
theorem good_of {hs bd dead x h : List Nat} (hn : ((hs ++ bd) ++ dead).Nodup) (h52 : ∀ c ∈ (hs ++ bd) ++ dead, c < 52) (hh : h.Sublist hs) (hx : x.Nodup) (hm : ∀ c ∈ x, c ∈ Md21.rest ((hs ++ bd) ++ dead))
    (h5 : 5 ≤ h.length + bd.length + x.length) (h7 : h.length + bd.length + x.length ≤ 7) : GoodH (bd ++ x) h := by
  have sub : (h ++ bd).Sublist ((hs ++ bd) ++ dead) := (hh.append (List.Sublist.refl bd)).trans (List.sublist_append_left _ _)
  unfold GoodH
  rw [← List.append_assoc]
  refine ⟨?_, fun c hc => ?_, by simp only [List.length_append]; omega, by simp only [List.length_append]; omega⟩
  · rw [List.nodup_append]
    refine ⟨hn.sublist sub, hx, fun a ha b hb z => ?_⟩
    subst z
    exact (mem_rest.mp (hm a hb)).2 (sub.subset ha)
  · rcases List.mem_append.mp hc with h | h
    · exact h52 c (sub.subset h)
    · exact (mem_rest.mp (hm c h)).1

/-! ### cards that turn it -/
theorem turns_is {hs bd dead : List Nat} {p who : Nat} (hp : hs.length = 2 * p) (hw : who < p) :
    Md21.turns (Md21.pairs hs) bd dead who = (Md21.rest ((hs ++ bd) ++ dead)).filter fun c => (Md21.winners (Md21.pairs hs) (bd ++ [c])).contains who := by
  unfold Md21.turns
  rw [pairs_flat p hs hp, ← List.append_assoc]
  refine List.filter_congr fun c _ => ?_
  unfold Md21.winners
  simp only
  rw [pairs_len p hs hp]
  generalize ((Md21.pairs hs).map fun h => Md21.best (h ++ (bd ++ [c]))) = ws
  cases e : (ws.getD who [] == ws.foldl larger []) with
  | true =>
    symm
    rw [List.contains_iff_mem, List.mem_filter]
    exact ⟨List.mem_range.mpr hw, e⟩
  | false =>
    symm
    rw [← Bool.not_eq_true, List.contains_iff_mem, List.mem_filter]
    rintro ⟨_, z⟩
    rw [e] at z
    cases z

/-! ### shares -/
theorem winners_nodup (hands : List (List Nat)) (b : List Nat) : (Md21.winners hands b).Nodup := List.nodup_range.filter _
theorem winners_lt {hands : List (List Nat)} {b : List Nat} {i : Nat} (h : i ∈ Md21.winners hands b) : i < hands.length := by
  unfold Md21.winners at h
  exact List.mem_range.mp (List.mem_filter.mp h).1
theorem winners_len (hands : List (List Nat)) (b : List Nat) : (Md21.winners hands b).length ≤ hands.length := by
  have := nodup_le (winners_nodup hands b) (m := List.range hands.length) fun x hx => List.mem_range.mpr (winners_lt hx)
  simpa using this
theorem share_more (hands bs : List (List Nat)) (b : List Nat) (i : Nat) : Md21.share hands (bs ++ [b]) i = Md21.share hands bs i + (if i ∈ Md21.winners hands b then 60 / (Md21.winners hands b).length else 0) := by
  unfold Md21.share
  rw [List.map_append, List.sum_append, List.map_cons, List.map_nil, List.sum_cons, List.sum_nil, Nat.add_zero]
  congr 1
  simp [Md21.SHARE]
theorem alone_more (hands bs : List (List Nat)) (b : List Nat) (i : Nat) : Md21.alone hands (bs ++ [b]) i = Md21.alone hands bs i + (if Md21.winners hands b = [i] then 1 else 0) := by
  unfold Md21.alone
  rw [List.filter_append, List.length_append, List.filter_cons]
  congr 1
  by_cases h : Md21.winners hands b = [i]
  · rw [if_pos h, if_pos (beq_iff_eq.mpr h)]; rfl
  · rw [if_neg h, if_neg (fun z => h (beq_iff_eq.mp z))]; rfl

/-! ### choices of two kinds, either first -/
def minus (R o : List Nat) : List Nat := R.filter fun c => !o.contains c
/-- the sum over choices of a cards, and of m of the others -/
def two (a m : Nat) (R : List Nat) (f : List Nat → List Nat → Nat) : Nat := ((choose a R).map fun o => ((choose m (minus R o)).map fun b => f o b).sum).sum
theorem minus_nil (R : List Nat) : minus R [] = R := by
  unfold minus
  exact List.filter_eq_self.mpr fun c _ => by simp
theorem minus_both {R o : List Nat} {x : Nat} (h : x ∉ R) : minus (x :: R) (x :: o) = minus R o := by
  unfold minus
  rw [List.filter_cons, if_neg (by simp)]
  refine List.filter_congr fun c hc => ?_
  have : c ≠ x := fun z => h (z ▸ hc)
  simp [this]
theorem minus_keep {R o : List Nat} {x : Nat} (h : x ∉ o) : minus (x :: R) o = x :: minus R o := by
  unfold minus
  rw [List.filter_cons, if_pos (by simpa using h)]
theorem sum_congr {α : Type} {f g : α → Nat} {l : List α} (h : ∀ x ∈ l, f x = g x) : (l.map f).sum = (l.map g).sum := by rw [List.map_congr_left h]
theorem two_step {R : List Nat} {x : Nat} (hx : x ∉ R) (a m : Nat) (f : List Nat → List Nat → Nat) :
    two (a + 1) (m + 1) (x :: R) f = two a (m + 1) R (fun o b => f (x :: o) b) + (two (a + 1) m R (fun o b => f o (x :: b)) + two (a + 1) (m + 1) R f) := by
  unfold two
  rw [choose_cons, List.map_append, List.sum_append, List.map_map]
  congr 1
  · refine sum_congr fun o _ => ?_
    show ((choose (m + 1) (minus (x :: R) (x :: o))).map fun b => f (x :: o) b).sum = _
    rw [minus_both hx]
  · rw [← sum_map_add]
    refine sum_congr fun o ho => ?_
    have xo : x ∉ o := fun z => hx ((mem_choose.mp ho).1.subset z)
    rw [minus_keep xo, choose_cons, List.map_append, List.sum_append, List.map_map]
    rfl
theorem two_zero_left (m : Nat) (R : List Nat) (f : List Nat → List Nat → Nat) : two 0 m R f = ((choose m R).map fun b => f [] b).sum := by
  unfold two
  rw [choose_zero, List.map_cons, List.map_nil, List.sum_cons, List.sum_nil, Nat.add_zero, minus_nil]
theorem two_zero_right (a : Nat) (R : List Nat) (f : List Nat → List Nat → Nat) : two a 0 R f = ((choose a R).map fun o => f o []).sum := by
  unfold two
  refine sum_congr fun o _ => ?_
  rw [choose_zero, List.map_cons, List.map_nil, List.sum_cons, List.sum_nil, Nat.add_zero]
theorem two_swap : ∀ (R : List Nat) (_ : R.Nodup) (a m : Nat) (f : List Nat → List Nat → Nat), two a m R f = two m a R fun b o => f o b
  | R, _, 0, m, f => by rw [two_zero_left, two_zero_right]
  | R, _, a + 1, 0, f => by rw [two_zero_left, two_zero_right]
  | [], _, a + 1, m + 1, f => by unfold two; rw [choose_nil, choose_nil]; rfl
  | x :: R, h, a + 1, m + 1, f => by
    have hx := List.nodup_cons.mp h
    rw [two_step hx.1, two_step hx.1, two_swap R hx.2 a (m + 1), two_swap R hx.2 (a + 1) m, two_swap R hx.2 (a + 1) (m + 1)]
    omega
theorem filter_sum {α : Type} (p : α → Bool) : ∀ l : List α, (l.filter p).length = (l.map fun x => if p x = true then 1 else 0).sum
  | [] => rfl
  | x :: l => by
    rw [List.filter_cons, List.map_cons, List.sum_cons, ← filter_sum p l]
    split <;> simp <;> omega
theorem flat_sum {α β : Type} (f : α → List β) (g : β → Nat) : ∀ l : List α, ((l.flatMap f).map g).sum = (l.map fun x => ((f x).map g).sum).sum
  | [] => rfl
  | x :: l => by rw [List.flatMap_cons, List.map_append, List.sum_append, flat_sum f g l, List.map_cons, List.sum_cons]
/-- how two hands stand: 0 the first is worth more, 1 as much, 2 less -/
def kind (x y : Nat × List Nat) : Nat := if less (key y) (key x) = true then 0 else if x = y then 1 else 2
/-- all that against's loops meet, in their order -/
def kinds (hand board R : List Nat) : List Nat := (choose (5 - board.length) R).flatMap fun b => (choose 2 (minus R b)).map fun o => kind (worthOf (hand ++ (board ++ b))) (worthOf (o ++ (board ++ b)))
theorem kind_iff (x y : Nat × List Nat) : (kind x y = 0 ↔ less (key y) (key x) = true) ∧ (kind x y = 1 ↔ key x = key y) ∧ (kind x y = 2 ↔ less (key x) (key y) = true) := by
  unfold kind
  cases h1 : less (key y) (key x) with
  | true =>
    have h2 := less_asymm h1
    have h3 : ¬ key x = key y := fun z => by rw [z, less_irrefl] at h1; cases h1
    simp [h2, h3]
  | false =>
    by_cases h2 : x = y
    · subst h2
      simp [h1]
    · have h3 : ¬ key x = key y := fun z => h2 (key_inj z)
      have h4 : less (key x) (key y) = true := by
        cases h5 : less (key x) (key y) with
        | true => rfl
        | false => exact absurd (less_total _ _ h5 h1) h3
      simp [h2, h3, h4]
theorem choose_sub {k : Nat} {l s : List Nat} (h : s ∈ choose k l) : s.Sublist l ∧ s.length = k := mem_choose.mp h
theorem against_is {hand board dead : List Nat} (hn : ((hand ++ board) ++ dead).Nodup) (h52 : ∀ c ∈ (hand ++ board) ++ dead, c < 52) (h2 : hand.length = 2) (hb : 3 ≤ board.length) (hb5 : board.length ≤ 5) :
    Md21.against hand board dead = (((kinds hand board (Md21.rest ((hand ++ board) ++ dead))).filter (· == 0)).length, ((kinds hand board (Md21.rest ((hand ++ board) ++ dead))).filter (· == 1)).length, ((kinds hand board (Md21.rest ((hand ++ board) ++ dead))).filter (· == 2)).length) := by
  have main : ∀ (p : List Nat × List Nat → Bool) (r : Nat), (∀ x y : Nat × List Nat, p (key x, key y) = decide (kind x y = r)) →
      (((choose 2 (Md21.rest (hand ++ (board ++ dead)))).flatMap fun o => (choose (5 - board.length) (Md21.rest (hand ++ (o ++ (board ++ dead))))).map fun b => (Md21.best (hand ++ (board ++ b)), Md21.best (o ++ (board ++ b)))).filter p).length = ((kinds hand board (Md21.rest ((hand ++ board) ++ dead))).filter (· == r)).length := by
    intro p r hp
    rw [filter_sum, filter_sum, flat_sum]
    unfold kinds
    rw [flat_sum]
    rw [← List.append_assoc]
    have key1 : ∀ o b : List Nat, o ∈ choose 2 (Md21.rest ((hand ++ board) ++ dead)) → b ∈ choose (5 - board.length) (minus (Md21.rest ((hand ++ board) ++ dead)) o) →
        (if p (Md21.best (hand ++ (board ++ b)), Md21.best (o ++ (board ++ b))) = true then 1 else 0) = (if (kind (worthOf (hand ++ (board ++ b))) (worthOf (o ++ (board ++ b))) == r) = true then 1 else 0 : Nat) := by
      intro o b ho hb'
      obtain ⟨so, lo⟩ := choose_sub ho
      obtain ⟨sb, lb⟩ := choose_sub hb'
      have bin : ∀ c ∈ b, c ∈ Md21.rest ((hand ++ board) ++ dead) ∧ c ∉ o := fun c hc => by
        have := sb.subset hc
        unfold minus at this
        rw [List.mem_filter] at this
        exact ⟨this.1, by simpa using this.2⟩
      have bn : b.Nodup := ((rest_nodup _).filter _).sublist sb
      have g1 : GoodH (board ++ b) hand := good_of hn h52 (List.Sublist.refl hand) bn (fun c hc => (bin c hc).1) (by omega) (by omega)
      have g2 : GoodH (board ++ b) o := by
        have oin : ∀ c ∈ o, c ∈ Md21.rest ((hand ++ board) ++ dead) := fun c hc => so.subset hc
        have subb : board.Sublist ((hand ++ board) ++ dead) := (List.sublist_append_right hand board).trans (List.sublist_append_left _ _)
        refine ⟨?_, fun c hc => ?_, by simp only [List.length_append]; omega, by simp only [List.length_append]; omega⟩
        · rw [List.nodup_append]
          refine ⟨(rest_nodup _).sublist so, ?_, fun a ha c hc z => ?_⟩
          · rw [List.nodup_append]
            exact ⟨hn.sublist subb, bn, fun a ha c hc z => (mem_rest.mp (bin c hc).1).2 (z ▸ subb.subset ha)⟩
          · subst z
            rcases List.mem_append.mp hc with h | h
            · exact (mem_rest.mp (oin a ha)).2 (subb.subset h)
            · exact (bin a h).2 ha
        · rcases List.mem_append.mp hc with h | h
          · exact (mem_rest.mp (oin c h)).1
          · rcases List.mem_append.mp h with h | h
            · exact h52 c (subb.subset h)
            · exact (mem_rest.mp (bin c h).1).1
      rw [best_key g1, best_key g2, hp]
      by_cases e : kind (worthOf (hand ++ (board ++ b))) (worthOf (o ++ (board ++ b))) = r
      · rw [if_pos (decide_eq_true e), if_pos (beq_iff_eq.mpr e)]
      · rw [if_neg (by simpa using e), if_neg (by simpa using e)]
    have lhs : ((choose 2 (Md21.rest ((hand ++ board) ++ dead))).map fun o => (((choose (5 - board.length) (Md21.rest (hand ++ (o ++ (board ++ dead))))).map fun b => (Md21.best (hand ++ (board ++ b)), Md21.best (o ++ (board ++ b)))).map fun x => if p x = true then 1 else 0).sum).sum =
        two 2 (5 - board.length) (Md21.rest ((hand ++ board) ++ dead)) fun o b => if (kind (worthOf (hand ++ (board ++ b))) (worthOf (o ++ (board ++ b))) == r) = true then 1 else 0 := by
      unfold two
      refine sum_congr fun o ho => ?_
      have er : Md21.rest (hand ++ (o ++ (board ++ dead))) = minus (Md21.rest ((hand ++ board) ++ dead)) o := by
        unfold minus
        rw [rest_minus]
        exact rest_congr fun c => by simp only [List.mem_append]; grind
      rw [er, List.map_map]
      exact sum_congr fun b hb' => key1 o b ho hb'
    rw [lhs, two_swap _ (rest_nodup _)]
    unfold two
    refine sum_congr fun b _ => ?_
    rw [List.map_map]
    rfl
  unfold Md21.against
  simp only
  rw [main (fun x => less x.2 x.1) 0 (fun x y => ?_), main (fun x => x.1 == x.2) 1 (fun x y => ?_), main (fun x => less x.1 x.2) 2 (fun x y => ?_)]
  · have := (kind_iff x y).2.2
    show less (key x) (key y) = _
    cases h : less (key x) (key y) with
    | true => exact (decide_eq_true (this.mpr h)).symm
    | false => exact (decide_eq_false fun z => by rw [this.mp z] at h; cases h).symm
  · have := (kind_iff x y).2.1
    by_cases h : key x = key y
    · rw [decide_eq_true (this.mpr h)]
      exact beq_iff_eq.mpr h
    · rw [decide_eq_false fun z => h (this.mp z)]
      exact beq_eq_false_iff_ne.mpr h
  · have := (kind_iff x y).1
    show less (key y) (key x) = _
    cases h : less (key y) (key x) with
    | true => exact (decide_eq_true (this.mpr h)).symm
    | false => exact (decide_eq_false fun z => by rw [this.mp z] at h; cases h).symm
end Bs
-- M9
namespace Bs
theorem good_other {hand bd dead o b : List Nat} (hn : ((hand ++ bd) ++ dead).Nodup) (h52 : ∀ c ∈ (hand ++ bd) ++ dead, c < 52) (on : o.Nodup) (bn : b.Nodup) (ho : ∀ c ∈ o, c ∈ Md21.rest ((hand ++ bd) ++ dead)) (hb : ∀ c ∈ b, c ∈ Md21.rest ((hand ++ bd) ++ dead)) (dis : ∀ c ∈ o, c ∉ b)
    (h5 : 5 ≤ o.length + bd.length + b.length) (h7 : o.length + bd.length + b.length ≤ 7) : GoodH (bd ++ b) o := by
  have sub : bd.Sublist ((hand ++ bd) ++ dead) := (List.sublist_append_right hand bd).trans (List.sublist_append_left _ _)
  refine ⟨?_, fun c hc => ?_, by simp only [List.length_append]; omega, by simp only [List.length_append]; omega⟩
  · rw [List.nodup_append]
    refine ⟨on, ?_, fun a ha c hc z => ?_⟩
    · rw [List.nodup_append]
      exact ⟨hn.sublist sub, bn, fun a ha c hc z => (mem_rest.mp (hb c hc)).2 (z ▸ sub.subset ha)⟩
    · subst z
      rcases List.mem_append.mp hc with h | h
      · exact (mem_rest.mp (ho a ha)).2 (sub.subset h)
      · exact dis a ha h
  · rcases List.mem_append.mp hc with h | h
    · exact (mem_rest.mp (ho c h)).1
    · rcases List.mem_append.mp h with h | h
      · exact h52 c (sub.subset h)
      · exact (mem_rest.mp (hb c h)).1
/-- how many of a kind -/
def cK (L : List Nat) (r : Nat) : Nat := (L.filter (· == r)).length
theorem cK_more (L : List Nat) (k r : Nat) : cK (L ++ [k]) r = if r = k then cK L k + 1 else cK L r := by
  unfold cK
  rw [List.filter_append, List.length_append, List.filter_cons]
  by_cases e : r = k
  · subst e; simp
  · have e' : ¬ k = r := fun z => e z.symm
    simp [e, e']
theorem minus_le (R b : List Nat) : (minus R b).length ≤ R.length := List.length_filter_le ..
theorem mem_minus {R b : List Nat} {c : Nat} : c ∈ minus R b ↔ c ∈ R ∧ c ∉ b := by
  unfold minus
  rw [List.mem_filter]
  simp
end Bs
/-! rules that the layer lacks -/
namespace Bs
open PySem PySem.Spec PyProof.Rows L2
open PySem.W (alike alikeAll dataLt AlikeAll maxD max_list_data reads_keeps)

section
variable {X : Cx}
/-- lists, any that can be read: xs + ys -/
def rCatS (K : PySem.W.Frag) : R2 := fun x y H Q => ∃ a b xs ys, x = .ref a ∧ y = .ref b ∧ SqL K H a xs ∧ SqL K H b ys ∧ xs.length + ys.length ≤ sizeLine ∧ ∀ p, H p = none → Q (.ref p) (upd H p (.lst (xs ++ ys)))
theorem op_catS : OpR X (binaryOp .Add) (rCatS X.K) := fun pins t σ Hp0 _ _ _ _ W J ra rb w => by
  obtain ⟨a, b, xs, ys, rfl, rfl, qa, qb, room, goes⟩ := w
  cases ra
  cases rb
  obtain ⟨us, ru, pu, _⟩ := J.list qa
  obtain ⟨vs, rw', pw', _⟩ := J.list qb
  obtain ⟨⟨c1, d1, x1, k1⟩, o1, ec1, n1, ed1⟩ := pu.isList
  obtain ⟨⟨c2, d2, x2, k2⟩, o2, ec2, n2, ed2⟩ := pw'.isList
  simp only at ec1 ed1 ec2 ed2
  subst ec1 ed1 ec2 ed2
  have lu := ru.length
  have lv := rw'.length
  have both : us.toArray ++ vs.toArray = (us ++ vs).toArray := by simp
  have fits : us.toArray.size + vs.toArray.size ≤ sizeLine := by simp only [List.size_toArray]; omega
  refine concat_meets ⟨_, o1, rfl⟩ ⟨_, o2, rfl⟩ noFill_list_add seq_list_add PySem.F.slot_list_add PySem.F.entry_list_add (PySem.F.args_list_add_2 _ _)
    (PyProof.Rows.list_addW a b us.toArray vs.toArray n1 n2 d1 d2 k1 k2 fits) ⟨o1, o2, ?_⟩
  rw [both]
  have made := J.lnew (t' := t.toks) (ru.append rw') (by simp only [List.length_append]; omega)
  exact ⟨V.ref _, _, made, rfl, goes _ J.fresh⟩

/-! ### len(set(xs)), of any whole numbers: how many are met -/
def setLen (ns : List Int) : Nat := (PyProof.Rows.firstMet (fun i => ns.getD i 0) ns.length).length
def tLenSetA (K : PySem.W.Frag) (ta : TE) : TE := fun σ H Q => ta σ H fun x H1 =>
  ∃ (l : Addr) (ns : List Int), x = .ref l ∧ SqL K H1 l (ns.map V.int) ∧ ns.length ≤ 4000 ∧ Q (.int (setLen ns : Nat)) H1
theorem pe_lenSetA {arg : Expr} {ta : TE} {p p2 q pos : Pos} (gl : Gl X "len") (ml : X.mg "len" = none) (gs : Gl X "set") (ms : X.mg "set" = none) (he : PE X arg ta)
    (hc : X.calm = true := by rfl) (hse : starEach [arg] X.env = (false, eval arg X.env) :: starEach [] X.env := by rfl) :
    PE X (.Call (.Name "len" p) [.Call (.Name "set" p2) [arg] [] q] [] pos) (tLenSetA X.K ta) :=
  ⟨fun pins s σ H Q I hw => Call_ (ld_blt I gl ml boot_len (PyProof.Rows.callWith_builtin1 (PyProof.Rows.args_cons (Call_ (ld_blt I gs ms boot_set
    (PyProof.Rows.callWith_type1 (PyProof.Rows.args_cons (thn (he.run pins s σ H _ I hw) fun _ t ⟨_, H1, J, rel, l, ns, ex, hl, hn, hq⟩ => PyProof.Rows.args_nil (by
      subst ex
      cases rel
      obtain ⟨us, rv, pl, _⟩ := J.list hl
      have size : us.toArray.size = ns.length := by
        have := rv.length
        rw [List.length_map] at this
        rw [List.size_toArray, this]
      have few := PyProof.Rows.firstMet_length_le (fun i => ns.getD i 0) ns.length
      refine call_set_list (J.ok.hd hc) pl.isList (by simpa using RZ.intsAre_vals rv) (by unfold scanBound; omega) fun h2 tk made old => PyProof.Rows.args_nil ?_
      rw [size] at made
      obtain ⟨ob, es, ep, t', hob, hx, hd, _, _, _, hf, hm⟩ := made
      have J2 : Inv X pins σ H1 { t with heap := h2, toks := tk } := J.kept fun b o e => old b o (Heap.lt_size e) e
      refine call_len_set hob hx hd hf (by rw [hm]; omega) ⟨.int (setLen ns : Nat), H1, J2.tok _, ⟨_, by rw [hm] <;> rfl⟩, hq⟩)) hse) hse rfl))) rfl) rfl rfl))⟩

/-! ### a > b of data, max(xs) of data -/
def rGtD (K : PySem.W.Frag) : R2 := fun x y H Q => ∃ d e, Dp K H x d ∧ Dp K H y e ∧ alike d e = true ∧ d ≠ .none ∧ d.depth ≤ 8 ∧ Q (.bl (dataLt e d)) H
theorem op_gtD (hu : X.A.units + 64 < cLine) : OpR X (compareOp .Gt) (rGtD X.K) := fun pins t σ Hp0 _ _ _ _ W J ra rb w => by
  obtain ⟨d, e, da, eb, al, ok, h8, goes⟩ := w
  obtain ⟨_, readsA⟩ := Dp.reads J d _ _ da ra
  obtain ⟨_, readsB⟩ := Dp.reads J e _ _ eb rb
  have room : X.A.units + min d.depth e.depth < cLine := by have := Nat.min_le_left d.depth e.depth; omega
  exact PySem.W.gt_data readsA readsB al ok room ⟨.bl _, Hp0, J, rfl, goes⟩

theorem dpAll_at {K : PySem.W.Frag} {H : Hp} : ∀ {ys : List V} {ds : List PyData}, DpAll K H ys ds → ∀ (i : Nat) (y : V), ys[i]? = some y → ∃ d, ds[i]? = some d ∧ Dp K H y d
  | _, _, .nil, _, _, h => by simp at h
  | _, _, .cons a b, 0, y, h => by
    have e := Option.some.inj (show some _ = some y from h)
    subst e
    exact ⟨_, rfl, a⟩
  | _, _, .cons a b, i + 1, y, h => by
    obtain ⟨d, e, q⟩ := dpAll_at b i y (by simpa using h)
    exact ⟨d, by simpa using e, q⟩
theorem dpAll_len {K : PySem.W.Frag} {H : Hp} : ∀ {ys : List V} {ds : List PyData}, DpAll K H ys ds → ys.length = ds.length
  | _, _, .nil => rfl
  | _, _, .cons a b => by rw [List.length_cons, List.length_cons, dpAll_len b]
def rMaxD (K : PySem.W.Frag) : List V → Hp → VK → Prop := fun vs H Q => ∃ (a : Addr) (ys : List V) (d : PyData) (ds : List PyData), vs = [V.ref a] ∧ SqL K H a ys ∧ DpAll K H ys (d :: ds) ∧ AlikeAll (d :: ds) ∧ PyData.depthAll (d :: ds) ≤ 8 ∧
  ∀ (i : Nat) (y : V), ys[i]? = some y → (d :: ds)[i]? = some (maxD d ds) → Q y H
theorem max_mem : ∀ (l : List PyData) (x : PyData), maxD x l ∈ x :: l
  | [], _ => List.mem_singleton.mpr rfl
  | z :: l, x => by
    have ih := max_mem l (if dataLt x z = true then z else x)
    show maxD (if dataLt x z = true then z else x) l ∈ _
    rcases List.mem_cons.mp ih with e | e
    · rw [e]
      split
      · exact List.mem_cons_of_mem _ List.mem_cons_self
      · exact List.mem_cons_self
    · exact List.mem_cons_of_mem _ (List.mem_cons_of_mem _ e)
theorem call_maxD (hc : X.calm = true) (hu : X.A.units + 64 < cLine) : CallR X (.builtin "max") (rMaxD X.K) := fun pins t σ Hp0 _ _ W J rs w => by
  obtain ⟨a, ys, d, ds, rfl, ql, dp, alike', h8, goes⟩ := w
  rw [Vals.ref1 rs]
  obtain ⟨us, ru, plain, _⟩ := J.list ql
  obtain ⟨_, reads⟩ := Dp.readsAll J (d :: ds) ys us dp ru
  refine max_list_data (J.ok.hd hc) plain.isList (by simpa using reads) alike' (by omega) fun i v h2 tk _ at_ top kept => ?_
  have at' : us[i]? = some v := by simpa using at_
  have il : i < ys.length := by rw [ru.length]; exact (List.getElem?_eq_some_iff.mp at').1
  obtain ⟨u, eu, rel⟩ := ru.get (List.getElem?_eq_getElem il)
  obtain rfl : u = v := Option.some.inj (eu.symm.trans at')
  obtain ⟨e, he, de⟩ := dpAll_at dp i _ (List.getElem?_eq_getElem il)
  obtain ⟨_, re⟩ := Dp.reads J e _ _ de rel
  have same : e = maxD d ds := PySem.W.alike_unique e (maxD d ds) _ _ _ (alike'.1 _ (List.mem_of_getElem? he) _ (max_mem ds d)) (reads_keeps kept re) top
  exact ⟨ys[i], Hp0, J.kept (t' := tk) kept, rel, goes i _ (List.getElem?_eq_getElem il) (by rw [he, same])⟩
end
end Bs
namespace Bs
open PySem L2
def topS (i : Nat) : Stmt := PySem.Challenge.pw_boardshares_s04_against.main.body.getD i (.Pass ⟨0, 0, 0, 0⟩)
abbrev s_rank_of : Stmt := topS 4
abbrev s_suit_of : Stmt := topS 5
abbrev s_are_cards : Stmt := topS 6
abbrev s_unseen : Stmt := topS 7
abbrev s_choices_of : Stmt := topS 8
abbrev s_without : Stmt := topS 9
abbrev s_counts_of : Stmt := topS 22
abbrev s_highest_row : Stmt := topS 23
abbrev s_flush_ranks : Stmt := topS 24
abbrev s_there_of : Stmt := topS 25
abbrev s_ranks_with : Stmt := topS 26
abbrev s_others_of : Stmt := topS 27
abbrev s_of_like_ranks : Stmt := topS 28
abbrev s_of_many_alike : Stmt := topS 29
abbrev s_worth_of : Stmt := topS 30
abbrev s_against_all : Stmt := topS 33
abbrev s_is_between : Stmt := topS 37
abbrev s_against : Stmt := topS 38
end Bs
/-! ### helpers: lists of small numbers as values, heaps -/
namespace Bs
open PySem PySem.Spec PyProof.Rows L2
/-- a number as a value -/
def vN (n : Nat) : V := .int (n : Int)
def vB (b : Bool) : V := .bl b
theorem vN_ints (l : List Nat) : l.map vN = (l.map fun (n : Nat) => (n : Int)).map V.int := by rw [List.map_map]; rfl
theorem get_vN {l : List Nat} {i : Nat} {x : V} (h : (l.map vN)[i]? = some x) : ∃ n, l[i]? = some n ∧ x = vN n := by
  rw [List.getElem?_map] at h
  cases e : l[i]? with
  | none => rw [e] at h; cases h
  | some z => rw [e] at h; exact ⟨z, rfl, (Option.some.inj h).symm⟩
theorem get_map {α : Type} {f : α → V} {l : List α} {i : Nat} {x : V} (h : (l.map f)[i]? = some x) : ∃ n, l[i]? = some n ∧ x = f n := by
  rw [List.getElem?_map] at h
  cases e : l[i]? with
  | none => rw [e] at h; cases h
  | some z => rw [e] at h; exact ⟨z, rfl, (Option.some.inj h).symm⟩
theorem take_more {α : Type} {l : List α} {i : Nat} {x : α} (h : l[i]? = some x) : l.take (i + 1) = l.take i ++ [x] := by
  rw [List.take_add_one, h]; rfl
theorem lt_of_get {α : Type} {l : List α} {i : Nat} {x : α} (h : l[i]? = some x) : i < l.length := (List.getElem?_eq_some_iff.mp h).1
theorem take_all {α : Type} (l : List α) : l.take l.length = l := List.take_length
theorem same_upd {H : Hp} {p : Addr} {o : HO} (h : H p = none) : Same H (upd H p o) := fun b x e => by
  rw [upd_ne (ne_of_none e h)]
  exact e
/-- an object that was not there may change -/
theorem same_put {H H' : Hp} {p : Addr} {o : HO} (s : Same H H') (h : H p = none) : Same H (upd H' p o) := fun b x e => by
  rw [upd_ne (ne_of_none e h)]
  exact s b x e
theorem sq {K : PySem.W.Frag} {H : Hp} {a : Addr} {xs : List V} (h : H a = some (.lst xs)) : SqL K H a xs := .inl (.inl h)
theorem sqT {K : PySem.W.Frag} {H : Hp} {a : Addr} {xs : List V} (h : H a = some (.tup xs)) : SqT K H a xs := .inl (.inl h)
theorem sq_upd {K : PySem.W.Frag} {H : Hp} {a p : Addr} {xs : List V} {o : HO} (h : SqL K H a xs) (hp : H p = none) : SqL K (upd H p o) a xs := (same_upd hp).seq h
theorem line {n : Nat} (h : n ≤ 16000000) : n ≤ sizeLine := by rw [sizeLine_eq]; omega
theorem line' {n : Nat} (h : n < 16000000) : n < sizeLine := by rw [sizeLine_eq]; omega
/-- the place of an item, by a number -/
theorem ixN_nat {n j : Nat} (h : j < n) : ixN n (j : Int) = some j := by
  unfold ixN
  rw [if_pos (by omega), if_pos (by omega)]
  rfl
theorem fdivN (a b : Nat) : (a : Int).fdiv (b : Int) = ((a / b : Nat) : Int) := by
  rw [Int.fdiv_eq_ediv_of_nonneg _ (Int.natCast_nonneg b)]; rfl
theorem fmodN (a b : Nat) : (a : Int).fmod (b : Int) = ((a % b : Nat) : Int) := by
  rw [Int.fmod_eq_emod_of_nonneg _ (Int.natCast_nonneg b)]; rfl
theorem ite_of {c : Bool} {A B : Prop} (h1 : c = true → A) (h2 : c = false → B) : if c = true then A else B := by
  cases c with
  | true => exact h1 rfl
  | false => exact iteF (h2 rfl)
/-- a comprehension over n items of anything -/
theorem lc_any {J : It} {n : Nat} {g : TG} {tt : TT} {te : TE} {vs : List Nat} {σ : L2.St} {H1 : Hp} {D : Addr} {Qd : Hp → Prop} (Pv : Nat → Hp → Prop)
    (h0 : Pv 0 (upd H1 D (.lst [])))
    (hgo : ∀ i H, i < n → Pv i H → J.go i H) (hst : ∀ H, Pv n H → J.stop n H)
    (hs : ∀ i x H H', i < n → Pv i H → J.yld i H x H' → g x (wipe σ vs) H' fun σ2 H2 => wipe σ2 vs = wipe σ vs ∧ tt σ2 H2 fun b H3 =>
      if b = true then (te σ2 H3 fun y H4 => ∃ acc, H4 D = some (.lst acc) ∧ acc.length < sizeLine ∧ Pv (i + 1) (upd H4 D (.lst (acc ++ [y]))))
      else Pv (i + 1) H3)
    (hd : ∀ H, Pv n H → Qd H) :
    ∃ W : Nat → Nat → Hp → Prop, (∃ m, W 0 m (upd H1 D (.lst []))) ∧ ∀ i m H, W i m H →
      (J.stop i H ∧ Qd H) ∨
      (J.go i H ∧ ∃ Nx : Hp → Prop, (∀ H', Nx H' → ∃ m', m' < m ∧ W (i + 1) m' H') ∧
        ∀ x H', J.yld i H x H' → g x (wipe σ vs) H' fun σ2 H2 => wipe σ2 vs = wipe σ vs ∧ tt σ2 H2 fun b H3 =>
          if b = true then (te σ2 H3 fun y H4 => ∃ acc, H4 D = some (.lst acc) ∧ acc.length < sizeLine ∧ Nx (upd H4 D (.lst (acc ++ [y]))))
          else Nx H3) := by
  refine ⟨fun i m H => m = n - i ∧ (i ≤ n ∧ Pv i H), ⟨n, ⟨rfl, Nat.zero_le n, h0⟩⟩, fun i m H hW => ?_⟩
  obtain ⟨e, hi, p⟩ := hW
  rcases Nat.lt_or_ge i n with lt | ge
  · refine Or.inr ⟨hgo i H lt p, Pv (i + 1), fun H' p' => ⟨n - (i + 1), ⟨by omega, rfl, lt, p'⟩⟩, fun x H' y => hs i x H H' lt p y⟩
  · have e2 : i = n := Nat.le_antisymm hi ge
    rw [e2] at p ⊢
    exact Or.inl ⟨hst H p, hd H p⟩
/-- a loop over n items of anything -/
theorem for_any {J : It} {n : Nat} {g : TG} {tb : TS} {D : Ends} {σ : L2.St} {H : Hp} (Pv : Nat → L2.St → Hp → Prop) (h0 : Pv 0 σ H)
    (hgo : ∀ i σ H, i < n → Pv i σ H → J.go i H) (hst : ∀ σ H, Pv n σ H → J.stop n H)
    (hs : ∀ i x σ H H', i < n → Pv i σ H → J.yld i H x H' → g x σ H' fun σ2 H2 => tb { D with nx := Pv (i + 1), ct := Pv (i + 1), bk := D.nx } σ2 H2)
    (hd : ∀ σ H, Pv n σ H → D.nx σ H) :
    ∃ W : Nat → Nat → L2.St → Hp → Prop, (∃ m, W 0 m σ H) ∧ ∀ i m σ H, W i m σ H →
      (J.stop i H ∧ D.nx σ H) ∨
      (J.go i H ∧ ∃ N : L2.St → Hp → Prop, (∀ σ' H', N σ' H' → ∃ m', m' < m ∧ W (i + 1) m' σ' H') ∧
        ∀ x H', J.yld i H x H' → g x σ H' fun σ2 H2 => tb { D with nx := N, ct := N, bk := D.nx } σ2 H2) := by
  refine ⟨fun i m σ H => m = n - i ∧ (i ≤ n ∧ Pv i σ H), ⟨n, ⟨rfl, Nat.zero_le n, h0⟩⟩, fun i m σ H hW => ?_⟩
  obtain ⟨e, hi, p⟩ := hW
  rcases Nat.lt_or_ge i n with lt | ge
  · refine Or.inr ⟨hgo i σ H lt p, Pv (i + 1), fun σ' H' p' => ⟨n - (i + 1), ⟨by omega, rfl, lt, p'⟩⟩, fun x H' y => hs i x σ H H' lt p y⟩
  · have e2 : i = n := Nat.le_antisymm hi ge
    rw [e2] at p ⊢
    exact Or.inl ⟨hst σ H p, hd σ H p⟩
section
variable {X : Cx}
/-- rules told over the written part itself: within a comprehension -/
theorem ix_listK {K : PySem.W.Frag} (e : X.K = K) : IxR X (rIxL K) := by subst e; exact ix_list
theorem op_notInK {K : PySem.W.Frag} (e : X.K = K) : OpR X (compareOp .NotIn) (rIn K true) := by subst e; exact op_notIn_seq
theorem op_catSK {K : PySem.W.Frag} (e : X.K = K) : OpR X (binaryOp .Add) (rCatS K) := by subst e; exact op_catS
theorem op_inK {K : PySem.W.Frag} (e : X.K = K) : OpR X (compareOp .In) (rIn K false) := by subst e; exact op_in_seq
theorem op_eqDK {K : PySem.W.Frag} (e : X.K = K) (hu : X.A.units + 64 < cLine) : OpR X (compareOp .Eq) (rEqD K) := by subst e; exact op_eqD hu
theorem pg_tupK {K : PySem.W.Frag} {es : List Expr} {k : Nat} {t : TGs} {n : Nat} {pos : Pos} (e : X.K = K) (hc : X.calm = true) (h : PGs X es t)
    (hn : (assignEach es X.env).length = n := by rfl) (hst : (assignEach es X.env).findIdx? (·.1) = none := by rfl) : PG X (.Tuple es k pos) (gTup K n t) := by subst e; exact pg_tup hc h hn hst
theorem sl_listK {K : PySem.W.Frag} (e : X.K = K) : SlR X (rSlL K) := by subst e; exact sl_list
end
end Bs
namespace Bs
open PySem PySem.Spec PyProof.Rows L2
section
variable {P : Program} {w : World} {K : PySem.W.Frag} {mg : Str → Option Value} {base : Heap}
/-! ### rank_of, suit_of -/
def sp_rank : Sp := fun vs H Q _ => ∃ c : Nat, vs = [vN c] ∧ Q (vN (c / 4)) H
def sp_suit : Sp := fun vs H Q _ => ∃ c : Nat, vs = [vN c] ∧ Q (vN (c % 4)) H
theorem sc_rank_of : FnScope ["card"] ["card"] (defScope s_rank_of) := ⟨rfl, rfl, rfl, by decide +kernel, rfl, by decide +kernel, by decide +kernel⟩
theorem sc_suit_of : FnScope ["card"] ["card"] (defScope s_suit_of) := ⟨rfl, rfl, rfl, by decide +kernel, rfl, by decide +kernel, by decide +kernel⟩
theorem ok_rank_of {f : Addr} {fd : FuncData} {k : Nat} {t : Tok} (F : Fun K "rank_of" "rank_of" s_rank_of f fd) (mS : mg "SUITS" = some (.int 4 t)) : FnOk P w K mg base CX0 (k + 1) f fd ["card"] sp_rank := by
  refine F.ok sc_rank_of (fun vs H Q E h => ?_) (fun cdv A outer s H vs Q E hr h => ?_)
  · obtain ⟨c, rfl, _⟩ := h; rfl
  · obtain ⟨c, rfl, q⟩ := h
    refine ⟨_, pss_one (ps_ret (pe_op op_fdivN (pv 0) (pe_glob (v := .int 4) rfl mS ⟨_, rfl⟩))), ?_⟩
    refine ⟨_, rfl, _, _, rfl, rfl, ⟨by decide, by decide⟩, ?_⟩
    have e := fdivN c 4
    show Q (.int ((c : Int).fdiv 4)) H
    rw [show (c : Int).fdiv 4 = ((c / 4 : Nat) : Int) from e]
    exact q
theorem ok_suit_of {f : Addr} {fd : FuncData} {k : Nat} {t : Tok} (F : Fun K "suit_of" "suit_of" s_suit_of f fd) (mS : mg "SUITS" = some (.int 4 t)) : FnOk P w K mg base CX0 (k + 1) f fd ["card"] sp_suit := by
  refine F.ok sc_suit_of (fun vs H Q E h => ?_) (fun cdv A outer s H vs Q E hr h => ?_)
  · obtain ⟨c, rfl, _⟩ := h; rfl
  · obtain ⟨c, rfl, q⟩ := h
    refine ⟨_, pss_one (ps_ret (pe_op op_modN (pv 0) (pe_glob (v := .int 4) rfl mS ⟨_, rfl⟩))), ?_⟩
    refine ⟨_, rfl, _, _, rfl, rfl, (by show (4 : Int) ≠ 0; decide), ?_⟩
    show Q (.int ((c : Int).fmod 4)) H
    rw [show (c : Int).fmod 4 = ((c % 4 : Nat) : Int) from fmodN c 4]
    exact q
end
end Bs
namespace Bs
open PySem PySem.Spec PyProof.Rows L2
/-! ### counts_of -/
/-- thirteen numbers -/
def cl (f : Nat → Nat) : List V := (List.range 13).map fun r => vN (f r)
theorem cl_len (f : Nat → Nat) : (cl f).length = 13 := by simp [cl]
theorem cl_get {f : Nat → Nat} {r : Nat} (h : r < 13) : (cl f)[r]? = some (vN (f r)) := by
  unfold cl
  rw [List.getElem?_map, List.getElem?_range h]; rfl
theorem cl_congr {f g : Nat → Nat} (h : ∀ r, r < 13 → f r = g r) : cl f = cl g := by
  unfold cl
  exact List.map_congr_left fun r hr => by rw [h r (List.mem_range.mp hr)]
theorem cl_set (f : Nat → Nat) (r : Nat) (n : Nat) : (cl f).set r (vN n) = cl fun x => if x = r then n else f x := by
  apply List.ext_getElem?
  intro i
  rw [List.getElem?_set]
  by_cases hi : i < 13
  · rw [cl_get hi]
    by_cases e : r = i
    · subst e
      rw [if_pos rfl, if_pos (by rw [cl_len]; exact hi), cl_get hi, if_pos rfl]
    · rw [if_neg e, cl_get hi, if_neg (fun z => e z.symm)]
  · have e1 : (cl fun x => if x = r then n else f x)[i]? = none := List.getElem?_eq_none (by rw [cl_len]; omega)
    have e2 : (cl f)[i]? = none := List.getElem?_eq_none (by rw [cl_len]; omega)
    rw [e1]
    split
    · rename_i e
      subst e
      rw [if_neg (by rw [cl_len]; exact hi)]
    · exact e2
section
variable {P : Program} {w : World} {K : PySem.W.Frag} {mg : Str → Option Value} {base : Heap}
def sp_counts (K : PySem.W.Frag) : Sp := fun vs H Q _ => ∃ (a : Addr) (cs : List Nat), vs = [.ref a] ∧ SqL K H a (cs.map vN) ∧ (∀ c ∈ cs, c < 52) ∧
  ∀ H' p, Same H H' → H p = none → H' p = some (.lst (cl (cnt cs))) → Q (.ref p) H'
theorem sc_counts_of : FnScope ["cards", "found", "card"] ["cards"] (defScope s_counts_of) := ⟨rfl, rfl, rfl, by decide +kernel, rfl, by decide +kernel, by decide +kernel⟩
theorem ok_counts_of {f f1 : Addr} {fd fd1 : FuncData} {k : Nat} {t : Tok} (F : Fun K "counts_of" "counts_of" s_counts_of f fd) (mR : mg "RANKS" = some (.int 13 t))
    (F1 : Fun K "rank_of" "rank_of" s_rank_of f1 fd1) (b1 : Binds K fd1 ["card"] []) (g1 : mg "rank_of" = some (.ref f1)) (G1 : FnOk P w K mg base CX0 k f1 fd1 ["card"] sp_rank) : FnOk P w K mg base CX0 (k + 1) f fd ["cards"] (sp_counts K) := by
  refine F.ok sc_counts_of (fun vs H Q E h => ?_) (fun cdv A outer s H vs Q E hr h => ?_)
  · obtain ⟨a, cs, rfl, _⟩ := h; rfl
  · obtain ⟨a, cs, rfl, hS, h52, q⟩ := h
    have nd := sc_counts_of.nd
    refine ⟨_, pss_cons (ps_set (i := 1) nd rfl (.inl rfl) (pe_op op_rep (pe_lst (pa_cons pe_int pa_nil)) (pe_glob (v := .int 13) rfl mR ⟨_, rfl⟩)))
      (pss_cons (ps_for PassesOwn.never rfl (pi_list (pv 0)) (pg_name (i := 2) nd rfl (.inl rfl))
        (pss_one (ps_asg (pe_op op_add (pe_ix ix_list (pv 1) (pe_call G1 hr rfl g1 F1.kp b1 .nil pass0 (pa_cons (pv 2) pa_nil)) (fun _ _ => rfl)) pe_int)
          (pg_sub (pv 1) (pe_call G1 hr rfl g1 F1.kp b1 .nil pass0 (pa_cons (pv 2) pa_nil)) set_list))))
      (pss_one (ps_ret (pv 1)))), ?_⟩
    refine ⟨line (by decide), fun l0 n0 => ?_⟩
    refine ⟨l0, 13, [.int 0], rfl, rfl, upd_same, by decide, by decide, line (by decide), fun p np => ?_⟩
    have n1 : H p = none := (same_upd n0).free np
    refine ⟨.ref a, rfl, a, rfl, ⟨_, ((same_upd n0).trans (same_upd np)).seq hS⟩, for_list (K := K) (a := a) (xs := cs.map vN)
      (fun i σ H' => ∃ v2, σ = [some (.ref a), some (.ref p), v2] ∧ Same H H' ∧ H' p = some (.lst (cl (cnt (cs.take i)))))
      ⟨none, rfl, (same_upd n0).trans (same_upd np), upd_same⟩ (fun i σ H' _ hI => by obtain ⟨_, _, s1, _⟩ := hI; exact s1.seq hS) ?_ ?_⟩
    · rintro i x σ H' hi ⟨v2, rfl, s1, hp⟩
      obtain ⟨c, hc, rfl⟩ := get_vN hi
      have c52 := h52 c (List.mem_of_getElem? hc)
      have r13 : c / 4 < 13 := by omega
      refine ⟨.ref p, rfl, vN c, rfl, c, rfl, p, _, _, vN (cnt (cs.take i) (c / 4)), rfl, rfl, sq hp, atI_nat (cl_get r13), _, _, rfl, rfl, ?_⟩
      refine ⟨.ref p, rfl, vN c, rfl, c, rfl, p, _, _, c / 4, rfl, rfl, hp, ixN_nat (by rw [cl_len]; exact r13), ?_⟩
      refine ⟨_, rfl, same_put s1 n1, ?_⟩
      rw [upd_same]
      have e := cl_set (cnt (cs.take i)) (c / 4) (cnt (cs.take i) (c / 4) + 1)
      have e2 : V.int ((cnt (cs.take i) (c / 4) : Int) + 1) = vN (cnt (cs.take i) (c / 4) + 1) := by unfold vN; rw [Int.natCast_add]; rfl
      show some (HO.lst ((cl (cnt (cs.take i))).set (c / 4) (V.int ((cnt (cs.take i) (c / 4) : Int) + 1)))) = _
      rw [e2, e, take_more hc]
      refine congrArg (fun l => some (HO.lst l)) (cl_congr fun r _ => ?_)
      rw [cnt_append, cnt_cons, cnt_nil]
      by_cases e : r = c / 4
      · have e' : Md21.rank c = r := e.symm
        rw [if_pos e, if_pos e', e]
      · have e' : ¬ Md21.rank c = r := fun z => e z.symm
        rw [if_neg e, if_neg e']
        rfl
    · rintro σ H' ⟨v2, rfl, s1, hp⟩
      rw [List.length_map, take_all] at hp
      exact ⟨.ref p, rfl, q H' p s1 n1 hp⟩
end
end Bs
namespace Bs
open PySem PySem.Spec PyProof.Rows L2
/-! ### highest_row -/
/-- thirteen truth values -/
def bl (f : Nat → Bool) : List V := (List.range 13).map fun r => V.bl (f r)
theorem bl_len (f : Nat → Bool) : (bl f).length = 13 := by simp [bl]
theorem bl_get {f : Nat → Bool} {r : Nat} (h : r < 13) : (bl f)[r]? = some (.bl (f r)) := by
  unfold bl
  rw [List.getElem?_map, List.getElem?_range h]; rfl
theorem bl_at {f : Nat → Bool} {r : Nat} {z : Int} (h : r < 13) (e : z = (r : Int)) : atI (bl f) z = some (.bl (f r)) := at_of e (bl_get h)
def rowV (o : Option Nat) : V := match o with
  | some r => vN r
  | none => .int (-1)
theorem highs_get : ∀ i, i < 9 → highs[i]? = some (12 - i) := by decide
theorem row_found {b : Nat → Bool} {i : Nat} (hi : i < 9) (h : rowAt b (12 - i) = true) (no : ∀ j, j < i → rowAt b (12 - j) = false) : highRow b = some (12 - i) := by
  have e : highs.find? (rowAt b) = some (12 - i) := by
    rw [List.find?_eq_some_iff_getElem]
    refine ⟨h, i, hi, ?_, fun j hj => ?_⟩
    · have := highs_get i hi
      rw [List.getElem?_eq_getElem hi] at this
      exact Option.some.inj this
    · have q := highs_get j (by omega)
      rw [List.getElem?_eq_getElem (show j < highs.length by show j < 9; omega)] at q
      rw [Option.some.inj q, no j hj]
      rfl
  unfold highRow
  rw [e]
theorem row_none {b : Nat → Bool} (no : ∀ j, j < 9 → rowAt b (12 - j) = false) : highRow b = if (b 12 && (b 0 && (b 1 && (b 2 && b 3)))) = true then some 3 else none := by
  have e : highs.find? (rowAt b) = none := by
    rw [List.find?_eq_none]
    intro x hx
    obtain ⟨h1, h2⟩ := mem_highs.mp hx
    have := no (12 - x) (by omega)
    rw [show 12 - (12 - x) = x by omega] at this
    rw [this]
    exact Bool.false_ne_true
  unfold highRow
  rw [e]
section
variable {P : Program} {w : World} {K : PySem.W.Frag} {mg : Str → Option Value} {base : Heap}
def sp_row (K : PySem.W.Frag) : Sp := fun vs H Q _ => ∃ (a : Addr) (b : Nat → Bool), vs = [.ref a] ∧ SqL K H a (bl b) ∧ Q (rowV (highRow b)) H
theorem sc_highest_row : FnScope ["there", "high"] ["there"] (defScope s_highest_row) := ⟨rfl, rfl, rfl, by decide +kernel, rfl, by decide +kernel, by decide +kernel⟩
theorem ok_highest_row {f : Addr} {fd : FuncData} {k : Nat} {t t2 : Tok} (F : Fun K "highest_row" "highest_row" s_highest_row f fd) (mR : mg "RANKS" = some (.int 13 t)) (mA : mg "ACE" = some (.int 12 t2)) (mr : mg "range" = none) :
    FnOk P w K mg base CX0 (k + 1) f fd ["there"] (sp_row K) := by
  refine F.ok sc_highest_row (fun vs H Q E h => ?_) (fun cdv A outer s H vs Q E hr h => ?_)
  · obtain ⟨a, b, rfl, _⟩ := h; rfl
  · obtain ⟨a, b, rfl, hS, q⟩ := h
    have nd := sc_highest_row.nd
    refine ⟨_, pss_cons (ps_for PassesOwn.never rfl (pi_range3 rfl mr (pa_cons (pe_op op_sub (pe_glob (v := .int 13) rfl mR ⟨_, rfl⟩) pe_int) (pa_cons pe_int (pa_cons (pe_un un_neg pe_int) pa_nil)))) (pg_name (i := 1) nd rfl (.inl rfl))
        (pss_one (ps_if (PW.pt (pw_and (pt_val (pe_ix ix_list (pv 0) (pv 1) (fun _ _ => rfl)))
          (pw_and (pt_val (pe_ix ix_list (pv 0) (pe_op op_sub (pv 1) pe_int) (fun _ _ => rfl)))
          (pw_and (pt_val (pe_ix ix_list (pv 0) (pe_op op_sub (pv 1) pe_int) (fun _ _ => rfl)))
          (pw_and (pt_val (pe_ix ix_list (pv 0) (pe_op op_sub (pv 1) pe_int) (fun _ _ => rfl)))
          (pw_and1 (pt_val (pe_ix ix_list (pv 0) (pe_op op_sub (pv 1) pe_int) (fun _ _ => rfl))))))))) (pss_one (ps_ret (pv 1))) pss_nil)))
      (pss_cons (ps_if (PW.pt (pw_and (pt_val (pe_ix ix_list (pv 0) (pe_glob (v := .int 12) rfl mA ⟨_, rfl⟩) (fun _ _ => rfl)))
          (pw_and (pt_val (pe_ix ix_list (pv 0) pe_int (fun _ _ => rfl)))
          (pw_and (pt_val (pe_ix ix_list (pv 0) pe_int (fun _ _ => rfl)))
          (pw_and (pt_val (pe_ix ix_list (pv 0) pe_int (fun _ _ => rfl)))
          (pw_and1 (pt_val (pe_ix ix_list (pv 0) pe_int (fun _ _ => rfl))))))))) (pss_one (ps_ret pe_int)) pss_nil)
      (pss_one (ps_ret (pe_un un_neg pe_int)))), ?_⟩
    refine ⟨13, 1, rfl, rfl, 1, rfl, 12, 3, -1, 9, rfl, RgC.neg (i := 12) (j := 3) (by decide) (by decide) (by decide) (by decide), for_rangeC (lo := 12) (c := -1) (n := 9)
      (fun i σ H' => ∃ v, σ = [some (.ref a), v] ∧ H' = H ∧ ∀ j, j < i → rowAt b (12 - j) = false) ⟨none, rfl, rfl, fun j hj => absurd hj (Nat.not_lt_zero j)⟩ ?_ ?_⟩
    · rintro i σ H' hi ⟨v, rfl, rfl, no⟩
      have ev : (12 : Int) + (i : Nat) * (-1) = ((12 - i : Nat) : Int) := by omega
      rw [ev]
      -- the five tests; where one fails the loop goes on
      have go : rowAt b (12 - i) = false → ∃ v, ([some (V.ref a), some (V.int ((12 - i : Nat) : Int))] : L2.St) = [some (.ref a), v] ∧ H' = H' ∧ ∀ j, j < i + 1 → rowAt b (12 - j) = false := fun e =>
        ⟨_, rfl, rfl, fun j hj => by
          rcases Nat.lt_or_ge j i with h | h
          · exact no j h
          · rw [show j = i by omega]; exact e⟩
      refine ⟨.ref a, rfl, _, rfl, a, _, _, .bl (b (12 - i)), rfl, rfl, hS, bl_at (by omega) rfl, _, rfl, ite_of (fun e0 => ?_) fun e0 => iteF (go ?_)⟩
      rotate_left
      · unfold rowAt; rw [e0]; rfl
      refine ⟨.ref a, rfl, _, rfl, _, _, rfl, rfl, a, _, _, .bl (b (12 - i - 1)), rfl, rfl, hS, bl_at (by omega) (by omega), _, rfl, ite_of (fun e1 => ?_) fun e1 => iteF (go ?_)⟩
      rotate_left
      · unfold rowAt; rw [e1]; simp
      refine ⟨.ref a, rfl, _, rfl, _, _, rfl, rfl, a, _, _, .bl (b (12 - i - 2)), rfl, rfl, hS, bl_at (by omega) (by omega), _, rfl, ite_of (fun e2 => ?_) fun e2 => iteF (go ?_)⟩
      rotate_left
      · unfold rowAt; rw [e2]; simp
      refine ⟨.ref a, rfl, _, rfl, _, _, rfl, rfl, a, _, _, .bl (b (12 - i - 3)), rfl, rfl, hS, bl_at (by omega) (by omega), _, rfl, ite_of (fun e3 => ?_) fun e3 => iteF (go ?_)⟩
      rotate_left
      · unfold rowAt; rw [e3]; simp
      refine ⟨.ref a, rfl, _, rfl, _, _, rfl, rfl, a, _, _, .bl (b (12 - i - 4)), rfl, rfl, hS, bl_at (by omega) (by omega), _, rfl, ite_of (fun e4 => ?_) fun e4 => go ?_⟩
      rotate_left
      · unfold rowAt; rw [e4]; simp
      have all : rowAt b (12 - i) = true := by unfold rowAt; rw [e0, e1, e2, e3, e4]; rfl
      rw [row_found hi all no] at q
      exact ⟨_, rfl, q⟩
    · rintro σ H' ⟨v, rfl, rfl, no⟩
      rw [row_none no] at q
      have last : (b 12 && (b 0 && (b 1 && (b 2 && b 3)))) = false → Q (.int (-1)) H' := fun e => by rw [e] at q; exact q
      refine ⟨.ref a, rfl, a, _, _, .bl (b 12), rfl, rfl, hS, bl_at (by omega) rfl, _, rfl, ite_of (fun e0 => ?_) fun e0 => iteF ⟨_, rfl, last ?_⟩⟩
      rotate_left
      · rw [e0]; rfl
      refine ⟨.ref a, rfl, a, _, _, .bl (b 0), rfl, rfl, hS, bl_at (by omega) rfl, _, rfl, ite_of (fun e1 => ?_) fun e1 => iteF ⟨_, rfl, last ?_⟩⟩
      rotate_left
      · rw [e1]; simp
      refine ⟨.ref a, rfl, a, _, _, .bl (b 1), rfl, rfl, hS, bl_at (by omega) rfl, _, rfl, ite_of (fun e2 => ?_) fun e2 => iteF ⟨_, rfl, last ?_⟩⟩
      rotate_left
      · rw [e2]; simp
      refine ⟨.ref a, rfl, a, _, _, .bl (b 2), rfl, rfl, hS, bl_at (by omega) rfl, _, rfl, ite_of (fun e3 => ?_) fun e3 => iteF ⟨_, rfl, last ?_⟩⟩
      rotate_left
      · rw [e3]; simp
      refine ⟨.ref a, rfl, a, _, _, .bl (b 3), rfl, rfl, hS, bl_at (by omega) rfl, _, rfl, ite_of (fun e4 => ?_) fun e4 => ⟨_, rfl, last ?_⟩⟩
      rotate_left
      · rw [e4]; simp
      rw [e0, e1, e2, e3, e4] at q
      exact q
end
end Bs
namespace Bs
open PySem PySem.Spec PyProof.Rows L2
/-! ### there_of, ranks_with, others_of -/
theorem bl_set (f : Nat → Bool) (r : Nat) (n : Bool) : (bl f).set r (.bl n) = bl fun x => if x = r then n else f x := by
  apply List.ext_getElem?
  intro i
  rw [List.getElem?_set]
  by_cases hi : i < 13
  · rw [bl_get hi]
    by_cases e : r = i
    · subst e
      rw [if_pos rfl, if_pos (by rw [bl_len]; exact hi), bl_get hi, if_pos rfl]
    · rw [if_neg e, bl_get hi, if_neg (fun z => e z.symm)]
  · have e1 : (bl fun x => if x = r then n else f x)[i]? = none := List.getElem?_eq_none (by rw [bl_len]; omega)
    have e2 : (bl f)[i]? = none := List.getElem?_eq_none (by rw [bl_len]; omega)
    rw [e1]
    split
    · rename_i e
      subst e
      rw [if_neg (by rw [bl_len]; exact hi)]
    · exact e2
theorem bl_congr {f g : Nat → Bool} (h : ∀ r, r < 13 → f r = g r) : bl f = bl g := by
  unfold bl
  exact List.map_congr_left fun r hr => by rw [h r (List.mem_range.mp hr)]
theorem inV_N (x : Nat) : ∀ l : List Nat, inV (vN x) (l.map vN) = l.contains x
  | [] => rfl
  | y :: l => by
    have ih := inV_N x l
    unfold inV at *
    rw [List.map_cons, List.any_cons, ih, List.contains_cons]
    have e : eqV (vN y) (vN x) = (x == y) := by
      unfold vN eqV
      by_cases h : x = y
      · subst h; simp
      · have h2 : ¬ ((y : Int) = (x : Int)) := by omega
        have h3 : ((y : Int) == (x : Int)) = false := beq_eq_false_iff_ne.mpr h2
        have h4 : (x == y) = false := beq_eq_false_iff_ne.mpr h
        show ((y : Int) == (x : Int)) = (x == y)
        rw [h3, h4]
    rw [e]
theorem flat_N (l : List Nat) : (l.map vN).all flatV = true := by
  rw [List.all_map]
  exact List.all_eq_true.mpr fun _ _ => rfl
theorem cut_take (xs : List V) (n : Nat) : cutV xs none (some (n : Int)) = xs.take n := by
  unfold cutV
  rw [HT.sIx_none, show HT.sIx xs.length xs.length (some (n : Int)) = min n xs.length from HT.sIx_nat xs.length xs.length n]
  show (xs.take (min n xs.length - 0)) = xs.take n
  rw [Nat.sub_zero]
  rcases Nat.le_total n xs.length with h | h
  · rw [Nat.min_eq_left h]
  · rw [Nat.min_eq_right h, List.take_length, List.take_of_length_le h]
theorem down_get : ∀ i, i < 13 → (List.range 13).reverse[i]? = some (12 - i) := by decide
/-- the first i ranks from above, sifted -/
def descT (p : Nat → Bool) (i : Nat) : List Nat := ((List.range 13).reverse.take i).filter p
theorem descT_more {p : Nat → Bool} {i : Nat} (hi : i < 13) : descT p (i + 1) = if p (12 - i) = true then descT p i ++ [12 - i] else descT p i := by
  unfold descT
  rw [take_more (down_get i hi), List.filter_append]
  cases e : p (12 - i) with
  | true => rw [List.filter_cons, if_pos e]; rfl
  | false => rw [List.filter_cons, if_neg (by rw [e]; exact Bool.false_ne_true)]; simp
theorem descT_all (p : Nat → Bool) : descT p 13 = desc p := rfl
theorem descT_len (p : Nat → Bool) (i : Nat) : (descT p i).length ≤ 13 := by
  unfold descT
  refine Nat.le_trans (List.length_filter_le ..) ?_
  rw [List.length_take]
  exact Nat.min_le_right ..
section
variable {P : Program} {w : World} {K : PySem.W.Frag} {mg : Str → Option Value} {base : Heap}
def sp_there (K : PySem.W.Frag) : Sp := fun vs H Q _ => ∃ (a : Addr) (l : List Nat), vs = [.ref a] ∧ SqL K H a (l.map vN) ∧ (∀ c ∈ l, c < 13) ∧
  ∀ H' p, Same H H' → H p = none → H' p = some (.lst (bl fun r => l.contains r)) → Q (.ref p) H'
theorem sc_there_of : FnScope ["ranks", "found", "rank"] ["ranks"] (defScope s_there_of) := ⟨rfl, rfl, rfl, by decide +kernel, rfl, by decide +kernel, by decide +kernel⟩
theorem ok_there_of {f : Addr} {fd : FuncData} {k : Nat} {t : Tok} (F : Fun K "there_of" "there_of" s_there_of f fd) (mR : mg "RANKS" = some (.int 13 t)) : FnOk P w K mg base CX0 (k + 1) f fd ["ranks"] (sp_there K) := by
  refine F.ok sc_there_of (fun vs H Q E h => ?_) (fun cdv A outer s H vs Q E hr h => ?_)
  · obtain ⟨a, cs, rfl, _⟩ := h; rfl
  · obtain ⟨a, cs, rfl, hS, h13, q⟩ := h
    have nd := sc_there_of.nd
    refine ⟨_, pss_cons (ps_set (i := 1) nd rfl (.inl rfl) (pe_op op_rep (pe_lst (pa_cons pe_bl pa_nil)) (pe_glob (v := .int 13) rfl mR ⟨_, rfl⟩)))
      (pss_cons (ps_for PassesOwn.never rfl (pi_list (pv 0)) (pg_name (i := 2) nd rfl (.inl rfl))
        (pss_one (ps_asg pe_bl (pg_sub (pv 1) (pv 2) set_list))))
      (pss_one (ps_ret (pv 1)))), ?_⟩
    refine ⟨line (by decide), fun l0 n0 => ?_⟩
    refine ⟨l0, 13, [.bl false], rfl, rfl, upd_same, by decide, by decide, line (by decide), fun p np => ?_⟩
    have n1 : H p = none := (same_upd n0).free np
    refine ⟨.ref a, rfl, a, rfl, ⟨_, ((same_upd n0).trans (same_upd np)).seq hS⟩, for_list (K := K) (a := a) (xs := cs.map vN)
      (fun i σ H' => ∃ v2, σ = [some (.ref a), some (.ref p), v2] ∧ Same H H' ∧ H' p = some (.lst (bl fun r => (cs.take i).contains r)))
      ⟨none, rfl, (same_upd n0).trans (same_upd np), upd_same⟩ (fun i σ H' _ hI => by obtain ⟨_, _, s1, _⟩ := hI; exact s1.seq hS) ?_ ?_⟩
    · rintro i x σ H' hi ⟨v2, rfl, s1, hp⟩
      obtain ⟨c, hc, rfl⟩ := get_vN hi
      have c13 := h13 c (List.mem_of_getElem? hc)
      refine ⟨.ref p, rfl, vN c, rfl, p, _, _, c, rfl, rfl, hp, ixN_nat (by rw [bl_len]; exact c13), ?_⟩
      refine ⟨_, rfl, same_put s1 n1, ?_⟩
      rw [upd_same, bl_set, take_more hc]
      refine congrArg (fun l => some (HO.lst l)) (bl_congr fun r _ => ?_)
      by_cases e : r = c
      · subst e; simp
      · simp [e]
    · rintro σ H' ⟨v2, rfl, s1, hp⟩
      rw [List.length_map, take_all] at hp
      exact ⟨.ref p, rfl, q H' p s1 n1 hp⟩

def sp_ranksw (K : PySem.W.Frag) : Sp := fun vs H Q _ => ∃ (a : Addr) (c : Nat → Nat) (m : Nat), vs = [.ref a, vN m] ∧ SqL K H a (cl c) ∧
  ∀ H' p, Same H H' → H p = none → H' p = some (.lst ((ranksW c m).map vN)) → Q (.ref p) H'
theorem sc_ranks_with : FnScope ["counts", "least", "rank"] ["counts", "least"] (defScope s_ranks_with) := ⟨rfl, rfl, rfl, by decide +kernel, rfl, by decide +kernel, by decide +kernel⟩
theorem ok_ranks_with {f : Addr} {fd : FuncData} {k : Nat} {t : Tok} (F : Fun K "ranks_with" "ranks_with" s_ranks_with f fd) (mR : mg "RANKS" = some (.int 13 t)) (mr : mg "range" = none) : FnOk P w K mg base CX0 (k + 1) f fd ["counts", "least"] (sp_ranksw K) := by
  refine F.ok sc_ranks_with (fun vs H Q E h => ?_) (fun cdv A outer s H vs Q E hr h => ?_)
  · obtain ⟨a, c, m, rfl, _⟩ := h; rfl
  · obtain ⟨a, c, m, rfl, hS, q⟩ := h
    have nd := sc_ranks_with.nd
    refine ⟨_, pss_one (ps_ret (pe_lc (own := [("rank", 2)]) (g := gName 2) rfl nd
      (pi_range3 rfl mr (pa_cons (pe_op op_sub (pe_glob (v := .int 13) rfl mR ⟨_, rfl⟩) pe_int) (pa_cons (pe_un un_neg pe_int) (pa_cons (pe_un un_neg pe_int) pa_nil))))
      (blkOk_by (N := ["counts", "least", "rank"]) (sc := defScope s_ranks_with) (by decide +kernel))
      (fun _ _ _ _ _ => pg_name (i := 2) nd rfl (Or.inl rfl))
      (fun _ _ _ _ _ => pts_one (pt_cmpR op_ge (pe_ix (ix_listK (K := K) rfl) (pv 0) (pv 2) (fun _ _ => rfl)) (pv 1) (nomark _)))
      (fun _ _ _ _ _ => pv 2))), ?_⟩
    refine ⟨13, 1, rfl, rfl, 1, rfl, 1, rfl, 12, -1, -1, 13, rfl, RgC.neg (i := 12) (j := -1) (by decide) (by decide) (by decide) (by decide), fun D hD => lc_any (n := 13)
      (fun i H' => Same H H' ∧ H' D = some (.lst ((descT (fun r => decide (m ≤ c r)) i).map vN)))
      ⟨same_upd hD, upd_same⟩ (fun i H' hi _ => hi) (fun _ _ => Nat.le_refl _) ?_ ?_⟩
    · rintro i x H1 H2 hi ⟨s1, hp⟩ ⟨rfl, rfl⟩
      have ev : (12 : Int) + (i : Nat) * (-1) = ((12 - i : Nat) : Int) := by omega
      rw [ev]
      refine ⟨rfl, .ref a, rfl, .int ((12 - i : Nat) : Int), rfl, a, _, _, vN (c (12 - i)), rfl, rfl, s1.seq hS, atI_nat (cl_get (by omega)), vN m, rfl, _, _, rfl, rfl, _, rfl, ?_⟩
      refine ite2 (fun e => ?_) (fun e => ?_)
      · have e' : m ≤ c (12 - i) := by have := of_decide_eq_true e; omega
        refine ⟨_, rfl, _, hp, line' ?_, same_put s1 hD, ?_⟩
        · rw [List.length_map]
          have := descT_len (fun r => decide (m ≤ c r)) i
          omega
        · rw [upd_same, descT_more hi, if_pos (decide_eq_true e'), List.map_append]
          rfl
      · have e' : ¬ m ≤ c (12 - i) := fun z => e (decide_eq_true (by show (m : Int) ≤ (c (12 - i) : Int); omega))
        refine ⟨s1, ?_⟩
        rw [descT_more hi, if_neg (by simpa using e')]
        exact hp
    · rintro H' ⟨s1, hp⟩
      exact q H' D s1 hD hp

def sp_others (K : PySem.W.Frag) : Sp := fun vs H Q _ => ∃ (a b : Addr) (c : Nat → Nat) (l : List Nat) (m : Nat), vs = [.ref a, .ref b, vN m] ∧ SqL K H a (cl c) ∧ SqL K H b (l.map vN) ∧
  ∀ H' p, Same H H' → H p = none → H' p = some (.lst ((others c l m).map vN)) → Q (.ref p) H'
theorem sc_others_of : FnScope ["counts", "ranks", "many", "rank"] ["counts", "ranks", "many"] (defScope s_others_of) := ⟨rfl, rfl, rfl, by decide +kernel, rfl, by decide +kernel, by decide +kernel⟩
theorem ok_others_of {f f1 : Addr} {fd fd1 : FuncData} {k : Nat} (F : Fun K "others_of" "others_of" s_others_of f fd)
    (F1 : Fun K "ranks_with" "ranks_with" s_ranks_with f1 fd1) (b1 : Binds K fd1 ["counts", "least"] []) (g1 : mg "ranks_with" = some (.ref f1)) (G1 : FnOk P w K mg base CX0 k f1 fd1 ["counts", "least"] (sp_ranksw K)) :
    FnOk P w K mg base CX0 (k + 1) f fd ["counts", "ranks", "many"] (sp_others K) := by
  refine F.ok sc_others_of (fun vs H Q E h => ?_) (fun cdv A outer s H vs Q E hr h => ?_)
  · obtain ⟨a, b, c, l, m, rfl, _⟩ := h; rfl
  · obtain ⟨a, b, c, l, m, rfl, hS, hL, q⟩ := h
    have nd := sc_others_of.nd
    refine ⟨_, pss_one (ps_ret (pe_slice sl_list (pe_lc (own := [("rank", 3)]) (g := gName 3) rfl nd
      (pi_list (pe_call G1 hr rfl g1 F1.kp b1 .nil pass0 (pa_cons (pv 0) (pa_cons pe_int pa_nil))))
      (blkOk_by (N := ["counts", "ranks", "many", "rank"]) (sc := defScope s_others_of) (by decide +kernel))
      (fun _ _ _ _ _ => pg_name (i := 3) nd rfl (Or.inl rfl))
      (fun _ _ _ _ _ => pts_one (pt_cmpR (op_notInK (K := K) rfl) (pv 3) (pv 1) rfl))
      (fun _ _ _ _ _ => pv 3)) po_none (po_some (pv 2)))), ?_⟩
    refine ⟨.ref a, rfl, a, c, 1, rfl, hS, fun H1 p1 s1 n1 hp1 => ?_⟩
    refine ⟨p1, rfl, ⟨_, sq hp1⟩, fun D hD => lc_list (K := K) (a := p1) (xs := (ranksW c 1).map vN)
      (fun i H' => Same H1 H' ∧ H' D = some (.lst ((((ranksW c 1).take i).filter fun r => !l.contains r).map vN)))
      ⟨same_upd hD, upd_same⟩ (fun i H' _ hI => hI.1.seq (sq hp1)) ?_ ?_⟩
    · rintro i x H2 hi ⟨s2, hp⟩
      obtain ⟨r, hr', rfl⟩ := get_vN hi
      refine ⟨rfl, vN r, rfl, .ref b, rfl, b, _, rfl, .inl (s2.seq (s1.seq hL)), rfl, flat_N l, _, rfl, ?_⟩
      rw [if_pos rfl, inV_N, take_more hr', List.filter_append]
      refine ite_of (fun e => ?_) (fun e => ?_)
      · refine ⟨_, rfl, _, hp, line' ?_, same_put s2 hD, ?_⟩
        · rw [List.length_map]
          have h1 := List.length_filter_le (fun r => !l.contains r) ((ranksW c 1).take i)
          have h2 : ((ranksW c 1).take i).length ≤ 13 := by
            rw [List.length_take]
            refine Nat.le_trans (Nat.min_le_right ..) ?_
            exact descT_len (fun r => decide (1 ≤ c r)) 13
          omega
        · rw [upd_same, List.filter_cons, if_pos e, List.map_append]
          rfl
      · refine ⟨s2, ?_⟩
        rw [List.filter_cons, if_neg (by rw [e]; exact Bool.false_ne_true), List.filter_nil, List.append_nil]
        exact hp
    · rintro H2 ⟨s2, hp⟩
      rw [List.length_map, take_all] at hp
      refine ⟨.int (m : Nat), rfl, (m : Int), rfl, D, _, rfl, sq hp, fun p np => ?_⟩
      have sm : Same H H2 := s1.trans s2
      refine q _ p (sm.trans (same_upd np)) (sm.free np) ?_
      rw [upd_same, cut_take, ← List.map_take]
      rfl
end
end Bs
namespace Bs
open PySem PySem.Spec PyProof.Rows L2
/-! ### flush_ranks -/
/-- the ranks of a suit, as they come -/
def suitR (cs : List Nat) (u : Nat) : List Nat := (cs.filter fun (c : Nat) => c % 4 == u).map fun (c : Nat) => c / 4
theorem suitR_len (cs : List Nat) (u : Nat) : (suitR cs u).length = suitMany cs u := by unfold suitR; rw [List.length_map]; rfl
theorem suitR_le (cs : List Nat) (u : Nat) : (suitR cs u).length ≤ cs.length := by unfold suitR; rw [List.length_map]; exact List.length_filter_le ..
theorem suitR_more (cs : List Nat) (c u : Nat) : suitR (cs ++ [c]) u = if c % 4 = u then suitR cs u ++ [c / 4] else suitR cs u := by
  unfold suitR
  rw [List.filter_append, List.map_append, List.filter_cons]
  by_cases e : c % 4 = u
  · rw [if_pos e, if_pos (show (c % 4 == u) = true from beq_iff_eq.mpr e)]; rfl
  · rw [if_neg e, if_neg (show ¬ (c % 4 == u) = true from fun z => e (beq_iff_eq.mp z))]
    simp
theorem suitR_nodup {cs : List Nat} (h : cs.Nodup) (u : Nat) : (suitR cs u).Nodup := by
  unfold suitR
  have h1 : (cs.filter fun (c : Nat) => c % 4 == u).Nodup := h.filter _
  refine List.pairwise_map.mpr (List.Pairwise.imp_of_mem (fun {a b} ha hb hab => ?_) h1)
  have e1 := (List.mem_filter.mp ha).2
  have e2 := (List.mem_filter.mp hb).2
  simp only [beq_iff_eq] at e1 e2
  have hab' : a ≠ b := hab
  show a / 4 ≠ b / 4
  omega
theorem suitR_mem {cs : List Nat} (h52 : ∀ c ∈ cs, c < 52) {u : Nat} (hu : u < 4) (r : Nat) : r ∈ suitedOf cs u ↔ r ∈ suitR cs u := by
  rw [mem_suitedOf]
  unfold suitR
  rw [List.mem_map]
  constructor
  · rintro ⟨h1, h2⟩
    refine ⟨_, List.mem_filter.mpr ⟨h2, ?_⟩, ?_⟩
    · simp; omega
    · show (4 * r + u) / 4 = r
      omega
  · rintro ⟨c, hc, rfl⟩
    obtain ⟨h1, h2⟩ := List.mem_filter.mp hc
    simp only [beq_iff_eq] at h2
    have := h52 c h1
    show c / 4 < 13 ∧ 4 * (c / 4) + u ∈ cs
    exact ⟨by omega, by rw [show 4 * (c / 4) + u = c by omega]; exact h1⟩
theorem sorted_is {l m : List Nat} {ns : List Int} (hp : ns.Perm (l.map fun (n : Nat) => (n : Int))) (ho : ns.Pairwise (· ≥ ·)) (hl : l.Nodup) (hm : m.Pairwise (· > ·)) (he : ∀ x, x ∈ m ↔ x ∈ l) : ns.map V.int = m.map vN := by
  have hk : (ns.map Int.toNat).Perm l := by
    have := hp.map Int.toNat
    rw [List.map_map] at this
    have e : (Int.toNat ∘ fun (n : Nat) => (n : Int)) = id := rfl
    rw [e, List.map_id] at this
    exact this
  have nn : ∀ x ∈ ns, ((x.toNat : Nat) : Int) = x := fun x hx => by
    obtain ⟨n, _, rfl⟩ := List.mem_map.mp (hp.mem_iff.mp hx)
    rfl
  have kn : (ns.map Int.toNat).Nodup := hk.nodup_iff.mpr hl
  have kg : (ns.map Int.toNat).Pairwise (· ≥ ·) := List.pairwise_map.mpr (ho.imp fun {a b} h => by omega)
  have kp : (ns.map Int.toNat).Pairwise (· > ·) := by
    have := kn.and kg
    exact this.imp fun {a b} h => by have := h.1; have := h.2; omega
  have e : ns.map Int.toNat = m := pw_unique kp hm fun x => (hk.mem_iff).trans (he x).symm
  rw [← e, List.map_map]
  exact List.map_congr_left fun x hx => by
    show V.int x = V.int ((x.toNat : Nat) : Int)
    rw [nn x hx]
section
variable {P : Program} {w : World} {K : PySem.W.Frag} {mg : Str → Option Value} {base : Heap}
def sp_flush (K : PySem.W.Frag) : Sp := fun vs H Q _ => ∃ (a : Addr) (cs : List Nat), vs = [.ref a] ∧ SqL K H a (cs.map vN) ∧ (∀ c ∈ cs, c < 52) ∧ cs.Nodup ∧ cs.length ≤ 100 ∧
  ∀ H' p, Same H H' → H p = none → H' p = some (.lst ((flushR cs).map vN)) → Q (.ref p) H'
theorem sc_flush_ranks : FnScope ["cards", "by_suit", "card", "ranks", "suit"] ["cards"] (defScope s_flush_ranks) := ⟨rfl, rfl, rfl, by decide +kernel, rfl, by decide +kernel, by decide +kernel⟩
theorem ok_flush_ranks {f f1 f2 : Addr} {fd fd1 fd2 : FuncData} {k : Nat} {t t2 : Tok} (F : Fun K "flush_ranks" "flush_ranks" s_flush_ranks f fd) (mS : mg "SUITS" = some (.int 4 t)) (mN : mg "NUMBERS" = some (.int 5 t2))
    (mr : mg "range" = none) (ml : mg "len" = none) (ms : mg "sorted" = none)
    (F1 : Fun K "rank_of" "rank_of" s_rank_of f1 fd1) (b1 : Binds K fd1 ["card"] []) (g1 : mg "rank_of" = some (.ref f1)) (G1 : FnOk P w K mg base CX0 k f1 fd1 ["card"] sp_rank)
    (F2 : Fun K "suit_of" "suit_of" s_suit_of f2 fd2) (b2 : Binds K fd2 ["card"] []) (g2 : mg "suit_of" = some (.ref f2)) (G2 : FnOk P w K mg base CX0 k f2 fd2 ["card"] sp_suit) :
    FnOk P w K mg base CX0 (k + 1) f fd ["cards"] (sp_flush K) := by
  refine F.ok sc_flush_ranks (fun vs H Q E h => ?_) (fun cdv A outer s H vs Q E hr h => ?_)
  · obtain ⟨a, cs, rfl, _⟩ := h; rfl
  · obtain ⟨a, cs, rfl, hS, h52, hnd, hlen, q⟩ := h
    have nd := sc_flush_ranks.nd
    refine ⟨_, pss_cons (ps_setLc (i := 1) (own := [("suit", 4)]) (g := gName 4) rfl nd rfl rfl (sw_true rfl rfl rfl (by decide +kernel))
        (pi_range1 rfl mr (pa_cons (pe_glob (v := .int 4) rfl mS ⟨_, rfl⟩) pa_nil))
        (blkOk_by (N := ["cards", "by_suit", "card", "ranks", "suit"]) (sc := defScope s_flush_ranks) (by decide +kernel))
        (fun _ _ _ _ _ => pg_name (i := 4) nd rfl (Or.inl rfl)) (fun _ _ _ _ _ => pts_nil) (fun _ _ _ _ _ => pe_lst pa_nil))
      (pss_cons (ps_for PassesOwn.never rfl (pi_list (pv 0)) (pg_name (i := 2) nd rfl (.inl rfl))
        (pss_one (ps_expr (pe_bm PySem.F.plainAttrs_list PySem.F.slot_list_append PySem.F.type_list_append mt_append
          (pe_ix ix_list (pv 1) (pe_call G2 hr rfl g2 F2.kp b2 .nil pass0 (pa_cons (pv 2) pa_nil)) (fun _ _ => rfl))
          (pa_cons (pe_call G1 hr rfl g1 F1.kp b1 .nil pass0 (pa_cons (pv 2) pa_nil)) pa_nil)))))
      (pss_cons (ps_for PassesOwn.never rfl (pi_list (pv 1)) (pg_name (i := 3) nd rfl (.inl rfl))
        (pss_one (ps_if (pt_cmpR op_ge (pe_callB call_len_seq rfl ml PySem.boot_len (pa_cons (pv 3) pa_nil)) (pe_glob (v := .int 5) rfl mN ⟨_, rfl⟩) (nomark _))
          (pss_one (ps_ret (pe_callBK (cr_sortedRev (b := true)) rfl ms (by decide +kernel) (pa_cons (pv 3) pa_nil) (pk_cons pe_bl pk_nil)))) pss_nil)))
      (pss_one (ps_ret (pe_lst pa_nil))))), ?_⟩
    -- by_suit
    refine ⟨4, rfl, by decide, by decide, fun D hD => lc_range (lo := 0) (n := 4)
      (fun i H' => Same H H' ∧ ∃ as : List Addr, as.length = i ∧ as.Nodup ∧ H' D = some (.lst (as.map V.ref)) ∧ ∀ b ∈ as, H b = none ∧ b ≠ D ∧ H' b = some (.lst []))
      ⟨same_upd hD, [], rfl, .nil, upd_same, fun b hb => by simp at hb⟩ ?_ ?_⟩
    · rintro i H1 hi ⟨s1, as, el, hn, hd, hb⟩
      refine ⟨rfl, line (by decide), fun p np => ⟨as.map V.ref, ?_, line' (by rw [List.length_map, el]; omega), ?_⟩⟩
      · rw [upd_ne (ne_of_none hd np)]; exact hd
      · have pD : p ≠ D := (ne_of_none hd np).symm
        refine ⟨same_put (same_put s1 (s1.free np)) hD, as ++ [p], by simp [el], ?_, ?_, fun b hb' => ?_⟩
        · rw [List.nodup_append]
          refine ⟨hn, by simp, fun x hx y hy => ?_⟩
          have : y = p := by simpa using hy
          subst this
          exact ne_of_none (hb x hx).2.2 np
        · rw [upd_same, List.map_append]; rfl
        · rcases List.mem_append.mp hb' with h | h
          · obtain ⟨h1, h2, h3⟩ := hb b h
            refine ⟨h1, h2, ?_⟩
            rw [upd_ne h2, upd_ne (ne_of_none h3 np)]
            exact h3
          · have : b = p := by simpa using h
            subst this
            refine ⟨s1.free np, pD, ?_⟩
            rw [upd_ne pD, upd_same]
    rintro H1 ⟨s1, as, el, hn, hd, hb⟩
    have dD : ∀ b ∈ as, b ≠ D := fun b h => (hb b h).2.1
    have dH : ∀ b ∈ as, H b = none := fun b h => (hb b h).1
    have at4 : ∀ u, u < 4 → ∃ b, as[u]? = some b := fun u hu => ⟨_, List.getElem?_eq_getElem (by omega)⟩
    -- the cards
    refine ⟨.ref a, rfl, a, rfl, ⟨_, s1.seq hS⟩, for_list (K := K) (a := a) (xs := cs.map vN)
      (fun i σ H' => ∃ v2, σ = [some (.ref a), some (.ref D), v2, none, none] ∧ Same H H' ∧ H' D = some (.lst (as.map V.ref)) ∧ ∀ u b, as[u]? = some b → H' b = some (.lst ((suitR (cs.take i) u).map vN)))
      ⟨none, rfl, s1, hd, fun u b e => (hb b (List.mem_of_getElem? e)).2.2⟩ (fun i σ H' _ hI => by obtain ⟨_, _, s2, _⟩ := hI; exact s2.seq hS) ?_ ?_⟩
    · rintro i x σ H' hi ⟨v2, rfl, s2, hd2, hu⟩
      obtain ⟨c, hc, rfl⟩ := get_vN hi
      obtain ⟨b, eb⟩ := at4 (c % 4) (Nat.mod_lt _ (by decide))
      have mb := List.mem_of_getElem? eb
      have hb2 := hu _ _ eb
      refine ⟨.ref D, rfl, vN c, rfl, c, rfl, D, _, _, .ref b, rfl, rfl, sq hd2, atI_nat (by rw [List.getElem?_map, eb]; rfl), .inl ⟨rfl, _, sq hb2⟩, vN c, rfl, c, rfl, b, _, _, rfl, rfl, hb2, line' ?_, ?_⟩
      · rw [List.length_map]
        have h1 := suitR_le (cs.take i) (c % 4)
        have h2 : (cs.take i).length ≤ cs.length := by rw [List.length_take]; exact Nat.min_le_right ..
        omega
      · refine ⟨_, rfl, same_put s2 (dH b mb), ?_, fun u b' e => ?_⟩
        · rw [upd_ne (dD b mb).symm]; exact hd2
        · rw [take_more hc, suitR_more]
          by_cases eu : c % 4 = u
          · subst eu
            have : b' = b := Option.some.inj (e.symm.trans eb)
            subst this
            rw [upd_same, if_pos rfl, List.map_append]
            rfl
          · have : b' ≠ b := fun z => eu (nd_ix hn (z ▸ eb) e)
            rw [upd_ne this, if_neg eu]
            exact hu u b' e
    rintro σ H2 ⟨v2, rfl, s2, hd2, hu⟩
    rw [List.length_map, take_all] at hu
    -- the suits
    refine ⟨.ref D, rfl, D, rfl, ⟨_, sq hd2⟩, for_list (K := K) (a := D) (xs := as.map V.ref)
      (fun i σ H' => ∃ v3, σ = [some (.ref a), some (.ref D), v2, v3, none] ∧ H' = H2 ∧ ∀ j, j < i → ¬ 5 ≤ suitMany cs j)
      ⟨none, rfl, rfl, fun j hj => absurd hj (Nat.not_lt_zero j)⟩ (fun i σ H' _ hI => by obtain ⟨_, _, rfl, _⟩ := hI; exact sq hd2) ?_ ?_⟩
    · rintro i x σ H' hi ⟨v3, rfl, rfl, no⟩
      obtain ⟨b, eb, rfl⟩ := get_map hi
      have i4 : i < 4 := by have := lt_of_get eb; omega
      have hb2 := hu _ _ eb
      refine ⟨.ref b, rfl, b, _, rfl, .inl (sq hb2), _, _, rfl, rfl, _, rfl, ite2 (fun e => ?_) (fun e => ?_)⟩
      · have e5 : 5 ≤ suitMany cs i := by
          have := of_decide_eq_true e
          rw [List.length_map, suitR_len] at this
          omega
        have ef : flushR cs = suitedOf cs i := by
          have e' : (List.range 4).find? (fun s => decide (5 ≤ suitMany cs s)) = some i := by
            rw [List.find?_eq_some_iff_getElem]
            refine ⟨decide_eq_true e5, i, by rw [List.length_range]; exact i4, List.getElem_range _, fun j hj => ?_⟩
            rw [List.getElem_range, decide_eq_false (no j hj)]
            rfl
          unfold flushR
          rw [e']
        refine ⟨.ref b, rfl, b, (suitR cs i).map (fun (n : Nat) => (n : Int)), rfl, rfl, by rw [← vN_ints]; exact sq hb2, fun ns p pe or np => ?_⟩
        have es := sorted_is (m := suitedOf cs i) pe or (suitR_nodup hnd i) (desc_pw _) (suitR_mem h52 i4)
        refine q _ p (s2.trans (same_upd np)) (s2.free np) ?_
        rw [upd_same, es, ef]
      · refine ⟨_, rfl, rfl, fun j hj => ?_⟩
        rcases Nat.lt_or_ge j i with h | h
        · exact no j h
        · have : j = i := by omega
          subst this
          intro z
          refine e (decide_eq_true ?_)
          rw [List.length_map, suitR_len]
          omega
    · rintro σ H' ⟨v3, rfl, rfl, no⟩
      rw [List.length_map, el] at no
      refine ⟨line (by decide), fun p np => q _ p (s2.trans (same_upd np)) (s2.free np) ?_⟩
      have ef : flushR cs = [] := by
        have e' : (List.range 4).find? (fun s => decide (5 ≤ suitMany cs s)) = none := by
          rw [List.find?_eq_none]
          intro u hu4
          simpa using no u (List.mem_range.mp hu4)
        unfold flushR
        rw [e']
      rw [upd_same, ef]
      rfl
end
end Bs
namespace Bs
open PySem PySem.Spec PyProof.Rows L2
/-! ### of_like_ranks, of_many_alike -/
/-- a new worth at p -/
def WNew (H H' : Hp) (p : Addr) (m : Nat × List Nat) : Prop := H p = none ∧ ∃ q, H q = none ∧ H' p = some (.tup [vN m.1, .ref q]) ∧ H' q = some (.lst (m.2.map vN))
theorem ranksW_len (c : Nat → Nat) (m : Nat) : (ranksW c m).length ≤ 13 := descT_len (fun r => decide (m ≤ c r)) 13
theorem others_len13 (c : Nat → Nat) (l : List Nat) (m : Nat) : (others c l m).length ≤ 13 := by
  unfold others
  rw [List.length_take]
  refine Nat.le_trans (Nat.min_le_right ..) ?_
  refine Nat.le_trans (List.length_filter_le ..) ?_
  exact ranksW_len c 1
section
variable {P : Program} {w : World} {K : PySem.W.Frag} {mg : Str → Option Value} {base : Heap}
def sp_like (K : PySem.W.Frag) : Sp := fun vs H Q _ => ∃ (a : Addr) (c : Nat → Nat), vs = [.ref a] ∧ SqL K H a (cl c) ∧
  ∀ H' p, Same H H' → WNew H H' p (likeRanks c) → Q (.ref p) H'
def sp_many (K : PySem.W.Frag) : Sp := fun vs H Q _ => ∃ (a : Addr) (c : Nat → Nat), vs = [.ref a] ∧ SqL K H a (cl c) ∧
  (manyAlike c = none → ∀ H', Same H H' → Q .non H') ∧ ∀ m H' p, manyAlike c = some m → Same H H' → WNew H H' p m → Q (.ref p) H'
theorem sc_of_like_ranks : FnScope ["counts", "threes", "pairs"] ["counts"] (defScope s_of_like_ranks) := ⟨rfl, rfl, rfl, by decide +kernel, rfl, by decide +kernel, by decide +kernel⟩
/-- the end of a return (SORT, a + others): the sum's list at l, the tuple -/
theorem wnew_of {H H1 : Hp} {s : Nat} {xs : List Nat} {Q : VK} {L : List V} (s1 : Same H H1) (e : L = xs.map vN)
    (q : ∀ H' p, Same H H' → WNew H H' p (s, xs) → Q (.ref p) H') : ∀ l, H1 l = none → ([vN s, V.ref l] : List V).length ≤ sizeLine ∧ ∀ p, (upd H1 l (.lst L)) p = none → Q (.ref p) (upd (upd H1 l (.lst L)) p (.tup [vN s, .ref l])) := fun l nl =>
  ⟨line (by show 2 ≤ 16000000; decide), fun p np => by
    have ne : l ≠ p := ne_of_none upd_same np
    refine q _ p ((s1.trans (same_upd nl)).trans (same_upd np)) ⟨(s1.trans (same_upd nl)).free np, l, s1.free nl, upd_same, ?_⟩
    rw [upd_ne ne, upd_same, e]⟩
theorem ok_of_like_ranks {f f1 f2 : Addr} {fd fd1 fd2 : FuncData} {k : Nat} {t1 t2 t3 t4 t5 : Tok} (F : Fun K "of_like_ranks" "of_like_ranks" s_of_like_ranks f fd)
    (m3 : mg "THREE" = some (.int 3 t1)) (m2 : mg "TWO_PAIRS" = some (.int 2 t2)) (m1 : mg "PAIR" = some (.int 1 t3)) (m0 : mg "NONE" = some (.int 0 t4)) (mN : mg "NUMBERS" = some (.int 5 t5)) (ml : mg "len" = none)
    (F1 : Fun K "ranks_with" "ranks_with" s_ranks_with f1 fd1) (b1 : Binds K fd1 ["counts", "least"] []) (g1 : mg "ranks_with" = some (.ref f1)) (G1 : FnOk P w K mg base CX0 k f1 fd1 ["counts", "least"] (sp_ranksw K))
    (F2 : Fun K "others_of" "others_of" s_others_of f2 fd2) (b2 : Binds K fd2 ["counts", "ranks", "many"] []) (g2 : mg "others_of" = some (.ref f2)) (G2 : FnOk P w K mg base CX0 k f2 fd2 ["counts", "ranks", "many"] (sp_others K)) :
    FnOk P w K mg base CX0 (k + 1) f fd ["counts"] (sp_like K) := by
  refine F.ok sc_of_like_ranks (fun vs H Q E h => ?_) (fun cdv A outer s H vs Q E hr h => ?_)
  · obtain ⟨a, c, rfl, _⟩ := h; rfl
  · obtain ⟨a, c, rfl, hS, q⟩ := h
    have nd := sc_of_like_ranks.nd
    refine ⟨_, pss_cons (ps_set (i := 1) nd rfl (.inl rfl) (pe_call G1 hr rfl g1 F1.kp b1 .nil pass0 (pa_cons (pv 0) (pa_cons pe_int pa_nil))))
      (pss_cons (ps_if (pt_cmpR op_gt (pe_callB call_len_seq rfl ml PySem.boot_len (pa_cons (pv 1) pa_nil)) pe_int (nomark _))
        (pss_one (ps_ret (pe_tup (pa_cons (pe_glob (v := .int 3) rfl m3 ⟨_, rfl⟩) (pa_cons (pe_op op_catS (pe_slice sl_list (pv 1) po_none (po_some pe_int))
          (pe_call G2 hr rfl g2 F2.kp b2 .nil pass0 (pa_cons (pv 0) (pa_cons (pe_slice sl_list (pv 1) po_none (po_some pe_int)) (pa_cons pe_int pa_nil))))) pa_nil))))) pss_nil)
      (pss_cons (ps_set (i := 2) nd rfl (.inl rfl) (pe_call G1 hr rfl g1 F1.kp b1 .nil pass0 (pa_cons (pv 0) (pa_cons pe_int pa_nil))))
      (pss_cons (ps_if (pt_cmpR op_gt (pe_callB call_len_seq rfl ml PySem.boot_len (pa_cons (pv 2) pa_nil)) pe_int (nomark _))
        (pss_one (ps_ret (pe_tup (pa_cons (pe_glob (v := .int 2) rfl m2 ⟨_, rfl⟩) (pa_cons (pe_op op_catS (pe_slice sl_list (pv 2) po_none (po_some pe_int))
          (pe_call G2 hr rfl g2 F2.kp b2 .nil pass0 (pa_cons (pv 0) (pa_cons (pe_slice sl_list (pv 2) po_none (po_some pe_int)) (pa_cons pe_int pa_nil))))) pa_nil))))) pss_nil)
      (pss_cons (ps_if (pt_cmpR op_eq (pe_callB call_len_seq rfl ml PySem.boot_len (pa_cons (pv 2) pa_nil)) pe_int (nomark _))
        (pss_one (ps_ret (pe_tup (pa_cons (pe_glob (v := .int 1) rfl m1 ⟨_, rfl⟩) (pa_cons (pe_op op_catS (pv 2)
          (pe_call G2 hr rfl g2 F2.kp b2 .nil pass0 (pa_cons (pv 0) (pa_cons (pv 2) (pa_cons pe_int pa_nil))))) pa_nil))))) pss_nil)
      (pss_one (ps_ret (pe_tup (pa_cons (pe_glob (v := .int 0) rfl m0 ⟨_, rfl⟩) (pa_cons
          (pe_call G2 hr rfl g2 F2.kp b2 .nil pass0 (pa_cons (pv 0) (pa_cons (pe_lst pa_nil) (pa_cons (pe_glob (v := .int 5) rfl mN ⟨_, rfl⟩) pa_nil)))) pa_nil))))))))), ?_⟩
    -- threes
    refine ⟨.ref a, rfl, a, c, 3, rfl, hS, fun H1 p1 s1 n1 h1 => ?_⟩
    refine ⟨.ref p1, rfl, p1, _, rfl, .inl (sq h1), _, _, rfl, rfl, _, rfl, ite2 (fun e => ?_) (fun e => ?_)⟩
    · have e' : 0 < (ranksW c 3).length := by
        have := of_decide_eq_true e
        rw [List.length_map] at this
        omega
      refine ⟨.ref p1, rfl, 1, rfl, p1, _, rfl, sq h1, fun x nx => ?_⟩
      have sx := same_upd (o := .lst (cutV ((ranksW c 3).map vN) none (some 1))) nx
      refine ⟨.ref a, rfl, .ref p1, rfl, 1, rfl, p1, _, rfl, sx.seq (sq h1), fun y ny => ?_⟩
      have sy := same_upd (o := .lst (cutV ((ranksW c 3).map vN) none (some 1))) ny
      have e1 : cutV ((ranksW c 3).map vN) none (some 1) = ((ranksW c 3).take 1).map vN := by rw [show (1 : Int) = ((1 : Nat) : Int) from rfl, cut_take, List.map_take]
      rw [e1] at sx sy ⊢
      refine ⟨a, y, c, (ranksW c 3).take 1, 2, rfl, sy.seq (sx.seq (s1.seq hS)), sq upd_same, fun H2 z s2 nz hz => ?_⟩
      have hx := s2 x _ (sy x _ upd_same)
      refine ⟨x, z, _, _, rfl, rfl, sq hx, sq hz, line ?_, ?_⟩
      · rw [List.length_map, List.length_map, List.length_take]
        have := others_len13 c ((ranksW c 3).take 1) 2
        have := ranksW_len c 3
        omega
      · refine wnew_of (s := 3) (((s1.trans sx).trans sy).trans s2) (List.map_append ..).symm ?_
        unfold likeRanks at q
        rw [if_pos e'] at q
        exact q
    · have e' : ¬ 0 < (ranksW c 3).length := fun z => e (decide_eq_true (by rw [List.length_map]; omega))
      unfold likeRanks at q
      rw [if_neg e'] at q
      -- pairs
      refine ⟨.ref a, rfl, a, c, 2, rfl, s1.seq hS, fun H2 p2 s2 n2 h2 => ?_⟩
      have s12 := s1.trans s2
      refine ⟨.ref p2, rfl, p2, _, rfl, .inl (sq h2), _, _, rfl, rfl, _, rfl, ite2 (fun d => ?_) (fun d => ?_)⟩
      · have d' : 1 < (ranksW c 2).length := by
          have := of_decide_eq_true d
          rw [List.length_map] at this
          omega
        rw [if_pos d'] at q
        refine ⟨.ref p2, rfl, 2, rfl, p2, _, rfl, sq h2, fun x nx => ?_⟩
        have sx := same_upd (o := .lst (cutV ((ranksW c 2).map vN) none (some 2))) nx
        refine ⟨.ref a, rfl, .ref p2, rfl, 2, rfl, p2, _, rfl, sx.seq (sq h2), fun y ny => ?_⟩
        have sy := same_upd (o := .lst (cutV ((ranksW c 2).map vN) none (some 2))) ny
        have e1 : cutV ((ranksW c 2).map vN) none (some 2) = ((ranksW c 2).take 2).map vN := by rw [show (2 : Int) = ((2 : Nat) : Int) from rfl, cut_take, List.map_take]
        rw [e1] at sx sy ⊢
        refine ⟨a, y, c, (ranksW c 2).take 2, 1, rfl, sy.seq (sx.seq (s12.seq hS)), sq upd_same, fun H3 z s3 nz hz => ?_⟩
        have hx := s3 x _ (sy x _ upd_same)
        refine ⟨x, z, _, _, rfl, rfl, sq hx, sq hz, line ?_, ?_⟩
        · rw [List.length_map, List.length_map, List.length_take]
          have := others_len13 c ((ranksW c 2).take 2) 1
          have := ranksW_len c 2
          omega
        · exact wnew_of (s := 2) (((s12.trans sx).trans sy).trans s3) (List.map_append ..).symm q
      · have d' : ¬ 1 < (ranksW c 2).length := fun z => d (decide_eq_true (by rw [List.length_map]; omega))
        rw [if_neg d'] at q
        refine ⟨.ref p2, rfl, p2, _, rfl, .inl (sq h2), rfl, _, rfl, ite2 (fun g => ?_) (fun g => ?_)⟩
        · have g' : (ranksW c 2).length = 1 := by
            have := V.int.inj (of_decide_eq_true g)
            rw [List.length_map] at this
            omega
          rw [if_pos g'] at q
          refine ⟨.ref p2, rfl, .ref a, rfl, .ref p2, rfl, a, p2, c, ranksW c 2, 3, rfl, s12.seq hS, sq h2, fun H3 z s3 nz hz => ?_⟩
          refine ⟨p2, z, _, _, rfl, rfl, s3.seq (sq h2), sq hz, line ?_, ?_⟩
          · rw [List.length_map, List.length_map]
            have := others_len13 c (ranksW c 2) 3
            have := ranksW_len c 2
            omega
          · exact wnew_of (s := 1) (s12.trans s3) (List.map_append ..).symm q
        · have g' : ¬ (ranksW c 2).length = 1 := fun z => g (decide_eq_true (by rw [List.length_map, z]; rfl))
          rw [if_neg g'] at q
          refine ⟨.ref a, rfl, line (by decide), fun x nx => ?_⟩
          have sx := same_upd (o := .lst []) nx
          refine ⟨a, x, c, [], 5, rfl, sx.seq (s12.seq hS), sq upd_same, fun H3 z s3 nz hz => ⟨line (by show 2 ≤ 16000000; decide), fun p np => ?_⟩⟩
          have st := (s12.trans sx).trans s3
          have zp : z ≠ p := ne_of_none hz np
          have nz' : H z = none := (s12.trans sx).free nz
          refine q _ p (st.trans (same_upd np)) ⟨st.free np, z, nz', upd_same, ?_⟩
          rw [upd_ne zp]
          exact hz
end
end Bs
namespace Bs
open PySem PySem.Spec PyProof.Rows L2
section
variable {P : Program} {w : World} {K : PySem.W.Frag} {mg : Str → Option Value} {base : Heap}
theorem sc_of_many_alike : FnScope ["counts", "fours", "threes", "pairs", "rank"] ["counts"] (defScope s_of_many_alike) := ⟨rfl, rfl, rfl, by decide +kernel, rfl, by decide +kernel, by decide +kernel⟩
theorem ok_of_many_alike {f f1 f2 : Addr} {fd fd1 fd2 : FuncData} {k : Nat} {t1 t2 : Tok} (F : Fun K "of_many_alike" "of_many_alike" s_of_many_alike f fd)
    (m4 : mg "FOUR" = some (.int 7 t1)) (m6 : mg "FULL" = some (.int 6 t2)) (ml : mg "len" = none)
    (F1 : Fun K "ranks_with" "ranks_with" s_ranks_with f1 fd1) (b1 : Binds K fd1 ["counts", "least"] []) (g1 : mg "ranks_with" = some (.ref f1)) (G1 : FnOk P w K mg base CX0 k f1 fd1 ["counts", "least"] (sp_ranksw K))
    (F2 : Fun K "others_of" "others_of" s_others_of f2 fd2) (b2 : Binds K fd2 ["counts", "ranks", "many"] []) (g2 : mg "others_of" = some (.ref f2)) (G2 : FnOk P w K mg base CX0 k f2 fd2 ["counts", "ranks", "many"] (sp_others K)) :
    FnOk P w K mg base CX0 (k + 1) f fd ["counts"] (sp_many K) := by
  refine F.ok sc_of_many_alike (fun vs H Q E h => ?_) (fun cdv A outer s H vs Q E hr h => ?_)
  · obtain ⟨a, c, rfl, _⟩ := h; rfl
  · obtain ⟨a, c, rfl, hS, qN, q⟩ := h
    have nd := sc_of_many_alike.nd
    refine ⟨_, pss_cons (ps_set (i := 1) nd rfl (.inl rfl) (pe_call G1 hr rfl g1 F1.kp b1 .nil pass0 (pa_cons (pv 0) (pa_cons pe_int pa_nil))))
      (pss_cons (ps_if (pt_cmpR op_gt (pe_callB call_len_seq rfl ml PySem.boot_len (pa_cons (pv 1) pa_nil)) pe_int (nomark _))
        (pss_one (ps_ret (pe_tup (pa_cons (pe_glob (v := .int 7) rfl m4 ⟨_, rfl⟩) (pa_cons (pe_op op_catS (pe_slice sl_list (pv 1) po_none (po_some pe_int))
          (pe_call G2 hr rfl g2 F2.kp b2 .nil pass0 (pa_cons (pv 0) (pa_cons (pe_slice sl_list (pv 1) po_none (po_some pe_int)) (pa_cons pe_int pa_nil))))) pa_nil))))) pss_nil)
      (pss_cons (ps_set (i := 2) nd rfl (.inr rfl) (pe_call G1 hr rfl g1 F1.kp b1 .nil pass0 (pa_cons (pv 0) (pa_cons pe_int pa_nil))))
      (C8.pss_cut (ps_if (pt_cmpR op_gt (pe_callB call_len_seq rfl ml PySem.boot_len (pa_cons (pv 2) pa_nil)) pe_int (nomark _))
        (pss_cons (ps_setLc (i := 3) (own := [("rank", 4)]) (g := gName 4) rfl nd rfl rfl (sw_true rfl rfl rfl (by decide +kernel))
            (pi_list (pe_call G1 hr rfl g1 F1.kp b1 .nil pass0 (pa_cons (pv 0) (pa_cons pe_int pa_nil))))
            (blkOk_by (N := ["counts", "fours", "threes", "pairs", "rank"]) (sc := defScope s_of_many_alike) (by decide +kernel))
            (fun _ _ _ _ _ => pg_name (i := 4) nd rfl (Or.inl rfl))
            (fun _ _ _ _ _ => pts_one (pt_cmpR op_ne (pv 4) (pe_ix (ix_listK (K := K) rfl) (pv 2) pe_int (fun _ _ => rfl)) (nomark _)))
            (fun _ _ _ _ _ => pv 4))
        (pss_one (ps_if (pt_cmpR op_gt (pe_callB call_len_seq rfl ml PySem.boot_len (pa_cons (pv 3) pa_nil)) pe_int (nomark _))
          (pss_one (ps_ret (pe_tup (pa_cons (pe_glob (v := .int 6) rfl m6 ⟨_, rfl⟩) (pa_cons (pe_lst (pa_cons (pe_ix ix_list (pv 2) pe_int (fun _ _ => rfl)) (pa_cons (pe_ix ix_list (pv 3) pe_int (fun _ _ => rfl)) pa_nil))) pa_nil))))) pss_nil))) pss_nil)
      (pss_one (ps_ret pe_non))))), ?_⟩
    -- fours
    refine ⟨.ref a, rfl, a, c, 4, rfl, hS, fun H1 p1 s1 n1 h1 => ?_⟩
    refine ⟨.ref p1, rfl, p1, _, rfl, .inl (sq h1), _, _, rfl, rfl, _, rfl, ite2 (fun e => ?_) (fun e => ?_)⟩
    · have e' : 0 < (ranksW c 4).length := by
        have := of_decide_eq_true e
        rw [List.length_map] at this
        omega
      refine ⟨.ref p1, rfl, 1, rfl, p1, _, rfl, sq h1, fun x nx => ?_⟩
      have sx := same_upd (o := .lst (cutV ((ranksW c 4).map vN) none (some 1))) nx
      refine ⟨.ref a, rfl, .ref p1, rfl, 1, rfl, p1, _, rfl, sx.seq (sq h1), fun y ny => ?_⟩
      have sy := same_upd (o := .lst (cutV ((ranksW c 4).map vN) none (some 1))) ny
      have e1 : cutV ((ranksW c 4).map vN) none (some 1) = ((ranksW c 4).take 1).map vN := by rw [show (1 : Int) = ((1 : Nat) : Int) from rfl, cut_take, List.map_take]
      rw [e1] at sx sy ⊢
      refine ⟨a, y, c, (ranksW c 4).take 1, 1, rfl, sy.seq (sx.seq (s1.seq hS)), sq upd_same, fun H2 z s2 nz hz => ?_⟩
      have hx := s2 x _ (sy x _ upd_same)
      refine ⟨x, z, _, _, rfl, rfl, sq hx, sq hz, line ?_, ?_⟩
      · rw [List.length_map, List.length_map, List.length_take]
        have := others_len13 c ((ranksW c 4).take 1) 1
        have := ranksW_len c 4
        omega
      · refine wnew_of (s := 7) (((s1.trans sx).trans sy).trans s2) (List.map_append ..).symm fun H' p sm wn => q _ _ _ ?_ sm wn
        unfold manyAlike
        rw [if_pos e']
    · have e' : ¬ 0 < (ranksW c 4).length := fun z => e (decide_eq_true (by rw [List.length_map]; omega))
      unfold manyAlike at q qN
      rw [if_neg e'] at q qN
      -- threes
      refine ⟨.ref a, rfl, a, c, 3, rfl, s1.seq hS, fun H2 p2 s2 n2 h2 => ?_⟩
      have s12 := s1.trans s2
      refine ⟨fun σ' H' => Same H H' ∧ (match ranksW c 3 with
          | [] => none
          | a :: _ => match (ranksW c 2).filter fun r => decide (r ≠ a) with
            | [] => none
            | b :: _ => some (6, [a, b]) : Option (Nat × List Nat)) = none, ?_, fun σ' H' hM => qN hM.2 H' hM.1⟩
      refine ⟨.ref p2, rfl, p2, _, rfl, .inl (sq h2), _, _, rfl, rfl, _, rfl, ite2 (fun d => ?_) (fun d => ?_)⟩
      · obtain ⟨x, l, e3⟩ : ∃ x l, ranksW c 3 = x :: l := by
          cases e3 : ranksW c 3 with
          | nil =>
            rw [e3] at d
            exact absurd (of_decide_eq_true d) (by show ¬ (0 : Int) < 0; omega)
          | cons x l => exact ⟨x, l, rfl⟩
        rw [e3] at h2 q ⊢
        simp only at q ⊢
        refine ⟨.ref a, rfl, a, c, 2, rfl, s12.seq hS, fun H3 p3 s3 n3 h3 => ?_⟩
        have s13 := s12.trans s3
        refine ⟨p3, rfl, ⟨_, sq h3⟩, fun D hD => lc_list (K := K) (a := p3) (xs := (ranksW c 2).map vN)
          (fun i H' => Same H3 H' ∧ H' D = some (.lst ((((ranksW c 2).take i).filter fun r => decide (r ≠ x)).map vN)))
          ⟨same_upd hD, upd_same⟩ (fun i H' _ hI => hI.1.seq (sq h3)) ?_ ?_⟩
        · rintro i y H4 hi ⟨s4, hp⟩
          obtain ⟨r, hr', rfl⟩ := get_vN hi
          have hp2 : H4 p2 = some (.lst ((x :: l).map vN)) := s4 _ _ (s3 _ _ h2)
          refine ⟨rfl, vN r, rfl, .ref p2, rfl, p2, _, _, vN x, rfl, rfl, sq hp2, atI_nat (j := 0) rfl, rfl, _, rfl, ?_⟩
          have ed : (!decide (vN r = vN x)) = decide (r ≠ x) := by
            by_cases z : r = x
            · subst z; simp
            · have z2 : vN r ≠ vN x := fun y => z (Int.ofNat.inj (V.int.inj y))
              simp [z, z2]
          rw [ed, take_more hr', List.filter_append]
          refine ite_of (fun e => ?_) (fun e => ?_)
          · refine ⟨vN r, rfl, _, hp, line' ?_, same_put s4 hD, ?_⟩
            · rw [List.length_map]
              have h1 := List.length_filter_le (fun r => decide (r ≠ x)) ((ranksW c 2).take i)
              have h2 : ((ranksW c 2).take i).length ≤ 13 := by
                rw [List.length_take]
                refine Nat.le_trans (Nat.min_le_right ..) ?_
                exact ranksW_len c 2
              omega
            · rw [upd_same, List.filter_cons, if_pos e, List.map_append]
              rfl
          · refine ⟨s4, ?_⟩
            rw [List.filter_cons, if_neg (by rw [e]; exact Bool.false_ne_true), List.filter_nil, List.append_nil]
            exact hp
        · rintro H4 ⟨s4, hp⟩
          rw [List.length_map, take_all] at hp
          have s14 := s13.trans s4
          have hp2 : H4 p2 = some (.lst ((x :: l).map vN)) := s4 _ _ (s3 _ _ h2)
          refine ⟨.ref D, rfl, D, _, rfl, .inl (sq hp), _, _, rfl, rfl, _, rfl, ite2 (fun g => ?_) (fun g => ?_)⟩
          · obtain ⟨y, m, e2⟩ : ∃ y m, (ranksW c 2).filter (fun r => decide (r ≠ x)) = y :: m := by
              cases e2 : (ranksW c 2).filter (fun r => decide (r ≠ x)) with
              | nil =>
                rw [e2] at g
                exact absurd (of_decide_eq_true g) (by show ¬ (0 : Int) < 0; omega)
              | cons y m => exact ⟨y, m, rfl⟩
            rw [e2] at q hp
            refine ⟨.ref p2, rfl, p2, _, _, vN x, rfl, rfl, sq hp2, atI_nat (j := 0) rfl, .ref D, rfl, D, _, _, vN y, rfl, rfl, sq hp, atI_nat (j := 0) rfl, line (by show 2 ≤ 16000000; decide), ?_⟩
            exact wnew_of (s := 6) (xs := [x, y]) s14 rfl fun H' p sm wn => q _ _ _ rfl sm wn
          · refine ⟨s14, ?_⟩
            cases e2 : (ranksW c 2).filter (fun r => decide (r ≠ x)) with
            | nil => rfl
            | cons y m =>
              rw [e2] at g
              exact absurd (decide_eq_true (by rw [List.length_map, List.length_cons]; omega)) g
      · refine ⟨s12, ?_⟩
        cases e3 : ranksW c 3 with
        | nil => rfl
        | cons x l =>
          rw [e3] at d
          exact absurd (decide_eq_true (by rw [List.length_map, List.length_cons]; omega)) d
end
end Bs
namespace Bs
open PySem PySem.Spec PyProof.Rows L2
theorem flushR_lt {cs : List Nat} : ∀ r ∈ flushR cs, r < 13 := fun r hr => by
  by_cases e : flushR cs = []
  · rw [e] at hr; simp at hr
  · obtain ⟨u, _, e2, _⟩ := flushR_suit e
    rw [e2] at hr
    exact (mem_suitedOf.mp hr).1
theorem flushR_len (cs : List Nat) : (flushR cs).length ≤ 13 := by
  have := nodup_le (m := List.range 13) (pw_nodup (flushR_pw cs)) fun r hr => List.mem_range.mpr (flushR_lt r hr)
  simpa using this
section
variable {P : Program} {w : World} {K : PySem.W.Frag} {mg : Str → Option Value} {base : Heap}
def sp_worth (K : PySem.W.Frag) : Sp := fun vs H Q _ => ∃ (a : Addr) (cs : List Nat), vs = [.ref a] ∧ SqL K H a (cs.map vN) ∧ (∀ c ∈ cs, c < 52) ∧ cs.Nodup ∧ cs.length ≤ 100 ∧
  ∀ H' p, Same H H' → WNew H H' p (worthOf cs) → Q (.ref p) H'
theorem sc_worth_of : FnScope ["cards", "counts", "suited", "high", "many", "count"] ["cards"] (defScope s_worth_of) := ⟨rfl, rfl, rfl, by decide +kernel, rfl, by decide +kernel, by decide +kernel⟩
theorem ok_worth_of {f f1 f2 f3 f4 f5 f6 : Addr} {fd fd1 fd2 fd3 fd4 fd5 fd6 : FuncData} {k : Nat} {t1 t2 t3 t4 : Tok} (F : Fun K "worth_of" "worth_of" s_worth_of f fd)
    (m8 : mg "STRAIGHT_FLUSH" = some (.int 8 t1)) (m5 : mg "FLUSH" = some (.int 5 t2)) (m4 : mg "STRAIGHT" = some (.int 4 t3)) (mN : mg "NUMBERS" = some (.int 5 t4)) (ml : mg "len" = none)
    (F1 : Fun K "counts_of" "counts_of" s_counts_of f1 fd1) (b1 : Binds K fd1 ["cards"] []) (g1 : mg "counts_of" = some (.ref f1)) (G1 : FnOk P w K mg base CX0 k f1 fd1 ["cards"] (sp_counts K))
    (F2 : Fun K "flush_ranks" "flush_ranks" s_flush_ranks f2 fd2) (b2 : Binds K fd2 ["cards"] []) (g2 : mg "flush_ranks" = some (.ref f2)) (G2 : FnOk P w K mg base CX0 k f2 fd2 ["cards"] (sp_flush K))
    (F3 : Fun K "highest_row" "highest_row" s_highest_row f3 fd3) (b3 : Binds K fd3 ["there"] []) (g3 : mg "highest_row" = some (.ref f3)) (G3 : FnOk P w K mg base CX0 k f3 fd3 ["there"] (sp_row K))
    (F4 : Fun K "there_of" "there_of" s_there_of f4 fd4) (b4 : Binds K fd4 ["ranks"] []) (g4 : mg "there_of" = some (.ref f4)) (G4 : FnOk P w K mg base CX0 k f4 fd4 ["ranks"] (sp_there K))
    (F5 : Fun K "of_many_alike" "of_many_alike" s_of_many_alike f5 fd5) (b5 : Binds K fd5 ["counts"] []) (g5 : mg "of_many_alike" = some (.ref f5)) (G5 : FnOk P w K mg base CX0 k f5 fd5 ["counts"] (sp_many K))
    (F6 : Fun K "of_like_ranks" "of_like_ranks" s_of_like_ranks f6 fd6) (b6 : Binds K fd6 ["counts"] []) (g6 : mg "of_like_ranks" = some (.ref f6)) (G6 : FnOk P w K mg base CX0 k f6 fd6 ["counts"] (sp_like K)) :
    FnOk P w K mg base CX0 (k + 1) f fd ["cards"] (sp_worth K) := by
  refine F.ok sc_worth_of (fun vs H Q E h => ?_) (fun cdv A outer s H vs Q E hr h => ?_)
  · obtain ⟨a, c, rfl, _⟩ := h; rfl
  · obtain ⟨a, cs, rfl, hS, h52, hnd, hlen, q⟩ := h
    have nd := sc_worth_of.nd
    refine ⟨_, pss_cons (ps_set (i := 1) nd rfl (.inl rfl) (pe_call G1 hr rfl g1 F1.kp b1 .nil pass0 (pa_cons (pv 0) pa_nil)))
      (pss_cons (ps_set (i := 2) nd rfl (.inl rfl) (pe_call G2 hr rfl g2 F2.kp b2 .nil pass0 (pa_cons (pv 0) pa_nil)))
      (C8.pss_cut (ps_if (pt_cmpR op_gt (pe_callB call_len_seq rfl ml PySem.boot_len (pa_cons (pv 2) pa_nil)) pe_int (nomark _))
        (pss_cons (ps_set (i := 3) nd rfl (.inl rfl) (pe_call G3 hr rfl g3 F3.kp b3 .nil pass0 (pa_cons (pe_call G4 hr rfl g4 F4.kp b4 .nil pass0 (pa_cons (pv 2) pa_nil)) pa_nil)))
        (pss_one (ps_if (pt_cmpR op_ge (pv 3) pe_int (nomark _)) (pss_one (ps_ret (pe_tup (pa_cons (pe_glob (v := .int 8) rfl m8 ⟨_, rfl⟩) (pa_cons (pe_lst (pa_cons (pv 3) pa_nil)) pa_nil))))) pss_nil))) pss_nil)
      (pss_cons (ps_set (i := 4) nd rfl (.inl rfl) (pe_call G5 hr rfl g5 F5.kp b5 .nil pass0 (pa_cons (pv 1) pa_nil)))
      (pss_cons (ps_if (pt_cmpR op_notN (pv 4) pe_non (nomark _)) (pss_one (ps_ret (pv 4))) pss_nil)
      (pss_cons (ps_if (pt_cmpR op_gt (pe_callB call_len_seq rfl ml PySem.boot_len (pa_cons (pv 2) pa_nil)) pe_int (nomark _))
        (pss_one (ps_ret (pe_tup (pa_cons (pe_glob (v := .int 5) rfl m5 ⟨_, rfl⟩) (pa_cons (pe_slice sl_list (pv 2) po_none (po_some (pe_glob (v := .int 5) rfl mN ⟨_, rfl⟩))) pa_nil))))) pss_nil)
      (pss_cons (ps_set (i := 3) nd rfl (.inl rfl) (pe_call G3 hr rfl g3 F3.kp b3 .nil pass0 (pa_cons (pe_lc (own := [("count", 5)]) (g := gName 5) rfl nd (pi_list (pv 1))
            (blkOk_by (N := ["cards", "counts", "suited", "high", "many", "count"]) (sc := defScope s_worth_of) (by decide +kernel))
            (fun _ _ _ _ _ => pg_name (i := 5) nd rfl (Or.inl rfl)) (fun _ _ _ _ _ => pts_nil) (fun _ _ _ _ _ => pe_cmpR op_gt (pv 5) pe_int (nomark _))) pa_nil)))
      (pss_cons (ps_if (pt_cmpR op_ge (pv 3) pe_int (nomark _)) (pss_one (ps_ret (pe_tup (pa_cons (pe_glob (v := .int 4) rfl m4 ⟨_, rfl⟩) (pa_cons (pe_lst (pa_cons (pv 3) pa_nil)) pa_nil))))) pss_nil)
      (pss_one (ps_ret (pe_call G6 hr rfl g6 F6.kp b6 .nil pass0 (pa_cons (pv 1) pa_nil))))))))))), ?_⟩
    -- counts, suited
    refine ⟨.ref a, rfl, a, cs, rfl, hS, h52, fun H1 p1 s1 n1 h1 => ?_⟩
    refine ⟨.ref a, rfl, a, cs, rfl, s1.seq hS, h52, hnd, hlen, fun H2 p2 s2 n2 h2 => ?_⟩
    have s12 := s1.trans s2
    have h1' := s2 _ _ h1
    -- what is handed back
    have ret : ∀ (H' : Hp) (sort r : Nat), Same H H' → worthOf cs = (sort, [r]) → ∀ l, H' l = none → ([vN sort, V.ref l] : List V).length ≤ sizeLine ∧ ∀ p, (upd H' l (.lst [vN r])) p = none → Q (.ref p) (upd (upd H' l (.lst [vN r])) p (.tup [vN sort, .ref l])) := fun H' sort r sm e =>
      wnew_of (s := sort) (xs := [r]) sm rfl fun H'' p sm' wn => q _ _ sm' (by rw [e]; exact wn)
    refine ⟨fun σ' H' => ∃ v3, σ' = [some (.ref a), some (.ref p1), some (.ref p2), v3, none, none] ∧ Same H H' ∧ H' p1 = some (.lst (cl (cnt cs))) ∧ H' p2 = some (.lst ((flushR cs).map vN)) ∧ sfRow cs = none, ?_, ?_⟩
    · refine ⟨.ref p2, rfl, p2, _, rfl, .inl (sq h2), _, _, rfl, rfl, _, rfl, ite2 (fun e => ?_) (fun e => ?_)⟩
      · have ne : flushR cs ≠ [] := fun z => by
          rw [z] at e
          exact absurd (of_decide_eq_true e) (by show ¬ (0 : Int) < 0; omega)
        refine ⟨.ref p2, rfl, p2, flushR cs, rfl, sq h2, flushR_lt, fun H3 p3 s3 n3 h3 => ?_⟩
        have s13 := s12.trans s3
        refine ⟨p3, _, rfl, sq h3, ?_⟩
        generalize er : highRow (fun r => (flushR cs).contains r) = o
        cases o with
        | some r =>
          refine ⟨_, rfl, (r : Int), 0, rfl, rfl, _, rfl, ite2 (fun _ => ?_) (fun g => absurd (decide_eq_true (Int.natCast_nonneg r)) g)⟩
          refine ⟨_, rfl, line (by show 1 ≤ 16000000; decide), ?_⟩
          have e8 : worthOf cs = (8, [r]) := by
            unfold worthOf sfRow
            rw [if_neg ne, er]
          exact ret H3 8 r s13 e8
        | none =>
          refine ⟨_, rfl, -1, 0, rfl, rfl, _, rfl, ite2 (fun g => absurd (of_decide_eq_true g) (by decide)) (fun _ => ?_)⟩
          refine ⟨_, rfl, s13, s3 _ _ h1', s3 _ _ h2, ?_⟩
          unfold sfRow
          rw [if_neg ne, er]
      · refine ⟨none, rfl, s12, h1', h2, ?_⟩
        unfold sfRow
        rw [if_pos]
        cases z : flushR cs with
        | nil => rfl
        | cons x l =>
          rw [z] at e
          exact absurd (decide_eq_true (by rw [List.length_map, List.length_cons]; omega)) e
    rintro σ' H3 ⟨v3, rfl, s3, c1, c2, sf⟩
    have ew : worthOf cs = (match manyAlike (cnt cs) with
        | some m => m
        | none => if flushR cs ≠ [] then (5, (flushR cs).take 5) else match highRow fun r => decide (0 < cnt cs r) with
          | some r => (4, [r])
          | none => likeRanks (cnt cs)) := by
      unfold worthOf
      rw [sf] <;> rfl
    -- many
    refine ⟨.ref p1, rfl, p1, cnt cs, rfl, sq c1, fun em H4 s4 => ?_, fun m H4 p4 em s4 wn => ?_⟩
    rotate_left
    · refine ⟨.ref p4, rfl, rfl, _, rfl, iteT ⟨.ref p4, rfl, ?_⟩⟩
      rw [em] at ew
      obtain ⟨w1, qa, w2, w3, w4⟩ := wn
      exact q _ _ (s3.trans s4) (by rw [ew]; exact ⟨s3.free w1, qa, s3.free w2, w3, w4⟩)
    have s14 := s3.trans s4
    have c1' := s4 _ _ c1
    have c2' := s4 _ _ c2
    rw [em] at ew
    simp only at ew
    refine ⟨.non, rfl, rfl, _, rfl, iteF ?_⟩
    refine ⟨.ref p2, rfl, p2, _, rfl, .inl (sq c2'), _, _, rfl, rfl, _, rfl, ite2 (fun e => ?_) (fun e => ?_)⟩
    · have ne : flushR cs ≠ [] := fun z => by
        rw [z] at e
        exact absurd (of_decide_eq_true e) (by show ¬ (0 : Int) < 0; omega)
      rw [if_pos ne] at ew
      refine ⟨.ref p2, rfl, 5, rfl, p2, _, rfl, sq c2', ?_⟩
      have e1 : cutV ((flushR cs).map vN) none (some 5) = ((flushR cs).take 5).map vN := by rw [show (5 : Int) = ((5 : Nat) : Int) from rfl, cut_take, List.map_take]
      rw [e1]
      exact wnew_of (s := 5) s14 rfl fun H'' p sm' wn => q _ _ sm' (by rw [ew]; exact wn)
    · have ne : flushR cs = [] := by
        cases z : flushR cs with
        | nil => rfl
        | cons x l =>
          rw [z] at e
          exact absurd (decide_eq_true (by rw [List.length_map, List.length_cons]; omega)) e
      rw [if_neg (fun z => z ne)] at ew
      -- [count > 0 for count in counts]
      refine ⟨.ref p1, rfl, p1, rfl, ⟨_, sq c1'⟩, fun D hD => lc_list (K := K) (a := p1) (xs := cl (cnt cs))
        (fun i H' => Same H4 H' ∧ H' D = some (.lst (((List.range 13).take i).map fun r => V.bl (decide (0 < cnt cs r)))))
        ⟨same_upd hD, upd_same⟩ (fun i H' _ hI => hI.1.seq (sq c1')) ?_ ?_⟩
      · rintro i x H5 hi ⟨s5, hp⟩
        obtain ⟨r, hr', rfl⟩ := get_map hi
        refine ⟨rfl, vN (cnt cs r), rfl, (cnt cs r : Int), 0, rfl, rfl, _, hp, line' ?_, same_put s5 hD, ?_⟩
        · rw [List.length_map, List.length_take, List.length_range]
          omega
        · rw [upd_same, take_more hr', List.map_append]
          refine congrArg (fun b => some (HO.lst (((List.range 13).take i).map (fun r => V.bl (decide (0 < cnt cs r))) ++ [V.bl b]))) (decide_eq_decide.mpr ?_)
          omega
      · rintro H5 ⟨s5, hp⟩
        rw [cl_len] at hp
        have hp' : H5 D = some (.lst (bl fun r => decide (0 < cnt cs r))) := hp
        have s15 := s14.trans s5
        refine ⟨D, _, rfl, sq hp', ?_⟩
        generalize er : highRow (fun r => decide (0 < cnt cs r)) = o at ew ⊢
        cases o with
        | some r =>
          refine ⟨_, rfl, (r : Int), 0, rfl, rfl, _, rfl, ite2 (fun _ => ?_) (fun g => absurd (decide_eq_true (Int.natCast_nonneg r)) g)⟩
          refine ⟨_, rfl, line (by show 1 ≤ 16000000; decide), ?_⟩
          exact ret H5 4 r s15 ew
        | none =>
          refine ⟨_, rfl, -1, 0, rfl, rfl, _, rfl, ite2 (fun g => absurd (of_decide_eq_true g) (by decide)) (fun _ => ?_)⟩
          refine ⟨.ref p1, rfl, p1, cnt cs, rfl, sq (s5 _ _ c1'), fun H6 p6 s6 wn => ?_⟩
          obtain ⟨w1, qa, w2, w3, w4⟩ := wn
          exact q _ _ (s15.trans s6) (by rw [ew]; exact ⟨s15.free w1, qa, s15.free w2, w3, w4⟩)
end
end Bs
namespace Bs
open PySem PySem.Spec PyProof.Rows L2
/-! ### are_cards, is_between, five_numbers -/
theorem setLen_nodup (ns : List Int) : ∀ i, i ≤ ns.length → (PyProof.Rows.firstMet (fun i => ns.getD i 0) i).length = i → (ns.take i).Nodup
  | 0, _, _ => by simp
  | i + 1, hi, e => by
    have hlt : i < ns.length := hi
    have le := PyProof.Rows.firstMet_length_le (fun i => ns.getD i 0) i
    rw [PyProof.Rows.firstMet_succ] at e
    have e1 : ns.getD i 0 = ns[i] := by
      rw [List.getD_eq_getElem?_getD, List.getElem?_eq_getElem hlt]; rfl
    unfold PyProof.Rows.step_dedup at e
    split at e
    · omega
    · rename_i no
      rw [List.length_append, List.length_singleton] at e
      have ih := setLen_nodup ns i (by omega) (by omega)
      rw [take_more (List.getElem?_eq_getElem hlt), List.nodup_append]
      refine ⟨ih, by simp, fun x hx y hy => ?_⟩
      have ey : y = ns[i] := by simpa using hy
      subst ey
      intro z
      subst z
      have ef := RZ.firstMet_nodup (ns := ns.take i) ih (ns.take i).length (Nat.le_refl _)
      have el : (ns.take i).length = i := by rw [List.length_take]; omega
      have eg : PyProof.Rows.firstMet (fun j => (ns.take i).getD j 0) i = PyProof.Rows.firstMet (fun j => ns.getD j 0) i := by
        unfold PyProof.Rows.firstMet
        refine congrArg (fun l => List.foldl _ [] l) (List.map_congr_left fun j hj => ?_)
        have := List.mem_range.mp hj
        rw [List.getD_eq_getElem?_getD, List.getD_eq_getElem?_getD, List.getElem?_take, if_pos this]
      rw [el, eg] at ef
      have e2 : (ns.take i).take i = ns.take i := by rw [List.take_take, Nat.min_self]
      rw [ef, e2] at no
      refine no (List.any_eq_true.mpr ⟨_, hx, ?_⟩)
      show (ns[i] == ns.getD i 0) = true
      rw [e1]
      exact beq_self_eq_true _
theorem setLen_iff (ns : List Int) : setLen ns = ns.length ↔ ns.Nodup := by
  constructor
  · intro e
    have := setLen_nodup ns ns.length (Nat.le_refl _) e
    rwa [List.take_length] at this
  · intro h
    unfold setLen
    rw [RZ.firstMet_nodup h ns.length (Nat.le_refl _), List.take_length]
theorem nodup_ints {l : List Nat} : (l.map fun (n : Nat) => (n : Int)).Nodup ↔ l.Nodup := by
  constructor
  · intro h
    exact (List.pairwise_map.mp h).imp fun {a b} h z => h (by rw [z])
  · intro h
    exact List.pairwise_map.mpr (h.imp fun {a b} h z => h (Int.ofNat.inj z))
theorem nats_ints (l : List Nat) : Md21Neutral.nats (l.map fun (n : Nat) => (n : Int)) = l := by
  unfold Md21Neutral.nats
  rw [List.map_map]
  exact List.map_id l
theorem cards_iff {l : List Nat} : Md21.cards l = true ↔ (∀ c ∈ l, c < 52) ∧ l.Nodup := by
  unfold Md21.cards
  rw [Bool.and_eq_true, List.all_eq_true, decide_eq_true_eq]
  constructor
  · exact fun h => ⟨fun c hc => of_decide_eq_true (h.1 c hc), h.2⟩
  · exact fun h => ⟨fun c hc => decide_eq_true (h.1 c hc), h.2⟩
theorem of_not {b : Bool} (h : (!b) = true) : b = false := by
  cases b with
  | true => cases h
  | false => rfl
section
variable {P : Program} {w : World} {K : PySem.W.Frag} {mg : Str → Option Value} {base : Heap}
def sp_cards (K : PySem.W.Frag) : Sp := fun vs H Q _ => ∃ (a : Addr) (cs : List Nat), vs = [.ref a] ∧ SqL K H a (cs.map vN) ∧ cs.length ≤ 1000 ∧ Q (.bl (Md21.cards cs)) H
def sp_between : Sp := fun vs H Q _ => ∃ n lo hi : Int, vs = [.int n, .int lo, .int hi] ∧ Q (.bl (decide (lo ≤ n) && decide (n ≤ hi))) H
def sp_five (K : PySem.W.Frag) : Sp := fun vs H Q _ => ∃ (a : Addr) (l : List Nat), vs = [.ref a] ∧ SqL K H a (l.map vN) ∧ l.length ≤ 5 ∧
  ∀ H' p, Same H H' → H p = none → H' p = some (.lst ((l ++ List.replicate (5 - l.length) 0).map vN)) → Q (.ref p) H'
theorem sc_are_cards : FnScope ["row", "number"] ["row"] (defScope s_are_cards) := ⟨rfl, rfl, rfl, by decide +kernel, rfl, by decide +kernel, by decide +kernel⟩
theorem ok_are_cards {f : Addr} {fd : FuncData} {k : Nat} {t : Tok} (F : Fun K "are_cards" "are_cards" s_are_cards f fd) (mC : mg "CARDS" = some (.int 52 t)) (ml : mg "len" = none) (ms : mg "set" = none) : FnOk P w K mg base CX0 (k + 1) f fd ["row"] (sp_cards K) := by
  refine F.ok sc_are_cards (fun vs H Q E h => ?_) (fun cdv A outer s H vs Q E hr h => ?_)
  · obtain ⟨a, cs, rfl, _⟩ := h; rfl
  · obtain ⟨a, cs, rfl, hS, hlen, q⟩ := h
    have nd := sc_are_cards.nd
    refine ⟨_, pss_cons (ps_for PassesOwn.never rfl (pi_list (pv 0)) (pg_name (i := 1) nd rfl (.inl rfl))
        (pss_one (ps_if (pt_cmpR op_ge (pv 1) (pe_glob (v := .int 52) rfl mC ⟨_, rfl⟩) (nomark _)) (pss_one (ps_ret pe_bl)) pss_nil)))
      (pss_one (ps_ret (pe_cmpR op_eq (pe_lenSetA rfl ml rfl ms (pv 0)) (pe_callB call_len_seq rfl ml PySem.boot_len (pa_cons (pv 0) pa_nil)) (nomark _)))), ?_⟩
    refine ⟨.ref a, rfl, a, rfl, ⟨_, hS⟩, for_list (K := K) (a := a) (xs := cs.map vN)
      (fun i σ H' => ∃ v, σ = [some (.ref a), v] ∧ H' = H ∧ ∀ c ∈ cs.take i, c < 52) ⟨none, rfl, rfl, by simp⟩ (fun i σ H' _ hI => by obtain ⟨_, _, rfl, _⟩ := hI; exact hS) ?_ ?_⟩
    · rintro i x σ H' hi ⟨v, rfl, rfl, all⟩
      obtain ⟨c, hc, rfl⟩ := get_vN hi
      refine ⟨vN c, rfl, _, _, rfl, rfl, _, rfl, ite2 (fun e => ?_) (fun e => ?_)⟩
      · have e' : ¬ c < 52 := by have := of_decide_eq_true e; omega
        have ec : Md21.cards cs = false := by
          unfold Md21.cards
          rw [Bool.and_eq_false_iff]
          left
          rw [List.all_eq_false]
          exact ⟨c, List.mem_of_getElem? hc, fun z => e' (of_decide_eq_true z)⟩
        rw [ec] at q
        exact q
      · have e' : c < 52 := by
          have : ¬ ((52 : Int) ≤ (c : Int)) := fun z => e (decide_eq_true z)
          omega
        refine ⟨_, rfl, rfl, fun x hx => ?_⟩
        rw [take_more hc] at hx
        rcases List.mem_append.mp hx with h | h
        · exact all x h
        · have : x = c := by simpa using h
          omega
    · rintro σ H' ⟨v, rfl, rfl, all⟩
      rw [List.length_map, take_all] at all
      refine ⟨.ref a, rfl, a, cs.map (fun (n : Nat) => (n : Int)), rfl, by rw [← vN_ints]; exact hS, by rw [List.length_map]; omega, .ref a, rfl, a, _, rfl, .inl hS, rfl, ?_⟩
      have ec : Md21.cards cs = decide (V.int ((setLen (cs.map fun (n : Nat) => (n : Int)) : Nat) : Int) = V.int (((cs.map vN).length : Nat) : Int)) := by
        unfold Md21.cards
        have e1 : (cs.all fun c => decide (c < Md21.CARDS)) = true := List.all_eq_true.mpr fun c hc => decide_eq_true (all c hc)
        rw [e1, Bool.true_and]
        refine decide_eq_decide.mpr ?_
        rw [← nodup_ints, ← setLen_iff, List.length_map, List.length_map]
        constructor
        · intro z; rw [z]
        · intro z; exact Int.ofNat.inj (V.int.inj z)
      rw [ec] at q
      exact q
theorem sc_is_between : FnScope ["number", "low", "high"] ["number", "low", "high"] (defScope s_is_between) := ⟨rfl, rfl, rfl, by decide +kernel, rfl, by decide +kernel, by decide +kernel⟩
theorem ok_is_between {f : Addr} {fd : FuncData} {k : Nat} (F : Fun K "is_between" "is_between" s_is_between f fd) : FnOk P w K mg base CX0 (k + 1) f fd ["number", "low", "high"] sp_between := by
  refine F.ok sc_is_between (fun vs H Q E h => ?_) (fun cdv A outer s H vs Q E hr h => ?_)
  · obtain ⟨n, lo, hi, rfl, _⟩ := h; rfl
  · obtain ⟨n, lo, hi, rfl, q⟩ := h
    refine ⟨_, pss_one (ps_ret (pe_and (pe_cmpR op_le (pv 1) (pv 0) (nomark _)) (pe_one (pe_cmpR op_le (pv 0) (pv 2) (nomark _))))), ?_⟩
    refine ⟨.int lo, rfl, .int n, rfl, lo, n, rfl, rfl, _, rfl, ite2 (fun e => ?_) (fun e => ?_)⟩
    · refine ⟨.int n, rfl, .int hi, rfl, n, hi, rfl, rfl, ?_⟩
      rw [e, Bool.true_and] at q
      exact q
    · rw [Bool.eq_false_iff.mpr e, Bool.false_and] at q
      exact q
end
end Bs
namespace Bs
open PySem PySem.Spec PyProof.Rows L2
/-! ### unseen -/
def bn (n : Nat) (f : Nat → Bool) : List V := (List.range n).map fun r => V.bl (f r)
theorem bn_len (n : Nat) (f : Nat → Bool) : (bn n f).length = n := by simp [bn]
theorem bn_get {n : Nat} {f : Nat → Bool} {r : Nat} (h : r < n) : (bn n f)[r]? = some (.bl (f r)) := by
  unfold bn
  rw [List.getElem?_map, List.getElem?_range h]; rfl
theorem bn_set (n : Nat) (f : Nat → Bool) (r : Nat) (b : Bool) : (bn n f).set r (.bl b) = bn n fun x => if x = r then b else f x := by
  apply List.ext_getElem?
  intro i
  rw [List.getElem?_set]
  by_cases hi : i < n
  · rw [bn_get hi]
    by_cases e : r = i
    · subst e
      rw [if_pos rfl, if_pos (by rw [bn_len]; exact hi), bn_get hi, if_pos rfl]
    · rw [if_neg e, bn_get hi, if_neg (fun z => e z.symm)]
  · have e1 : (bn n fun x => if x = r then b else f x)[i]? = none := List.getElem?_eq_none (by rw [bn_len]; omega)
    have e2 : (bn n f)[i]? = none := List.getElem?_eq_none (by rw [bn_len]; omega)
    rw [e1]
    split
    · rename_i e
      subst e
      rw [if_neg (by rw [bn_len]; exact hi)]
    · exact e2
theorem bn_congr {n : Nat} {f g : Nat → Bool} (h : ∀ r, r < n → f r = g r) : bn n f = bn n g := by
  unfold bn
  exact List.map_congr_left fun r hr => by rw [h r (List.mem_range.mp hr)]
theorem bn_rep (n : Nat) : (List.replicate n [V.bl false]).flatten = bn n fun _ => false := by
  rw [List.flatten_replicate_singleton]
  unfold bn
  rw [List.map_const', List.length_range]
section
variable {P : Program} {w : World} {K : PySem.W.Frag} {mg : Str → Option Value} {base : Heap}
def sp_unseen (K : PySem.W.Frag) : Sp := fun vs H Q _ => ∃ (a : Addr) (cs : List Nat), vs = [.ref a] ∧ SqL K H a (cs.map vN) ∧ (∀ c ∈ cs, c < 52) ∧
  ∀ H' p, Same H H' → H p = none → H' p = some (.lst ((Md21.rest cs).map vN)) → Q (.ref p) H'
theorem sc_unseen : FnScope ["seen", "known", "card"] ["seen"] (defScope s_unseen) := ⟨rfl, rfl, rfl, by decide +kernel, rfl, by decide +kernel, by decide +kernel⟩
theorem ok_unseen {f : Addr} {fd : FuncData} {k : Nat} {t : Tok} (F : Fun K "unseen" "unseen" s_unseen f fd) (mC : mg "CARDS" = some (.int 52 t)) (mr : mg "range" = none) : FnOk P w K mg base CX0 (k + 1) f fd ["seen"] (sp_unseen K) := by
  refine F.ok sc_unseen (fun vs H Q E h => ?_) (fun cdv A outer s H vs Q E hr h => ?_)
  · obtain ⟨a, cs, rfl, _⟩ := h; rfl
  · obtain ⟨a, cs, rfl, hS, h52, q⟩ := h
    have nd := sc_unseen.nd
    refine ⟨_, pss_cons (ps_set (i := 1) nd rfl (.inr rfl) (pe_op op_rep (pe_lst (pa_cons pe_bl pa_nil)) (pe_glob (v := .int 52) rfl mC ⟨_, rfl⟩)))
      (pss_cons (ps_for PassesOwn.never rfl (pi_list (pv 0)) (pg_name (i := 2) nd rfl (.inl rfl))
        (pss_one (ps_asg pe_bl (pg_sub (pv 1) (pv 2) set_list))))
      (pss_one (ps_ret (pe_lc (own := [("card", 2)]) (g := gName 2) rfl nd
        (pi_range1 rfl mr (pa_cons (pe_glob (v := .int 52) rfl mC ⟨_, rfl⟩) pa_nil))
        (blkOk_by (N := ["seen", "known", "card"]) (sc := defScope s_unseen) (by decide +kernel))
        (fun _ _ _ _ _ => pg_name (i := 2) nd rfl (Or.inl rfl))
        (fun _ _ _ _ _ => pts_one (pt_not (pt_val (pe_ix (ix_listK (K := K) rfl) (pv 1) (pv 2) (fun _ _ => rfl)))))
        (fun _ _ _ _ _ => pv 2))))), ?_⟩
    refine ⟨line (by decide), fun l0 n0 => ?_⟩
    refine ⟨l0, 52, [.bl false], rfl, rfl, upd_same, by decide, by decide, line (by decide), fun p np => ?_⟩
    have n1 : H p = none := (same_upd n0).free np
    refine ⟨.ref a, rfl, a, rfl, ⟨_, ((same_upd n0).trans (same_upd np)).seq hS⟩, for_list (K := K) (a := a) (xs := cs.map vN)
      (fun i σ H' => ∃ v2, σ = [some (.ref a), some (.ref p), v2] ∧ Same H H' ∧ H' p = some (.lst (bn 52 fun r => (cs.take i).contains r)))
      ⟨none, rfl, (same_upd n0).trans (same_upd np), by rw [upd_same]; exact congrArg (fun l => some (HO.lst l)) (bn_rep 52)⟩ (fun i σ H' _ hI => by obtain ⟨_, _, s1, _⟩ := hI; exact s1.seq hS) ?_ ?_⟩
    · rintro i x σ H' hi ⟨v2, rfl, s1, hp⟩
      obtain ⟨c, hc, rfl⟩ := get_vN hi
      have c52 := h52 c (List.mem_of_getElem? hc)
      refine ⟨.ref p, rfl, vN c, rfl, p, _, _, c, rfl, rfl, hp, ixN_nat (by rw [bn_len]; exact c52), ?_⟩
      refine ⟨_, rfl, same_put s1 n1, ?_⟩
      rw [upd_same, bn_set, take_more hc]
      refine congrArg (fun l => some (HO.lst l)) (bn_congr fun r _ => ?_)
      by_cases e : r = c
      · subst e; simp
      · simp [e]
    · rintro σ H1 ⟨v2, rfl, s1, hp⟩
      rw [List.length_map, take_all] at hp
      refine ⟨52, rfl, by decide, by decide, fun D hD => lc_range (lo := 0) (n := 52)
        (fun i H' => Same H1 H' ∧ H' D = some (.lst ((((List.range 52).take i).filter fun c => !cs.contains c).map vN)))
        ⟨same_upd hD, upd_same⟩ ?_ ?_⟩
      · rintro i H2 hi ⟨s2, hd⟩
        have ei : (List.range 52)[i]? = some i := List.getElem?_range hi
        have ev : (0 : Int) + (i : Nat) = ((i : Nat) : Int) := by omega
        rw [ev]
        refine ⟨rfl, .ref p, rfl, vN i, rfl, p, _, _, .bl (cs.contains i), rfl, rfl, sq (s2 _ _ hp), atI_nat (bn_get hi), _, rfl, ?_⟩
        rw [take_more ei, List.filter_append, List.filter_cons]
        refine ite_of (fun e => ?_) (fun e => ?_)
        · refine ⟨vN i, rfl, _, hd, line' ?_, same_put s2 hD, ?_⟩
          · rw [List.length_map]
            have h1 := List.length_filter_le (fun c => !cs.contains c) ((List.range 52).take i)
            rw [List.length_take, List.length_range] at h1
            omega
          · rw [upd_same, if_pos e, List.map_append]
            rfl
        · refine ⟨s2, ?_⟩
          rw [if_neg (by rw [e]; exact Bool.false_ne_true), List.filter_nil, List.append_nil]
          exact hd
      · rintro H2 ⟨s2, hd⟩
        have e52 : (List.range 52).take 52 = List.range 52 := List.take_of_length_le (by rw [List.length_range]; exact Nat.le_refl _)
        rw [e52] at hd
        exact q H2 D (s1.trans s2) (s1.free hD) hd
end
end Bs
namespace Bs
open PySem PySem.Spec PyProof.Rows L2
/-- lists of cards at the addresses -/
def RowsAt (H : Hp) (as : List Addr) (L : List (List Nat)) : Prop := as.length = L.length ∧ ∀ (i : Nat) (a : Addr) (l : List Nat), as[i]? = some a → L[i]? = some l → H a = some (.lst (l.map vN))
theorem RowsAt.same {H H' : Hp} {as : List Addr} {L : List (List Nat)} (r : RowsAt H as L) (s : Same H H') : RowsAt H' as L := ⟨r.1, fun i a l e1 e2 => s _ _ (r.2 i a l e1 e2)⟩
end Bs
namespace Bs
open PySem PySem.Spec PyProof.Rows L2
/-! ### choices_of -/
/-- pairs (choice, start) at the addresses, no choice at D, each choice at an address that was free in H0 -/
def PairsAt (H0 : Hp) (D : Addr) (H : Hp) (ts : List Addr) (L : List (List Nat × Nat)) : Prop := ts.length = L.length ∧
  ∀ (i : Nat) (t : Addr) (x : List Nat × Nat), ts[i]? = some t → L[i]? = some x → ∃ c, H0 c = none ∧ c ≠ D ∧ H t = some (.tup [.ref c, vN x.2]) ∧ H c = some (.lst (x.1.map vN))
theorem PairsAt.same {H0 : Hp} {D : Addr} {H H' : Hp} {ts : List Addr} {L : List (List Nat × Nat)} (r : PairsAt H0 D H ts L) (s : Same H H') : PairsAt H0 D H' ts L :=
  ⟨r.1, fun i t x e1 e2 => by obtain ⟨c, h0, h1, h2, h3⟩ := r.2 i t x e1 e2; exact ⟨c, h0, h1, s _ _ h2, s _ _ h3⟩⟩
theorem PairsAt.nil (H0 : Hp) (D : Addr) (H : Hp) : PairsAt H0 D H [] [] := ⟨rfl, fun i t x e _ => by simp at e⟩
theorem PairsAt.app {H0 : Hp} {D : Addr} {H : Hp} {ts : List Addr} {L : List (List Nat × Nat)} {t c : Addr} {x : List Nat × Nat} (r : PairsAt H0 D H ts L) (h0 : H0 c = none) (h1 : c ≠ D) (h2 : H t = some (.tup [.ref c, vN x.2])) (h3 : H c = some (.lst (x.1.map vN))) : PairsAt H0 D H (ts ++ [t]) (L ++ [x]) := by
  refine ⟨by rw [List.length_append, List.length_append, r.1]; rfl, fun i t' x' e1 e2 => ?_⟩
  rw [List.getElem?_append] at e1 e2
  rw [r.1] at e1
  by_cases hi : i < L.length
  · rw [if_pos hi] at e1 e2
    exact r.2 i t' x' e1 e2
  · rw [if_neg hi] at e1 e2
    cases hz : i - L.length with
    | zero =>
      rw [hz] at e1 e2
      obtain rfl := Option.some.inj e1
      obtain rfl := Option.some.inj e2
      exact ⟨c, h0, h1, h2, h3⟩
    | succ n => rw [hz] at e1; simp at e1
/-- D itself may change -/
theorem PairsAt.put {H0 : Hp} {D : Addr} {H : Hp} {ts : List Addr} {L : List (List Nat × Nat)} {o : HO} {xs : List V} (r : PairsAt H0 D H ts L) (hD : H D = some (.lst xs)) : PairsAt H0 D (upd H D o) ts L :=
  ⟨r.1, fun i t x e1 e2 => by
    obtain ⟨c, h0, h1, h2, h3⟩ := r.2 i t x e1 e2
    have ht : t ≠ D := fun z => by rw [z, hD] at h2; cases h2
    exact ⟨c, h0, h1, by rw [upd_ne ht]; exact h2, by rw [upd_ne h1]; exact h3⟩⟩
theorem ext_get {cs : List Nat} {x : List Nat × Nat} {k c : Nat} (h : cs[x.2 + k]? = some c) : (extS cs x)[k]? = some (x.1 ++ [c], x.2 + k + 1) := by
  have hk := lt_of_get h
  unfold extS
  rw [List.getElem?_map, List.getElem?_range (by omega)]
  show some (x.1 ++ [cs.getD (x.2 + k) 0], x.2 + k + 1) = _
  rw [List.getD_eq_getElem?_getD, h]
  rfl
theorem ext_len (cs : List Nat) (x : List Nat × Nat) : (extS cs x).length = cs.length - x.2 := by simp [extS]
theorem flat_take {α β : Type} {f : α → List β} {L : List α} {j : Nat} {x : α} (h : L[j]? = some x) : (L.take (j + 1)).flatMap f = (L.take j).flatMap f ++ f x := by
  rw [take_more h, List.flatMap_append, List.flatMap_cons, List.flatMap_nil, List.append_nil]
theorem flat_lt {α β : Type} {f : α → List β} {L : List α} {j k : Nat} {x : α} (h : L[j]? = some x) (hk : k < (f x).length) : ((L.take j).flatMap f ++ (f x).take k).length < (L.flatMap f).length := by
  have e : L.flatMap f = (L.take (j + 1)).flatMap f ++ (L.drop (j + 1)).flatMap f := by rw [← List.flatMap_append, List.take_append_drop]
  rw [e, flat_take h, List.length_append, List.length_append, List.length_append, List.length_take]
  omega
section
variable {P : Program} {w : World} {K : PySem.W.Frag} {mg : Str → Option Value} {base : Heap}
def sp_choices (K : PySem.W.Frag) : Sp := fun vs H Q _ => ∃ (a : Addr) (cs : List Nat) (m : Nat), vs = [.ref a, vN m] ∧ SqL K H a (cs.map vN) ∧ cs.length ≤ 60 ∧ m ≤ 60 ∧ (∀ i, i ≤ m → (Md21.choose i cs).length ≤ 15000000) ∧
  ∀ H' p as, Same H H' → H p = none → H' p = some (.lst (as.map V.ref)) → RowsAt H' as (Md21.choose m cs) → (∀ a ∈ as, H a = none) → Q (.ref p) H'
theorem sc_choices_of : FnScope ["cards", "many", "found", "step", "longer", "chosen", "start", "at"] ["cards", "many"] (defScope s_choices_of) := ⟨rfl, rfl, rfl, by decide +kernel, rfl, by decide +kernel, by decide +kernel⟩
theorem ok_choices_of {f : Addr} {fd : FuncData} {k : Nat} (F : Fun K "choices_of" "choices_of" s_choices_of f fd) (mr : mg "range" = none) (ml : mg "len" = none) : FnOk P w K mg base CX0 (k + 1) f fd ["cards", "many"] (sp_choices K) := by
  refine F.ok sc_choices_of (fun vs H Q E h => ?_) (fun cdv A outer s H vs Q E hr h => ?_)
  · obtain ⟨a, cs, m, rfl, _⟩ := h; rfl
  · obtain ⟨a, cs, m, rfl, hS, h60, hm, hmany, q⟩ := h
    have nd := sc_choices_of.nd
    refine ⟨_, pss_cons (ps_set (i := 2) nd rfl (.inl rfl) (pe_lst (pa_cons (pe_tup (pa_cons (pe_lst pa_nil) (pa_cons pe_int pa_nil))) pa_nil)))
      (pss_cons (ps_for PassesOwn.never rfl (pi_range1 rfl mr (pa_cons (pv 1) pa_nil)) (pg_name (i := 3) nd rfl (.inl rfl))
        (pss_cons (ps_set (i := 4) nd rfl (.inl rfl) (pe_lst pa_nil))
        (pss_cons (ps_for PassesOwn.never rfl (pi_list (pv 2)) (pg_tup rfl (pgs_cons (pg_name (i := 5) nd rfl (.inl rfl)) (pgs_cons (pg_name (i := 6) nd rfl (.inl rfl)) pgs_nil)))
          (pss_one (ps_for PassesOwn.never rfl (pi_range2 rfl mr (pa_cons (pv 6) (pa_cons (pe_callB call_len_seq rfl ml PySem.boot_len (pa_cons (pv 0) pa_nil)) pa_nil))) (pg_name (i := 7) nd rfl (.inl rfl))
            (pss_one (ps_expr (pe_bm PySem.F.plainAttrs_list PySem.F.slot_list_append PySem.F.type_list_append mt_append (pv 4)
              (pa_cons (pe_tup (pa_cons (pe_op op_catS (pv 5) (pe_lst (pa_cons (pe_ix ix_list (pv 0) (pv 7) (fun _ _ => rfl)) pa_nil))) (pa_cons (pe_op op_add (pv 7) pe_int) pa_nil))) pa_nil)))))))
        (pss_one (ps_set (i := 2) nd rfl (.inl rfl) (pv 4))))))
      (pss_one (ps_ret (pe_lc (own := [("chosen", 5), ("start", 6)]) (g := gTup K 2 (gCons (gName 5) (gCons (gName 6) gNil))) rfl nd (pi_list (pv 2))
        (blkOk_by (N := ["cards", "many", "found", "step", "longer", "chosen", "start", "at"]) (sc := defScope s_choices_of) (by decide +kernel))
        (fun _ _ _ _ _ => pg_tupK rfl rfl (pgs_cons (pg_name (i := 5) nd rfl (Or.inl rfl)) (pgs_cons (pg_name (i := 6) nd rfl (Or.inl rfl)) pgs_nil)))
        (fun _ _ _ _ _ => pts_nil) (fun _ _ _ _ _ => pv 5))))), ?_⟩
    -- found = [([], 0)]
    refine ⟨line (by decide), fun c0 nc0 => ⟨line (by show 2 ≤ 16000000; decide), fun t0 nt0 => ⟨line (by show 1 ≤ 16000000; decide), fun D0 nD0 => ?_⟩⟩⟩
    have sA : Same H (upd (upd (upd H c0 (.lst [])) t0 (.tup [.ref c0, .int 0])) D0 (.lst [.ref t0])) := ((same_upd nc0).trans (same_upd nt0)).trans (same_upd nD0)
    have ct : c0 ≠ t0 := ne_of_none upd_same nt0
    have tD : t0 ≠ D0 := ne_of_none upd_same nD0
    have cD : c0 ≠ D0 := ne_of_none (show (upd (upd H c0 (.lst [])) t0 (.tup [.ref c0, .int 0])) c0 = some (.lst []) by rw [upd_ne ct, upd_same]) nD0
    -- for step in range(many)
    refine ⟨vN m, rfl, (m : Int), rfl, by omega, by omega, for_range (lo := 0) (n := m)
      (fun i σ H' => ∃ Fd ts v3 v4 v5 v6 v7, σ = [some (.ref a), some (vN m), some (.ref Fd), v3, v4, v5, v6, v7] ∧ Same H H' ∧ H' Fd = some (.lst (ts.map V.ref)) ∧ PairsAt H Fd H' ts (iterS cs i))
      ⟨D0, [t0], none, none, none, none, none, rfl, sA, upd_same, ?_⟩ ?_ ?_⟩
    · refine ⟨rfl, fun i t x e1 e2 => ?_⟩
      cases i with
      | zero =>
        obtain rfl := Option.some.inj e1
        obtain rfl := Option.some.inj e2
        exact ⟨c0, nc0, cD, by rw [upd_ne tD, upd_same]; rfl, by rw [upd_ne cD, upd_ne ct, upd_same]; rfl⟩
      | succ i => simp at e1
    · rintro i σ Hb hi ⟨Fd, ts, v3, v4, v5, v6, v7, rfl, sb, hF, pF⟩
      -- longer = []
      refine ⟨line (by decide), fun D hD => ?_⟩
      have FD : Fd ≠ D := ne_of_none hF hD
      -- for chosen, start in found
      refine ⟨.ref Fd, rfl, Fd, rfl, ⟨_, sq_upd (sq hF) hD⟩, for_list (K := K) (a := Fd) (xs := ts.map V.ref)
        (fun j σ H' => ∃ us v5 v6 v7, σ = [some (.ref a), some (vN m), some (.ref Fd), some (.int (0 + (i : Nat))), some (.ref D), v5, v6, v7] ∧ Same Hb H' ∧ H' D = some (.lst (us.map V.ref)) ∧ PairsAt H D H' us (((iterS cs i).take j).flatMap (extS cs)))
        ⟨[], _, _, _, rfl, same_upd hD, upd_same, PairsAt.nil _ _ _⟩ (fun j σ H' _ hI => by obtain ⟨_, _, _, _, _, s1, _⟩ := hI; exact s1.seq (sq hF)) ?_ ?_⟩
      · rintro j x σ H1 hj ⟨us, v5, v6, v7, rfl, s1, hd, pd⟩
        obtain ⟨t, ht, rfl⟩ := get_map hj
        obtain ⟨x, hx⟩ : ∃ x, (iterS cs i)[j]? = some x := ⟨_, List.getElem?_eq_getElem (by rw [← pF.1]; exact lt_of_get ht)⟩
        obtain ⟨c, c0F, cF, h2, h3⟩ := pF.2 j t x ht hx
        have cD' : c ≠ D := ne_of_none h3 hD
        have xs : x.2 ≤ cs.length := iter_start cs i x (List.mem_of_getElem? hx)
        refine ⟨t, _, rfl, sqT (s1 _ _ h2), rfl, .ref c, _, rfl, vN x.2, _, rfl, rfl, ?_⟩
        -- for at in range(start, len(cards))
        refine ⟨vN x.2, rfl, .ref a, rfl, a, _, rfl, .inl (s1.seq (sb.seq hS)), (x.2 : Int), _, rfl, ⟨by omega, by omega, by omega, by rw [List.length_map]; omega⟩, for_range (lo := (x.2 : Int)) (n := ((((cs.map vN).length : Nat) : Int) - (x.2 : Int)).toNat)
          (fun k σ H' => ∃ us v7, σ = [some (.ref a), some (vN m), some (.ref Fd), some (.int (0 + (i : Nat))), some (.ref D), some (.ref c), some (vN x.2), v7] ∧ Same Hb H' ∧ H' D = some (.lst (us.map V.ref)) ∧ PairsAt H D H' us (((iterS cs i).take j).flatMap (extS cs) ++ (extS cs x).take k))
          ⟨us, _, rfl, s1, hd, by rw [List.take_zero, List.append_nil]; exact pd⟩ ?_ ?_⟩
        · rintro k σ H2 hk ⟨us, v7, rfl, s2, hd, pd⟩
          rw [List.length_map] at hk
          have hk' : x.2 + k < cs.length := by omega
          have ec : cs[x.2 + k]? = some cs[x.2 + k] := List.getElem?_eq_getElem hk'
          have ex := ext_get ec
          have hus : us.length < 15000000 := by
            rw [pd.1]
            refine Nat.lt_of_lt_of_le (flat_lt hx (lt_of_get ex)) ?_
            show (iterS cs (i + 1)).length ≤ _
            rw [iter_len]
            exact hmany _ hi
          refine ⟨.ref D, rfl, .inl ⟨rfl, _, sq hd⟩, .ref c, rfl, .ref a, rfl, .int ((x.2 : Int) + (k : Nat)), rfl, a, _, _, vN cs[x.2 + k], rfl, rfl, (s2.seq (sb.seq hS)), at_of (j := x.2 + k) (by omega) (by rw [List.getElem?_map, ec]; rfl), line (by show 1 ≤ 16000000; decide), fun y ny => ?_⟩
          have sy := same_upd (o := .lst [vN cs[x.2 + k]]) ny
          refine ⟨c, y, _, _, rfl, rfl, sy.seq (sq (s2 _ _ h3)), sq upd_same, line ?_, fun z nz => ?_⟩
          · have hx1 : x.1.length ≤ 60 := by
              have mx := List.mem_of_getElem? hx
              have : x.1 ∈ Md21.choose i cs := by rw [← iter_is]; exact List.mem_map.mpr ⟨x, mx, rfl⟩
              have := (mem_choose.mp this).2
              omega
            rw [List.length_map]
            show x.1.length + 1 ≤ 16000000
            omega
          have sz := same_upd (o := .lst (x.1.map vN ++ [vN cs[x.2 + k]])) nz
          refine ⟨.int ((x.2 : Int) + (k : Nat)), rfl, _, _, rfl, rfl, line (by show 2 ≤ 16000000; decide), fun t' nt => ?_⟩
          have st := same_upd (o := .tup [.ref z, .int ((x.2 : Int) + (k : Nat) + 1)]) nt
          have sall := (sy.trans sz).trans st
          have hd' := sall _ _ hd
          have zD : z ≠ D := (ne_of_none (sy _ _ hd) nz).symm
          have zt : z ≠ t' := ne_of_none upd_same nt
          refine ⟨D, _, _, rfl, rfl, hd', line' (by rw [List.length_map]; omega), ?_⟩
          refine ⟨us ++ [t'], _, rfl, same_put (s2.trans sall) hD, by rw [upd_same, List.map_append]; rfl, ?_⟩
          rw [take_more ex, ← List.append_assoc]
          refine PairsAt.put (PairsAt.app (pd.same sall) ((sb.trans (s2.trans sy)).free nz) zD ?_ ?_) hd'
          · rw [upd_same]
            have e : (x.2 : Int) + (k : Nat) + 1 = ((x.2 + k + 1 : Nat) : Int) := by omega
            show some (HO.tup [V.ref z, V.int ((x.2 : Int) + (k : Nat) + 1)]) = _
            rw [e]
            rfl
          · rw [upd_ne zt, upd_same, List.map_append]
            rfl
        · rintro σ H2 ⟨us, v7, rfl, s2, hd, pd⟩
          refine ⟨us, _, _, _, rfl, s2, hd, ?_⟩
          rw [flat_take hx]
          have ea : (extS cs x).take ((((cs.map vN).length : Nat) : Int) - (x.2 : Int)).toNat = extS cs x := List.take_of_length_le (by rw [ext_len, List.length_map]; omega)
          rw [ea] at pd
          exact pd
      · rintro σ H1 ⟨us, v5, v6, v7, rfl, s1, hd, pd⟩
        rw [List.length_map, pF.1, take_all] at pd
        exact ⟨.ref D, rfl, D, us, _, _, _, _, _, rfl, sb.trans s1, hd, pd⟩
    · rintro σ H1 ⟨Fd, ts, v3, v4, v5, v6, v7, rfl, s1, hF, pF⟩
      -- [chosen for chosen, start in found]
      refine ⟨.ref Fd, rfl, Fd, rfl, ⟨_, sq hF⟩, fun D hD => lc_list (K := K) (a := Fd) (xs := ts.map V.ref)
        (fun j H' => Same H1 H' ∧ ∃ as : List Addr, as.length = j ∧ H' D = some (.lst (as.map V.ref)) ∧ ∀ (u : Nat) (c : Addr) (x : List Nat × Nat), as[u]? = some c → (iterS cs m)[u]? = some x → H c = none ∧ H1 c = some (.lst (x.1.map vN)))
        ⟨same_upd hD, [], rfl, upd_same, fun u c x e _ => by simp at e⟩ (fun j H' _ hI => hI.1.seq (sq hF)) ?_ ?_⟩
      · rintro j x H2 hj ⟨s2, as, el, hd, hc⟩
        obtain ⟨t, ht, rfl⟩ := get_map hj
        obtain ⟨x, hx⟩ : ∃ x, (iterS cs m)[j]? = some x := ⟨_, List.getElem?_eq_getElem (by rw [← pF.1]; exact lt_of_get ht)⟩
        obtain ⟨c, c0F, cF, h2, h3⟩ := pF.2 j t x ht hx
        refine ⟨t, _, rfl, sqT (s2 _ _ h2), rfl, .ref c, _, rfl, vN x.2, _, rfl, rfl, rfl, .ref c, rfl, _, hd, line' ?_, same_put s2 hD, as ++ [c], by rw [List.length_append, el]; rfl, by rw [upd_same, List.map_append]; rfl, fun u c' x' e1 e2 => ?_⟩
        · rw [List.length_map, el]
          have h5 := lt_of_get hx
          have h6 := hmany m (Nat.le_refl _)
          rw [iter_len] at h5
          omega
        · rw [List.getElem?_append, el] at e1
          by_cases hu : u < j
          · rw [if_pos hu] at e1
            exact hc u c' x' e1 e2
          · rw [if_neg hu] at e1
            have hz : u - j = 0 := by
              cases hz : u - j with
              | zero => rfl
              | succ n => rw [hz] at e1; simp at e1
            have uj : u = j := by omega
            subst uj
            rw [hz] at e1
            obtain rfl := Option.some.inj e1
            rw [hx] at e2
            obtain rfl := Option.some.inj e2
            exact ⟨c0F, h3⟩
      · rintro H2 ⟨s2, as, el, hd, hc⟩
        rw [List.length_map, pF.1] at el
        refine q H2 D as (s1.trans s2) (s1.free hD) hd ⟨by rw [el, iter_len], fun i c l e1 e2 => ?_⟩ fun c hcm => ?_
        rotate_left
        · obtain ⟨i, e1⟩ := List.mem_iff_getElem?.mp hcm
          exact (hc i c _ e1 (List.getElem?_eq_getElem (by rw [← el]; exact lt_of_get e1))).1
        rw [← iter_is, List.getElem?_map] at e2
        cases ex : (iterS cs m)[i]? with
        | none => rw [ex] at e2; cases e2
        | some x =>
          rw [ex] at e2
          obtain rfl := Option.some.inj e2
          exact s2 _ _ (hc i c x e1 ex).2
end
end Bs
namespace Bs
open PySem PySem.Spec PyProof.Rows L2
/-- n numbers -/
def nl (n : Nat) (f : Nat → Nat) : List V := (List.range n).map fun r => vN (f r)
theorem nl_len (n : Nat) (f : Nat → Nat) : (nl n f).length = n := by simp [nl]
theorem nl_get {n : Nat} {f : Nat → Nat} {r : Nat} (h : r < n) : (nl n f)[r]? = some (vN (f r)) := by
  unfold nl
  rw [List.getElem?_map, List.getElem?_range h]; rfl
theorem nl_congr {n : Nat} {f g : Nat → Nat} (h : ∀ r, r < n → f r = g r) : nl n f = nl n g := by
  unfold nl
  exact List.map_congr_left fun r hr => by rw [h r (List.mem_range.mp hr)]
theorem nl_set (n : Nat) (f : Nat → Nat) (r m : Nat) : (nl n f).set r (vN m) = nl n fun x => if x = r then m else f x := by
  apply List.ext_getElem?
  intro i
  rw [List.getElem?_set]
  by_cases hi : i < n
  · rw [nl_get hi]
    by_cases e : r = i
    · subst e
      rw [if_pos rfl, if_pos (by rw [nl_len]; exact hi), nl_get hi, if_pos rfl]
    · rw [if_neg e, nl_get hi, if_neg (fun z => e z.symm)]
  · have e1 : (nl n fun x => if x = r then m else f x)[i]? = none := List.getElem?_eq_none (by rw [nl_len]; omega)
    have e2 : (nl n f)[i]? = none := List.getElem?_eq_none (by rw [nl_len]; omega)
    rw [e1]
    split
    · rename_i e
      subst e
      rw [if_neg (by rw [nl_len]; exact hi)]
    · exact e2
theorem nl_rep (n : Nat) : (List.replicate n [V.int 0]).flatten = nl n fun _ => 0 := by
  rw [List.flatten_replicate_singleton]
  unfold nl
  rw [List.map_const', List.length_range]
  rfl
theorem vN_add (a b : Nat) : V.int ((a : Int) + (b : Int)) = vN (a + b) := by unfold vN; rw [Int.natCast_add]
/-- few enough choices, for choices_of's lists -/
theorem few_choices {R : List Nat} {b : Nat} (h52 : R.length ≤ 52) (hb : 3 ≤ b ∨ R.length ≤ 20) : ∀ i, i ≤ 5 - b → (Md21.choose i R).length ≤ 15000000 := by
  intro i hi
  rcases hb with hb | hb
  · have h1 := choose_le_pow i R
    have h2 : R.length ^ i ≤ 52 ^ i := Nat.pow_le_pow_left h52 i
    have h3 : 52 ^ i ≤ 52 ^ 2 := Nat.pow_le_pow_right (by decide) (by omega)
    have h4 : (52 : Nat) ^ 2 = 2704 := by decide
    omega
  · have h1 := choose_pow i R
    have h2 : 2 ^ R.length ≤ 2 ^ 20 := Nat.pow_le_pow_right (by decide) hb
    have h3 : (2 : Nat) ^ 20 = 1048576 := by decide
    omega
theorem cat47 {a b c : List Nat} (h1 : a.length ≤ 12) (h2 : b.length ≤ 5) (h3 : c.length ≤ 30) : ((a ++ b) ++ c).length ≤ 47 := by
  rw [List.length_append, List.length_append]; omega
theorem btw (z : Int) (a b : Nat) : Md21.between z a b = (decide ((a : Int) ≤ z) && decide (z ≤ (b : Int))) := rfl
end Bs
namespace Bs
open PySem PySem.Spec PyProof.Rows L2
open PySem.W (dataLt alike alikeAll AlikeAll maxD keyToksAll eqv_all_cons dataLt_all_yes dataLt_all_no dataLt_int dataLt_tuple dataLt_list)
/-! ### a worth as a datum -/
def wD (m : Nat × List Nat) : PyData := .tuple [.int (m.1 : Int), .list (m.2.map fun (n : Nat) => PyData.int (n : Int))]
theorem wD_dp {K : PySem.W.Frag} {H : Hp} {p q : Addr} {m : Nat × List Nat} (h1 : H p = some (.tup [vN m.1, .ref q])) (h2 : H q = some (.lst (m.2.map vN))) : Dp K H (.ref p) (wD m) := by
  refine .tup (sqT h1) (.cons (.int _) (.cons (.lst (sq h2) ?_) .nil))
  generalize m.2 = l
  induction l with
  | nil => exact .nil
  | cons x l ih => exact .cons (.int _) ih
theorem alike_ns : ∀ a b : List Nat, alikeAll (a.map fun (n : Nat) => PyData.int (n : Int)) (b.map fun (n : Nat) => PyData.int (n : Int)) = true
  | [], _ => by simp [alikeAll]
  | _ :: _, [] => by simp [alikeAll]
  | x :: a, y :: b => by
    rw [List.map_cons, List.map_cons, alikeAll, alike_ns a b]
    simp [alike]
theorem alike_wD (a b : Nat × List Nat) : alike (wD a) (wD b) = true := by
  unfold wD
  simp only [alike, alikeAll, alike_ns, Bool.and_self]
theorem eqv_int (a b : Nat) : PyData.eqv (.int (a : Int)) (.int (b : Int)) = decide (a = b) := by
  have e : PyData.eqv (.int (a : Int)) (.int (b : Int)) = ((a : Int) == (b : Int)) := by simp [PyData.eqv]
  rw [e]
  by_cases h : a = b
  · subst h; simp
  · have : ¬ (a : Int) = (b : Int) := by omega
    rw [decide_eq_false h, beq_eq_false_iff_ne]
    exact this
theorem eqv_ns : ∀ a b : List Nat, PyData.eqvAll (a.map fun (n : Nat) => PyData.int (n : Int)) (b.map fun (n : Nat) => PyData.int (n : Int)) = decide (a = b)
  | [], [] => by simp [PyData.eqvAll]
  | [], y :: b => by simp [PyData.eqvAll]
  | x :: a, [] => by simp [PyData.eqvAll]
  | x :: a, y :: b => by
    rw [List.map_cons, List.map_cons, eqv_all_cons, eqv_ns a b, eqv_int]
    by_cases h1 : x = y <;> by_cases h2 : a = b <;> simp [h1, h2]
theorem eqv_wD (a b : Nat × List Nat) : PyData.eqv (wD a) (wD b) = decide (a = b) := by
  unfold wD
  have e : PyData.eqv (.tuple [.int (a.1 : Int), .list (a.2.map fun (n : Nat) => PyData.int (n : Int))]) (.tuple [.int (b.1 : Int), .list (b.2.map fun (n : Nat) => PyData.int (n : Int))]) = PyData.eqvAll [.int (a.1 : Int), .list (a.2.map fun (n : Nat) => PyData.int (n : Int))] [.int (b.1 : Int), .list (b.2.map fun (n : Nat) => PyData.int (n : Int))] := by rw [PyData.eqv]
  rw [e, eqv_all_cons, eqv_all_cons, eqv_int]
  have e2 : PyData.eqv (.list (a.2.map fun (n : Nat) => PyData.int (n : Int))) (.list (b.2.map fun (n : Nat) => PyData.int (n : Int))) = decide (a.2 = b.2) := by rw [PyData.eqv, eqv_ns]
  rw [e2, PyData.eqvAll]
  obtain ⟨a1, a2⟩ := a
  obtain ⟨b1, b2⟩ := b
  by_cases h1 : a1 = b1 <;> by_cases h2 : a2 = b2 <;> simp [h1, h2]
theorem lt_ns : ∀ a b : List Nat, PyProof.Rows.lexLt itemOrd (keyToksAll (a.map fun (n : Nat) => PyData.int (n : Int))) (keyToksAll (b.map fun (n : Nat) => PyData.int (n : Int))) = Md21.less a b
  | [], [] => by simp [keyToksAll, PyProof.Rows.lex_irrefl, Md21.less]
  | [], y :: b => by
    have := dataLt_list [] ((y :: b).map fun (n : Nat) => PyData.int (n : Int))
    rw [List.map_nil, ← this]
    rfl
  | x :: a, [] => by
    have := dataLt_list ((x :: a).map fun (n : Nat) => PyData.int (n : Int)) []
    rw [List.map_nil, ← this]
    rfl
  | x :: a, y :: b => by
    rw [List.map_cons, List.map_cons]
    have al : alike (.int (x : Int)) (.int (y : Int)) = true := by simp [alike]
    by_cases h : x = y
    · subst h
      rw [dataLt_all_yes al (by rw [eqv_int]; exact decide_eq_true rfl), lt_ns a b, less_cons]
      simp
    · rw [dataLt_all_no al (by rw [eqv_int]; exact decide_eq_false h), dataLt_int, less_cons]
      have h3 : (x == y) = false := beq_eq_false_iff_ne.mpr h
      rw [h3, Bool.false_and, Bool.or_false]
      exact decide_eq_decide.mpr (by omega)
theorem lt_wD (a b : Nat × List Nat) : dataLt (wD a) (wD b) = Md21.less (key a) (key b) := by
  unfold wD key
  rw [dataLt_tuple, less_cons]
  have al : alike (.int (a.1 : Int)) (.int (b.1 : Int)) = true := by simp [alike]
  have al2 : alike (.list (a.2.map fun (n : Nat) => PyData.int (n : Int))) (.list (b.2.map fun (n : Nat) => PyData.int (n : Int))) = true := by simp [alike, alike_ns]
  by_cases h : a.1 = b.1
  · rw [dataLt_all_yes al (by rw [eqv_int]; exact decide_eq_true h)]
    have h3 : (a.1 == b.1) = true := beq_iff_eq.mpr h
    have h4 : decide (a.1 < b.1) = false := decide_eq_false (by omega)
    rw [h3, h4, Bool.false_or, Bool.true_and]
    by_cases h2 : a.2 = b.2
    · rw [dataLt_all_yes al2 (by rw [PyData.eqv, eqv_ns]; exact decide_eq_true h2), h2, less_irrefl]
      exact PyProof.Rows.lex_irrefl ..
    · rw [dataLt_all_no al2 (by rw [PyData.eqv, eqv_ns]; exact decide_eq_false h2), dataLt_list, lt_ns]
  · rw [dataLt_all_no al (by rw [eqv_int]; exact decide_eq_false h), dataLt_int]
    have h3 : (a.1 == b.1) = false := beq_eq_false_iff_ne.mpr h
    rw [h3, Bool.false_and, Bool.or_false]
    exact decide_eq_decide.mpr (by omega)
theorem depth_ns : ∀ l : List Nat, PyData.depthAll (l.map fun (n : Nat) => PyData.int (n : Int)) = 0
  | [] => by simp [PyData.depthAll]
  | x :: l => by rw [List.map_cons, PyData.depthAll, depth_ns l]; simp [PyData.depth]
theorem depth_wD (m : Nat × List Nat) : (wD m).depth = 2 := by
  unfold wD
  simp [PyData.depth, PyData.depthAll, depth_ns]
theorem lay_ns : ∀ l : List Nat, PyData.canLayAll0 (l.map fun (n : Nat) => PyData.int (n : Int)) = true
  | [] => by simp [PyData.canLayAll0]
  | x :: l => by rw [List.map_cons, PyData.canLayAll0, lay_ns l]; simp [PyData.canLay0]
theorem shaped_wD (m : Nat × List Nat) : SeqAt.shaped (wD m) = true := by
  unfold SeqAt.shaped
  rw [depth_wD]
  unfold wD
  simp [PyData.canLay0, PyData.canLayAll0, lay_ns]
theorem depthAll_wD : ∀ l : List (Nat × List Nat), PyData.depthAll (l.map wD) ≤ 2
  | [] => by simp [PyData.depthAll]
  | x :: l => by
    rw [List.map_cons, PyData.depthAll, depth_wD]
    have := depthAll_wD l
    omega
theorem alikeAll_wD (l : List (Nat × List Nat)) : AlikeAll (l.map wD) := by
  refine ⟨fun x hx y hy => ?_, fun x hx => ?_⟩
  · obtain ⟨a, _, rfl⟩ := List.mem_map.mp hx
    obtain ⟨b, _, rfl⟩ := List.mem_map.mp hy
    exact alike_wD a b
  · obtain ⟨a, _, rfl⟩ := List.mem_map.mp hx
    intro z
    unfold wD at z
    cases z
theorem max_wD : ∀ (ws : List (Nat × List Nat)) (w : Nat × List Nat), maxD (wD w) (ws.map wD) = wD (top1 w ws)
  | [], _ => rfl
  | y :: ws, w => by
    have ih := max_wD ws (if Md21.less (key w) (key y) = true then y else w)
    show maxD (if dataLt (wD w) (wD y) = true then wD y else wD w) (ws.map wD) = wD (top1 (if Md21.less (key w) (key y) = true then y else w) ws)
    rw [← ih, lt_wD]
    split <;> rfl
theorem wD_inj {a b : Nat × List Nat} (h : wD a = wD b) : a = b := by
  have := eqv_wD a b
  rw [h] at this
  have e := eqv_wD b b
  rw [decide_eq_true rfl] at e
  rw [e] at this
  exact of_decide_eq_true this.symm
theorem dpAll_of {K : PySem.W.Frag} {H : Hp} : ∀ {ys : List V} {ds : List PyData}, ys.length = ds.length → (∀ (j : Nat) (y : V) (d : PyData), ys[j]? = some y → ds[j]? = some d → Dp K H y d) → DpAll K H ys ds
  | [], [], _, _ => .nil
  | [], _ :: _, h, _ => by simp at h
  | _ :: _, [], h, _ => by simp at h
  | y :: ys, d :: ds, h, f => .cons (f 0 y d rfl rfl) (dpAll_of (by simpa using h) fun j y' d' e1 e2 => f (j + 1) y' d' (by simpa using e1) (by simpa using e2))
end Bs
namespace Bs
open PySem PySem.Spec PyProof.Rows L2
/-! ### without -/
section
variable {P : Program} {w : World} {K : PySem.W.Frag} {mg : Str → Option Value} {base : Heap}
def sp_without (K : PySem.W.Frag) : Sp := fun vs H Q _ => ∃ (a b : Addr) (cs os : List Nat), vs = [.ref a, .ref b] ∧ SqL K H a (cs.map vN) ∧ SqL K H b (os.map vN) ∧ cs.length ≤ 100 ∧
  ∀ H' p, Same H H' → H p = none → H' p = some (.lst ((minus cs os).map vN)) → Q (.ref p) H'
theorem sc_without : FnScope ["cards", "others", "card"] ["cards", "others"] (defScope s_without) := ⟨rfl, rfl, rfl, by decide +kernel, rfl, by decide +kernel, by decide +kernel⟩
theorem ok_without {f : Addr} {fd : FuncData} {k : Nat} (F : Fun K "without" "without" s_without f fd) : FnOk P w K mg base CX0 (k + 1) f fd ["cards", "others"] (sp_without K) := by
  refine F.ok sc_without (fun vs H Q E h => ?_) (fun cdv A outer s H vs Q E hr h => ?_)
  · obtain ⟨a, b, cs, os, rfl, _⟩ := h; rfl
  · obtain ⟨a, b, cs, os, rfl, hA, hB, hl, q⟩ := h
    have nd := sc_without.nd
    refine ⟨_, pss_one (ps_ret (pe_lc (own := [("card", 2)]) (g := gName 2) rfl nd (pi_list (pv 0))
      (blkOk_by (N := ["cards", "others", "card"]) (sc := defScope s_without) (by decide +kernel))
      (fun _ _ _ _ _ => pg_name (i := 2) nd rfl (Or.inl rfl))
      (fun _ _ _ _ _ => pts_one (pt_cmpR (op_notInK (K := K) rfl) (pv 2) (pv 1) rfl))
      (fun _ _ _ _ _ => pv 2))), ?_⟩
    refine ⟨.ref a, rfl, a, rfl, ⟨_, hA⟩, fun D hD => lc_list (K := K) (a := a) (xs := cs.map vN)
      (fun i H' => Same H H' ∧ H' D = some (.lst (((cs.take i).filter fun c => !os.contains c).map vN)))
      ⟨same_upd hD, upd_same⟩ (fun i H' _ hI => hI.1.seq hA) ?_ ?_⟩
    · rintro i x H1 hi ⟨s1, hd⟩
      obtain ⟨c, hc, rfl⟩ := get_vN hi
      refine ⟨rfl, vN c, rfl, .ref b, rfl, b, _, rfl, .inl (s1.seq hB), rfl, flat_N os, _, rfl, ?_⟩
      rw [if_pos rfl, inV_N, take_more hc, List.filter_append, List.filter_cons]
      refine ite_of (fun e => ?_) (fun e => ?_)
      · refine ⟨vN c, rfl, _, hd, line' ?_, same_put s1 hD, ?_⟩
        · rw [List.length_map]
          refine Nat.lt_of_le_of_lt (List.length_filter_le ..) ?_
          rw [List.length_take]
          omega
        · rw [upd_same, if_pos e, List.map_append]
          rfl
      · refine ⟨s1, ?_⟩
        rw [if_neg (by rw [e]; exact Bool.false_ne_true), List.filter_nil, List.append_nil]
        exact hd
    · rintro H1 ⟨s1, hd⟩
      rw [List.length_map, take_all] at hd
      exact q H1 D s1 hD hd
end
end Bs
namespace Bs
open PySem PySem.Spec PyProof.Rows L2
/-! ### against_all -/
/-- all but the object at D is as it was -/
def But (D : Addr) (H H' : Hp) : Prop := ∀ b o, b ≠ D → H b = some o → H' b = some o
theorem But.of {D : Addr} {H H' : Hp} (s : Same H H') : But D H H' := fun b o _ e => s b o e
theorem But.go {D : Addr} {H H1 H2 : Hp} (a : But D H H1) (s : Same H1 H2) : But D H H2 := fun b o n e => s b o (a b o n e)
theorem But.put {D : Addr} {H H' : Hp} {o : HO} (a : But D H H') : But D H (upd H' D o) := fun b u n e => by rw [upd_ne n]; exact a b u n e
/-- the kinds that more's turn meets -/
def kindsOf (hand bd R more : List Nat) : List Nat := (Md21.choose 2 (minus R more)).map fun o => kind (worthOf (hand ++ (bd ++ more))) (worthOf (o ++ (bd ++ more)))
theorem kinds_flat (hand bd R : List Nat) : kinds hand bd R = (Md21.choose (5 - bd.length) R).flatMap (kindsOf hand bd R) := rfl
theorem nl_more (L : List Nat) (k : Nat) (hk : k < 3) : (nl 3 (cK L)).set k (V.int (((cK L k : Nat) : Int) + 1)) = nl 3 (cK (L ++ [k])) := by
  have e : V.int (((cK L k : Nat) : Int) + 1) = vN (cK L k + 1) := vN_add (cK L k) 1
  rw [e, nl_set]
  exact nl_congr fun r _ => (cK_more L k r).symm
section
variable {P : Program} {w : World} {K : PySem.W.Frag} {mg : Str → Option Value} {base : Heap}
def sp_againstall (K : PySem.W.Frag) : Sp := fun vs H Q _ => ∃ (a b c : Addr) (hand bd dead : List Nat), vs = [.ref a, .ref b, .ref c] ∧ SqL K H a (hand.map vN) ∧ SqL K H b (bd.map vN) ∧ SqL K H c (dead.map vN) ∧
  hand.length = 2 ∧ 3 ≤ bd.length ∧ bd.length ≤ 5 ∧ dead.length ≤ 30 ∧ Md21.cards ((hand ++ bd) ++ dead) = true ∧
  ∀ H' q, Same H H' → H' q = some (.lst (nl 3 (cK (kinds hand bd (Md21.rest ((hand ++ bd) ++ dead)))))) → Q (.ref q) H'
theorem sc_against_all : FnScope ["hand", "board", "out", "cards", "found", "more", "whole", "own", "other", "worth"] ["hand", "board", "out"] (defScope s_against_all) := ⟨rfl, rfl, rfl, by decide +kernel, rfl, by decide +kernel, by decide +kernel⟩
theorem ok_against_all {f f2 f3 f4 f5 : Addr} {fd fd2 fd3 fd4 fd5 : FuncData} {k : Nat} {t1 : Tok} (F : Fun K "against_all" "against_all" s_against_all f fd)
    (mA : mg "ALL" = some (.int 5 t1)) (ml : mg "len" = none)
    (F2 : Fun K "unseen" "unseen" s_unseen f2 fd2) (b2 : Binds K fd2 ["seen"] []) (g2 : mg "unseen" = some (.ref f2)) (G2 : FnOk P w K mg base CX0 k f2 fd2 ["seen"] (sp_unseen K))
    (F3 : Fun K "choices_of" "choices_of" s_choices_of f3 fd3) (b3 : Binds K fd3 ["cards", "many"] []) (g3 : mg "choices_of" = some (.ref f3)) (G3 : FnOk P w K mg base CX0 k f3 fd3 ["cards", "many"] (sp_choices K))
    (F4 : Fun K "worth_of" "worth_of" s_worth_of f4 fd4) (b4 : Binds K fd4 ["cards"] []) (g4 : mg "worth_of" = some (.ref f4)) (G4 : FnOk P w K mg base CX0 k f4 fd4 ["cards"] (sp_worth K))
    (F5 : Fun K "without" "without" s_without f5 fd5) (b5 : Binds K fd5 ["cards", "others"] []) (g5 : mg "without" = some (.ref f5)) (G5 : FnOk P w K mg base CX0 k f5 fd5 ["cards", "others"] (sp_without K)) :
    FnOk P w K mg base CX0 (k + 1) f fd ["hand", "board", "out"] (sp_againstall K) := by
  refine F.ok sc_against_all (fun vs H Q E h => ?_) (fun cdv A outer s H vs Q E hr h => ?_)
  · obtain ⟨a, b, c, hand, bd, dead, rfl, _⟩ := h; rfl
  · obtain ⟨a, b, c, hand, bd, dead, rfl, hA, hB, hC, h2, k3, k5, hd30, hcards, q⟩ := h
    have nd := sc_against_all.nd
    obtain ⟨h52, hnd⟩ := cards_iff.mp hcards
    refine ⟨_, pss_cons (ps_set (i := 3) nd rfl (.inl rfl) (pe_call G2 hr rfl g2 F2.kp b2 .nil pass0 (pa_cons (pe_op op_catS (pe_op op_catS (pv 0) (pv 1)) (pv 2)) pa_nil)))
      (pss_cons (ps_set (i := 4) nd rfl (.inl rfl) (pe_lst (pa_cons pe_int (pa_cons pe_int (pa_cons pe_int pa_nil)))))
      (pss_cons (ps_for PassesOwn.never rfl (pi_list (pe_call G3 hr rfl g3 F3.kp b3 .nil pass0 (pa_cons (pv 3) (pa_cons (pe_op op_sub (pe_glob (v := .int 5) rfl mA ⟨_, rfl⟩) (pe_callB call_len_seq rfl ml PySem.boot_len (pa_cons (pv 1) pa_nil))) pa_nil)))) (pg_name (i := 5) nd rfl (.inl rfl))
        (pss_cons (ps_set (i := 6) nd rfl (.inl rfl) (pe_op op_catS (pv 1) (pv 5)))
        (pss_cons (ps_set (i := 7) nd rfl (.inl rfl) (pe_call G4 hr rfl g4 F4.kp b4 .nil pass0 (pa_cons (pe_op op_catS (pv 0) (pv 6)) pa_nil)))
        (pss_one (ps_for PassesOwn.never rfl (pi_list (pe_call G3 hr rfl g3 F3.kp b3 .nil pass0 (pa_cons (pe_call G5 hr rfl g5 F5.kp b5 .nil pass0 (pa_cons (pv 3) (pa_cons (pv 5) pa_nil))) (pa_cons pe_int pa_nil)))) (pg_name (i := 8) nd rfl (.inl rfl))
          (pss_cons (ps_set (i := 9) nd rfl (.inl rfl) (pe_call G4 hr rfl g4 F4.kp b4 .nil pass0 (pa_cons (pe_op op_catS (pv 8) (pv 6)) pa_nil)))
          (pss_one (ps_if (pt_cmpR (op_gtD hr.units) (pv 7) (pv 9) (nomark _))
            (pss_one (ps_asg (pe_op op_add (pe_ix ix_list (pv 4) pe_int (fun _ _ => rfl)) pe_int) (pg_sub (pv 4) pe_int set_list)))
            (pss_one (ps_if (pt_cmpR (op_eqD hr.units) (pv 7) (pv 9) (nomark _))
              (pss_one (ps_asg (pe_op op_add (pe_ix ix_list (pv 4) pe_int (fun _ _ => rfl)) pe_int) (pg_sub (pv 4) pe_int set_list)))
              (pss_one (ps_asg (pe_op op_add (pe_ix ix_list (pv 4) pe_int (fun _ _ => rfl)) pe_int) (pg_sub (pv 4) pe_int set_list)))))))))))))
      (pss_one (ps_ret (pv 4))))), ?_⟩
    -- hand + board + out
    refine ⟨.ref a, rfl, .ref b, rfl, a, b, _, _, rfl, rfl, hA, hB, line (by rw [List.length_map, List.length_map]; omega), fun x nx => ?_⟩
    have sx := same_upd (o := .lst (hand.map vN ++ bd.map vN)) nx
    refine ⟨.ref c, rfl, x, c, _, _, rfl, rfl, sq upd_same, sx.seq hC, line (by rw [List.length_append, List.length_map, List.length_map, List.length_map]; omega), fun y ny => ?_⟩
    rw [← List.map_append, ← List.map_append]
    rw [← List.map_append] at sx ny
    have sy := same_upd (o := .lst (((hand ++ bd) ++ dead).map vN)) ny
    refine ⟨y, (hand ++ bd) ++ dead, rfl, sq upd_same, h52, fun H2 r s2 n2 hr2 => ?_⟩
    have sH2 := (sx.trans sy).trans s2
    generalize hR : Md21.rest ((hand ++ bd) ++ dead) = R at hr2 q
    have Rn : R.Nodup := by rw [← hR]; exact rest_nodup _
    have R52 : R.length ≤ 52 := by rw [← hR]; exact rest_le _
    -- found = [0, 0, 0]
    refine ⟨line (by show 3 ≤ 16000000; decide), fun Fd nF => ?_⟩
    have sF := same_upd (o := .lst [V.int 0, V.int 0, V.int 0]) nF
    have nFH : H Fd = none := sH2.free nF
    -- choices_of(cards, ALL - len(board))
    have e5 : ((5 : Int) - (((bd.map vN).length : Nat) : Int)) = ((5 - bd.length : Nat) : Int) := by rw [List.length_map]; omega
    refine ⟨.ref r, rfl, .ref b, rfl, b, _, rfl, .inl (sF.seq (sH2.seq hB)), 5, _, rfl, rfl, r, R, 5 - bd.length, (by show [V.ref r, V.int ((5 : Int) - (((bd.map vN).length : Nat) : Int))] = _; rw [e5]; rfl), sq (sF _ _ hr2), by omega, by omega, few_choices R52 (.inl k3), fun H3 B bs s3 n3 hB3 hR3 fr3 => ?_⟩
    have hF3 : H3 Fd = some (.lst [V.int 0, V.int 0, V.int 0]) := s3 _ _ upd_same
    have BF : B ≠ Fd := fun z => by rw [z, upd_same] at n3; cases n3
    have rF : r ≠ Fd := ne_of_none hr2 nF
    have bsF : ∀ o ∈ bs, o ≠ Fd := fun o ho z => by have := fr3 o ho; rw [z, upd_same] at this; cases this
    have s23 := sF.trans s3
    generalize hmo : Md21.choose (5 - bd.length) R = mores at hR3
    have mor : ∀ m ∈ mores, m.Sublist R ∧ m.length = 5 - bd.length := fun m hm => by rw [← hmo] at hm; exact mem_choose.mp hm
    rw [kinds_flat, hmo] at q
    refine ⟨B, rfl, ⟨_, sq hB3⟩, for_list (K := K) (a := B) (xs := bs.map V.ref)
      (fun i σ H' => ∃ v5 v6 v7 v8 v9, σ = [some (.ref a), some (.ref b), some (.ref c), some (.ref r), some (.ref Fd), v5, v6, v7, v8, v9] ∧ Same H2 H' ∧ But Fd H3 H' ∧ H' Fd = some (.lst (nl 3 (cK ((mores.take i).flatMap (kindsOf hand bd R))))))
      ⟨none, none, none, none, none, rfl, s23, But.of (Same.refl _), hF3⟩ (fun i σ H' _ hI => by obtain ⟨_, _, _, _, _, _, _, b4, _⟩ := hI; exact sq (b4 _ _ BF hB3)) ?_ ?_⟩
    · rintro i x' σ H4 hi ⟨v5, v6, v7, v8, v9, rfl, s4, b4', hF4⟩
      obtain ⟨mo, hmo1, rfl⟩ := get_map hi
      have il : i < mores.length := by rw [← hR3.1]; exact lt_of_get hmo1
      have em : mores[i]? = some mores[i] := List.getElem?_eq_getElem il
      obtain ⟨msub, mlen⟩ := mor _ (List.mem_of_getElem? em)
      have mn : mores[i].Nodup := Rn.sublist msub
      have hmo4 := b4' _ _ (bsF mo (List.mem_of_getElem? hmo1)) (hR3.2 i mo _ hmo1 em)
      have good1 : GoodH (bd ++ mores[i]) hand := good_of hnd h52 (List.Sublist.refl hand) mn (fun x hx => by rw [hR]; exact msub.subset hx) (by rw [mlen]; omega) (by rw [mlen]; omega)
      -- whole, own
      refine ⟨.ref b, rfl, .ref mo, rfl, b, mo, _, _, rfl, rfl, s4.seq (sH2.seq hB), sq hmo4, line (by rw [List.length_map, List.length_map, mlen]; omega), fun u nu => ?_⟩
      rw [← List.map_append]
      have su := same_upd (o := .lst ((bd ++ mores[i]).map vN)) nu
      have uF : u ≠ Fd := (ne_of_none hF4 nu).symm
      refine ⟨.ref a, rfl, .ref u, rfl, a, u, _, _, rfl, rfl, su.seq (s4.seq (sH2.seq hA)), sq upd_same, line (by rw [List.length_map, List.length_map, List.length_append, mlen]; omega), fun v nv => ?_⟩
      rw [← List.map_append]
      have sv := same_upd (o := .lst ((hand ++ (bd ++ mores[i])).map vN)) nv
      have l7 := good1.2.2.2
      refine ⟨v, hand ++ (bd ++ mores[i]), rfl, sq upd_same, good1.2.1, good1.1, by omega, fun H5 po s5 wn => ?_⟩
      obtain ⟨po0, qo, qo0, po3, qo3⟩ := wn
      have s45 := (su.trans sv).trans s5
      have poF : po ≠ Fd := fun z => by rw [z, sv _ _ (su _ _ hF4)] at po0; cases po0
      have qoF : qo ≠ Fd := fun z => by rw [z, sv _ _ (su _ _ hF4)] at qo0; cases qo0
      -- without(cards, more), choices
      have rr5 : H5 r = some (.lst (R.map vN)) := s45 _ _ (s4 _ _ hr2)
      refine ⟨.ref r, rfl, .ref mo, rfl, r, mo, R, mores[i], rfl, sq rr5, sq (s45 _ _ hmo4), by omega, fun H6 wo s6 nwo hwo => ?_⟩
      have ml52 : (minus R mores[i]).length ≤ 52 := Nat.le_trans (minus_le _ _) R52
      refine ⟨wo, minus R mores[i], 2, rfl, sq hwo, by omega, by omega, few_choices (b := 3) ml52 (.inl (Nat.le_refl _)), fun H7 B2 os s7 n7 hB7 hR7 fr7 => ?_⟩
      have s47 := (s45.trans s6).trans s7
      have hF6 : H6 Fd = some _ := s6 _ _ (s45 _ _ hF4)
      have hF7 : H7 Fd = some _ := s7 _ _ hF6
      have B2F : B2 ≠ Fd := fun z => by rw [z, hF6] at n7; cases n7
      have osF : ∀ o ∈ os, o ≠ Fd := fun o ho z => by have := fr7 o ho; rw [z, hF6] at this; cases this
      have hu7 : H7 u = some (.lst ((bd ++ mores[i]).map vN)) := s7 _ _ (s6 _ _ (s5 _ _ (sv _ _ upd_same)))
      have hpo7 := s7 _ _ (s6 _ _ po3)
      have hqo7 := s7 _ _ (s6 _ _ qo3)
      refine ⟨B2, rfl, ⟨_, sq hB7⟩, for_list (K := K) (a := B2) (xs := os.map V.ref)
        (fun j σ H' => ∃ v8 v9, σ = [some (.ref a), some (.ref b), some (.ref c), some (.ref r), some (.ref Fd), some (.ref mo), some (.ref u), some (.ref po), v8, v9] ∧ Same H2 H' ∧ But Fd H7 H' ∧ But Fd H3 H' ∧
          H' Fd = some (.lst (nl 3 (cK ((mores.take i).flatMap (kindsOf hand bd R) ++ (kindsOf hand bd R mores[i]).take j)))))
        ⟨_, _, rfl, s4.trans s47, But.of (Same.refl _), b4'.go s47, by rw [List.take_zero, List.append_nil]; exact hF7⟩ (fun j σ H' _ hI => by obtain ⟨_, _, _, _, b7, _⟩ := hI; exact sq (b7 _ _ B2F hB7)) ?_ ?_⟩
      · rintro j x'' σ H8 hj ⟨v8, v9, rfl, s8, b8, b83, hF8⟩
        obtain ⟨ot, hot, rfl⟩ := get_map hj
        have jl : j < (Md21.choose 2 (minus R mores[i])).length := by rw [← hR7.1]; exact lt_of_get hot
        obtain ⟨o, eo⟩ : ∃ o, (Md21.choose 2 (minus R mores[i]))[j]? = some o := ⟨_, List.getElem?_eq_getElem jl⟩
        obtain ⟨osub, olen⟩ := mem_choose.mp (List.mem_of_getElem? eo)
        have hot8 := b8 _ _ (osF ot (List.mem_of_getElem? hot)) (hR7.2 j ot _ hot eo)
        have hu8 := b8 _ _ uF hu7
        have mR : ∀ c ∈ o, c ∈ R ∧ c ∉ mores[i] := fun c hc => mem_minus.mp (osub.subset hc)
        have good2 : GoodH (bd ++ mores[i]) o := good_other hnd h52 ((Rn.filter _).sublist osub) mn (fun x hx => by rw [hR]; exact (mR x hx).1) (fun x hx => by rw [hR]; exact msub.subset hx) (fun x hx => (mR x hx).2) (by rw [olen, mlen]; omega) (by rw [olen, mlen]; omega)
        have l7' := good2.2.2.2
        -- worth_of(other + whole)
        refine ⟨.ref ot, rfl, .ref u, rfl, ot, u, _, _, rfl, rfl, sq hot8, sq hu8, line (by rw [List.length_map, List.length_map, List.length_append, mlen, olen]; omega), fun z nz => ?_⟩
        rw [← List.map_append]
        have sz := same_upd (o := .lst ((o ++ (bd ++ mores[i])).map vN)) nz
        refine ⟨z, o ++ (bd ++ mores[i]), rfl, sq upd_same, good2.2.1, good2.1, by omega, fun H9 pw s9 wn => ?_⟩
        obtain ⟨_, qw, _, pw3, qw3⟩ := wn
        have s89 := sz.trans s9
        have hF9 := s89 _ _ hF8
        have hpo9 := s89 _ _ (b8 _ _ poF hpo7)
        have hqo9 := s89 _ _ (b8 _ _ qoF hqo7)
        have d1 : Dp K H9 (.ref po) (wD (worthOf (hand ++ (bd ++ mores[i])))) := wD_dp hpo9 hqo9
        have d2 : Dp K H9 (.ref pw) (wD (worthOf (o ++ (bd ++ mores[i])))) := wD_dp pw3 qw3
        have ek : (kindsOf hand bd R mores[i])[j]? = some (kind (worthOf (hand ++ (bd ++ mores[i]))) (worthOf (o ++ (bd ++ mores[i])))) := by
          unfold kindsOf
          rw [List.getElem?_map, eo]
          rfl
        -- one more of the kind k
        have fin : ∀ kk, kk < 3 → kind (worthOf (hand ++ (bd ++ mores[i]))) (worthOf (o ++ (bd ++ mores[i]))) = kk →
            ∃ v8 v9, ([some (.ref a), some (.ref b), some (.ref c), some (.ref r), some (.ref Fd), some (.ref mo), some (.ref u), some (.ref po), some (.ref ot), some (.ref pw)] : L2.St) = [some (.ref a), some (.ref b), some (.ref c), some (.ref r), some (.ref Fd), some (.ref mo), some (.ref u), some (.ref po), v8, v9] ∧
              Same H2 (upd H9 Fd (.lst ((nl 3 (cK ((mores.take i).flatMap (kindsOf hand bd R) ++ (kindsOf hand bd R mores[i]).take j))).set kk (V.int (((cK ((mores.take i).flatMap (kindsOf hand bd R) ++ (kindsOf hand bd R mores[i]).take j) kk : Nat) : Int) + 1))))) ∧
              But Fd H7 (upd H9 Fd (.lst ((nl 3 (cK ((mores.take i).flatMap (kindsOf hand bd R) ++ (kindsOf hand bd R mores[i]).take j))).set kk (V.int (((cK ((mores.take i).flatMap (kindsOf hand bd R) ++ (kindsOf hand bd R mores[i]).take j) kk : Nat) : Int) + 1))))) ∧
              But Fd H3 (upd H9 Fd (.lst ((nl 3 (cK ((mores.take i).flatMap (kindsOf hand bd R) ++ (kindsOf hand bd R mores[i]).take j))).set kk (V.int (((cK ((mores.take i).flatMap (kindsOf hand bd R) ++ (kindsOf hand bd R mores[i]).take j) kk : Nat) : Int) + 1))))) ∧
              (upd H9 Fd (.lst ((nl 3 (cK ((mores.take i).flatMap (kindsOf hand bd R) ++ (kindsOf hand bd R mores[i]).take j))).set kk (V.int (((cK ((mores.take i).flatMap (kindsOf hand bd R) ++ (kindsOf hand bd R mores[i]).take j) kk : Nat) : Int) + 1))))) Fd =
                some (.lst (nl 3 (cK ((mores.take i).flatMap (kindsOf hand bd R) ++ (kindsOf hand bd R mores[i]).take (j + 1))))) := fun kk hk e => by
          refine ⟨_, _, rfl, same_put (s8.trans s89) nF, (b8.go s89).put, (b83.go s89).put, ?_⟩
          rw [upd_same, nl_more _ kk hk, take_more ek, e, List.append_assoc]
        refine ⟨.ref po, rfl, .ref pw, rfl, wD (worthOf (hand ++ (bd ++ mores[i]))), wD (worthOf (o ++ (bd ++ mores[i]))), d1, d2, alike_wD _ _, (fun z => by unfold wD at z; cases z), by rw [depth_wD]; decide, _, rfl, ?_⟩
        rw [lt_wD]
        refine ite_of (fun e => ?_) (fun e => ?_)
        · refine ⟨.ref Fd, rfl, Fd, _, _, _, rfl, rfl, sq hF9, atI_nat (j := 0) (nl_get (by decide)), _, _, rfl, rfl, .ref Fd, rfl, Fd, _, _, 0, rfl, rfl, hF9, ixN_nat (j := 0) (by rw [nl_len]; decide), ?_⟩
          exact fin 0 (by decide) ((kind_iff _ _).1.mpr e)
        · refine ⟨.ref po, rfl, .ref pw, rfl, wD (worthOf (hand ++ (bd ++ mores[i]))), wD (worthOf (o ++ (bd ++ mores[i]))), d1, d2, shaped_wD _, shaped_wD _, _, rfl, ?_⟩
          rw [eqv_wD]
          refine ite_of (fun e2 => ?_) (fun e2 => ?_)
          · refine ⟨.ref Fd, rfl, Fd, _, _, _, rfl, rfl, sq hF9, atI_nat (j := 1) (nl_get (by decide)), _, _, rfl, rfl, .ref Fd, rfl, Fd, _, _, 1, rfl, rfl, hF9, ixN_nat (j := 1) (by rw [nl_len]; decide), ?_⟩
            exact fin 1 (by decide) ((kind_iff _ _).2.1.mpr (congrArg key (of_decide_eq_true e2)))
          · refine ⟨.ref Fd, rfl, Fd, _, _, _, rfl, rfl, sq hF9, atI_nat (j := 2) (nl_get (by decide)), _, _, rfl, rfl, .ref Fd, rfl, Fd, _, _, 2, rfl, rfl, hF9, ixN_nat (j := 2) (by rw [nl_len]; decide), ?_⟩
            refine fin 2 (by decide) ((kind_iff _ _).2.2.mpr ?_)
            cases e3 : Md21.less (key (worthOf (hand ++ (bd ++ mores[i])))) (key (worthOf (o ++ (bd ++ mores[i])))) with
            | true => rfl
            | false => exact absurd (key_inj (less_total _ _ e3 e)) (of_decide_eq_false e2)
      · rintro σ H8 ⟨v8, v9, rfl, s8, b8, b83, hF8⟩
        have el : ((os.map V.ref).length) = (kindsOf hand bd R mores[i]).length := by
          unfold kindsOf
          rw [List.length_map, List.length_map, hR7.1]
        rw [el, take_all] at hF8
        refine ⟨_, _, _, _, _, rfl, s8, b83, ?_⟩
        rw [flat_take em]
        exact hF8
    · rintro σ H4 ⟨v5, v6, v7, v8, v9, rfl, s4, b4', hF4⟩
      rw [List.length_map, hR3.1, take_all] at hF4
      exact ⟨.ref Fd, rfl, q H4 Fd (sH2.trans s4) hF4⟩
end
end Bs
namespace Bs
open PySem PySem.Spec PyProof.Rows L2
/-! ### against -/
theorem f_against (k d : Int) (hs bd dead : List Nat) : PyMd21.against k d (hs.map fun (n : Nat) => (n : Int)) (bd.map fun (n : Nat) => (n : Int)) (dead.map fun (n : Nat) => (n : Int)) =
    (Md21.answer (.against hs k bd d dead)).value :: Md21Neutral.ints (Md21.answer (.against hs k bd d dead)).nums := by
  show Md21Neutral.f [[4, k, d], hs.map fun (n : Nat) => (n : Int), bd.map fun (n : Nat) => (n : Int), dead.map fun (n : Nat) => (n : Int)] = _
  unfold Md21Neutral.f
  show (match some (Md21.Call.against (Md21Neutral.nats (hs.map fun (n : Nat) => (n : Int))) k (Md21Neutral.nats (bd.map fun (n : Nat) => (n : Int))) d (Md21Neutral.nats (dead.map fun (n : Nat) => (n : Int)))) with
    | some q => (Md21.answer q).value :: Md21Neutral.ints (Md21.answer q).nums
    | none => []) = _
  rw [nats_ints, nats_ints, nats_ints]
theorem inV_345 (k : Int) : inV (.int k) [.int 3, .int 4, .int 5] = decide (k = 3 ∨ k = 4 ∨ k = 5) := by
  have e : inV (.int k) [.int 3, .int 4, .int 5] = (((3 : Int) == k) || (((4 : Int) == k) || (((5 : Int) == k) || false))) := rfl
  rw [e, Bool.or_false, Bool.eq_iff_iff]
  simp only [Bool.or_eq_true, beq_iff_eq, decide_eq_true_eq]
  omega
section
variable {P : Program} {w : World} {K : PySem.W.Frag} {mg : Str → Option Value} {base : Heap}
def sp_s04 (K : PySem.W.Frag) : Sp := fun vs H Q _ => ∃ (k d : Int) (a b c : Addr) (hs bd dead : List Nat), vs = [.int k, .int d, .ref a, .ref b, .ref c] ∧ SqL K H a (hs.map vN) ∧ SqL K H b (bd.map vN) ∧ SqL K H c (dead.map vN) ∧
  hs.length ≤ 12 ∧ bd.length ≤ 5 ∧ dead.length ≤ 30 ∧ ((k = 3 ∨ k = 4 ∨ k = 5) → 0 ≤ d → d ≤ 30 → hs.length = 2 ∧ (bd.length : Int) = k) ∧
  ∀ H' q, H' q = some (.lst ((PyMd21.against k d (hs.map fun (n : Nat) => (n : Int)) (bd.map fun (n : Nat) => (n : Int)) (dead.map fun (n : Nat) => (n : Int))).map V.int)) → Q (.ref q) H'
theorem sc_against : FnScope ["k", "d", "hand", "board", "out"] ["k", "d", "hand", "board", "out"] (defScope s_against) := ⟨rfl, rfl, rfl, by decide +kernel, rfl, by decide +kernel, by decide +kernel⟩
theorem ok_against {f f1 f2 f3 : Addr} {fd fd1 fd2 fd3 : FuncData} {k : Nat} {t t2 : Tok} (F : Fun K "against" "against" s_against f fd) (mR : mg "REFUSED" = some (.int (-1) t)) (mM : mg "MOST_OUT" = some (.int 30 t2))
    (F1 : Fun K "is_between" "is_between" s_is_between f1 fd1) (b1 : Binds K fd1 ["number", "low", "high"] []) (g1 : mg "is_between" = some (.ref f1)) (G1 : FnOk P w K mg base CX0 k f1 fd1 ["number", "low", "high"] sp_between)
    (F2 : Fun K "are_cards" "are_cards" s_are_cards f2 fd2) (b2 : Binds K fd2 ["row"] []) (g2 : mg "are_cards" = some (.ref f2)) (G2 : FnOk P w K mg base CX0 k f2 fd2 ["row"] (sp_cards K))
    (F3 : Fun K "against_all" "against_all" s_against_all f3 fd3) (b3 : Binds K fd3 ["hand", "board", "out"] []) (g3 : mg "against_all" = some (.ref f3)) (G3 : FnOk P w K mg base CX0 k f3 fd3 ["hand", "board", "out"] (sp_againstall K)) :
    FnOk P w K mg base CX0 (k + 1) f fd ["k", "d", "hand", "board", "out"] (sp_s04 K) := by
  refine F.ok sc_against (fun vs H Q E h => ?_) (fun cdv A outer s H vs Q E hr h => ?_)
  · obtain ⟨k, d, a, b, c, hs, bd, dead, rfl, _⟩ := h; rfl
  · obtain ⟨k, d, a, b, c, hs, bd, dead, rfl, hA, hB, hC, l12, l5, l30, hlen, q⟩ := h
    have nd := sc_against.nd
    rw [f_against] at q
    refine ⟨_, pss_cons (ps_if (PW.pt (pw_or (pt_cmpR op_notIn_seq (pv 0) (pe_tup (pa_cons pe_int (pa_cons pe_int (pa_cons pe_int pa_nil)))) rfl)
          (pw_or (pt_not (pt_val (pe_call G1 hr rfl g1 F1.kp b1 .nil pass0 (pa_cons (pv 1) (pa_cons pe_int (pa_cons (pe_glob (v := .int 30) rfl mM ⟨_, rfl⟩) pa_nil))))))
          (pw_or1 (pt_not (pt_val (pe_call G2 hr rfl g2 F2.kp b2 .nil pass0 (pa_cons (pe_op op_catS (pe_op op_catS (pv 2) (pv 3)) (pv 4)) pa_nil))))))))
        (pss_one (ps_ret (pe_lst (pa_cons (pe_glob (v := .int (-1)) rfl mR ⟨_, rfl⟩) pa_nil)))) pss_nil)
      (pss_one (ps_ret (pe_op op_catS (pe_lst (pa_cons pe_int pa_nil)) (pe_call G3 hr rfl g3 F3.kp b3 .nil pass0 (pa_cons (pv 2) (pa_cons (pv 3) (pa_cons (pv 4) pa_nil))))))), ?_⟩
    have ref : ((k ≠ 3 ∧ k ≠ 4 ∧ k ≠ 5) ∨ Md21.between d 0 Md21.DEAD = false ∨ Md21.cards (hs ++ (bd ++ dead)) = false) →
        ∀ H1 : Hp, ([V.int (-1)] : List V).length ≤ sizeLine ∧ ∀ r, H1 r = none → Q (.ref r) (upd H1 r (.lst [V.int (-1)])) := fun z H1 => by
      have e : Md21.answer (.against hs k bd d dead) = Md21.only (-1) := if_pos z
      rw [e] at q
      exact ⟨line (by show 1 ≤ 16000000; decide), fun r nr => q _ r (by rw [upd_same]; rfl)⟩
    refine ⟨.int k, rfl, line (by show 3 ≤ 16000000; decide), fun T nT => ?_⟩
    have sT := same_upd (o := .tup [.int 3, .int 4, .int 5]) nT
    refine ⟨T, _, rfl, .inr (sqT upd_same), rfl, rfl, _, rfl, ?_⟩
    rw [if_pos rfl, inV_345]
    refine ite_of (fun e => iteT ?_) (fun e => ?_)
    · have e' := of_decide_eq_false (of_not e)
      exact ref (.inl ⟨fun z => e' (.inl z), fun z => e' (.inr (.inl z)), fun z => e' (.inr (.inr z))⟩) _
    have eK : k = 3 ∨ k = 4 ∨ k = 5 := by
      cases z : decide (k = 3 ∨ k = 4 ∨ k = 5) with
      | true => exact of_decide_eq_true z
      | false => rw [z] at e; cases e
    refine ⟨.int d, rfl, d, 0, 30, rfl, _, rfl, ite_of (fun e => iteT (ref (.inr (.inl (of_not e))) _)) (fun e => ?_)⟩
    have eP : (decide (0 ≤ d) && decide (d ≤ 30)) = true := by
      cases z : (decide (0 ≤ d) && decide (d ≤ 30)) with
      | true => rfl
      | false => rw [z] at e; cases e
    simp only [Bool.and_eq_true, decide_eq_true_eq] at eP
    obtain ⟨d0, d30⟩ := eP
    obtain ⟨lh, lb⟩ := hlen eK d0 d30
    -- are_cards(hand + board + out)
    refine ⟨.ref a, rfl, .ref b, rfl, a, b, _, _, rfl, rfl, sT.seq hA, sT.seq hB, line (by rw [List.length_map, List.length_map]; omega), fun x nx => ?_⟩
    have sx := same_upd (o := .lst (hs.map vN ++ bd.map vN)) nx
    refine ⟨.ref c, rfl, x, c, _, _, rfl, rfl, sq upd_same, sx.seq (sT.seq hC), line (by rw [List.length_append, List.length_map, List.length_map, List.length_map]; omega), fun y ny => ?_⟩
    rw [← List.map_append, ← List.map_append]
    rw [← List.map_append] at sx ny
    have sy := same_upd (o := .lst (((hs ++ bd) ++ dead).map vN)) ny
    have sTy := (sT.trans sx).trans sy
    refine ⟨y, (hs ++ bd) ++ dead, rfl, sq upd_same, by have := cat47 l12 l5 l30; omega, _, rfl, ite_of (fun e => ?_) (fun e => ?_)⟩
    · refine ref (.inr (.inr ?_)) _
      rw [← List.append_assoc]
      exact of_not e
    have eC : Md21.cards ((hs ++ bd) ++ dead) = true := by
      cases z : Md21.cards ((hs ++ bd) ++ dead) with
      | true => rfl
      | false => rw [z] at e; cases e
    obtain ⟨h52, hnd⟩ := cards_iff.mp eC
    refine ⟨line (by show 1 ≤ 16000000; decide), fun u nu => ?_⟩
    have su := same_upd (o := .lst [V.int 0]) nu
    have sTu := sTy.trans su
    refine ⟨.ref a, rfl, .ref b, rfl, .ref c, rfl, a, b, c, hs, bd, dead, rfl, sTu.seq hA, sTu.seq hB, sTu.seq hC, lh, by omega, l5, l30, eC, fun H2 r s2 hr2 => ?_⟩
    refine ⟨u, r, _, _, rfl, rfl, sq (s2 _ _ upd_same), sq hr2, line (by rw [nl_len]; show 1 + 3 ≤ 16000000; decide), fun v nv => q _ v ?_⟩
    have e : Md21.answer (.against hs k bd d dead) = ⟨0, [(Md21.against hs bd dead).1, (Md21.against hs bd dead).2.1, (Md21.against hs bd dead).2.2]⟩ := if_neg (by
      rintro (z | z | z)
      · omega
      · rw [btw, Bool.and_eq_false_iff, decide_eq_false_iff_not, decide_eq_false_iff_not] at z
        simp only [Md21.DEAD] at z
        omega
      · rw [← List.append_assoc, eC] at z; cases z)
    rw [upd_same, e, against_is hnd h52 lh (by omega) l5]
    rfl
end
end Bs
namespace Bs
open PySem PySem.Spec PyProof.Rows L2
open PySem.W (Codec)
theorem all_mk {P : Program} {w : World} {K : PySem.W.Frag} {h : Heap} {mg : Str → Option Value} {fa f1 f2 f3 f4 f5 f6 f7 f8 f9 f10 f11 f12 f13 f14 f15 f16 f17 f18 : Addr}
    (X : K.In h) (G : h.Ns mainGlobals mg) (hfa : mg "against" = some (.ref fa))
    {od1 an1 od2 an2 od3 an3 od4 an4 od5 an5 od6 an6 od7 an7 od8 an8 od9 an9 od10 an10 od11 an11 od12 an12 od13 an13 od14 an14 od15 an15 od16 an16 od17 an17 od18 an18 : Option Addr} {sl1 sl2 sl3 sl4 sl5 sl6 sl7 sl8 sl9 sl10 sl11 sl12 sl13 sl14 sl15 sl16 sl17 sl18 : Array (Option Value)}
    {oc1 kV1 dc1 pm1 cd1 ct1 oc2 kV2 dc2 pm2 cd2 ct2 oc3 kV3 dc3 pm3 cd3 ct3 oc4 kV4 dc4 pm4 cd4 ct4 oc5 kV5 dc5 pm5 cd5 ct5 oc6 kV6 dc6 pm6 cd6 ct6 oc7 kV7 dc7 pm7 cd7 ct7 oc8 kV8 dc8 pm8 cd8 ct8 oc9 kV9 dc9 pm9 cd9 ct9 oc10 kV10 dc10 pm10 cd10 ct10 oc11 kV11 dc11 pm11 cd11 ct11 oc12 kV12 dc12 pm12 cd12 ct12 oc13 kV13 dc13 pm13 cd13 ct13 oc14 kV14 dc14 pm14 cd14 ct14 oc15 kV15 dc15 pm15 cd15 ct15 oc16 kV16 dc16 pm16 cd16 ct16 oc17 kV17 dc17 pm17 cd17 ct17 oc18 kV18 dc18 pm18 cd18 ct18 : Value} {t_CARDS t_SUITS t_RANKS t_STRAIGHT_FLUSH t_FOUR t_FULL t_FLUSH t_STRAIGHT t_THREE t_TWO_PAIRS t_PAIR t_NONE t_ACE t_NUMBERS t_ALL t_REFUSED t_MOST_OUT : Tok}
    (a1 : PySem.W.nsIn K mainGlobals "rank_of" = some (some (.ref f1)))
    (l1 : K.lookup f1 = some ⟨oc1, od1, .func (PySem.W.fnOf "rank_of" "rank_of" (defArgs s_rank_of) (defBody s_rank_of) (defScope s_rank_of) .none kV1 dc1 pm1 an1 cd1 ct1), sl1⟩)
    (c1 : PySem.W.codeIn K cd1 "rank_of" = true) (k1 : PySem.W.keepIn K (.ref f1) = true)
    (a2 : PySem.W.nsIn K mainGlobals "suit_of" = some (some (.ref f2)))
    (l2 : K.lookup f2 = some ⟨oc2, od2, .func (PySem.W.fnOf "suit_of" "suit_of" (defArgs s_suit_of) (defBody s_suit_of) (defScope s_suit_of) .none kV2 dc2 pm2 an2 cd2 ct2), sl2⟩)
    (c2 : PySem.W.codeIn K cd2 "suit_of" = true) (k2 : PySem.W.keepIn K (.ref f2) = true)
    (a3 : PySem.W.nsIn K mainGlobals "are_cards" = some (some (.ref f3)))
    (l3 : K.lookup f3 = some ⟨oc3, od3, .func (PySem.W.fnOf "are_cards" "are_cards" (defArgs s_are_cards) (defBody s_are_cards) (defScope s_are_cards) .none kV3 dc3 pm3 an3 cd3 ct3), sl3⟩)
    (c3 : PySem.W.codeIn K cd3 "are_cards" = true) (k3 : PySem.W.keepIn K (.ref f3) = true)
    (a4 : PySem.W.nsIn K mainGlobals "unseen" = some (some (.ref f4)))
    (l4 : K.lookup f4 = some ⟨oc4, od4, .func (PySem.W.fnOf "unseen" "unseen" (defArgs s_unseen) (defBody s_unseen) (defScope s_unseen) .none kV4 dc4 pm4 an4 cd4 ct4), sl4⟩)
    (c4 : PySem.W.codeIn K cd4 "unseen" = true) (k4 : PySem.W.keepIn K (.ref f4) = true)
    (a5 : PySem.W.nsIn K mainGlobals "choices_of" = some (some (.ref f5)))
    (l5 : K.lookup f5 = some ⟨oc5, od5, .func (PySem.W.fnOf "choices_of" "choices_of" (defArgs s_choices_of) (defBody s_choices_of) (defScope s_choices_of) .none kV5 dc5 pm5 an5 cd5 ct5), sl5⟩)
    (c5 : PySem.W.codeIn K cd5 "choices_of" = true) (k5 : PySem.W.keepIn K (.ref f5) = true)
    (a6 : PySem.W.nsIn K mainGlobals "without" = some (some (.ref f6)))
    (l6 : K.lookup f6 = some ⟨oc6, od6, .func (PySem.W.fnOf "without" "without" (defArgs s_without) (defBody s_without) (defScope s_without) .none kV6 dc6 pm6 an6 cd6 ct6), sl6⟩)
    (c6 : PySem.W.codeIn K cd6 "without" = true) (k6 : PySem.W.keepIn K (.ref f6) = true)
    (a7 : PySem.W.nsIn K mainGlobals "counts_of" = some (some (.ref f7)))
    (l7 : K.lookup f7 = some ⟨oc7, od7, .func (PySem.W.fnOf "counts_of" "counts_of" (defArgs s_counts_of) (defBody s_counts_of) (defScope s_counts_of) .none kV7 dc7 pm7 an7 cd7 ct7), sl7⟩)
    (c7 : PySem.W.codeIn K cd7 "counts_of" = true) (k7 : PySem.W.keepIn K (.ref f7) = true)
    (a8 : PySem.W.nsIn K mainGlobals "highest_row" = some (some (.ref f8)))
    (l8 : K.lookup f8 = some ⟨oc8, od8, .func (PySem.W.fnOf "highest_row" "highest_row" (defArgs s_highest_row) (defBody s_highest_row) (defScope s_highest_row) .none kV8 dc8 pm8 an8 cd8 ct8), sl8⟩)
    (c8 : PySem.W.codeIn K cd8 "highest_row" = true) (k8 : PySem.W.keepIn K (.ref f8) = true)
    (a9 : PySem.W.nsIn K mainGlobals "flush_ranks" = some (some (.ref f9)))
    (l9 : K.lookup f9 = some ⟨oc9, od9, .func (PySem.W.fnOf "flush_ranks" "flush_ranks" (defArgs s_flush_ranks) (defBody s_flush_ranks) (defScope s_flush_ranks) .none kV9 dc9 pm9 an9 cd9 ct9), sl9⟩)
    (c9 : PySem.W.codeIn K cd9 "flush_ranks" = true) (k9 : PySem.W.keepIn K (.ref f9) = true)
    (a10 : PySem.W.nsIn K mainGlobals "there_of" = some (some (.ref f10)))
    (l10 : K.lookup f10 = some ⟨oc10, od10, .func (PySem.W.fnOf "there_of" "there_of" (defArgs s_there_of) (defBody s_there_of) (defScope s_there_of) .none kV10 dc10 pm10 an10 cd10 ct10), sl10⟩)
    (c10 : PySem.W.codeIn K cd10 "there_of" = true) (k10 : PySem.W.keepIn K (.ref f10) = true)
    (a11 : PySem.W.nsIn K mainGlobals "ranks_with" = some (some (.ref f11)))
    (l11 : K.lookup f11 = some ⟨oc11, od11, .func (PySem.W.fnOf "ranks_with" "ranks_with" (defArgs s_ranks_with) (defBody s_ranks_with) (defScope s_ranks_with) .none kV11 dc11 pm11 an11 cd11 ct11), sl11⟩)
    (c11 : PySem.W.codeIn K cd11 "ranks_with" = true) (k11 : PySem.W.keepIn K (.ref f11) = true)
    (a12 : PySem.W.nsIn K mainGlobals "others_of" = some (some (.ref f12)))
    (l12 : K.lookup f12 = some ⟨oc12, od12, .func (PySem.W.fnOf "others_of" "others_of" (defArgs s_others_of) (defBody s_others_of) (defScope s_others_of) .none kV12 dc12 pm12 an12 cd12 ct12), sl12⟩)
    (c12 : PySem.W.codeIn K cd12 "others_of" = true) (k12 : PySem.W.keepIn K (.ref f12) = true)
    (a13 : PySem.W.nsIn K mainGlobals "of_like_ranks" = some (some (.ref f13)))
    (l13 : K.lookup f13 = some ⟨oc13, od13, .func (PySem.W.fnOf "of_like_ranks" "of_like_ranks" (defArgs s_of_like_ranks) (defBody s_of_like_ranks) (defScope s_of_like_ranks) .none kV13 dc13 pm13 an13 cd13 ct13), sl13⟩)
    (c13 : PySem.W.codeIn K cd13 "of_like_ranks" = true) (k13 : PySem.W.keepIn K (.ref f13) = true)
    (a14 : PySem.W.nsIn K mainGlobals "of_many_alike" = some (some (.ref f14)))
    (l14 : K.lookup f14 = some ⟨oc14, od14, .func (PySem.W.fnOf "of_many_alike" "of_many_alike" (defArgs s_of_many_alike) (defBody s_of_many_alike) (defScope s_of_many_alike) .none kV14 dc14 pm14 an14 cd14 ct14), sl14⟩)
    (c14 : PySem.W.codeIn K cd14 "of_many_alike" = true) (k14 : PySem.W.keepIn K (.ref f14) = true)
    (a15 : PySem.W.nsIn K mainGlobals "worth_of" = some (some (.ref f15)))
    (l15 : K.lookup f15 = some ⟨oc15, od15, .func (PySem.W.fnOf "worth_of" "worth_of" (defArgs s_worth_of) (defBody s_worth_of) (defScope s_worth_of) .none kV15 dc15 pm15 an15 cd15 ct15), sl15⟩)
    (c15 : PySem.W.codeIn K cd15 "worth_of" = true) (k15 : PySem.W.keepIn K (.ref f15) = true)
    (a16 : PySem.W.nsIn K mainGlobals "against_all" = some (some (.ref f16)))
    (l16 : K.lookup f16 = some ⟨oc16, od16, .func (PySem.W.fnOf "against_all" "against_all" (defArgs s_against_all) (defBody s_against_all) (defScope s_against_all) .none kV16 dc16 pm16 an16 cd16 ct16), sl16⟩)
    (c16 : PySem.W.codeIn K cd16 "against_all" = true) (k16 : PySem.W.keepIn K (.ref f16) = true)
    (a17 : PySem.W.nsIn K mainGlobals "is_between" = some (some (.ref f17)))
    (l17 : K.lookup f17 = some ⟨oc17, od17, .func (PySem.W.fnOf "is_between" "is_between" (defArgs s_is_between) (defBody s_is_between) (defScope s_is_between) .none kV17 dc17 pm17 an17 cd17 ct17), sl17⟩)
    (c17 : PySem.W.codeIn K cd17 "is_between" = true) (k17 : PySem.W.keepIn K (.ref f17) = true)
    (a18 : PySem.W.nsIn K mainGlobals "against" = some (some (.ref f18)))
    (l18 : K.lookup f18 = some ⟨oc18, od18, .func (PySem.W.fnOf "against" "against" (defArgs s_against) (defBody s_against) (defScope s_against) .none kV18 dc18 pm18 an18 cd18 ct18), sl18⟩)
    (c18 : PySem.W.codeIn K cd18 "against" = true) (k18 : PySem.W.keepIn K (.ref f18) = true)
    (m_CARDS : PySem.W.nsIn K mainGlobals "CARDS" = some (some (.int 52 t_CARDS)))
    (m_SUITS : PySem.W.nsIn K mainGlobals "SUITS" = some (some (.int 4 t_SUITS)))
    (m_RANKS : PySem.W.nsIn K mainGlobals "RANKS" = some (some (.int 13 t_RANKS)))
    (m_STRAIGHT_FLUSH : PySem.W.nsIn K mainGlobals "STRAIGHT_FLUSH" = some (some (.int 8 t_STRAIGHT_FLUSH)))
    (m_FOUR : PySem.W.nsIn K mainGlobals "FOUR" = some (some (.int 7 t_FOUR)))
    (m_FULL : PySem.W.nsIn K mainGlobals "FULL" = some (some (.int 6 t_FULL)))
    (m_FLUSH : PySem.W.nsIn K mainGlobals "FLUSH" = some (some (.int 5 t_FLUSH)))
    (m_STRAIGHT : PySem.W.nsIn K mainGlobals "STRAIGHT" = some (some (.int 4 t_STRAIGHT)))
    (m_THREE : PySem.W.nsIn K mainGlobals "THREE" = some (some (.int 3 t_THREE)))
    (m_TWO_PAIRS : PySem.W.nsIn K mainGlobals "TWO_PAIRS" = some (some (.int 2 t_TWO_PAIRS)))
    (m_PAIR : PySem.W.nsIn K mainGlobals "PAIR" = some (some (.int 1 t_PAIR)))
    (m_NONE : PySem.W.nsIn K mainGlobals "NONE" = some (some (.int 0 t_NONE)))
    (m_ACE : PySem.W.nsIn K mainGlobals "ACE" = some (some (.int 12 t_ACE)))
    (m_NUMBERS : PySem.W.nsIn K mainGlobals "NUMBERS" = some (some (.int 5 t_NUMBERS)))
    (m_ALL : PySem.W.nsIn K mainGlobals "ALL" = some (some (.int 5 t_ALL)))
    (m_REFUSED : PySem.W.nsIn K mainGlobals "REFUSED" = some (some (.int (-1) t_REFUSED)))
    (m_MOST_OUT : PySem.W.nsIn K mainGlobals "MOST_OUT" = some (some (.int 30 t_MOST_OUT)))
    (z_len : PySem.W.nsIn K mainGlobals "len" = some none)
    (z_range : PySem.W.nsIn K mainGlobals "range" = some none)
    (z_set : PySem.W.nsIn K mainGlobals "set" = some none)
    (z_sorted : PySem.W.nsIn K mainGlobals "sorted" = some none)
    : ∃ fd : FuncData, (∀ (s : Shared) (us : List Value), us.length = (["k", "d", "hand", "board", "out"] : List Str).length → BindsTo s fd ⟨us, []⟩ ((["k", "d", "hand", "board", "out"] : List Str).zip us)) ∧
      ∀ base : Heap, K.In base → base.Ns mainGlobals mg → FnOk P w K mg base CX0 6 fa fd ["k", "d", "hand", "board", "out"] (sp_s04 K) := by
  have e := hfa.symm.trans (PySem.W.mg_of X G a18)
  cases e
  have F1 := fun_mk (st := s_rank_of) l1 c1 k1
  have b1 := F1.binds (ps := ["card"]) fun _ _ _ _ _ _ us hl => match us, hl with | [_], _ => rfl
  have g1 := PySem.W.mg_of X G a1
  have F2 := fun_mk (st := s_suit_of) l2 c2 k2
  have b2 := F2.binds (ps := ["card"]) fun _ _ _ _ _ _ us hl => match us, hl with | [_], _ => rfl
  have g2 := PySem.W.mg_of X G a2
  have F3 := fun_mk (st := s_are_cards) l3 c3 k3
  have b3 := F3.binds (ps := ["row"]) fun _ _ _ _ _ _ us hl => match us, hl with | [_], _ => rfl
  have g3 := PySem.W.mg_of X G a3
  have F4 := fun_mk (st := s_unseen) l4 c4 k4
  have b4 := F4.binds (ps := ["seen"]) fun _ _ _ _ _ _ us hl => match us, hl with | [_], _ => rfl
  have g4 := PySem.W.mg_of X G a4
  have F5 := fun_mk (st := s_choices_of) l5 c5 k5
  have b5 := F5.binds (ps := ["cards", "many"]) fun _ _ _ _ _ _ us hl => match us, hl with | [_, _], _ => rfl
  have g5 := PySem.W.mg_of X G a5
  have F6 := fun_mk (st := s_without) l6 c6 k6
  have b6 := F6.binds (ps := ["cards", "others"]) fun _ _ _ _ _ _ us hl => match us, hl with | [_, _], _ => rfl
  have g6 := PySem.W.mg_of X G a6
  have F7 := fun_mk (st := s_counts_of) l7 c7 k7
  have b7 := F7.binds (ps := ["cards"]) fun _ _ _ _ _ _ us hl => match us, hl with | [_], _ => rfl
  have g7 := PySem.W.mg_of X G a7
  have F8 := fun_mk (st := s_highest_row) l8 c8 k8
  have b8 := F8.binds (ps := ["there"]) fun _ _ _ _ _ _ us hl => match us, hl with | [_], _ => rfl
  have g8 := PySem.W.mg_of X G a8
  have F9 := fun_mk (st := s_flush_ranks) l9 c9 k9
  have b9 := F9.binds (ps := ["cards"]) fun _ _ _ _ _ _ us hl => match us, hl with | [_], _ => rfl
  have g9 := PySem.W.mg_of X G a9
  have F10 := fun_mk (st := s_there_of) l10 c10 k10
  have b10 := F10.binds (ps := ["ranks"]) fun _ _ _ _ _ _ us hl => match us, hl with | [_], _ => rfl
  have g10 := PySem.W.mg_of X G a10
  have F11 := fun_mk (st := s_ranks_with) l11 c11 k11
  have b11 := F11.binds (ps := ["counts", "least"]) fun _ _ _ _ _ _ us hl => match us, hl with | [_, _], _ => rfl
  have g11 := PySem.W.mg_of X G a11
  have F12 := fun_mk (st := s_others_of) l12 c12 k12
  have b12 := F12.binds (ps := ["counts", "ranks", "many"]) fun _ _ _ _ _ _ us hl => match us, hl with | [_, _, _], _ => rfl
  have g12 := PySem.W.mg_of X G a12
  have F13 := fun_mk (st := s_of_like_ranks) l13 c13 k13
  have b13 := F13.binds (ps := ["counts"]) fun _ _ _ _ _ _ us hl => match us, hl with | [_], _ => rfl
  have g13 := PySem.W.mg_of X G a13
  have F14 := fun_mk (st := s_of_many_alike) l14 c14 k14
  have b14 := F14.binds (ps := ["counts"]) fun _ _ _ _ _ _ us hl => match us, hl with | [_], _ => rfl
  have g14 := PySem.W.mg_of X G a14
  have F15 := fun_mk (st := s_worth_of) l15 c15 k15
  have b15 := F15.binds (ps := ["cards"]) fun _ _ _ _ _ _ us hl => match us, hl with | [_], _ => rfl
  have g15 := PySem.W.mg_of X G a15
  have F16 := fun_mk (st := s_against_all) l16 c16 k16
  have b16 := F16.binds (ps := ["hand", "board", "out"]) fun _ _ _ _ _ _ us hl => match us, hl with | [_, _, _], _ => rfl
  have g16 := PySem.W.mg_of X G a16
  have F17 := fun_mk (st := s_is_between) l17 c17 k17
  have b17 := F17.binds (ps := ["number", "low", "high"]) fun _ _ _ _ _ _ us hl => match us, hl with | [_, _, _], _ => rfl
  have g17 := PySem.W.mg_of X G a17
  have F18 := fun_mk (st := s_against) l18 c18 k18
  have b18 := F18.binds (ps := ["k", "d", "hand", "board", "out"]) fun _ _ _ _ _ _ us hl => match us, hl with | [_, _, _, _, _], _ => rfl
  have g18 := PySem.W.mg_of X G a18
  have M_CARDS := PySem.W.mg_of X G m_CARDS
  have M_SUITS := PySem.W.mg_of X G m_SUITS
  have M_RANKS := PySem.W.mg_of X G m_RANKS
  have M_STRAIGHT_FLUSH := PySem.W.mg_of X G m_STRAIGHT_FLUSH
  have M_FOUR := PySem.W.mg_of X G m_FOUR
  have M_FULL := PySem.W.mg_of X G m_FULL
  have M_FLUSH := PySem.W.mg_of X G m_FLUSH
  have M_STRAIGHT := PySem.W.mg_of X G m_STRAIGHT
  have M_THREE := PySem.W.mg_of X G m_THREE
  have M_TWO_PAIRS := PySem.W.mg_of X G m_TWO_PAIRS
  have M_PAIR := PySem.W.mg_of X G m_PAIR
  have M_NONE := PySem.W.mg_of X G m_NONE
  have M_ACE := PySem.W.mg_of X G m_ACE
  have M_NUMBERS := PySem.W.mg_of X G m_NUMBERS
  have M_ALL := PySem.W.mg_of X G m_ALL
  have M_REFUSED := PySem.W.mg_of X G m_REFUSED
  have M_MOST_OUT := PySem.W.mg_of X G m_MOST_OUT
  have Z_len := PySem.W.mg_none_of X G z_len
  have Z_range := PySem.W.mg_none_of X G z_range
  have Z_set := PySem.W.mg_none_of X G z_set
  have Z_sorted := PySem.W.mg_none_of X G z_sorted
  refine ⟨PySem.W.fnOf "against" "against" (defArgs s_against) (defBody s_against) (defScope s_against) .none kV18 dc18 pm18 an18 cd18 ct18, fun s us hu => match us, hu with | [_, _, _, _, _], _ => .of_eq rfl, fun base _ _ => ?_⟩
  have G17_5 := ok_is_between (P := P) (w := w) (mg := mg) (base := base) (k := 4) F17
  have G3_5 := ok_are_cards (P := P) (w := w) (mg := mg) (base := base) (k := 4) F3 M_CARDS Z_len Z_set
  have G4_4 := ok_unseen (P := P) (w := w) (mg := mg) (base := base) (k := 3) F4 M_CARDS Z_range
  have G5_4 := ok_choices_of (P := P) (w := w) (mg := mg) (base := base) (k := 3) F5 Z_range Z_len
  have G1_2 := ok_rank_of (P := P) (w := w) (mg := mg) (base := base) (k := 1) F1 M_SUITS
  have G7_3 := ok_counts_of (P := P) (w := w) (mg := mg) (base := base) (k := 2) F7 M_RANKS F1 b1 g1 G1_2
  have G2_2 := ok_suit_of (P := P) (w := w) (mg := mg) (base := base) (k := 1) F2 M_SUITS
  have G9_3 := ok_flush_ranks (P := P) (w := w) (mg := mg) (base := base) (k := 2) F9 M_SUITS M_NUMBERS Z_range Z_len Z_sorted F1 b1 g1 G1_2 F2 b2 g2 G2_2
  have G8_3 := ok_highest_row (P := P) (w := w) (mg := mg) (base := base) (k := 2) F8 M_RANKS M_ACE Z_range
  have G10_3 := ok_there_of (P := P) (w := w) (mg := mg) (base := base) (k := 2) F10 M_RANKS
  have G11_2 := ok_ranks_with (P := P) (w := w) (mg := mg) (base := base) (k := 1) F11 M_RANKS Z_range
  have G11_1 := ok_ranks_with (P := P) (w := w) (mg := mg) (base := base) (k := 0) F11 M_RANKS Z_range
  have G12_2 := ok_others_of (P := P) (w := w) (mg := mg) (base := base) (k := 1) F12 F11 b11 g11 G11_1
  have G14_3 := ok_of_many_alike (P := P) (w := w) (mg := mg) (base := base) (k := 2) F14 M_FOUR M_FULL Z_len F11 b11 g11 G11_2 F12 b12 g12 G12_2
  have G13_3 := ok_of_like_ranks (P := P) (w := w) (mg := mg) (base := base) (k := 2) F13 M_THREE M_TWO_PAIRS M_PAIR M_NONE M_NUMBERS Z_len F11 b11 g11 G11_2 F12 b12 g12 G12_2
  have G15_4 := ok_worth_of (P := P) (w := w) (mg := mg) (base := base) (k := 3) F15 M_STRAIGHT_FLUSH M_FLUSH M_STRAIGHT M_NUMBERS Z_len F7 b7 g7 G7_3 F9 b9 g9 G9_3 F8 b8 g8 G8_3 F10 b10 g10 G10_3 F14 b14 g14 G14_3 F13 b13 g13 G13_3
  have G6_4 := ok_without (P := P) (w := w) (mg := mg) (base := base) (k := 3) F6
  have G16_5 := ok_against_all (P := P) (w := w) (mg := mg) (base := base) (k := 4) F16 M_ALL Z_len F4 b4 g4 G4_4 F5 b5 g5 G5_4 F15 b15 g15 G15_4 F6 b6 g6 G6_4
  have G18_6 := ok_against (P := P) (w := w) (mg := mg) (base := base) (k := 5) F18 M_REFUSED M_MOST_OUT F17 b17 g17 G17_5 F3 b3 g3 G3_5 F16 b16 g16 G16_5
  exact G18_6
theorem nat_list {l : List Int} (h : ∀ x ∈ l, 0 ≤ x) : l = (l.map Int.toNat).map fun (n : Nat) => (n : Int) := by
  rw [List.map_map]
  refine (List.map_id l).symm.trans (List.map_congr_left fun x hx => ?_)
  have := h x hx
  show x = ((x.toNat : Nat) : Int)
  omega
theorem bytes_is {many : Int} {l : List Int} (h : Md21Neutral.bytes many l = true) : (l.length : Int) = many ∧ ∃ cs : List Nat, l = cs.map fun (n : Nat) => (n : Int) := by
  unfold Md21Neutral.bytes at h
  rw [Bool.and_eq_true, decide_eq_true_eq] at h
  refine ⟨h.1, _, nat_list fun x hx => ?_⟩
  have := List.all_eq_true.mp h.2 x hx
  unfold Md21Neutral.upTo at this
  rw [Bool.and_eq_true, decide_eq_true_eq] at this
  exact this.1
theorem empty_is {l : List Int} (h : l.isEmpty = true) : l = [] := List.isEmpty_iff.mp h
theorem asked_s04 {k d : Int} {h b x : List Int} (q : PyMd21.against_asked k d h b x = true) :
    ∃ hs bd dead : List Nat, h = hs.map (fun (n : Nat) => (n : Int)) ∧ b = bd.map (fun (n : Nat) => (n : Int)) ∧ x = dead.map (fun (n : Nat) => (n : Int)) ∧ hs.length ≤ 12 ∧ bd.length ≤ 5 ∧ dead.length ≤ 30 ∧
      ((k = 3 ∨ k = 4 ∨ k = 5) → 0 ≤ d → d ≤ 30 → hs.length = 2 ∧ (bd.length : Int) = k) := by
  have h0 : (decide (([[[4, k, d], h, b, x]] : List (List (List Int))) ≠ []) && (([k, d].all Md21Neutral.int && (if Md21Neutral.right 2 k d [3, 4, 5] = true then Md21Neutral.bytes 2 h && (Md21Neutral.bytes k b && (Md21Neutral.bytes d x && decide (Md21Neutral.choices (50 - k - d).toNat 2 * Md21Neutral.boards (48 - k - d) k ≤ Md21Neutral.FEW))) else h.isEmpty && (b.isEmpty && x.isEmpty))) && true)) = true := q
  rw [Bool.and_eq_true, Bool.and_true, Bool.and_eq_true] at h0
  have h1 := h0.2.2
  by_cases c : Md21Neutral.right 2 k d [3, 4, 5] = true
  · rw [if_pos c, Bool.and_eq_true, Bool.and_eq_true, Bool.and_eq_true] at h1
    obtain ⟨e1, hs, rfl⟩ := bytes_is h1.1
    obtain ⟨e2, bd, rfl⟩ := bytes_is h1.2.1
    obtain ⟨e3, dead, rfl⟩ := bytes_is h1.2.2.1
    rw [List.length_map] at e1 e2 e3
    unfold Md21Neutral.right Md21Neutral.upTo at c
    simp only [Bool.and_eq_true, decide_eq_true_eq, List.contains_iff_mem, List.mem_cons, List.not_mem_nil, or_false] at c
    obtain ⟨c1, c2, c3, c4, c5⟩ := c
    exact ⟨hs, bd, dead, rfl, rfl, rfl, by omega, by omega, by omega, fun _ _ _ => ⟨by omega, e2⟩⟩
  · rw [if_neg c, Bool.and_eq_true, Bool.and_eq_true] at h1
    refine ⟨[], [], [], empty_is h1.1, empty_is h1.2.1, empty_is h1.2.2, by simp, by simp, by simp, fun a3 a4 a5 => absurd ?_ c⟩
    unfold Md21Neutral.right Md21Neutral.upTo
    simp only [Bool.and_eq_true, decide_eq_true_eq, List.contains_iff_mem, List.mem_cons, List.not_mem_nil, or_false]
    exact ⟨by omega, by omega, a3, a4, a5⟩
end Bs
open PySem PySem.W PyProof.Rows
set_option maxRecDepth 100000 in
set_option maxHeartbeats 8000000 in
theorem PySem.Challenge.cw_boardshares_s04_against_holds : PySem.Challenge.rw_boardshares_s04_against.Holds := by
  w_on; k_headS; (case hw => exact ⟨[.int 0, .int 0, .list [], .list [], .list []], by decide +kernel, by decide +kernel⟩)
  k_fillS
  refine L2.walk_specK (r := PySem.Challenge.rw_boardshares_s04_against) (k := 6) (CX := L2.CX0) (ps := ["k", "d", "hand", "board", "out"]) (sp := Bs.sp_s04) (by decide +kernel) rfl rfl ⟨rfl, by decide, by decide⟩ (fun w h Y => PySem.W.kIn_of Y) ?F ?S (fun _ _ _ _ z => z)
  case F =>
    intro w mg fa h Y KX G hmg
    refine' Bs.all_mk KX G hmg ?a1 ?l1 ?c1 ?k1 ?a2 ?l2 ?c2 ?k2 ?a3 ?l3 ?c3 ?k3 ?a4 ?l4 ?c4 ?k4 ?a5 ?l5 ?c5 ?k5 ?a6 ?l6 ?c6 ?k6 ?a7 ?l7 ?c7 ?k7 ?a8 ?l8 ?c8 ?k8 ?a9 ?l9 ?c9 ?k9 ?a10 ?l10 ?c10 ?k10 ?a11 ?l11 ?c11 ?k11 ?a12 ?l12 ?c12 ?k12 ?a13 ?l13 ?c13 ?k13 ?a14 ?l14 ?c14 ?k14 ?a15 ?l15 ?c15 ?k15 ?a16 ?l16 ?c16 ?k16 ?a17 ?l17 ?c17 ?k17 ?a18 ?l18 ?c18 ?k18 ?m_CARDS ?m_SUITS ?m_RANKS ?m_STRAIGHT_FLUSH ?m_FOUR ?m_FULL ?m_FLUSH ?m_STRAIGHT ?m_THREE ?m_TWO_PAIRS ?m_PAIR ?m_NONE ?m_ACE ?m_NUMBERS ?m_ALL ?m_REFUSED ?m_MOST_OUT ?z_len ?z_range ?z_set ?z_sorted
    (case a1 => k_is)
    (case l1 => k_is)
    (case c1 => k_is)
    (case k1 => k_is)
    (case a2 => k_is)
    (case l2 => k_is)
    (case c2 => k_is)
    (case k2 => k_is)
    (case a3 => k_is)
    (case l3 => k_is)
    (case c3 => k_is)
    (case k3 => k_is)
    (case a4 => k_is)
    (case l4 => k_is)
    (case c4 => k_is)
    (case k4 => k_is)
    (case a5 => k_is)
    (case l5 => k_is)
    (case c5 => k_is)
    (case k5 => k_is)
    (case a6 => k_is)
    (case l6 => k_is)
    (case c6 => k_is)
    (case k6 => k_is)
    (case a7 => k_is)
    (case l7 => k_is)
    (case c7 => k_is)
    (case k7 => k_is)
    (case a8 => k_is)
    (case l8 => k_is)
    (case c8 => k_is)
    (case k8 => k_is)
    (case a9 => k_is)
    (case l9 => k_is)
    (case c9 => k_is)
    (case k9 => k_is)
    (case a10 => k_is)
    (case l10 => k_is)
    (case c10 => k_is)
    (case k10 => k_is)
    (case a11 => k_is)
    (case l11 => k_is)
    (case c11 => k_is)
    (case k11 => k_is)
    (case a12 => k_is)
    (case l12 => k_is)
    (case c12 => k_is)
    (case k12 => k_is)
    (case a13 => k_is)
    (case l13 => k_is)
    (case c13 => k_is)
    (case k13 => k_is)
    (case a14 => k_is)
    (case l14 => k_is)
    (case c14 => k_is)
    (case k14 => k_is)
    (case a15 => k_is)
    (case l15 => k_is)
    (case c15 => k_is)
    (case k15 => k_is)
    (case a16 => k_is)
    (case l16 => k_is)
    (case c16 => k_is)
    (case k16 => k_is)
    (case a17 => k_is)
    (case l17 => k_is)
    (case c17 => k_is)
    (case k17 => k_is)
    (case a18 => k_is)
    (case l18 => k_is)
    (case c18 => k_is)
    (case k18 => k_is)
    (case m_CARDS => k_is)
    (case m_SUITS => k_is)
    (case m_RANKS => k_is)
    (case m_STRAIGHT_FLUSH => k_is)
    (case m_FOUR => k_is)
    (case m_FULL => k_is)
    (case m_FLUSH => k_is)
    (case m_STRAIGHT => k_is)
    (case m_THREE => k_is)
    (case m_TWO_PAIRS => k_is)
    (case m_PAIR => k_is)
    (case m_NONE => k_is)
    (case m_ACE => k_is)
    (case m_NUMBERS => k_is)
    (case m_ALL => k_is)
    (case m_REFUSED => k_is)
    (case m_MOST_OUT => k_is)
    (case z_len => k_is)
    (case z_range => k_is)
    (case z_set => k_is)
    (case z_sorted => k_is)
  case S =>
    intro K H xs a hO hwi hask hx
    obtain ⟨k, d, h, b, x, u⟩ := a
    obtain ⟨hs, bd, dead, rfl, rfl, rfl, l12, l5, l30, hlen⟩ := Bs.asked_s04 (k := k) (d := d) (h := h) (b := b) (x := x) hask
    cases hx with
    | cons h1 hx =>
    cases hx with
    | cons h2 hx =>
    cases hx with
    | cons h5 hx =>
    cases hx with
    | cons h6 hx =>
    cases hx with
    | cons h7 hx =>
    cases hx
    cases h1
    cases h2
    cases h5 with
    | lst s5 a5 =>
    cases h6 with
    | lst s6 a6 =>
    cases h7 with
    | lst s7 a7 =>
    have e5 := L2.ints_dw _ _ a5
    have e6 := L2.ints_dw _ _ a6
    have e7 := L2.ints_dw _ _ a7
    subst e5 e6 e7
    rw [← Bs.vN_ints] at s5 s6 s7
    exact ⟨k, d, _, _, _, hs, bd, dead, rfl, s5, s6, s7, l12, l5, l30, hlen, fun H' p hp => .lst (L2.SqL.of hp) (L2.dw_ints _)⟩
#print axioms PySem.Challenge.cw_boardshares_s04_against_holds
