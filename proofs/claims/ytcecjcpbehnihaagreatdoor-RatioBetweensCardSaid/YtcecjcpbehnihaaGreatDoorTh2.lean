/- What the told functions answer, part 2. No condition. -/
import Derived.Test.YtcecjcpbehnihaaGreatDoorTh1
set_option linter.all false
namespace Go.DI.Th
open Go Go.RowKit Go.DI

def Le {α : Type} (a b : Option α) : Prop := ∀ r, a = some r → b = some r
theorem Le.refl {α : Type} (a : Option α) : Le a a := fun _ h => h
theorem Le.none {α : Type} (b : Option α) : Le none b := fun _ h => by cases h
theorem Le.eqs {α : Type} {a b c d : Option α} (h : a = c) (h' : b = d) (k : Le c d) : Le a b := by subst h; subst h'; exact k
theorem Le.bind {α β : Type} {a b : Option α} {f g : α → Option β} (h : Le a b) (k : ∀ v, Le (f v) (g v)) : Le (a.bind f) (b.bind g) := by
  intro r hr
  cases ha : a with
  | none => rw [ha] at hr; cases hr
  | some v =>
    rw [ha] at hr
    rw [h v ha]
    exact k v r hr
theorem Le.ite {α : Type} {c : Prop} [Decidable c] {a b a' b' : Option α} (h : Le a a') (k : Le b b') : Le (if c then a else b) (if c then a' else b') := by
  split
  · exact h
  · exact k
theorem Ev.mono {α : Type} {g : Nat → Option α} (h : ∀ k, Le (g k) (g (k + 1))) {K : Nat} {r : α} (hk : g K = some r) : Ev g r := by
  refine ⟨K, fun n hn => ?_⟩
  induction hn with
  | refl => exact hk
  | step _ ih => exact h _ r ih
theorem nat_trim.monoL (k : Nat) : (∀ x0 x1, Le (nat_trim.l0 k x0 x1) (nat_trim.l0 (k + 1) x0 x1)) := by
  induction k with
  | zero => exact fun _ _ => Le.none _
  | succ k ih =>
    intro x0 x1
    refine Le.eqs (nat_trim.l0.eq_2 ..) (nat_trim.l0.eq_2 ..) ?_
    repeat' (first
      | with_reducible exact Le.refl _
      | with_reducible refine Le.ite ?_ ?_
      | with_reducible exact ih _ _
      | with_reducible refine Le.bind (ih _ _) (fun _ => ?_)
      | with_reducible refine Le.bind (Le.refl _) (fun _ => ?_)
      | split)
theorem nat_trim.mono (k : Nat) : ∀ x0, Le (nat_trim.f k x0) (nat_trim.f (k + 1) x0) := by
  intro x0
  unfold nat_trim.f
  repeat' (first
    | with_reducible exact Le.refl _
    | with_reducible refine Le.ite ?_ ?_
    | with_reducible exact (nat_trim.monoL k) _ _
    | with_reducible refine Le.bind (Le.refl _) (fun _ => ?_)
    | split)
theorem nat_Clean.monoL (k : Nat) : (∀ x0 x1 x2 x3, Le (nat_Clean.l0 k x0 x1 x2 x3) (nat_Clean.l0 (k + 1) x0 x1 x2 x3)) := by
  induction k with
  | zero => exact fun _ _ _ _ => Le.none _
  | succ k ih =>
    intro x0 x1 x2 x3
    refine Le.eqs (nat_Clean.l0.eq_2 ..) (nat_Clean.l0.eq_2 ..) ?_
    repeat' (first
      | with_reducible exact Le.refl _
      | with_reducible refine Le.ite ?_ ?_
      | with_reducible exact ih _ _ _ _
      | with_reducible refine Le.bind (ih _ _ _ _) (fun _ => ?_)
      | with_reducible refine Le.bind (nat_trim.mono k _) (fun _ => ?_)
      | with_reducible exact nat_trim.mono k _
      | with_reducible refine Le.bind (Le.refl _) (fun _ => ?_)
      | split)
theorem nat_Clean.mono (k : Nat) : ∀ x0, Le (nat_Clean.f k x0) (nat_Clean.f (k + 1) x0) := by
  intro x0
  unfold nat_Clean.f
  repeat' (first
    | with_reducible exact Le.refl _
    | with_reducible refine Le.ite ?_ ?_
    | with_reducible exact (nat_Clean.monoL k) _ _ _ _
    | with_reducible refine Le.bind (Le.refl _) (fun _ => ?_)
    | split)
theorem whole_Clean.mono (k : Nat) : ∀ x0 x1, Le (whole_Clean.f k x0 x1) (whole_Clean.f (k + 1) x0 x1) := by
  intro x0 x1
  unfold whole_Clean.f
  repeat' (first
    | with_reducible exact Le.refl _
    | with_reducible refine Le.ite ?_ ?_
    | with_reducible refine Le.bind (nat_Clean.mono k _) (fun _ => ?_)
    | with_reducible exact nat_Clean.mono k _
    | with_reducible refine Le.bind (Le.refl _) (fun _ => ?_)
    | split)
theorem whole_Sign.mono (k : Nat) : ∀ x0 x1, Le (whole_Sign.f k x0 x1) (whole_Sign.f (k + 1) x0 x1) := by
  intro x0 x1
  unfold whole_Sign.f
  repeat' (first
    | with_reducible exact Le.refl _
    | with_reducible refine Le.ite ?_ ?_
    | with_reducible refine Le.bind (whole_Clean.mono k _ _) (fun _ => ?_)
    | with_reducible exact whole_Clean.mono k _ _
    | with_reducible refine Le.bind (Le.refl _) (fun _ => ?_)
    | split)
theorem whole_Neg.mono (k : Nat) : ∀ x0 x1, Le (whole_Neg.f k x0 x1) (whole_Neg.f (k + 1) x0 x1) := by
  intro x0 x1
  unfold whole_Neg.f
  repeat' (first
    | with_reducible exact Le.refl _
    | with_reducible refine Le.ite ?_ ?_
    | with_reducible refine Le.bind (whole_Clean.mono k _ _) (fun _ => ?_)
    | with_reducible exact whole_Clean.mono k _ _
    | with_reducible refine Le.bind (Le.refl _) (fun _ => ?_)
    | split)
theorem nat_Of.mono (k : Nat) : ∀ x0, Le (nat_Of.f k x0) (nat_Of.f (k + 1) x0) := by
  intro x0
  unfold nat_Of.f
  repeat' (first
    | with_reducible exact Le.refl _
    | with_reducible refine Le.ite ?_ ?_
    | with_reducible refine Le.bind (nat_trim.mono k _) (fun _ => ?_)
    | with_reducible exact nat_trim.mono k _
    | with_reducible refine Le.bind (Le.refl _) (fun _ => ?_)
    | split)
theorem nat_order.monoL (k : Nat) : (∀ x0 x1 x2, Le (nat_order.l0 k x0 x1 x2) (nat_order.l0 (k + 1) x0 x1 x2)) := by
  induction k with
  | zero => exact fun _ _ _ => Le.none _
  | succ k ih =>
    intro x0 x1 x2
    refine Le.eqs (nat_order.l0.eq_2 ..) (nat_order.l0.eq_2 ..) ?_
    repeat' (first
      | with_reducible exact Le.refl _
      | with_reducible refine Le.ite ?_ ?_
      | with_reducible exact ih _ _ _
      | with_reducible refine Le.bind (ih _ _ _) (fun _ => ?_)
      | with_reducible refine Le.bind (Le.refl _) (fun _ => ?_)
      | split)
theorem nat_order.mono (k : Nat) : ∀ x0 x1, Le (nat_order.f k x0 x1) (nat_order.f (k + 1) x0 x1) := by
  intro x0 x1
  unfold nat_order.f
  repeat' (first
    | with_reducible exact Le.refl _
    | with_reducible refine Le.ite ?_ ?_
    | with_reducible exact (nat_order.monoL k) _ _ _
    | with_reducible refine Le.bind (Le.refl _) (fun _ => ?_)
    | split)
theorem nat_To.mono (k : Nat) : ∀ x0, Le (nat_To.f k x0) (nat_To.f (k + 1) x0) := by
  intro x0
  unfold nat_To.f
  repeat' (first
    | with_reducible exact Le.refl _
    | with_reducible refine Le.ite ?_ ?_
    | with_reducible refine Le.bind (nat_Clean.mono k _) (fun _ => ?_)
    | with_reducible exact nat_Clean.mono k _
    | with_reducible refine Le.bind (Le.refl _) (fun _ => ?_)
    | split)
theorem nat_euclid.monoL (k : Nat) : (∀ x0 x1, Le (nat_euclid.l0 k x0 x1) (nat_euclid.l0 (k + 1) x0 x1)) := by
  induction k with
  | zero => exact fun _ _ => Le.none _
  | succ k ih =>
    intro x0 x1
    refine Le.eqs (nat_euclid.l0.eq_2 ..) (nat_euclid.l0.eq_2 ..) ?_
    repeat' (first
      | with_reducible exact Le.refl _
      | with_reducible refine Le.ite ?_ ?_
      | with_reducible exact ih _ _
      | with_reducible refine Le.bind (ih _ _) (fun _ => ?_)
      | with_reducible refine Le.bind (nat_Of.mono k _) (fun _ => ?_)
      | with_reducible exact nat_Of.mono k _
      | with_reducible refine Le.bind (Le.refl _) (fun _ => ?_)
      | split)
theorem nat_euclid.mono (k : Nat) : ∀ x0 x1, Le (nat_euclid.f k x0 x1) (nat_euclid.f (k + 1) x0 x1) := by
  intro x0 x1
  unfold nat_euclid.f
  repeat' (first
    | with_reducible exact Le.refl _
    | with_reducible refine Le.ite ?_ ?_
    | with_reducible exact (nat_euclid.monoL k) _ _
    | with_reducible refine Le.bind (nat_To.mono k _) (fun _ => ?_)
    | with_reducible exact nat_To.mono k _
    | with_reducible refine Le.bind (Le.refl _) (fun _ => ?_)
    | split)
theorem nat_zeros.monoL (k : Nat) : (∀ x0 x1 x2 x3, Le (nat_zeros.l0 k x0 x1 x2 x3) (nat_zeros.l0 (k + 1) x0 x1 x2 x3)) := by
  induction k with
  | zero => exact fun _ _ _ _ => Le.none _
  | succ k ih =>
    intro x0 x1 x2 x3
    refine Le.eqs (nat_zeros.l0.eq_2 ..) (nat_zeros.l0.eq_2 ..) ?_
    repeat' (first
      | with_reducible exact Le.refl _
      | with_reducible refine Le.ite ?_ ?_
      | with_reducible exact ih _ _ _ _
      | with_reducible refine Le.bind (ih _ _ _ _) (fun _ => ?_)
      | with_reducible refine Le.bind (Le.refl _) (fun _ => ?_)
      | split)
theorem nat_zeros.mono (k : Nat) : ∀ x0, Le (nat_zeros.f k x0) (nat_zeros.f (k + 1) x0) := by
  intro x0
  unfold nat_zeros.f
  repeat' (first
    | with_reducible exact Le.refl _
    | with_reducible refine Le.ite ?_ ?_
    | with_reducible exact (nat_zeros.monoL k) _ _ _ _
    | with_reducible refine Le.bind (Le.refl _) (fun _ => ?_)
    | split)
theorem nat_shr.monoL (k : Nat) : (∀ x0 x1 x2 x3 x4 x5, Le (nat_shr.l0 k x0 x1 x2 x3 x4 x5) (nat_shr.l0 (k + 1) x0 x1 x2 x3 x4 x5)) := by
  induction k with
  | zero => exact fun _ _ _ _ _ _ => Le.none _
  | succ k ih =>
    intro x0 x1 x2 x3 x4 x5
    refine Le.eqs (nat_shr.l0.eq_2 ..) (nat_shr.l0.eq_2 ..) ?_
    repeat' (first
      | with_reducible exact Le.refl _
      | with_reducible refine Le.ite ?_ ?_
      | with_reducible exact ih _ _ _ _ _ _
      | with_reducible refine Le.bind (ih _ _ _ _ _ _) (fun _ => ?_)
      | with_reducible refine Le.bind (nat_trim.mono k _) (fun _ => ?_)
      | with_reducible exact nat_trim.mono k _
      | with_reducible refine Le.bind (Le.refl _) (fun _ => ?_)
      | split)
theorem nat_shr.mono (k : Nat) : ∀ x0 x1, Le (nat_shr.f k x0 x1) (nat_shr.f (k + 1) x0 x1) := by
  intro x0 x1
  unfold nat_shr.f
  repeat' (first
    | with_reducible exact Le.refl _
    | with_reducible refine Le.ite ?_ ?_
    | with_reducible exact (nat_shr.monoL k) _ _ _ _ _ _
    | with_reducible refine Le.bind (Le.refl _) (fun _ => ?_)
    | split)
theorem nat_trimM.monoL (k : Nat) : (∀ x0 x1, Le (nat_trimM.l0 k x0 x1) (nat_trimM.l0 (k + 1) x0 x1)) := by
  induction k with
  | zero => exact fun _ _ => Le.none _
  | succ k ih =>
    intro x0 x1
    refine Le.eqs (nat_trimM.l0.eq_2 ..) (nat_trimM.l0.eq_2 ..) ?_
    repeat' (first
      | with_reducible exact Le.refl _
      | with_reducible refine Le.ite ?_ ?_
      | with_reducible exact ih _ _
      | with_reducible refine Le.bind (ih _ _) (fun _ => ?_)
      | with_reducible refine Le.bind (Le.refl _) (fun _ => ?_)
      | split)
theorem nat_trimM.mono (k : Nat) : ∀ x0, Le (nat_trimM.f k x0) (nat_trimM.f (k + 1) x0) := by
  intro x0
  unfold nat_trimM.f
  repeat' (first
    | with_reducible exact Le.refl _
    | with_reducible refine Le.ite ?_ ?_
    | with_reducible exact (nat_trimM.monoL k) _ _
    | with_reducible refine Le.bind (Le.refl _) (fun _ => ?_)
    | split)
theorem nat_shl.monoL (k : Nat) : (∀ x0 x1 x2 x3 x4 x5, Le (nat_shl.l0 k x0 x1 x2 x3 x4 x5) (nat_shl.l0 (k + 1) x0 x1 x2 x3 x4 x5)) := by
  induction k with
  | zero => exact fun _ _ _ _ _ _ => Le.none _
  | succ k ih =>
    intro x0 x1 x2 x3 x4 x5
    refine Le.eqs (nat_shl.l0.eq_2 ..) (nat_shl.l0.eq_2 ..) ?_
    repeat' (first
      | with_reducible exact Le.refl _
      | with_reducible refine Le.ite ?_ ?_
      | with_reducible exact ih _ _ _ _ _ _
      | with_reducible refine Le.bind (ih _ _ _ _ _ _) (fun _ => ?_)
      | with_reducible refine Le.bind (nat_trimM.mono k _) (fun _ => ?_)
      | with_reducible exact nat_trimM.mono k _
      | with_reducible refine Le.bind (Le.refl _) (fun _ => ?_)
      | split)
theorem nat_shl.mono (k : Nat) : ∀ x0 x1, Le (nat_shl.f k x0 x1) (nat_shl.f (k + 1) x0 x1) := by
  intro x0 x1
  unfold nat_shl.f
  repeat' (first
    | with_reducible exact Le.refl _
    | with_reducible refine Le.ite ?_ ?_
    | with_reducible exact (nat_shl.monoL k) _ _ _ _ _ _
    | with_reducible refine Le.bind (Le.refl _) (fun _ => ?_)
    | split)
theorem nat_small.monoL (k : Nat) : (∀ x0 x1 x2 x3 x4, Le (nat_small.l0 k x0 x1 x2 x3 x4) (nat_small.l0 (k + 1) x0 x1 x2 x3 x4)) := by
  induction k with
  | zero => exact fun _ _ _ _ _ => Le.none _
  | succ k ih =>
    intro x0 x1 x2 x3 x4
    refine Le.eqs (nat_small.l0.eq_2 ..) (nat_small.l0.eq_2 ..) ?_
    repeat' (first
      | with_reducible exact Le.refl _
      | with_reducible refine Le.ite ?_ ?_
      | with_reducible exact ih _ _ _ _ _
      | with_reducible refine Le.bind (ih _ _ _ _ _) (fun _ => ?_)
      | with_reducible refine Le.bind (nat_trim.mono k _) (fun _ => ?_)
      | with_reducible exact nat_trim.mono k _
      | with_reducible refine Le.bind (Le.refl _) (fun _ => ?_)
      | split)
theorem nat_small.mono (k : Nat) : ∀ x0 x1, Le (nat_small.f k x0 x1) (nat_small.f (k + 1) x0 x1) := by
  intro x0 x1
  unfold nat_small.f
  repeat' (first
    | with_reducible exact Le.refl _
    | with_reducible refine Le.ite ?_ ?_
    | with_reducible exact (nat_small.monoL k) _ _ _ _ _
    | with_reducible refine Le.bind (Le.refl _) (fun _ => ?_)
    | split)
theorem nat_take.monoL (k : Nat) : (∀ x0 x1 x2 x3 x4 x5 x6, Le (nat_take.l0 k x0 x1 x2 x3 x4 x5 x6) (nat_take.l0 (k + 1) x0 x1 x2 x3 x4 x5 x6)) := by
  induction k with
  | zero => exact fun _ _ _ _ _ _ _ => Le.none _
  | succ k ih =>
    intro x0 x1 x2 x3 x4 x5 x6
    refine Le.eqs (nat_take.l0.eq_2 ..) (nat_take.l0.eq_2 ..) ?_
    repeat' (first
      | with_reducible exact Le.refl _
      | with_reducible refine Le.ite ?_ ?_
      | with_reducible exact ih _ _ _ _ _ _ _
      | with_reducible refine Le.bind (ih _ _ _ _ _ _ _) (fun _ => ?_)
      | with_reducible refine Le.bind (Le.refl _) (fun _ => ?_)
      | split)
theorem nat_take.mono (k : Nat) : ∀ x0 x1 x2, Le (nat_take.f k x0 x1 x2) (nat_take.f (k + 1) x0 x1 x2) := by
  intro x0 x1 x2
  unfold nat_take.f
  repeat' (first
    | with_reducible exact Le.refl _
    | with_reducible refine Le.ite ?_ ?_
    | with_reducible exact (nat_take.monoL k) _ _ _ _ _ _ _
    | with_reducible refine Le.bind (Le.refl _) (fun _ => ?_)
    | split)
theorem nat_give.monoL (k : Nat) : (∀ x0 x1 x2 x3 x4, Le (nat_give.l0 k x0 x1 x2 x3 x4) (nat_give.l0 (k + 1) x0 x1 x2 x3 x4)) := by
  induction k with
  | zero => exact fun _ _ _ _ _ => Le.none _
  | succ k ih =>
    intro x0 x1 x2 x3 x4
    refine Le.eqs (nat_give.l0.eq_2 ..) (nat_give.l0.eq_2 ..) ?_
    repeat' (first
      | with_reducible exact Le.refl _
      | with_reducible refine Le.ite ?_ ?_
      | with_reducible exact ih _ _ _ _ _
      | with_reducible refine Le.bind (ih _ _ _ _ _) (fun _ => ?_)
      | with_reducible refine Le.bind (Le.refl _) (fun _ => ?_)
      | split)
theorem nat_give.mono (k : Nat) : ∀ x0 x1, Le (nat_give.f k x0 x1) (nat_give.f (k + 1) x0 x1) := by
  intro x0 x1
  unfold nat_give.f
  repeat' (first
    | with_reducible exact Le.refl _
    | with_reducible refine Le.ite ?_ ?_
    | with_reducible exact (nat_give.monoL k) _ _ _ _ _
    | with_reducible refine Le.bind (Le.refl _) (fun _ => ?_)
    | split)
theorem nat_digit.monoL (k : Nat) : (∀ x0 x1 x2 x3 x4, Le (nat_digit.l0 k x0 x1 x2 x3 x4) (nat_digit.l0 (k + 1) x0 x1 x2 x3 x4)) := by
  induction k with
  | zero => exact fun _ _ _ _ _ => Le.none _
  | succ k ih =>
    intro x0 x1 x2 x3 x4
    refine Le.eqs (nat_digit.l0.eq_2 ..) (nat_digit.l0.eq_2 ..) ?_
    repeat' (first
      | with_reducible exact Le.refl _
      | with_reducible refine Le.ite ?_ ?_
      | with_reducible exact ih _ _ _ _ _
      | with_reducible refine Le.bind (ih _ _ _ _ _) (fun _ => ?_)
      | with_reducible refine Le.bind (nat_take.mono k _ _ _) (fun _ => ?_)
      | with_reducible refine Le.bind (nat_give.mono k _ _) (fun _ => ?_)
      | with_reducible exact nat_take.mono k _ _ _
      | with_reducible exact nat_give.mono k _ _
      | with_reducible refine Le.bind (Le.refl _) (fun _ => ?_)
      | split)
theorem nat_digit.mono (k : Nat) : ∀ x0 x1, Le (nat_digit.f k x0 x1) (nat_digit.f (k + 1) x0 x1) := by
  intro x0 x1
  unfold nat_digit.f
  repeat' (first
    | with_reducible exact Le.refl _
    | with_reducible refine Le.ite ?_ ?_
    | with_reducible exact (nat_digit.monoL k) _ _ _ _ _
    | with_reducible refine Le.bind (Le.refl _) (fun _ => ?_)
    | split)
theorem nat_long.monoL (k : Nat) : (∀ x0 x1 x2 x3 x4 x5, Le (nat_long.l0 k x0 x1 x2 x3 x4 x5) (nat_long.l0 (k + 1) x0 x1 x2 x3 x4 x5)) := by
  induction k with
  | zero => exact fun _ _ _ _ _ _ => Le.none _
  | succ k ih =>
    intro x0 x1 x2 x3 x4 x5
    refine Le.eqs (nat_long.l0.eq_2 ..) (nat_long.l0.eq_2 ..) ?_
    repeat' (first
      | with_reducible exact Le.refl _
      | with_reducible refine Le.ite ?_ ?_
      | with_reducible exact ih _ _ _ _ _ _
      | with_reducible refine Le.bind (ih _ _ _ _ _ _) (fun _ => ?_)
      | with_reducible refine Le.bind (nat_digit.mono k _ _) (fun _ => ?_)
      | with_reducible refine Le.bind (nat_trim.mono k _) (fun _ => ?_)
      | with_reducible refine Le.bind (nat_shr.mono k _ _) (fun _ => ?_)
      | with_reducible exact nat_digit.mono k _ _
      | with_reducible exact nat_trim.mono k _
      | with_reducible exact nat_shr.mono k _ _
      | with_reducible refine Le.bind (Le.refl _) (fun _ => ?_)
      | split)
theorem nat_long.mono (k : Nat) : ∀ x0 x1, Le (nat_long.f k x0 x1) (nat_long.f (k + 1) x0 x1) := by
  intro x0 x1
  unfold nat_long.f
  repeat' (first
    | with_reducible exact Le.refl _
    | with_reducible refine Le.ite ?_ ?_
    | with_reducible exact (nat_long.monoL k) _ _ _ _ _ _
    | with_reducible refine Le.bind (nat_shl.mono k _ _) (fun _ => ?_)
    | with_reducible exact nat_shl.mono k _ _
    | with_reducible refine Le.bind (Le.refl _) (fun _ => ?_)
    | split)
theorem nat_DivMod.mono (k : Nat) : ∀ x0 x1, Le (nat_DivMod.f k x0 x1) (nat_DivMod.f (k + 1) x0 x1) := by
  intro x0 x1
  unfold nat_DivMod.f
  repeat' (first
    | with_reducible exact Le.refl _
    | with_reducible refine Le.ite ?_ ?_
    | with_reducible refine Le.bind (nat_Clean.mono k _) (fun _ => ?_)
    | with_reducible refine Le.bind (nat_order.mono k _ _) (fun _ => ?_)
    | with_reducible refine Le.bind (nat_small.mono k _ _) (fun _ => ?_)
    | with_reducible refine Le.bind (nat_Of.mono k _) (fun _ => ?_)
    | with_reducible refine Le.bind (nat_long.mono k _ _) (fun _ => ?_)
    | with_reducible exact nat_Clean.mono k _
    | with_reducible exact nat_order.mono k _ _
    | with_reducible exact nat_small.mono k _ _
    | with_reducible exact nat_Of.mono k _
    | with_reducible exact nat_long.mono k _ _
    | with_reducible refine Le.bind (Le.refl _) (fun _ => ?_)
    | split)
theorem nat_rest.mono (k : Nat) : ∀ x0 x1, Le (nat_rest.f k x0 x1) (nat_rest.f (k + 1) x0 x1) := by
  intro x0 x1
  unfold nat_rest.f
  repeat' (first
    | with_reducible exact Le.refl _
    | with_reducible refine Le.ite ?_ ?_
    | with_reducible refine Le.bind (nat_DivMod.mono k _ _) (fun _ => ?_)
    | with_reducible exact nat_DivMod.mono k _ _
    | with_reducible refine Le.bind (Le.refl _) (fun _ => ?_)
    | split)
theorem nat_minus.monoL (k : Nat) : (∀ x0 x1 x2 x3 x4 x5, Le (nat_minus.l0 k x0 x1 x2 x3 x4 x5) (nat_minus.l0 (k + 1) x0 x1 x2 x3 x4 x5)) := by
  induction k with
  | zero => exact fun _ _ _ _ _ _ => Le.none _
  | succ k ih =>
    intro x0 x1 x2 x3 x4 x5
    refine Le.eqs (nat_minus.l0.eq_2 ..) (nat_minus.l0.eq_2 ..) ?_
    repeat' (first
      | with_reducible exact Le.refl _
      | with_reducible refine Le.ite ?_ ?_
      | with_reducible exact ih _ _ _ _ _ _
      | with_reducible refine Le.bind (ih _ _ _ _ _ _) (fun _ => ?_)
      | with_reducible refine Le.bind (nat_trim.mono k _) (fun _ => ?_)
      | with_reducible exact nat_trim.mono k _
      | with_reducible refine Le.bind (Le.refl _) (fun _ => ?_)
      | split)
theorem nat_minus.mono (k : Nat) : ∀ x0 x1, Le (nat_minus.f k x0 x1) (nat_minus.f (k + 1) x0 x1) := by
  intro x0 x1
  unfold nat_minus.f
  repeat' (first
    | with_reducible exact Le.refl _
    | with_reducible refine Le.ite ?_ ?_
    | with_reducible exact (nat_minus.monoL k) _ _ _ _ _ _
    | with_reducible refine Le.bind (Le.refl _) (fun _ => ?_)
    | split)
theorem nat_Gcd.monoL (k : Nat) : (∀ x0 x1 x2 x3, Le (nat_Gcd.l0 k x0 x1 x2 x3) (nat_Gcd.l0 (k + 1) x0 x1 x2 x3)) := by
  induction k with
  | zero => exact fun _ _ _ _ => Le.none _
  | succ k ih =>
    intro x0 x1 x2 x3
    refine Le.eqs (nat_Gcd.l0.eq_2 ..) (nat_Gcd.l0.eq_2 ..) ?_
    repeat' (first
      | with_reducible exact Le.refl _
      | with_reducible refine Le.ite ?_ ?_
      | with_reducible exact ih _ _ _ _
      | with_reducible refine Le.bind (ih _ _ _ _) (fun _ => ?_)
      | with_reducible refine Le.bind (nat_order.mono k _ _) (fun _ => ?_)
      | with_reducible refine Le.bind (nat_shl.mono k _ _) (fun _ => ?_)
      | with_reducible refine Le.bind (nat_rest.mono k _ _) (fun _ => ?_)
      | with_reducible refine Le.bind (nat_zeros.mono k _) (fun _ => ?_)
      | with_reducible refine Le.bind (nat_shr.mono k _ _) (fun _ => ?_)
      | with_reducible refine Le.bind (nat_minus.mono k _ _) (fun _ => ?_)
      | with_reducible exact nat_order.mono k _ _
      | with_reducible exact nat_shl.mono k _ _
      | with_reducible exact nat_rest.mono k _ _
      | with_reducible exact nat_zeros.mono k _
      | with_reducible exact nat_shr.mono k _ _
      | with_reducible exact nat_minus.mono k _ _
      | with_reducible refine Le.bind (Le.refl _) (fun _ => ?_)
      | split)
theorem nat_Gcd.mono (k : Nat) : ∀ x0 x1, Le (nat_Gcd.f k x0 x1) (nat_Gcd.f (k + 1) x0 x1) := by
  intro x0 x1
  unfold nat_Gcd.f
  repeat' (first
    | with_reducible exact Le.refl _
    | with_reducible refine Le.ite ?_ ?_
    | with_reducible exact (nat_Gcd.monoL k) _ _ _ _
    | with_reducible refine Le.bind (nat_Clean.mono k _) (fun _ => ?_)
    | with_reducible refine Le.bind (nat_euclid.mono k _ _) (fun _ => ?_)
    | with_reducible refine Le.bind (nat_zeros.mono k _) (fun _ => ?_)
    | with_reducible refine Le.bind (nat_shr.mono k _ _) (fun _ => ?_)
    | with_reducible exact nat_Clean.mono k _
    | with_reducible exact nat_euclid.mono k _ _
    | with_reducible exact nat_zeros.mono k _
    | with_reducible exact nat_shr.mono k _ _
    | with_reducible refine Le.bind (Le.refl _) (fun _ => ?_)
    | split)
theorem ratio_form.mono (k : Nat) : ∀ x0 x1 x2, Le (ratio_form.f k x0 x1 x2) (ratio_form.f (k + 1) x0 x1 x2) := by
  intro x0 x1 x2
  unfold ratio_form.f
  repeat' (first
    | with_reducible exact Le.refl _
    | with_reducible refine Le.ite ?_ ?_
    | with_reducible refine Le.bind (nat_Of.mono k _) (fun _ => ?_)
    | with_reducible refine Le.bind (nat_Gcd.mono k _ _) (fun _ => ?_)
    | with_reducible refine Le.bind (nat_DivMod.mono k _ _) (fun _ => ?_)
    | with_reducible exact nat_Of.mono k _
    | with_reducible exact nat_Gcd.mono k _ _
    | with_reducible exact nat_DivMod.mono k _ _
    | with_reducible refine Le.bind (Le.refl _) (fun _ => ?_)
    | split)
theorem ratio_Make.mono (k : Nat) : ∀ x0 x1 x2 x3, Le (ratio_Make.f k x0 x1 x2 x3) (ratio_Make.f (k + 1) x0 x1 x2 x3) := by
  intro x0 x1 x2 x3
  unfold ratio_Make.f
  repeat' (first
    | with_reducible exact Le.refl _
    | with_reducible refine Le.ite ?_ ?_
    | with_reducible refine Le.bind (whole_Clean.mono k _ _) (fun _ => ?_)
    | with_reducible refine Le.bind (whole_Sign.mono k _ _) (fun _ => ?_)
    | with_reducible refine Le.bind (whole_Neg.mono k _ _) (fun _ => ?_)
    | with_reducible refine Le.bind (ratio_form.mono k _ _ _) (fun _ => ?_)
    | with_reducible exact whole_Clean.mono k _ _
    | with_reducible exact whole_Sign.mono k _ _
    | with_reducible exact whole_Neg.mono k _ _
    | with_reducible exact ratio_form.mono k _ _ _
    | with_reducible refine Le.bind (Le.refl _) (fun _ => ?_)
    | split)
theorem ratio_Zero.mono (k : Nat) : Le (ratio_Zero.f k ) (ratio_Zero.f (k + 1) ) := by
  unfold ratio_Zero.f
  repeat' (first
    | with_reducible exact Le.refl _
    | with_reducible refine Le.ite ?_ ?_
    | with_reducible refine Le.bind (nat_Of.mono k _) (fun _ => ?_)
    | with_reducible exact nat_Of.mono k _
    | with_reducible refine Le.bind (Le.refl _) (fun _ => ?_)
    | split)
theorem whole_Of.mono (k : Nat) : ∀ x0, Le (whole_Of.f k x0) (whole_Of.f (k + 1) x0) := by
  intro x0
  unfold whole_Of.f
  repeat' (first
    | with_reducible exact Le.refl _
    | with_reducible refine Le.ite ?_ ?_
    | with_reducible refine Le.bind (nat_Of.mono k _) (fun _ => ?_)
    | with_reducible exact nat_Of.mono k _
    | with_reducible refine Le.bind (Le.refl _) (fun _ => ?_)
    | split)
theorem ratio_Of.mono (k : Nat) : ∀ x0, Le (ratio_Of.f k x0) (ratio_Of.f (k + 1) x0) := by
  intro x0
  unfold ratio_Of.f
  repeat' (first
    | with_reducible exact Le.refl _
    | with_reducible refine Le.ite ?_ ?_
    | with_reducible refine Le.bind (whole_Of.mono k _) (fun _ => ?_)
    | with_reducible refine Le.bind (nat_Of.mono k _) (fun _ => ?_)
    | with_reducible exact whole_Of.mono k _
    | with_reducible exact nat_Of.mono k _
    | with_reducible refine Le.bind (Le.refl _) (fun _ => ?_)
    | split)
theorem ratio_One.mono (k : Nat) : Le (ratio_One.f k ) (ratio_One.f (k + 1) ) := by
  unfold ratio_One.f
  repeat' (first
    | with_reducible exact Le.refl _
    | with_reducible refine Le.ite ?_ ?_
    | with_reducible refine Le.bind (ratio_Of.mono k _) (fun _ => ?_)
    | with_reducible exact ratio_Of.mono k _
    | with_reducible refine Le.bind (Le.refl _) (fun _ => ?_)
    | split)
theorem ratio_Int.mono (k : Nat) : ∀ x0 x1, Le (ratio_Int.f k x0 x1) (ratio_Int.f (k + 1) x0 x1) := by
  intro x0 x1
  unfold ratio_Int.f
  repeat' (first
    | with_reducible exact Le.refl _
    | with_reducible refine Le.ite ?_ ?_
    | with_reducible refine Le.bind (whole_Clean.mono k _ _) (fun _ => ?_)
    | with_reducible refine Le.bind (nat_Of.mono k _) (fun _ => ?_)
    | with_reducible exact whole_Clean.mono k _ _
    | with_reducible exact nat_Of.mono k _
    | with_reducible refine Le.bind (Le.refl _) (fun _ => ?_)
    | split)
theorem ratio_Clean.mono (k : Nat) : ∀ x0 x1 x2, Le (ratio_Clean.f k x0 x1 x2) (ratio_Clean.f (k + 1) x0 x1 x2) := by
  intro x0 x1 x2
  unfold ratio_Clean.f
  repeat' (first
    | with_reducible exact Le.refl _
    | with_reducible refine Le.ite ?_ ?_
    | with_reducible refine Le.bind (nat_Clean.mono k _) (fun _ => ?_)
    | with_reducible refine Le.bind (ratio_Zero.mono k ) (fun _ => ?_)
    | with_reducible refine Le.bind (whole_Clean.mono k _ _) (fun _ => ?_)
    | with_reducible refine Le.bind (ratio_form.mono k _ _ _) (fun _ => ?_)
    | with_reducible exact nat_Clean.mono k _
    | with_reducible exact ratio_Zero.mono k 
    | with_reducible exact whole_Clean.mono k _ _
    | with_reducible exact ratio_form.mono k _ _ _
    | with_reducible refine Le.bind (Le.refl _) (fun _ => ?_)
    | split)
theorem ratio_Frac.mono (k : Nat) : ∀ x0 x1, Le (ratio_Frac.f k x0 x1) (ratio_Frac.f (k + 1) x0 x1) := by
  intro x0 x1
  unfold ratio_Frac.f
  repeat' (first
    | with_reducible exact Le.refl _
    | with_reducible refine Le.ite ?_ ?_
    | with_reducible refine Le.bind (whole_Of.mono k _) (fun _ => ?_)
    | with_reducible refine Le.bind (ratio_Make.mono k _ _ _ _) (fun _ => ?_)
    | with_reducible refine Le.bind (ratio_Clean.mono k _ _ _) (fun _ => ?_)
    | with_reducible exact whole_Of.mono k _
    | with_reducible exact ratio_Make.mono k _ _ _ _
    | with_reducible exact ratio_Clean.mono k _ _ _
    | with_reducible refine Le.bind (Le.refl _) (fun _ => ?_)
    | split)
theorem nat_Add.monoL (k : Nat) : (∀ x0 x1 x2 x3 x4 x5, Le (nat_Add.l0 k x0 x1 x2 x3 x4 x5) (nat_Add.l0 (k + 1) x0 x1 x2 x3 x4 x5)) := by
  induction k with
  | zero => exact fun _ _ _ _ _ _ => Le.none _
  | succ k ih =>
    intro x0 x1 x2 x3 x4 x5
    refine Le.eqs (nat_Add.l0.eq_2 ..) (nat_Add.l0.eq_2 ..) ?_
    repeat' (first
      | with_reducible exact Le.refl _
      | with_reducible refine Le.ite ?_ ?_
      | with_reducible exact ih _ _ _ _ _ _
      | with_reducible refine Le.bind (ih _ _ _ _ _ _) (fun _ => ?_)
      | with_reducible refine Le.bind (nat_trim.mono k _) (fun _ => ?_)
      | with_reducible exact nat_trim.mono k _
      | with_reducible refine Le.bind (Le.refl _) (fun _ => ?_)
      | split)
theorem nat_Add.mono (k : Nat) : ∀ x0 x1, Le (nat_Add.f k x0 x1) (nat_Add.f (k + 1) x0 x1) := by
  intro x0 x1
  unfold nat_Add.f
  repeat' (first
    | with_reducible exact Le.refl _
    | with_reducible refine Le.ite ?_ ?_
    | with_reducible exact (nat_Add.monoL k) _ _ _ _ _ _
    | with_reducible refine Le.bind (nat_Clean.mono k _) (fun _ => ?_)
    | with_reducible exact nat_Clean.mono k _
    | with_reducible refine Le.bind (Le.refl _) (fun _ => ?_)
    | split)
theorem nat_Sub.mono (k : Nat) : ∀ x0 x1, Le (nat_Sub.f k x0 x1) (nat_Sub.f (k + 1) x0 x1) := by
  intro x0 x1
  unfold nat_Sub.f
  repeat' (first
    | with_reducible exact Le.refl _
    | with_reducible refine Le.ite ?_ ?_
    | with_reducible refine Le.bind (nat_Clean.mono k _) (fun _ => ?_)
    | with_reducible refine Le.bind (nat_order.mono k _ _) (fun _ => ?_)
    | with_reducible refine Le.bind (nat_minus.mono k _ _) (fun _ => ?_)
    | with_reducible exact nat_Clean.mono k _
    | with_reducible exact nat_order.mono k _ _
    | with_reducible exact nat_minus.mono k _ _
    | with_reducible refine Le.bind (Le.refl _) (fun _ => ?_)
    | split)
theorem whole_DivMod.mono (k : Nat) : ∀ x0 x1 x2 x3, Le (whole_DivMod.f k x0 x1 x2 x3) (whole_DivMod.f (k + 1) x0 x1 x2 x3) := by
  intro x0 x1 x2 x3
  unfold whole_DivMod.f
  repeat' (first
    | with_reducible exact Le.refl _
    | with_reducible refine Le.ite ?_ ?_
    | with_reducible refine Le.bind (whole_Clean.mono k _ _) (fun _ => ?_)
    | with_reducible refine Le.bind (nat_DivMod.mono k _ _) (fun _ => ?_)
    | with_reducible refine Le.bind (nat_Of.mono k _) (fun _ => ?_)
    | with_reducible refine Le.bind (nat_Add.mono k _ _) (fun _ => ?_)
    | with_reducible refine Le.bind (nat_Sub.mono k _ _) (fun _ => ?_)
    | with_reducible exact whole_Clean.mono k _ _
    | with_reducible exact nat_DivMod.mono k _ _
    | with_reducible exact nat_Of.mono k _
    | with_reducible exact nat_Add.mono k _ _
    | with_reducible exact nat_Sub.mono k _ _
    | with_reducible refine Le.bind (Le.refl _) (fun _ => ?_)
    | split)
theorem ratio_Floor.mono (k : Nat) : ∀ x0 x1 x2, Le (ratio_Floor.f k x0 x1 x2) (ratio_Floor.f (k + 1) x0 x1 x2) := by
  intro x0 x1 x2
  unfold ratio_Floor.f
  repeat' (first
    | with_reducible exact Le.refl _
    | with_reducible refine Le.ite ?_ ?_
    | with_reducible refine Le.bind (ratio_Clean.mono k _ _ _) (fun _ => ?_)
    | with_reducible refine Le.bind (whole_DivMod.mono k _ _ _ _) (fun _ => ?_)
    | with_reducible exact ratio_Clean.mono k _ _ _
    | with_reducible exact whole_DivMod.mono k _ _ _ _
    | with_reducible refine Le.bind (Le.refl _) (fun _ => ?_)
    | split)
theorem ratio_Neg.mono (k : Nat) : ∀ x0 x1 x2, Le (ratio_Neg.f k x0 x1 x2) (ratio_Neg.f (k + 1) x0 x1 x2) := by
  intro x0 x1 x2
  unfold ratio_Neg.f
  repeat' (first
    | with_reducible exact Le.refl _
    | with_reducible refine Le.ite ?_ ?_
    | with_reducible refine Le.bind (ratio_Clean.mono k _ _ _) (fun _ => ?_)
    | with_reducible refine Le.bind (whole_Neg.mono k _ _) (fun _ => ?_)
    | with_reducible exact ratio_Clean.mono k _ _ _
    | with_reducible exact whole_Neg.mono k _ _
    | with_reducible refine Le.bind (Le.refl _) (fun _ => ?_)
    | split)
theorem ratio_Ceil.mono (k : Nat) : ∀ x0 x1 x2, Le (ratio_Ceil.f k x0 x1 x2) (ratio_Ceil.f (k + 1) x0 x1 x2) := by
  intro x0 x1 x2
  unfold ratio_Ceil.f
  repeat' (first
    | with_reducible exact Le.refl _
    | with_reducible refine Le.ite ?_ ?_
    | with_reducible refine Le.bind (ratio_Neg.mono k _ _ _) (fun _ => ?_)
    | with_reducible refine Le.bind (ratio_Floor.mono k _ _ _) (fun _ => ?_)
    | with_reducible refine Le.bind (whole_Neg.mono k _ _) (fun _ => ?_)
    | with_reducible exact ratio_Neg.mono k _ _ _
    | with_reducible exact ratio_Floor.mono k _ _ _
    | with_reducible exact whole_Neg.mono k _ _
    | with_reducible refine Le.bind (Le.refl _) (fun _ => ?_)
    | split)
theorem nat_Cmp.mono (k : Nat) : ∀ x0 x1, Le (nat_Cmp.f k x0 x1) (nat_Cmp.f (k + 1) x0 x1) := by
  intro x0 x1
  unfold nat_Cmp.f
  repeat' (first
    | with_reducible exact Le.refl _
    | with_reducible refine Le.ite ?_ ?_
    | with_reducible refine Le.bind (nat_Clean.mono k _) (fun _ => ?_)
    | with_reducible refine Le.bind (nat_order.mono k _ _) (fun _ => ?_)
    | with_reducible exact nat_Clean.mono k _
    | with_reducible exact nat_order.mono k _ _
    | with_reducible refine Le.bind (Le.refl _) (fun _ => ?_)
    | split)
theorem whole_Cmp.mono (k : Nat) : ∀ x0 x1 x2 x3, Le (whole_Cmp.f k x0 x1 x2 x3) (whole_Cmp.f (k + 1) x0 x1 x2 x3) := by
  intro x0 x1 x2 x3
  unfold whole_Cmp.f
  repeat' (first
    | with_reducible exact Le.refl _
    | with_reducible refine Le.ite ?_ ?_
    | with_reducible refine Le.bind (whole_Clean.mono k _ _) (fun _ => ?_)
    | with_reducible refine Le.bind (nat_Cmp.mono k _ _) (fun _ => ?_)
    | with_reducible exact whole_Clean.mono k _ _
    | with_reducible exact nat_Cmp.mono k _ _
    | with_reducible refine Le.bind (Le.refl _) (fun _ => ?_)
    | split)
theorem nat_Mul.monoL (k : Nat) : (∀ x0 x1 x2 x3 x4, Le (nat_Mul.l0 k x0 x1 x2 x3 x4) (nat_Mul.l0 (k + 1) x0 x1 x2 x3 x4)) ∧ (∀ x0 x1 x2 x3 x4 x5 x6 x7 x8 x9 x10, Le (nat_Mul.l1 k x0 x1 x2 x3 x4 x5 x6 x7 x8 x9 x10) (nat_Mul.l1 (k + 1) x0 x1 x2 x3 x4 x5 x6 x7 x8 x9 x10)) := by
  induction k with
  | zero => exact ⟨fun _ _ _ _ _ => Le.none _, fun _ _ _ _ _ _ _ _ _ _ _ => Le.none _⟩
  | succ k ih =>
    refine ⟨?_, ?_⟩
    · intro x0 x1 x2 x3 x4
      refine Le.eqs (nat_Mul.l0.eq_2 ..) (nat_Mul.l0.eq_2 ..) ?_
      repeat' (first
        | with_reducible exact Le.refl _
        | with_reducible refine Le.ite ?_ ?_
        | with_reducible exact ih.2 _ _ _ _ _ _ _ _ _ _ _
        | with_reducible refine Le.bind (ih.2 _ _ _ _ _ _ _ _ _ _ _) (fun _ => ?_)
        | with_reducible refine Le.bind (nat_trim.mono k _) (fun _ => ?_)
        | with_reducible exact nat_trim.mono k _
        | with_reducible refine Le.bind (Le.refl _) (fun _ => ?_)
        | split)
    · intro x0 x1 x2 x3 x4 x5 x6 x7 x8 x9 x10
      refine Le.eqs (nat_Mul.l1.eq_2 ..) (nat_Mul.l1.eq_2 ..) ?_
      repeat' (first
        | with_reducible exact Le.refl _
        | with_reducible refine Le.ite ?_ ?_
        | with_reducible exact ih.1 _ _ _ _ _
        | with_reducible refine Le.bind (ih.1 _ _ _ _ _) (fun _ => ?_)
        | with_reducible exact ih.2 _ _ _ _ _ _ _ _ _ _ _
        | with_reducible refine Le.bind (ih.2 _ _ _ _ _ _ _ _ _ _ _) (fun _ => ?_)
        | with_reducible refine Le.bind (Le.refl _) (fun _ => ?_)
        | split)
theorem nat_Mul.mono (k : Nat) : ∀ x0 x1, Le (nat_Mul.f k x0 x1) (nat_Mul.f (k + 1) x0 x1) := by
  intro x0 x1
  unfold nat_Mul.f
  repeat' (first
    | with_reducible exact Le.refl _
    | with_reducible refine Le.ite ?_ ?_
    | with_reducible exact (nat_Mul.monoL k).1 _ _ _ _ _
    | with_reducible refine Le.bind (nat_Clean.mono k _) (fun _ => ?_)
    | with_reducible exact nat_Clean.mono k _
    | with_reducible refine Le.bind (Le.refl _) (fun _ => ?_)
    | split)
theorem whole_Mul.mono (k : Nat) : ∀ x0 x1 x2 x3, Le (whole_Mul.f k x0 x1 x2 x3) (whole_Mul.f (k + 1) x0 x1 x2 x3) := by
  intro x0 x1 x2 x3
  unfold whole_Mul.f
  repeat' (first
    | with_reducible exact Le.refl _
    | with_reducible refine Le.ite ?_ ?_
    | with_reducible refine Le.bind (whole_Clean.mono k _ _) (fun _ => ?_)
    | with_reducible refine Le.bind (nat_Mul.mono k _ _) (fun _ => ?_)
    | with_reducible exact whole_Clean.mono k _ _
    | with_reducible exact nat_Mul.mono k _ _
    | with_reducible refine Le.bind (Le.refl _) (fun _ => ?_)
    | split)
theorem ratio_Cmp.mono (k : Nat) : ∀ x0 x1 x2 x3 x4 x5, Le (ratio_Cmp.f k x0 x1 x2 x3 x4 x5) (ratio_Cmp.f (k + 1) x0 x1 x2 x3 x4 x5) := by
  intro x0 x1 x2 x3 x4 x5
  unfold ratio_Cmp.f
  repeat' (first
    | with_reducible exact Le.refl _
    | with_reducible refine Le.ite ?_ ?_
    | with_reducible refine Le.bind (ratio_Clean.mono k _ _ _) (fun _ => ?_)
    | with_reducible refine Le.bind (whole_Mul.mono k _ _ _ _) (fun _ => ?_)
    | with_reducible refine Le.bind (whole_Cmp.mono k _ _ _ _) (fun _ => ?_)
    | with_reducible exact ratio_Clean.mono k _ _ _
    | with_reducible exact whole_Mul.mono k _ _ _ _
    | with_reducible exact whole_Cmp.mono k _ _ _ _
    | with_reducible refine Le.bind (Le.refl _) (fun _ => ?_)
    | split)
theorem whole_Add.mono (k : Nat) : ∀ x0 x1 x2 x3, Le (whole_Add.f k x0 x1 x2 x3) (whole_Add.f (k + 1) x0 x1 x2 x3) := by
  intro x0 x1 x2 x3
  unfold whole_Add.f
  repeat' (first
    | with_reducible exact Le.refl _
    | with_reducible refine Le.ite ?_ ?_
    | with_reducible refine Le.bind (whole_Clean.mono k _ _) (fun _ => ?_)
    | with_reducible refine Le.bind (nat_Add.mono k _ _) (fun _ => ?_)
    | with_reducible refine Le.bind (nat_Cmp.mono k _ _) (fun _ => ?_)
    | with_reducible refine Le.bind (nat_Sub.mono k _ _) (fun _ => ?_)
    | with_reducible exact whole_Clean.mono k _ _
    | with_reducible exact nat_Add.mono k _ _
    | with_reducible exact nat_Cmp.mono k _ _
    | with_reducible exact nat_Sub.mono k _ _
    | with_reducible refine Le.bind (Le.refl _) (fun _ => ?_)
    | split)
theorem ratio_Add.mono (k : Nat) : ∀ x0 x1 x2 x3 x4 x5, Le (ratio_Add.f k x0 x1 x2 x3 x4 x5) (ratio_Add.f (k + 1) x0 x1 x2 x3 x4 x5) := by
  intro x0 x1 x2 x3 x4 x5
  unfold ratio_Add.f
  repeat' (first
    | with_reducible exact Le.refl _
    | with_reducible refine Le.ite ?_ ?_
    | with_reducible refine Le.bind (ratio_Clean.mono k _ _ _) (fun _ => ?_)
    | with_reducible refine Le.bind (whole_Mul.mono k _ _ _ _) (fun _ => ?_)
    | with_reducible refine Le.bind (whole_Add.mono k _ _ _ _) (fun _ => ?_)
    | with_reducible refine Le.bind (nat_Mul.mono k _ _) (fun _ => ?_)
    | with_reducible refine Le.bind (ratio_form.mono k _ _ _) (fun _ => ?_)
    | with_reducible exact ratio_Clean.mono k _ _ _
    | with_reducible exact whole_Mul.mono k _ _ _ _
    | with_reducible exact whole_Add.mono k _ _ _ _
    | with_reducible exact nat_Mul.mono k _ _
    | with_reducible exact ratio_form.mono k _ _ _
    | with_reducible refine Le.bind (Le.refl _) (fun _ => ?_)
    | split)
theorem ratio_Sub.mono (k : Nat) : ∀ x0 x1 x2 x3 x4 x5, Le (ratio_Sub.f k x0 x1 x2 x3 x4 x5) (ratio_Sub.f (k + 1) x0 x1 x2 x3 x4 x5) := by
  intro x0 x1 x2 x3 x4 x5
  unfold ratio_Sub.f
  repeat' (first
    | with_reducible exact Le.refl _
    | with_reducible refine Le.ite ?_ ?_
    | with_reducible refine Le.bind (ratio_Neg.mono k _ _ _) (fun _ => ?_)
    | with_reducible refine Le.bind (ratio_Add.mono k _ _ _ _ _ _) (fun _ => ?_)
    | with_reducible exact ratio_Neg.mono k _ _ _
    | with_reducible exact ratio_Add.mono k _ _ _ _ _ _
    | with_reducible refine Le.bind (Le.refl _) (fun _ => ?_)
    | split)
theorem ratio_Sign.mono (k : Nat) : ∀ x0 x1 x2, Le (ratio_Sign.f k x0 x1 x2) (ratio_Sign.f (k + 1) x0 x1 x2) := by
  intro x0 x1 x2
  unfold ratio_Sign.f
  repeat' (first
    | with_reducible exact Le.refl _
    | with_reducible refine Le.ite ?_ ?_
    | with_reducible refine Le.bind (ratio_Clean.mono k _ _ _) (fun _ => ?_)
    | with_reducible refine Le.bind (whole_Sign.mono k _ _) (fun _ => ?_)
    | with_reducible exact ratio_Clean.mono k _ _ _
    | with_reducible exact whole_Sign.mono k _ _
    | with_reducible refine Le.bind (Le.refl _) (fun _ => ?_)
    | split)
theorem ratio_Mul.mono (k : Nat) : ∀ x0 x1 x2 x3 x4 x5, Le (ratio_Mul.f k x0 x1 x2 x3 x4 x5) (ratio_Mul.f (k + 1) x0 x1 x2 x3 x4 x5) := by
  intro x0 x1 x2 x3 x4 x5
  unfold ratio_Mul.f
  repeat' (first
    | with_reducible exact Le.refl _
    | with_reducible refine Le.ite ?_ ?_
    | with_reducible refine Le.bind (ratio_Clean.mono k _ _ _) (fun _ => ?_)
    | with_reducible refine Le.bind (whole_Mul.mono k _ _ _ _) (fun _ => ?_)
    | with_reducible refine Le.bind (nat_Mul.mono k _ _) (fun _ => ?_)
    | with_reducible refine Le.bind (ratio_form.mono k _ _ _) (fun _ => ?_)
    | with_reducible exact ratio_Clean.mono k _ _ _
    | with_reducible exact whole_Mul.mono k _ _ _ _
    | with_reducible exact nat_Mul.mono k _ _
    | with_reducible exact ratio_form.mono k _ _ _
    | with_reducible refine Le.bind (Le.refl _) (fun _ => ?_)
    | split)
theorem ratio_Inv.mono (k : Nat) : ∀ x0 x1 x2, Le (ratio_Inv.f k x0 x1 x2) (ratio_Inv.f (k + 1) x0 x1 x2) := by
  intro x0 x1 x2
  unfold ratio_Inv.f
  repeat' (first
    | with_reducible exact Le.refl _
    | with_reducible refine Le.ite ?_ ?_
    | with_reducible refine Le.bind (ratio_Clean.mono k _ _ _) (fun _ => ?_)
    | with_reducible refine Le.bind (ratio_Make.mono k _ _ _ _) (fun _ => ?_)
    | with_reducible exact ratio_Clean.mono k _ _ _
    | with_reducible exact ratio_Make.mono k _ _ _ _
    | with_reducible refine Le.bind (Le.refl _) (fun _ => ?_)
    | split)
theorem ratio_Div.mono (k : Nat) : ∀ x0 x1 x2 x3 x4 x5, Le (ratio_Div.f k x0 x1 x2 x3 x4 x5) (ratio_Div.f (k + 1) x0 x1 x2 x3 x4 x5) := by
  intro x0 x1 x2 x3 x4 x5
  unfold ratio_Div.f
  repeat' (first
    | with_reducible exact Le.refl _
    | with_reducible refine Le.ite ?_ ?_
    | with_reducible refine Le.bind (ratio_Inv.mono k _ _ _) (fun _ => ?_)
    | with_reducible refine Le.bind (ratio_Mul.mono k _ _ _ _ _ _) (fun _ => ?_)
    | with_reducible exact ratio_Inv.mono k _ _ _
    | with_reducible exact ratio_Mul.mono k _ _ _ _ _ _
    | with_reducible refine Le.bind (Le.refl _) (fun _ => ?_)
    | split)
theorem ratio_over.mono (k : Nat) : ∀ x0 x1 x2 x3 x4 x5, Le (ratio_over.f k x0 x1 x2 x3 x4 x5) (ratio_over.f (k + 1) x0 x1 x2 x3 x4 x5) := by
  intro x0 x1 x2 x3 x4 x5
  unfold ratio_over.f
  repeat' (first
    | with_reducible exact Le.refl _
    | with_reducible refine Le.ite ?_ ?_
    | with_reducible refine Le.bind (ratio_Div.mono k _ _ _ _ _ _) (fun _ => ?_)
    | with_reducible exact ratio_Div.mono k _ _ _ _ _ _
    | with_reducible refine Le.bind (Le.refl _) (fun _ => ?_)
    | split)
theorem ratio_unfold.monoL (k : Nat) : (∀ x0 x1 x2 x3 x4 x5, Le (ratio_unfold.l0 k x0 x1 x2 x3 x4 x5) (ratio_unfold.l0 (k + 1) x0 x1 x2 x3 x4 x5)) := by
  induction k with
  | zero => exact fun _ _ _ _ _ _ => Le.none _
  | succ k ih =>
    intro x0 x1 x2 x3 x4 x5
    refine Le.eqs (ratio_unfold.l0.eq_2 ..) (ratio_unfold.l0.eq_2 ..) ?_
    repeat' (first
      | with_reducible exact Le.refl _
      | with_reducible refine Le.ite ?_ ?_
      | with_reducible exact ih _ _ _ _ _ _
      | with_reducible refine Le.bind (ih _ _ _ _ _ _) (fun _ => ?_)
      | with_reducible refine Le.bind (ratio_One.mono k ) (fun _ => ?_)
      | with_reducible refine Le.bind (ratio_over.mono k _ _ _ _ _ _) (fun _ => ?_)
      | with_reducible refine Le.bind (ratio_Add.mono k _ _ _ _ _ _) (fun _ => ?_)
      | with_reducible exact ratio_One.mono k 
      | with_reducible exact ratio_over.mono k _ _ _ _ _ _
      | with_reducible exact ratio_Add.mono k _ _ _ _ _ _
      | with_reducible refine Le.bind (Le.refl _) (fun _ => ?_)
      | split)
theorem ratio_unfold.mono (k : Nat) : ∀ x0 x1 x2 x3, Le (ratio_unfold.f k x0 x1 x2 x3) (ratio_unfold.f (k + 1) x0 x1 x2 x3) := by
  intro x0 x1 x2 x3
  unfold ratio_unfold.f
  repeat' (first
    | with_reducible exact Le.refl _
    | with_reducible refine Le.ite ?_ ?_
    | with_reducible exact (ratio_unfold.monoL k) _ _ _ _ _ _
    | with_reducible refine Le.bind (Le.refl _) (fun _ => ?_)
    | split)
theorem ratio_Simplest.monoL (k : Nat) : (∀ x0 x1 x2 x3 x4 x5 x6 x7, Le (ratio_Simplest.l0 k x0 x1 x2 x3 x4 x5 x6 x7) (ratio_Simplest.l0 (k + 1) x0 x1 x2 x3 x4 x5 x6 x7)) ∧ (∀ x0 x1 x2 x3 x4 x5, Le (ratio_Simplest.f k x0 x1 x2 x3 x4 x5) (ratio_Simplest.f (k + 1) x0 x1 x2 x3 x4 x5)) := by
  induction k with
  | zero => exact ⟨fun _ _ _ _ _ _ _ _ => Le.none _, fun _ _ _ _ _ _ => Le.none _⟩
  | succ k ih =>
    refine ⟨?_, ?_⟩
    · intro x0 x1 x2 x3 x4 x5 x6 x7
      refine Le.eqs (ratio_Simplest.l0.eq_2 ..) (ratio_Simplest.l0.eq_2 ..) ?_
      repeat' (first
        | with_reducible exact Le.refl _
        | with_reducible refine Le.ite ?_ ?_
        | with_reducible exact ih.1 _ _ _ _ _ _ _ _
        | with_reducible refine Le.bind (ih.1 _ _ _ _ _ _ _ _) (fun _ => ?_)
        | with_reducible refine Le.bind (ratio_Ceil.mono k _ _ _) (fun _ => ?_)
        | with_reducible refine Le.bind (ratio_Int.mono k _ _) (fun _ => ?_)
        | with_reducible refine Le.bind (ratio_Cmp.mono k _ _ _ _ _ _) (fun _ => ?_)
        | with_reducible refine Le.bind (ratio_unfold.mono k _ _ _ _) (fun _ => ?_)
        | with_reducible refine Le.bind (ratio_Floor.mono k _ _ _) (fun _ => ?_)
        | with_reducible refine Le.bind (ratio_One.mono k ) (fun _ => ?_)
        | with_reducible refine Le.bind (ratio_Sub.mono k _ _ _ _ _ _) (fun _ => ?_)
        | with_reducible refine Le.bind (ratio_over.mono k _ _ _ _ _ _) (fun _ => ?_)
        | with_reducible exact ratio_Ceil.mono k _ _ _
        | with_reducible exact ratio_Int.mono k _ _
        | with_reducible exact ratio_Cmp.mono k _ _ _ _ _ _
        | with_reducible exact ratio_unfold.mono k _ _ _ _
        | with_reducible exact ratio_Floor.mono k _ _ _
        | with_reducible exact ratio_One.mono k 
        | with_reducible exact ratio_Sub.mono k _ _ _ _ _ _
        | with_reducible exact ratio_over.mono k _ _ _ _ _ _
        | with_reducible refine Le.bind (Le.refl _) (fun _ => ?_)
        | split)
    · intro x0 x1 x2 x3 x4 x5
      refine Le.eqs (ratio_Simplest.f.eq_2 ..) (ratio_Simplest.f.eq_2 ..) ?_
      repeat' (first
        | with_reducible exact Le.refl _
        | with_reducible refine Le.ite ?_ ?_
        | with_reducible exact ih.1 _ _ _ _ _ _ _ _
        | with_reducible refine Le.bind (ih.1 _ _ _ _ _ _ _ _) (fun _ => ?_)
        | with_reducible exact ih.2 _ _ _ _ _ _
        | with_reducible refine Le.bind (ih.2 _ _ _ _ _ _) (fun _ => ?_)
        | with_reducible refine Le.bind (ratio_Clean.mono k _ _ _) (fun _ => ?_)
        | with_reducible refine Le.bind (ratio_Cmp.mono k _ _ _ _ _ _) (fun _ => ?_)
        | with_reducible refine Le.bind (ratio_Sign.mono k _ _ _) (fun _ => ?_)
        | with_reducible refine Le.bind (ratio_Zero.mono k ) (fun _ => ?_)
        | with_reducible refine Le.bind (ratio_Neg.mono k _ _ _) (fun _ => ?_)
        | with_reducible exact ratio_Clean.mono k _ _ _
        | with_reducible exact ratio_Cmp.mono k _ _ _ _ _ _
        | with_reducible exact ratio_Sign.mono k _ _ _
        | with_reducible exact ratio_Zero.mono k 
        | with_reducible exact ratio_Neg.mono k _ _ _
        | with_reducible refine Le.bind (Le.refl _) (fun _ => ?_)
        | split)
theorem ratio_Simplest.mono (k : Nat) : ∀ x0 x1 x2 x3 x4 x5, Le (ratio_Simplest.f k x0 x1 x2 x3 x4 x5) (ratio_Simplest.f (k + 1) x0 x1 x2 x3 x4 x5) := (ratio_Simplest.monoL k).2
theorem ratio_Same.mono (k : Nat) : ∀ x0 x1 x2 x3 x4 x5, Le (ratio_Same.f k x0 x1 x2 x3 x4 x5) (ratio_Same.f (k + 1) x0 x1 x2 x3 x4 x5) := by
  intro x0 x1 x2 x3 x4 x5
  unfold ratio_Same.f
  repeat' (first
    | with_reducible exact Le.refl _
    | with_reducible refine Le.ite ?_ ?_
    | with_reducible refine Le.bind (ratio_Cmp.mono k _ _ _ _ _ _) (fun _ => ?_)
    | with_reducible exact ratio_Cmp.mono k _ _ _ _ _ _
    | with_reducible refine Le.bind (Le.refl _) (fun _ => ?_)
    | split)
theorem ratio_middle.mono (k : Nat) : ∀ x0 x1 x2 x3 x4 x5, Le (ratio_middle.f k x0 x1 x2 x3 x4 x5) (ratio_middle.f (k + 1) x0 x1 x2 x3 x4 x5) := by
  intro x0 x1 x2 x3 x4 x5
  unfold ratio_middle.f
  repeat' (first
    | with_reducible exact Le.refl _
    | with_reducible refine Le.ite ?_ ?_
    | with_reducible refine Le.bind (whole_Add.mono k _ _ _ _) (fun _ => ?_)
    | with_reducible refine Le.bind (nat_Add.mono k _ _) (fun _ => ?_)
    | with_reducible refine Le.bind (ratio_form.mono k _ _ _) (fun _ => ?_)
    | with_reducible exact whole_Add.mono k _ _ _ _
    | with_reducible exact nat_Add.mono k _ _
    | with_reducible exact ratio_form.mono k _ _ _
    | with_reducible refine Le.bind (Le.refl _) (fun _ => ?_)
    | split)
theorem ratio_Near.monoL (k : Nat) : (∀ x0 x1 x2 x3 x4 x5 x6 x7 x8 x9 x10, Le (ratio_Near.l0 k x0 x1 x2 x3 x4 x5 x6 x7 x8 x9 x10) (ratio_Near.l0 (k + 1) x0 x1 x2 x3 x4 x5 x6 x7 x8 x9 x10)) := by
  induction k with
  | zero => exact fun _ _ _ _ _ _ _ _ _ _ _ => Le.none _
  | succ k ih =>
    intro x0 x1 x2 x3 x4 x5 x6 x7 x8 x9 x10
    refine Le.eqs (ratio_Near.l0.eq_2 ..) (ratio_Near.l0.eq_2 ..) ?_
    repeat' (first
      | with_reducible exact Le.refl _
      | with_reducible refine Le.ite ?_ ?_
      | with_reducible exact ih _ _ _ _ _ _ _ _ _ _ _
      | with_reducible refine Le.bind (ih _ _ _ _ _ _ _ _ _ _ _) (fun _ => ?_)
      | with_reducible refine Le.bind (nat_Add.mono k _ _) (fun _ => ?_)
      | with_reducible refine Le.bind (nat_Cmp.mono k _ _) (fun _ => ?_)
      | with_reducible refine Le.bind (ratio_middle.mono k _ _ _ _ _ _) (fun _ => ?_)
      | with_reducible refine Le.bind (ratio_Cmp.mono k _ _ _ _ _ _) (fun _ => ?_)
      | with_reducible refine Le.bind (ratio_Sub.mono k _ _ _ _ _ _) (fun _ => ?_)
      | with_reducible exact nat_Add.mono k _ _
      | with_reducible exact nat_Cmp.mono k _ _
      | with_reducible exact ratio_middle.mono k _ _ _ _ _ _
      | with_reducible exact ratio_Cmp.mono k _ _ _ _ _ _
      | with_reducible exact ratio_Sub.mono k _ _ _ _ _ _
      | with_reducible refine Le.bind (Le.refl _) (fun _ => ?_)
      | split)
theorem ratio_Near.mono (k : Nat) : ∀ x0 x1 x2 x3, Le (ratio_Near.f k x0 x1 x2 x3) (ratio_Near.f (k + 1) x0 x1 x2 x3) := by
  intro x0 x1 x2 x3
  unfold ratio_Near.f
  repeat' (first
    | with_reducible exact Le.refl _
    | with_reducible refine Le.ite ?_ ?_
    | with_reducible exact (ratio_Near.monoL k) _ _ _ _ _ _ _ _ _ _ _
    | with_reducible refine Le.bind (ratio_Clean.mono k _ _ _) (fun _ => ?_)
    | with_reducible refine Le.bind (ratio_Floor.mono k _ _ _) (fun _ => ?_)
    | with_reducible refine Le.bind (ratio_Int.mono k _ _) (fun _ => ?_)
    | with_reducible refine Le.bind (ratio_One.mono k ) (fun _ => ?_)
    | with_reducible refine Le.bind (ratio_Add.mono k _ _ _ _ _ _) (fun _ => ?_)
    | with_reducible refine Le.bind (ratio_Same.mono k _ _ _ _ _ _) (fun _ => ?_)
    | with_reducible refine Le.bind (nat_Of.mono k _) (fun _ => ?_)
    | with_reducible exact ratio_Clean.mono k _ _ _
    | with_reducible exact ratio_Floor.mono k _ _ _
    | with_reducible exact ratio_Int.mono k _ _
    | with_reducible exact ratio_One.mono k 
    | with_reducible exact ratio_Add.mono k _ _ _ _ _ _
    | with_reducible exact ratio_Same.mono k _ _ _ _ _ _
    | with_reducible exact nat_Of.mono k _
    | with_reducible refine Le.bind (Le.refl _) (fun _ => ?_)
    | split)
theorem ratio_ten.monoL (k : Nat) : (∀ x0 x1 x2, Le (ratio_ten.l0 k x0 x1 x2) (ratio_ten.l0 (k + 1) x0 x1 x2)) := by
  induction k with
  | zero => exact fun _ _ _ => Le.none _
  | succ k ih =>
    intro x0 x1 x2
    refine Le.eqs (ratio_ten.l0.eq_2 ..) (ratio_ten.l0.eq_2 ..) ?_
    repeat' (first
      | with_reducible exact Le.refl _
      | with_reducible refine Le.ite ?_ ?_
      | with_reducible exact ih _ _ _
      | with_reducible refine Le.bind (ih _ _ _) (fun _ => ?_)
      | with_reducible refine Le.bind (nat_Of.mono k _) (fun _ => ?_)
      | with_reducible refine Le.bind (nat_Mul.mono k _ _) (fun _ => ?_)
      | with_reducible exact nat_Of.mono k _
      | with_reducible exact nat_Mul.mono k _ _
      | with_reducible refine Le.bind (Le.refl _) (fun _ => ?_)
      | split)
theorem ratio_ten.mono (k : Nat) : ∀ x0, Le (ratio_ten.f k x0) (ratio_ten.f (k + 1) x0) := by
  intro x0
  unfold ratio_ten.f
  repeat' (first
    | with_reducible exact Le.refl _
    | with_reducible refine Le.ite ?_ ?_
    | with_reducible exact (ratio_ten.monoL k) _ _ _
    | with_reducible refine Le.bind (nat_Of.mono k _) (fun _ => ?_)
    | with_reducible exact nat_Of.mono k _
    | with_reducible refine Le.bind (Le.refl _) (fun _ => ?_)
    | split)
theorem stringslite_Index.mono (k : Nat) : ∀ x0 x1, Le (stringslite_Index.f k x0 x1) (stringslite_Index.f (k + 1) x0 x1) := by
  intro x0 x1
  unfold stringslite_Index.f
  repeat' (first
    | with_reducible exact Le.refl _
    | with_reducible refine Le.ite ?_ ?_
    | with_reducible refine Le.bind (Le.refl _) (fun _ => ?_)
    | split)
theorem stringslite_Cut.mono (k : Nat) : ∀ x0 x1, Le (stringslite_Cut.f k x0 x1) (stringslite_Cut.f (k + 1) x0 x1) := by
  intro x0 x1
  unfold stringslite_Cut.f
  repeat' (first
    | with_reducible exact Le.refl _
    | with_reducible refine Le.ite ?_ ?_
    | with_reducible refine Le.bind (stringslite_Index.mono k _ _) (fun _ => ?_)
    | with_reducible exact stringslite_Index.mono k _ _
    | with_reducible refine Le.bind (Le.refl _) (fun _ => ?_)
    | split)
theorem strings_Cut.mono (k : Nat) : ∀ x0 x1, Le (strings_Cut.f k x0 x1) (strings_Cut.f (k + 1) x0 x1) := by
  intro x0 x1
  unfold strings_Cut.f
  repeat' (first
    | with_reducible exact Le.refl _
    | with_reducible refine Le.ite ?_ ?_
    | with_reducible refine Le.bind (stringslite_Cut.mono k _ _) (fun _ => ?_)
    | with_reducible exact stringslite_Cut.mono k _ _
    | with_reducible refine Le.bind (Le.refl _) (fun _ => ?_)
    | split)
theorem nat_plus.monoL (k : Nat) : (∀ x0 x1 x2 x3 x4, Le (nat_plus.l0 k x0 x1 x2 x3 x4) (nat_plus.l0 (k + 1) x0 x1 x2 x3 x4)) := by
  induction k with
  | zero => exact fun _ _ _ _ _ => Le.none _
  | succ k ih =>
    intro x0 x1 x2 x3 x4
    refine Le.eqs (nat_plus.l0.eq_2 ..) (nat_plus.l0.eq_2 ..) ?_
    repeat' (first
      | with_reducible exact Le.refl _
      | with_reducible refine Le.ite ?_ ?_
      | with_reducible exact ih _ _ _ _ _
      | with_reducible refine Le.bind (ih _ _ _ _ _) (fun _ => ?_)
      | with_reducible refine Le.bind (nat_trim.mono k _) (fun _ => ?_)
      | with_reducible exact nat_trim.mono k _
      | with_reducible refine Le.bind (Le.refl _) (fun _ => ?_)
      | split)
theorem nat_plus.mono (k : Nat) : ∀ x0 x1, Le (nat_plus.f k x0 x1) (nat_plus.f (k + 1) x0 x1) := by
  intro x0 x1
  unfold nat_plus.f
  repeat' (first
    | with_reducible exact Le.refl _
    | with_reducible refine Le.ite ?_ ?_
    | with_reducible exact (nat_plus.monoL k) _ _ _ _ _
    | with_reducible refine Le.bind (Le.refl _) (fun _ => ?_)
    | split)
theorem nat_Parse.monoL (k : Nat) : (∀ x0 x1 x2, Le (nat_Parse.l0 k x0 x1 x2) (nat_Parse.l0 (k + 1) x0 x1 x2)) ∧ (∀ x0 x1, Le (nat_Parse.l1 k x0 x1) (nat_Parse.l1 (k + 1) x0 x1)) ∧ (∀ x0 x1 x2 x3 x4 x5 x6, Le (nat_Parse.l2 k x0 x1 x2 x3 x4 x5 x6) (nat_Parse.l2 (k + 1) x0 x1 x2 x3 x4 x5 x6)) := by
  induction k with
  | zero => exact ⟨fun _ _ _ => Le.none _, fun _ _ => Le.none _, fun _ _ _ _ _ _ _ => Le.none _⟩
  | succ k ih =>
    refine ⟨?_, ?_, ?_⟩
    · intro x0 x1 x2
      refine Le.eqs (nat_Parse.l0.eq_2 ..) (nat_Parse.l0.eq_2 ..) ?_
      repeat' (first
        | with_reducible exact Le.refl _
        | with_reducible refine Le.ite ?_ ?_
        | with_reducible exact ih.1 _ _ _
        | with_reducible refine Le.bind (ih.1 _ _ _) (fun _ => ?_)
        | with_reducible exact ih.2.1 _ _
        | with_reducible refine Le.bind (ih.2.1 _ _) (fun _ => ?_)
        | with_reducible refine Le.bind (Le.refl _) (fun _ => ?_)
        | split)
    · intro x0 x1
      refine Le.eqs (nat_Parse.l1.eq_2 ..) (nat_Parse.l1.eq_2 ..) ?_
      repeat' (first
        | with_reducible exact Le.refl _
        | with_reducible refine Le.ite ?_ ?_
        | with_reducible exact ih.2.2 _ _ _ _ _ _ _
        | with_reducible refine Le.bind (ih.2.2 _ _ _ _ _ _ _) (fun _ => ?_)
        | with_reducible refine Le.bind (Le.refl _) (fun _ => ?_)
        | split)
    · intro x0 x1 x2 x3 x4 x5 x6
      refine Le.eqs (nat_Parse.l2.eq_2 ..) (nat_Parse.l2.eq_2 ..) ?_
      repeat' (first
        | with_reducible exact Le.refl _
        | with_reducible refine Le.ite ?_ ?_
        | with_reducible exact ih.2.1 _ _
        | with_reducible refine Le.bind (ih.2.1 _ _) (fun _ => ?_)
        | with_reducible exact ih.2.2 _ _ _ _ _ _ _
        | with_reducible refine Le.bind (ih.2.2 _ _ _ _ _ _ _) (fun _ => ?_)
        | with_reducible refine Le.bind (nat_plus.mono k _ _) (fun _ => ?_)
        | with_reducible exact nat_plus.mono k _ _
        | with_reducible refine Le.bind (Le.refl _) (fun _ => ?_)
        | split)
theorem nat_Parse.mono (k : Nat) : ∀ x0, Le (nat_Parse.f k x0) (nat_Parse.f (k + 1) x0) := by
  intro x0
  unfold nat_Parse.f
  repeat' (first
    | with_reducible exact Le.refl _
    | with_reducible refine Le.ite ?_ ?_
    | with_reducible exact (nat_Parse.monoL k).1 _ _ _
    | with_reducible refine Le.bind (Le.refl _) (fun _ => ?_)
    | split)
theorem ratio_plain.mono (k : Nat) : ∀ x0, Le (ratio_plain.f k x0) (ratio_plain.f (k + 1) x0) := by
  intro x0
  unfold ratio_plain.f
  repeat' (first
    | with_reducible exact Le.refl _
    | with_reducible refine Le.ite ?_ ?_
    | with_reducible refine Le.bind (strings_Cut.mono k _ _) (fun _ => ?_)
    | with_reducible refine Le.bind (nat_Parse.mono k _) (fun _ => ?_)
    | with_reducible refine Le.bind (ratio_form.mono k _ _ _) (fun _ => ?_)
    | with_reducible refine Le.bind (ratio_ten.mono k _) (fun _ => ?_)
    | with_reducible refine Le.bind (nat_Mul.mono k _ _) (fun _ => ?_)
    | with_reducible refine Le.bind (nat_Add.mono k _ _) (fun _ => ?_)
    | with_reducible refine Le.bind (nat_Of.mono k _) (fun _ => ?_)
    | with_reducible exact strings_Cut.mono k _ _
    | with_reducible exact nat_Parse.mono k _
    | with_reducible exact ratio_form.mono k _ _ _
    | with_reducible exact ratio_ten.mono k _
    | with_reducible exact nat_Mul.mono k _ _
    | with_reducible exact nat_Add.mono k _ _
    | with_reducible exact nat_Of.mono k _
    | with_reducible refine Le.bind (Le.refl _) (fun _ => ?_)
    | split)
theorem ratio_Parse.mono (k : Nat) : ∀ x0, Le (ratio_Parse.f k x0) (ratio_Parse.f (k + 1) x0) := by
  intro x0
  unfold ratio_Parse.f
  repeat' (first
    | with_reducible exact Le.refl _
    | with_reducible refine Le.ite ?_ ?_
    | with_reducible refine Le.bind (ratio_plain.mono k _) (fun _ => ?_)
    | with_reducible refine Le.bind (ratio_Neg.mono k _ _ _) (fun _ => ?_)
    | with_reducible exact ratio_plain.mono k _
    | with_reducible exact ratio_Neg.mono k _ _ _
    | with_reducible refine Le.bind (Le.refl _) (fun _ => ?_)
    | split)
theorem nat_Bit.mono (k : Nat) : ∀ x0 x1, Le (nat_Bit.f k x0 x1) (nat_Bit.f (k + 1) x0 x1) := by
  intro x0 x1
  unfold nat_Bit.f
  repeat' (first
    | with_reducible exact Le.refl _
    | with_reducible refine Le.ite ?_ ?_
    | with_reducible refine Le.bind (nat_Clean.mono k _) (fun _ => ?_)
    | with_reducible exact nat_Clean.mono k _
    | with_reducible refine Le.bind (Le.refl _) (fun _ => ?_)
    | split)
theorem nat_Even.mono (k : Nat) : ∀ x0, Le (nat_Even.f k x0) (nat_Even.f (k + 1) x0) := by
  intro x0
  unfold nat_Even.f
  repeat' (first
    | with_reducible exact Le.refl _
    | with_reducible refine Le.ite ?_ ?_
    | with_reducible refine Le.bind (nat_Bit.mono k _ _) (fun _ => ?_)
    | with_reducible exact nat_Bit.mono k _ _
    | with_reducible refine Le.bind (Le.refl _) (fun _ => ?_)
    | split)
theorem ratio_Round.mono (k : Nat) : ∀ x0 x1 x2, Le (ratio_Round.f k x0 x1 x2) (ratio_Round.f (k + 1) x0 x1 x2) := by
  intro x0 x1 x2
  unfold ratio_Round.f
  repeat' (first
    | with_reducible exact Le.refl _
    | with_reducible refine Le.ite ?_ ?_
    | with_reducible refine Le.bind (ratio_Floor.mono k _ _ _) (fun _ => ?_)
    | with_reducible refine Le.bind (ratio_Int.mono k _ _) (fun _ => ?_)
    | with_reducible refine Le.bind (ratio_Sub.mono k _ _ _ _ _ _) (fun _ => ?_)
    | with_reducible refine Le.bind (ratio_Frac.mono k _ _) (fun _ => ?_)
    | with_reducible refine Le.bind (ratio_Cmp.mono k _ _ _ _ _ _) (fun _ => ?_)
    | with_reducible refine Le.bind (nat_Even.mono k _) (fun _ => ?_)
    | with_reducible refine Le.bind (whole_Of.mono k _) (fun _ => ?_)
    | with_reducible refine Le.bind (whole_Add.mono k _ _ _ _) (fun _ => ?_)
    | with_reducible exact ratio_Floor.mono k _ _ _
    | with_reducible exact ratio_Int.mono k _ _
    | with_reducible exact ratio_Sub.mono k _ _ _ _ _ _
    | with_reducible exact ratio_Frac.mono k _ _
    | with_reducible exact ratio_Cmp.mono k _ _ _ _ _ _
    | with_reducible exact nat_Even.mono k _
    | with_reducible exact whole_Of.mono k _
    | with_reducible exact whole_Add.mono k _ _ _ _
    | with_reducible refine Le.bind (Le.refl _) (fun _ => ?_)
    | split)
theorem nat_nine.monoL (k : Nat) : (∀ x0 x1 x2, Le (nat_nine.l0 k x0 x1 x2) (nat_nine.l0 (k + 1) x0 x1 x2)) := by
  induction k with
  | zero => exact fun _ _ _ => Le.none _
  | succ k ih =>
    intro x0 x1 x2
    refine Le.eqs (nat_nine.l0.eq_2 ..) (nat_nine.l0.eq_2 ..) ?_
    repeat' (first
      | with_reducible exact Le.refl _
      | with_reducible refine Le.ite ?_ ?_
      | with_reducible exact ih _ _ _
      | with_reducible refine Le.bind (ih _ _ _) (fun _ => ?_)
      | with_reducible refine Le.bind (Le.refl _) (fun _ => ?_)
      | split)
theorem nat_nine.mono (k : Nat) : ∀ x0, Le (nat_nine.f k x0) (nat_nine.f (k + 1) x0) := by
  intro x0
  unfold nat_nine.f
  repeat' (first
    | with_reducible exact Le.refl _
    | with_reducible refine Le.ite ?_ ?_
    | with_reducible exact (nat_nine.monoL k) _ _ _
    | with_reducible refine Le.bind (Le.refl _) (fun _ => ?_)
    | split)
theorem nat_Print.monoL (k : Nat) : (∀ x0 x1, Le (nat_Print.l0 k x0 x1) (nat_Print.l0 (k + 1) x0 x1)) ∧ (∀ x0 x1 x2, Le (nat_Print.l1 k x0 x1 x2) (nat_Print.l1 (k + 1) x0 x1 x2)) ∧ (∀ x0 x1, Le (nat_Print.l2 k x0 x1) (nat_Print.l2 (k + 1) x0 x1)) := by
  induction k with
  | zero => exact ⟨fun _ _ => Le.none _, fun _ _ _ => Le.none _, fun _ _ => Le.none _⟩
  | succ k ih =>
    refine ⟨?_, ?_, ?_⟩
    · intro x0 x1
      refine Le.eqs (nat_Print.l0.eq_2 ..) (nat_Print.l0.eq_2 ..) ?_
      repeat' (first
        | with_reducible exact Le.refl _
        | with_reducible refine Le.ite ?_ ?_
        | with_reducible exact ih.1 _ _
        | with_reducible refine Le.bind (ih.1 _ _) (fun _ => ?_)
        | with_reducible exact ih.2.1 _ _ _
        | with_reducible refine Le.bind (ih.2.1 _ _ _) (fun _ => ?_)
        | with_reducible refine Le.bind (nat_small.mono k _ _) (fun _ => ?_)
        | with_reducible exact nat_small.mono k _ _
        | with_reducible refine Le.bind (Le.refl _) (fun _ => ?_)
        | split)
    · intro x0 x1 x2
      refine Le.eqs (nat_Print.l1.eq_2 ..) (nat_Print.l1.eq_2 ..) ?_
      repeat' (first
        | with_reducible exact Le.refl _
        | with_reducible refine Le.ite ?_ ?_
        | with_reducible exact ih.2.1 _ _ _
        | with_reducible refine Le.bind (ih.2.1 _ _ _) (fun _ => ?_)
        | with_reducible exact ih.2.2 _ _
        | with_reducible refine Le.bind (ih.2.2 _ _) (fun _ => ?_)
        | with_reducible refine Le.bind (nat_nine.mono k _) (fun _ => ?_)
        | with_reducible exact nat_nine.mono k _
        | with_reducible refine Le.bind (Le.refl _) (fun _ => ?_)
        | split)
    · intro x0 x1
      refine Le.eqs (nat_Print.l2.eq_2 ..) (nat_Print.l2.eq_2 ..) ?_
      repeat' (first
        | with_reducible exact Le.refl _
        | with_reducible refine Le.ite ?_ ?_
        | with_reducible exact ih.2.2 _ _
        | with_reducible refine Le.bind (ih.2.2 _ _) (fun _ => ?_)
        | with_reducible refine Le.bind (Le.refl _) (fun _ => ?_)
        | split)
theorem nat_Print.mono (k : Nat) : ∀ x0, Le (nat_Print.f k x0) (nat_Print.f (k + 1) x0) := by
  intro x0
  unfold nat_Print.f
  repeat' (first
    | with_reducible exact Le.refl _
    | with_reducible refine Le.ite ?_ ?_
    | with_reducible exact (nat_Print.monoL k).1 _ _
    | with_reducible refine Le.bind (nat_Clean.mono k _) (fun _ => ?_)
    | with_reducible exact nat_Clean.mono k _
    | with_reducible refine Le.bind (Le.refl _) (fun _ => ?_)
    | split)
theorem ratio_Decimal.mono (k : Nat) : ∀ x0 x1 x2 x3, Le (ratio_Decimal.f k x0 x1 x2 x3) (ratio_Decimal.f (k + 1) x0 x1 x2 x3) := by
  intro x0 x1 x2 x3
  unfold ratio_Decimal.f
  repeat' (first
    | with_reducible exact Le.refl _
    | with_reducible refine Le.ite ?_ ?_
    | with_reducible refine Le.bind (ratio_ten.mono k _) (fun _ => ?_)
    | with_reducible refine Le.bind (ratio_Int.mono k _ _) (fun _ => ?_)
    | with_reducible refine Le.bind (ratio_Mul.mono k _ _ _ _ _ _) (fun _ => ?_)
    | with_reducible refine Le.bind (ratio_Round.mono k _ _ _) (fun _ => ?_)
    | with_reducible refine Le.bind (nat_Print.mono k _) (fun _ => ?_)
    | with_reducible exact ratio_ten.mono k _
    | with_reducible exact ratio_Int.mono k _ _
    | with_reducible exact ratio_Mul.mono k _ _ _ _ _ _
    | with_reducible exact ratio_Round.mono k _ _ _
    | with_reducible exact nat_Print.mono k _
    | with_reducible refine Le.bind (Le.refl _) (fun _ => ?_)
    | split)
theorem whole_Print.mono (k : Nat) : ∀ x0 x1, Le (whole_Print.f k x0 x1) (whole_Print.f (k + 1) x0 x1) := by
  intro x0 x1
  unfold whole_Print.f
  repeat' (first
    | with_reducible exact Le.refl _
    | with_reducible refine Le.ite ?_ ?_
    | with_reducible refine Le.bind (whole_Clean.mono k _ _) (fun _ => ?_)
    | with_reducible refine Le.bind (nat_Print.mono k _) (fun _ => ?_)
    | with_reducible exact whole_Clean.mono k _ _
    | with_reducible exact nat_Print.mono k _
    | with_reducible refine Le.bind (Le.refl _) (fun _ => ?_)
    | split)
theorem ratio_Print.mono (k : Nat) : ∀ x0 x1 x2, Le (ratio_Print.f k x0 x1 x2) (ratio_Print.f (k + 1) x0 x1 x2) := by
  intro x0 x1 x2
  unfold ratio_Print.f
  repeat' (first
    | with_reducible exact Le.refl _
    | with_reducible refine Le.ite ?_ ?_
    | with_reducible refine Le.bind (ratio_Clean.mono k _ _ _) (fun _ => ?_)
    | with_reducible refine Le.bind (whole_Print.mono k _ _) (fun _ => ?_)
    | with_reducible refine Le.bind (nat_Of.mono k _) (fun _ => ?_)
    | with_reducible refine Le.bind (nat_Cmp.mono k _ _) (fun _ => ?_)
    | with_reducible refine Le.bind (nat_Print.mono k _) (fun _ => ?_)
    | with_reducible exact ratio_Clean.mono k _ _ _
    | with_reducible exact whole_Print.mono k _ _
    | with_reducible exact nat_Of.mono k _
    | with_reducible exact nat_Cmp.mono k _ _
    | with_reducible exact nat_Print.mono k _
    | with_reducible refine Le.bind (Le.refl _) (fun _ => ?_)
    | split)
theorem dendronlaw03_awake.mono (k : Nat) : Le (dendronlaw03_awake.f k ) (dendronlaw03_awake.f (k + 1) ) := by
  unfold dendronlaw03_awake.f
  repeat' (first
    | with_reducible exact Le.refl _
    | with_reducible refine Le.ite ?_ ?_
    | with_reducible refine Le.bind (ratio_Parse.mono k _) (fun _ => ?_)
    | with_reducible refine Le.bind (ratio_Frac.mono k _ _) (fun _ => ?_)
    | with_reducible refine Le.bind (ratio_Simplest.mono k _ _ _ _ _ _) (fun _ => ?_)
    | with_reducible refine Le.bind (ratio_Near.mono k _ _ _ _) (fun _ => ?_)
    | with_reducible refine Le.bind (ratio_Decimal.mono k _ _ _ _) (fun _ => ?_)
    | with_reducible refine Le.bind (ratio_Print.mono k _ _ _) (fun _ => ?_)
    | with_reducible exact ratio_Parse.mono k _
    | with_reducible exact ratio_Frac.mono k _ _
    | with_reducible exact ratio_Simplest.mono k _ _ _ _ _ _
    | with_reducible exact ratio_Near.mono k _ _ _ _
    | with_reducible exact ratio_Decimal.mono k _ _ _ _
    | with_reducible exact ratio_Print.mono k _ _ _
    | with_reducible refine Le.bind (Le.refl _) (fun _ => ?_)
    | split)
end Go.DI.Th
namespace Go.DI.Th
open Go Go.RowKit Go.DI
theorem awake03_ev : Ev (fun k => dendronlaw03_awake.f k) true := Ev.mono (K := 400) dendronlaw03_awake.mono (by decide +kernel)
end Go.DI.Th
namespace Go.DI.Th
open Go Go.RowKit Go.DI

def tinyR (r : Rt) : Rt := (r.1, r.2.1.take 2, r.2.2.take 2)
theorem tiny3_eq (b : Bool) (n d : List Int) : dendronlaw03_tiny.f b n d = some (tinyR (b, n, d)) := by
  unfold dendronlaw03_tiny.f tinyR
  have t : ∀ l : List Int, ¬ (l.length : Int) > 2 → l.take 2 = l := fun l h => List.take_of_length_le (by omega)
  by_cases h1 : (n.length : Int) > 2
  · rw [if_pos h1, if_pos (by omega)]
    by_cases h2 : (d.length : Int) > 2
    · rw [if_pos h2, if_pos (by omega)]
    · rw [if_neg h2]; dsimp only; rw [t d h2]
  · rw [if_neg h1]
    by_cases h2 : (d.length : Int) > 2
    · rw [if_pos h2, if_pos (by omega)]; dsimp only; rw [t n h1]
    · rw [if_neg h2]; dsimp only; rw [t n h1, t d h2]
theorem tiny3_ev (b : Bool) (n d : List Int) : Ev (fun _ => dendronlaw03_tiny.f b n d) (tinyR (b, n, d)) := Ev.congr (fun _ => tiny3_eq b n d) (Ev.now _)
theorem U.takeN {l : List Int} (h : U l) (n : Nat) : U (l.take n) := fun x hx => h x (List.mem_of_mem_take hx)
def RtU (r : Rt) : Prop := U r.2.1 ∧ U r.2.2
theorem tinyB {r : Rt} (h : RtU r) : RtB 2 (tinyR r) := ⟨h.1.takeN 2, h.2.takeN 2, by show (List.take 2 _).length ≤ 2; rw [List.length_take]; omega, by show (List.take 2 _).length ≤ 2; rw [List.length_take]; omega⟩
theorem aw3 : Ev (fun k => (dendronlaw03_awake.f k).bind fun v => some v) true := Ev.bind awake03_ev (Ev.now _)
end Go.DI.Th
namespace Go.DI.Th
open Go Go.RowKit Go.DI

theorem mk_one (z : Int) : mkRat z 1 = (z : Rat) := Rat.mkRat_self (z : Rat)
theorem Sz_int64 (z : Int) (h : -9223372036854775808 ≤ z ∧ z ≤ 9223372036854775807) : Sz (z : Rat) ≤ 2 := by
  rw [Sz_int]
  have := len_small (n := z.natAbs) (by omega)
  omega
end Go.DI.Th
namespace Go.DI.Th
open Go Go.RowKit Go.DI

end Go.DI.Th
namespace Go.DI.Th
open Go Go.RowKit Go.DI

end Go.DI.Th
namespace Go.DI.Th
open Go Go.RowKit Go.DI

end Go.DI.Th
namespace Go.DI.Th
open Go Go.RowKit Go.DI

theorem num_den (x : Rat) : x * ((x.den : Int) : Rat) = (x.num : Rat) := by
  have h : x = mkRat x.num x.den := (Rat.mkRat_self x).symm
  have hd : ((x.den : Int) : Rat) ≠ 0 := fun e => by
    have : (x.den : Int) = 0 := by
      rw [show (0 : Rat) = ((0 : Int) : Rat) from rfl] at e
      exact Rat.intCast_inj.1 e
    exact x.den_nz (by omega)
  rw [Rat.mkRat_eq_div] at h
  have h2 : ((x.den : Nat) : Rat) = ((x.den : Int) : Rat) := (Rat.intCast_natCast _).symm
  rw [h2] at h
  generalize ((x.den : Int) : Rat) = d at h hd ⊢
  generalize (x.num : Rat) = n at h ⊢
  rw [h, Rat.div_def, Rat.mul_assoc, Rat.inv_mul_cancel _ hd, Rat.mul_one]
end Go.DI.Th
namespace Go.DI.Th
open Go Go.RowKit Go.DI

def mid (lo hi : Rat) : Rat := mkRat (lo.num + hi.num) (lo.den + hi.den)
end Go.DI.Th
namespace Go.DI.Th
open Go Go.RowKit Go.DI

def okU (st : Bool) (x c : Rat) : Prop := if st = true then x < c else x ≤ c
structure Upto (x : Rat) (st : Bool) (d : Nat) (v : Rat) : Prop where
  den : v.den ≤ d
  ok : okU st x v
  least : ∀ c : Rat, c.den ≤ d → okU st x c → v ≤ c
def zu (x : Rat) (d : Nat) (st : Bool) : Int := if st = true then (x * ((d : Int) : Rat)).floor + 1 else (x * ((d : Int) : Rat)).ceil
def cu (x : Rat) (d : Nat) (st : Bool) : Rat := mkRat (zu x d st) d
theorem natQ_pos {d : Nat} (h : d ≠ 0) : (0 : Rat) < ((d : Int) : Rat) := by
  have := Rat.intCast_lt_intCast.2 (show (0 : Int) < (d : Int) by omega)
  simpa using this
theorem mk_mul (z : Int) (d : Nat) (h : d ≠ 0) : mkRat z d * ((d : Int) : Rat) = (z : Rat) := by
  have hp := natQ_pos h
  have h0 : ((d : Int) : Rat) ≠ 0 := fun e => by rw [e] at hp; exact absurd hp (by decide)
  rw [Rat.mkRat_eq_div, Rat.div_def, show ((d : Nat) : Rat) = ((d : Int) : Rat) from (Rat.intCast_natCast _).symm, Rat.mul_assoc, Rat.inv_mul_cancel _ h0, Rat.mul_one]
theorem mul_cancel {a b : Rat} {d : Nat} (h : d ≠ 0) (k : a * ((d : Int) : Rat) ≤ b * ((d : Int) : Rat)) : a ≤ b := by
  rcases Rat.le_total (a := a) (b := b) with t | t
  · exact t
  · by_cases e : a = b
    · rw [e]; exact Rat.le_refl
    · have := Rat.mul_lt_mul_of_pos_right (Rat.lt_iff_le_and_ne.2 ⟨t, fun e2 => e e2.symm⟩) (natQ_pos h)
      exact absurd k (Rat.not_le.2 this)
theorem mul_cancel_lt {a b : Rat} {d : Nat} (h : d ≠ 0) (k : a * ((d : Int) : Rat) < b * ((d : Int) : Rat)) : a < b :=
  Rat.not_le.1 fun t => Rat.not_le.2 k (Rat.mul_le_mul_of_nonneg_right t (Rat.le_of_lt (natQ_pos h)))
theorem cu_den (x : Rat) (d : Nat) (st : Bool) (h : d ≠ 0) : (cu x d st).den ≤ d := by
  unfold cu
  rw [den_mk _ _ h]
  exact Nat.div_le_self _ _
theorem cu_ok (x : Rat) (d : Nat) (st : Bool) (h : d ≠ 0) : okU st x (cu x d st) := by
  have e := mk_mul (zu x d st) d h
  unfold okU cu
  cases st with
  | true =>
    rw [if_pos rfl]
    refine mul_cancel_lt h ?_
    rw [e]
    exact Rat.lt_floor_add_one _
  | false =>
    rw [if_neg (by decide)]
    refine mul_cancel h ?_
    rw [e]
    exact Rat.le_ceil
theorem cu_least (x c : Rat) (st : Bool) (h : okU st x c) : cu x c.den st ≤ c := by
  have hd := c.den_nz
  have e := mk_mul (zu x c.den st) c.den hd
  have hn := num_den c
  refine mul_cancel hd ?_
  unfold cu
  rw [e, hn]
  refine Rat.intCast_le_intCast.2 ?_
  unfold okU at h
  unfold zu
  cases st with
  | true =>
    rw [if_pos rfl] at h ⊢
    have := Rat.mul_lt_mul_of_pos_right h (natQ_pos hd)
    rw [hn] at this
    have := Rat.floor_lt_iff.2 this
    omega
  | false =>
    rw [if_neg (by decide)] at h ⊢
    have := Rat.mul_le_mul_of_nonneg_right h (Rat.le_of_lt (natQ_pos hd))
    rw [hn] at this
    exact Rat.ceil_le_iff.2 this
theorem upto_one (x : Rat) (st : Bool) : Upto x st 1 (cu x 1 st) :=
  ⟨cu_den x 1 st (by decide), cu_ok x 1 st (by decide), fun c hc hok => by
    have : c.den = 1 := by have := c.den_nz; omega
    have := this ▸ cu_least x c st hok
    exact this⟩
theorem upto_succ {x b : Rat} {st : Bool} {d : Nat} (u : Upto x st d b) : Upto x st (d + 1) (if cu x (d + 1) st < b then cu x (d + 1) st else b) := by
  have h1 := cu_den x (d + 1) st (by omega)
  have h2 := cu_ok x (d + 1) st (by omega)
  have key : ∀ c : Rat, c.den ≤ d + 1 → okU st x c → b ≤ c ∨ cu x (d + 1) st ≤ c := fun c hc hok => by
    rcases Nat.lt_or_ge d c.den with t | t
    · have e : c.den = d + 1 := by omega
      exact .inr (e ▸ cu_least x c st hok)
    · exact .inl (u.least c t hok)
  by_cases h : cu x (d + 1) st < b
  · rw [if_pos h]
    exact ⟨h1, h2, fun c hc hok => by rcases key c hc hok with t | t <;> grind⟩
  · rw [if_neg h]
    exact ⟨by have := u.den; omega, u.ok, fun c hc hok => by rcases key c hc hok with t | t <;> grind⟩
theorem zu_cases (x : Rat) (d : Nat) (h : d ≠ 0) : (mkRat (x * ((d : Int) : Rat)).ceil d = x → zu x d true = (x * ((d : Int) : Rat)).ceil + 1) ∧ (mkRat (x * ((d : Int) : Rat)).ceil d ≠ x → zu x d true = (x * ((d : Int) : Rat)).ceil) := by
  have e := mk_mul (x * ((d : Int) : Rat)).ceil d h
  have ez : zu x d true = (x * ((d : Int) : Rat)).floor + 1 := rfl
  rw [ez]
  have f1 := Rat.floor_le (x * ((d : Int) : Rat))
  have f2 := Rat.lt_floor_add_one (x * ((d : Int) : Rat))
  have f3 : x * ((d : Int) : Rat) ≤ ((x * ((d : Int) : Rat)).ceil : Rat) := Rat.le_ceil
  have c2 : (x * ((d : Int) : Rat)).ceil ≤ (x * ((d : Int) : Rat)).floor + 1 := Rat.ceil_le_iff.2 (Rat.le_of_lt f2)
  have c1 : (x * ((d : Int) : Rat)).floor ≤ (x * ((d : Int) : Rat)).ceil := Rat.intCast_le_intCast.1 (Rat.le_trans f1 f3)
  constructor
  · intro hx
    rw [hx] at e
    rw [e, Rat.floor_intCast, Rat.ceil_intCast]
  · intro hx
    have : (x * ((d : Int) : Rat)).floor ≠ (x * ((d : Int) : Rat)).ceil := fun k => hx (by
      have e3 : x * ((d : Int) : Rat) = ((x * ((d : Int) : Rat)).ceil : Rat) := by
        rw [k] at f1
        exact Rat.le_antisymm f3 f1
      have l1 := mul_cancel (a := mkRat (x * ((d : Int) : Rat)).ceil d) (b := x) h (by rw [e, ← e3]; exact Rat.le_refl)
      have l2 := mul_cancel (a := x) (b := mkRat (x * ((d : Int) : Rat)).ceil d) h (by rw [e, ← e3]; exact Rat.le_refl)
      exact Rat.le_antisymm l1 l2)
    omega
def pf (v : Rat) : Bool × List Int × List Int × Bool := ((cn v).1, (cn v).2.1, (cn v).2.2, true)
def bst (b : Option Rat) : Rt := match b with | none => (false, [], []) | some v => cn v
def nbst (v : Rat) (b : Option Rat) : Rat := match b with | none => v | some b => if v < b then v else b
theorem upd_ev (N : Int) (st : Bool) (d : Nat) (x : Rat) (b : Option Rat) (v : Rat) (sv : Sz v ≤ 100) (sb : ∀ w, b = some w → Sz w ≤ 100) {R : Bool × List Int × List Int × Bool}
    (hk : Ev (fun k => ratio_upward.l0 k N st true ((d + 1 : Nat) : Int) (cn x).1 (cn x).2.1 (cn x).2.2 false (cn (nbst v b)).1 (cn (nbst v b)).2.1 (cn (nbst v b)).2.2) R) :
    Ev (fun k => if b.isSome = true then ((ratio_Cmp.f k (cn v).1 (cn v).2.1 (cn v).2.2 (bst b).1 (bst b).2.1 (bst b).2.2).bind fun v28 => (if v28 < 0 then (ratio_upward.l0 k N st true ((d + 1 : Nat) : Int) (cn x).1 (cn x).2.1 (cn x).2.2 false (cn v).1 (cn v).2.1 (cn v).2.2) else (ratio_upward.l0 k N st b.isSome ((d + 1 : Nat) : Int) (cn x).1 (cn x).2.1 (cn x).2.2 false (bst b).1 (bst b).2.1 (bst b).2.2))) else (ratio_upward.l0 k N st true ((d + 1 : Nat) : Int) (cn x).1 (cn x).2.1 (cn x).2.2 false (cn v).1 (cn v).2.1 (cn v).2.2)) R := by
  cases b with
  | none => exact Ev.if_neg (by decide) hk
  | some w =>
    have hc := cmp_cn (cn v) (cn w) (cnB v sv) (cnB w (sb w rfl)) (by decide) (by decide)
    rw [rv_cn, rv_cn] at hc
    refine Ev.if_pos rfl (Ev.bind hc ?_)
    by_cases h : v < w
    · have e : nbst v (some w) = v := if_pos h
      rw [e] at hk
      exact Ev.if_pos (cmpQ_neg.2 h) hk
    · have e : nbst v (some w) = w := if_neg h
      rw [e] at hk
      exact Ev.if_neg (fun t => h (cmpQ_neg.1 t)) hk
theorem Sz_cu (z : Int) (d : Nat) (h : d ≠ 0) (hd : d ≤ 4096) {s : Nat} (hz : len z.natAbs ≤ s) (hs : 2 ≤ s) : Sz (mkRat z d) ≤ s := by
  have := Sz_mk z d h
  have : len d ≤ 2 := len_le_two.2 (by omega)
  omega
theorem upward_l0 (x : Rat) (sx : Sz x ≤ 9) (N : Nat) (hN : N ≤ 64) (hN1 : 1 ≤ N) (st : Bool) : ∀ (m d : Nat) (b : Option Rat), d + m = N + 1 → 1 ≤ d → (d = 1 → b = none) → (1 < d → ∃ w, b = some w ∧ Upto x st (d - 1) w ∧ Sz w ≤ 100) →
    ∃ v, Upto x st N v ∧ Sz v ≤ 100 ∧ Ev (fun k => ratio_upward.l0 k (N : Int) st b.isSome (d : Int) (cn x).1 (cn x).2.1 (cn x).2.2 false (bst b).1 (bst b).2.1 (bst b).2.2) (pf v) := by
  intro m
  induction m with
  | zero =>
    intro d b hd h1 hb1 hb2
    obtain ⟨w, rfl, u, sw⟩ := hb2 (by omega)
    have : d - 1 = N := by omega
    rw [this] at u
    refine ⟨w, u, sw, Ev.succ ?_⟩
    simp only [ratio_upward.l0]
    exact Ev.if_neg (by omega) ((Ev.now _).of_eq rfl)
  | succ m ih =>
    intro d b hd h1 hb1 hb2
    have hd0 : d ≠ 0 := by omega
    have BX := cnB x sx
    have hof := rof_cn (d : Int) (by omega) (by omega)
    have sd : Sz ((d : Int) : Rat) ≤ 2 := Sz_int64 _ (by omega)
    have BD := cnB ((d : Int) : Rat) sd
    have hmul := mul_cn (cn x) (cn ((d : Int) : Rat)) BX BD (by decide)
    rw [rv_cn, rv_cn] at hmul
    have sm := Sz_mul x ((d : Int) : Rat)
    have hce := ceil_cn (cn (x * ((d : Int) : Rat))) (cnB (b := 11) _ (by omega)) (by decide)
    rw [rv_cn] at hce
    have lc : len (x * ((d : Int) : Rat)).ceil.natAbs ≤ 11 := by
      rw [Rat.ceil_eq_neg_floor_neg, Int.natAbs_neg]
      exact floor_len _ (by rw [Sz_neg]; omega)
    have hint := intz_cn (x * ((d : Int) : Rat)).ceil (by omega)
    have ew : wrap64 ((d : Int) + 1) = ((d + 1 : Nat) : Int) := wr_succ _ (by omega)
    have n0 : rv (cn ((d : Int) : Rat)) ≠ 0 := by
      rw [rv_cn]
      intro e
      have := natQ_pos hd0
      rw [e] at this
      exact absurd this (by decide)
    have inv : ∀ z : Int, (z : Rat) * ((d : Int) : Rat)⁻¹ = mkRat z d := fun z => by
      rw [Rat.mkRat_eq_div, Rat.div_def, show ((d : Nat) : Rat) = ((d : Int) : Rat) from (Rat.intCast_natCast _).symm]
    have hov := over_cn (cn ((x * ((d : Int) : Rat)).ceil : Rat)) (cn ((d : Int) : Rat)) (cnB (b := 11) _ (by rw [Sz_int]; omega)) BD (by decide) n0
    rw [rv_cn, rv_cn, inv] at hov
    have sv0 : Sz (mkRat (x * ((d : Int) : Rat)).ceil d) ≤ 100 := Sz_cu _ d hd0 (by omega) (by omega) (by decide)
    -- what follows
    have nxt : ∀ v, v = cu x d st → Sz v ≤ 100 → ∃ w, Upto x st N w ∧ Sz w ≤ 100 ∧ Ev (fun k => ratio_upward.l0 k (N : Int) st true ((d + 1 : Nat) : Int) (cn x).1 (cn x).2.1 (cn x).2.2 false (cn (nbst v b)).1 (cn (nbst v b)).2.1 (cn (nbst v b)).2.2) (pf w) := fun v hv sv => by
      have hu : Upto x st d (nbst v b) ∧ Sz (nbst v b) ≤ 100 := by
        by_cases e : d = 1
        · rw [hb1 e]
          subst e
          rw [hv]
          exact ⟨upto_one x st, hv ▸ sv⟩
        · obtain ⟨w, rfl, u, sw⟩ := hb2 (by omega)
          have ed : d = (d - 1) + 1 := by omega
          have us := upto_succ u
          rw [← ed] at us
          rw [hv]
          refine ⟨us, ?_⟩
          show Sz (if cu x d st < w then cu x d st else w) ≤ 100
          split
          · exact hv ▸ sv
          · exact sw
      exact ih (d + 1) (some (nbst v b)) (by omega) (by omega) (fun h => by omega) (fun _ => ⟨_, rfl, by rw [show d + 1 - 1 = d by omega]; exact hu.1, hu.2⟩)
    have sb : ∀ w, b = some w → Sz w ≤ 100 := fun w hw => by
      by_cases e : d = 1
      · rw [hb1 e] at hw; cases hw
      · obtain ⟨w', hw', _, sw⟩ := hb2 (by omega)
        rw [hw] at hw'
        cases hw'
        exact sw
    cases st with
    | false =>
      obtain ⟨w, u, sw, hr⟩ := nxt (mkRat (x * ((d : Int) : Rat)).ceil d) rfl sv0
      refine ⟨w, u, sw, Ev.succ ?_⟩
      simp only [ratio_upward.l0, ew]
      exact Ev.if_pos (by omega) (Ev.bind hof (Ev.bind hmul (Ev.bind hce (Ev.bind hint (Ev.bind hof (Ev.bind hov (Ev.if_neg (by decide) (upd_ev (N : Int) false d x b _ sv0 sb hr))))))))
    | true =>
      have hsm := same_cn (cn (mkRat (x * ((d : Int) : Rat)).ceil d)) (cn x) (cnB _ sv0) BX (by decide) (by decide)
      rw [rv_cn, rv_cn] at hsm
      obtain ⟨z1, z2⟩ := zu_cases x d hd0
      by_cases hx : mkRat (x * ((d : Int) : Rat)).ceil d = x
      · rw [decide_eq_true hx] at hsm
        have hone := wof_ev 1 (by decide) (by decide)
        have hadd := wadd_ev (wl (x * ((d : Int) : Rat)).ceil).1 (wl (x * ((d : Int) : Rat)).ceil).2 (wl 1).1 (wl 1).2 (lm_ok _).U (lm_ok _).U (by rw [wl_lens]; omega) (by decide +kernel)
        rw [wv_wl, wv_wl] at hadd
        have l1 : len ((x * ((d : Int) : Rat)).ceil + 1).natAbs ≤ 12 := by
          have a := len_add' (x * ((d : Int) : Rat)).ceil.natAbs 1
          have b := len_mono (show ((x * ((d : Int) : Rat)).ceil + 1).natAbs ≤ (x * ((d : Int) : Rat)).ceil.natAbs + 1 by omega)
          have := len_one
          omega
        have hint1 := intz_cn ((x * ((d : Int) : Rat)).ceil + 1) (by omega)
        have hov1 := over_cn (cn (((x * ((d : Int) : Rat)).ceil + 1 : Int) : Rat)) (cn ((d : Int) : Rat)) (cnB (b := 12) _ (by rw [Sz_int]; omega)) BD (by decide) n0
        rw [rv_cn, rv_cn, inv] at hov1
        have sv1 : Sz (mkRat ((x * ((d : Int) : Rat)).ceil + 1) d) ≤ 100 := Sz_cu _ d hd0 (by omega) (by omega) (by decide)
        obtain ⟨w, u, sw, hr⟩ := nxt (mkRat ((x * ((d : Int) : Rat)).ceil + 1) d) (by unfold cu; rw [z1 hx]) sv1
        refine ⟨w, u, sw, Ev.succ ?_⟩
        simp only [ratio_upward.l0, ew]
        exact Ev.if_pos (by omega) (Ev.bind hof (Ev.bind hmul (Ev.bind hce (Ev.bind hint (Ev.bind hof (Ev.bind hov (Ev.if_pos trivial (Ev.bind hsm (Ev.if_pos rfl (Ev.bind hone (Ev.bind hadd (Ev.bind hint1 (Ev.bind hof (Ev.bind hov1 (upd_ev (N : Int) true d x b _ sv1 sb hr)))))))))))))))
      · rw [decide_eq_false hx] at hsm
        obtain ⟨w, u, sw, hr⟩ := nxt (mkRat (x * ((d : Int) : Rat)).ceil d) (by unfold cu; rw [z2 hx]) sv0
        refine ⟨w, u, sw, Ev.succ ?_⟩
        simp only [ratio_upward.l0, ew]
        exact Ev.if_pos (by omega) (Ev.bind hof (Ev.bind hmul (Ev.bind hce (Ev.bind hint (Ev.bind hof (Ev.bind hov (Ev.if_pos trivial (Ev.bind hsm (Ev.if_neg (by decide) (upd_ev (N : Int) true d x b _ sv0 sb hr))))))))))
theorem upward_cn (x : Rat) (sx : Sz x ≤ 9) (N : Nat) (hN : N ≤ 64) (hN1 : 1 ≤ N) (st : Bool) : ∃ v, Upto x st N v ∧ Sz v ≤ 100 ∧ Ev (fun k => ratio_upward.f k (cn x).1 (cn x).2.1 (cn x).2.2 (N : Int) st) (pf v) :=
  upward_l0 x sx N hN hN1 st N 1 none (by omega) (by decide) (fun _ => rfl) (fun h => by omega)
end Go.DI.Th
namespace Go.DI.Th
open Go Go.RowKit Go.DI

structure Row (lo hi : Rat) (N : Nat) (L : List Rat) : Prop where
  mem : ∀ v ∈ L, lo ≤ v ∧ v ≤ hi ∧ v.den ≤ N
  up : L.Pairwise (· < ·)
def rng (d : Nat) (p : Int) : Nat → List Int
  | 0 => []
  | m + 1 => if Nat.gcd p.natAbs d = 1 then p :: rng d (p + 1) m else rng d (p + 1) m
theorem rng_mem (d : Nat) : ∀ (m : Nat) (p q : Int), q ∈ rng d p m ↔ p ≤ q ∧ q < p + (m : Int) ∧ Nat.gcd q.natAbs d = 1
  | 0, p, q => by
    rw [rng]
    constructor
    · intro h; cases h
    · intro h; omega
  | m + 1, p, q => by
    have ih := rng_mem d m (p + 1) q
    rw [rng]
    by_cases hg : Nat.gcd p.natAbs d = 1
    · rw [if_pos hg, List.mem_cons, ih]
      constructor
      · rintro (rfl | h)
        · exact ⟨by omega, by omega, hg⟩
        · exact ⟨by omega, by omega, h.2.2⟩
      · intro h
        by_cases e : q = p
        · exact .inl e
        · exact .inr ⟨by omega, by omega, h.2.2⟩
    · rw [if_neg hg, ih]
      constructor
      · intro h; exact ⟨by omega, by omega, h.2.2⟩
      · intro h
        refine ⟨?_, by omega, h.2.2⟩
        have : q ≠ p := fun e => hg (e ▸ h.2.2)
        omega
theorem rng_nodup (d : Nat) : ∀ (m : Nat) (p : Int), (rng d p m).Nodup
  | 0, p => List.Pairwise.nil
  | m + 1, p => by
    have ih := rng_nodup d m (p + 1)
    rw [rng]
    split
    · refine List.nodup_cons.2 ⟨fun h => ?_, ih⟩
      have := (rng_mem d m (p + 1) p).1 h
      omega
    · exact ih
theorem rng_len (d : Nat) : ∀ (m : Nat) (p : Int), (rng d p m).length ≤ m
  | 0, p => Nat.le_refl _
  | m + 1, p => by
    have ih := rng_len d m (p + 1)
    rw [rng]
    split
    · rw [List.length_cons]; omega
    · omega
def cl (lo : Rat) (d : Nat) : Int := (lo * ((d : Int) : Rat)).ceil
def fo (hi : Rat) (d : Nat) : Int := (hi * ((d : Int) : Rat)).floor
def Pd (lo hi : Rat) (d : Nat) : List Int := rng d (cl lo d) (fo hi d + 1 - cl lo d).toNat
theorem Pd_mem (lo hi : Rat) (d : Nat) (q : Int) : q ∈ Pd lo hi d ↔ cl lo d ≤ q ∧ q ≤ fo hi d ∧ Nat.gcd q.natAbs d = 1 := by
  unfold Pd
  rw [rng_mem]
  constructor
  · intro h; exact ⟨h.1, by omega, h.2.2⟩
  · intro h; exact ⟨h.1, by omega, h.2.2⟩
theorem wid (lo hi : Rat) (d : Nat) (hd : d ≠ 0) (h : hi - lo ≤ 20) : (fo hi d + 1 - cl lo d).toNat ≤ 20 * d + 1 := by
  have hp := natQ_pos hd
  have f1 := Rat.floor_le (hi * ((d : Int) : Rat))
  have f2 : lo * ((d : Int) : Rat) ≤ (cl lo d : Rat) := Rat.le_ceil
  have m := Rat.mul_le_mul_of_nonneg_right h (Rat.le_of_lt hp)
  have e : ((fo hi d : Int) : Rat) ≤ ((cl lo d + 20 * (d : Int) : Int) : Rat) := by
    rw [Rat.intCast_add, Rat.intCast_mul]
    have e20 : ((20 : Int) : Rat) = 20 := rfl
    rw [e20]
    have : ((fo hi d : Int) : Rat) ≤ hi * ((d : Int) : Rat) := f1
    grind
  have := Rat.intCast_le_intCast.1 e
  omega
theorem Pd_len (lo hi : Rat) (d : Nat) (hd : d ≠ 0) (h : hi - lo ≤ 20) : (Pd lo hi d).length ≤ 20 * d + 1 :=
  Nat.le_trans (rng_len d _ _) (wid lo hi d hd h)
def at_ (L : List Rat) (d : Nat) : List Rat := L.filter fun v => v.den == d
theorem at_sub {lo hi : Rat} {N : Nat} {L : List Rat} (r : Row lo hi N L) (d : Nat) (hd : d ≠ 0) : (at_ L d).length ≤ (Pd lo hi d).length := by
  have hp := natQ_pos hd
  have hn : ((at_ L d).map Rat.num).Nodup := by
    unfold List.Nodup
    rw [List.pairwise_map]
    have h1 : (at_ L d).Pairwise (· < ·) := r.up.filter _
    refine List.Pairwise.imp_of_mem ?_ h1
    intro a b ha hb hab e
    have da : a.den = d := by
      have := (List.mem_filter.1 ha).2
      simpa using this
    have db : b.den = d := by
      have := (List.mem_filter.1 hb).2
      simpa using this
    have : a = b := by rw [← Rat.mkRat_self a, ← Rat.mkRat_self b, e, da, db]
    rw [this] at hab
    exact absurd hab (by grind)
  have := List.Nodup.length_le_of_subset hn (l₂ := Pd lo hi d) (fun q hq => by
    obtain ⟨v, hv, rfl⟩ := List.mem_map.1 hq
    obtain ⟨hv1, hv2⟩ := List.mem_filter.1 hv
    have dv : v.den = d := by simpa using hv2
    obtain ⟨m1, m2, m3⟩ := r.mem v hv1
    have hnd := num_den v
    rw [dv] at hnd
    rw [Pd_mem]
    refine ⟨Rat.ceil_le_iff.2 ?_, Rat.le_floor_iff.2 ?_, ?_⟩
    · rw [← hnd]; exact Rat.mul_le_mul_of_nonneg_right m1 (Rat.le_of_lt hp)
    · rw [← hnd]; exact Rat.mul_le_mul_of_nonneg_right m2 (Rat.le_of_lt hp)
    · rw [← dv]; exact v.reduced)
  rwa [List.length_map] at this
theorem at_all {lo hi : Rat} {N : Nat} {L : List Rat} (hall : ∀ c : Rat, c.den ≤ N → lo ≤ c → c ≤ hi → c ∈ L) (d : Nat) (hd : d ≠ 0) (hdN : d ≤ N) : (Pd lo hi d).length ≤ (at_ L d).length := by
  have hp := natQ_pos hd
  have := List.Nodup.length_le_of_subset (rng_nodup d (fo hi d + 1 - cl lo d).toNat (cl lo d)) (l₂ := (at_ L d).map Rat.num) (fun q hq => by
    obtain ⟨q1, q2, q3⟩ := (Pd_mem lo hi d q).1 hq
    have hm := mk_mul q d hd
    have hnum : (mkRat q d).num = q ∧ (mkRat q d).den = d := by
      constructor
      · rw [num_mk q d hd]
        unfold rnum
        rw [q3, Nat.div_one]
        split <;> omega
      · rw [den_mk q d hd]
        unfold rden
        rw [q3, Nat.div_one]
    have l1 : lo ≤ mkRat q d := mul_cancel hd (by rw [hm]; exact Rat.ceil_le_iff.1 q1)
    have l2 : mkRat q d ≤ hi := mul_cancel hd (by rw [hm]; exact Rat.le_floor_iff.1 q2)
    exact List.mem_map.2 ⟨mkRat q d, List.mem_filter.2 ⟨hall _ (by rw [hnum.2]; exact hdN) l1 l2, by rw [hnum.2]; exact beq_self_eq_true _⟩, hnum.1⟩)
  rwa [List.length_map] at this
def sm (f : Nat → Nat) : Nat → Nat
  | 0 => 0
  | n + 1 => sm f n + f (n + 1)
theorem sm_le {f g : Nat → Nat} : ∀ (n : Nat), (∀ d, 1 ≤ d → d ≤ n → f d ≤ g d) → sm f n ≤ sm g n
  | 0, _ => Nat.le_refl _
  | n + 1, h => by
    have a := sm_le n fun d h1 h2 => h d h1 (by omega)
    have b := h (n + 1) (by omega) (Nat.le_refl _)
    rw [sm, sm]
    omega
theorem sm_cons (v : Rat) (L : List Rat) : ∀ n, sm (fun d => (at_ (v :: L) d).length) n = sm (fun d => (at_ L d).length) n + if v.den ≤ n ∧ 1 ≤ v.den then 1 else 0
  | 0 => by
    rw [sm, sm, if_neg (by omega)]
  | n + 1 => by
    have ih := sm_cons v L n
    rw [sm, sm, ih]
    have e : (at_ (v :: L) (n + 1)).length = (at_ L (n + 1)).length + if v.den = n + 1 then 1 else 0 := by
      unfold at_
      rw [List.filter_cons]
      by_cases h : v.den = n + 1
      · rw [if_pos h, if_pos (by rw [h]; exact beq_self_eq_true _), List.length_cons]
      · rw [if_neg h, if_neg (by simpa using h)]
        rfl
    show sm _ n + _ + (at_ (v :: L) (n + 1)).length = sm _ n + (at_ L (n + 1)).length + _
    rw [e]
    by_cases h1 : v.den = n + 1
    · rw [if_neg (by omega), if_pos h1, if_pos (by omega)]
      omega
    · by_cases h2 : v.den ≤ n ∧ 1 ≤ v.den
      · rw [if_pos h2, if_neg h1, if_pos (by omega)]
        omega
      · rw [if_neg h2, if_neg h1, if_neg (by omega)]
        omega
theorem len_sm {N : Nat} : ∀ {L : List Rat}, (∀ v ∈ L, v.den ≤ N) → L.length = sm (fun d => (at_ L d).length) N
  | [], _ => by
    have : ∀ n, sm (fun d => (at_ [] d).length) n = 0 := fun n => by
      induction n with
      | zero => rfl
      | succ n ih => rw [sm, ih]; rfl
    rw [this]
    rfl
  | v :: L, h => by
    have ih := len_sm (N := N) (L := L) fun x hx => h x (List.mem_cons_of_mem _ hx)
    have hv := h v List.mem_cons_self
    have := v.den_nz
    rw [sm_cons, ← ih, if_pos (by omega), List.length_cons]
theorem sm_bound : ∀ n, n ≤ 8 → sm (fun d => 20 * d + 1) n ≤ 728 := fun n h => by
  have : n = 0 ∨ n = 1 ∨ n = 2 ∨ n = 3 ∨ n = 4 ∨ n = 5 ∨ n = 6 ∨ n = 7 ∨ n = 8 := by omega
  rcases this with rfl | rfl | rfl | rfl | rfl | rfl | rfl | rfl | rfl <;> decide
theorem row_len {lo hi : Rat} {N : Nat} {L : List Rat} (r : Row lo hi N L) (hN : N ≤ 8) (h : hi - lo ≤ 20) : L.length ≤ 728 := by
  rw [len_sm (N := N) fun v hv => (r.mem v hv).2.2]
  refine Nat.le_trans (sm_le N fun d h1 h2 => ?_) (sm_bound N hN)
  exact Nat.le_trans (at_sub r d (by omega)) (Pd_len lo hi d (by omega) h)
theorem row_count {lo hi : Rat} {N : Nat} {L : List Rat} (r : Row lo hi N L) (hall : ∀ c : Rat, c.den ≤ N → lo ≤ c → c ≤ hi → c ∈ L) : sm (fun d => (Pd lo hi d).length) N = L.length := by
  rw [len_sm (N := N) fun v hv => (r.mem v hv).2.2]
  refine Nat.le_antisymm (sm_le N fun d h1 h2 => at_all hall d (by omega) h2) (sm_le N fun d h1 h2 => at_sub r d (by omega))
theorem Sz_in {lo hi v : Rat} (s1 : Sz lo ≤ 3) (s2 : Sz hi ≤ 3) (h1 : lo ≤ v) (h2 : v ≤ hi) (hd : v.den ≤ 8) : Sz v ≤ 9 := by
  have hp := natQ_pos v.den_nz
  have hn := num_den v
  have a := Rat.mul_le_mul_of_nonneg_right h1 (Rat.le_of_lt hp)
  have b := Rat.mul_le_mul_of_nonneg_right h2 (Rat.le_of_lt hp)
  rw [hn] at a b
  have a' := Rat.ceil_le_iff.2 a
  have b' := Rat.le_floor_iff.2 b
  have sd : Sz ((v.den : Int) : Rat) ≤ 2 := Sz_int64 _ (by omega)
  have m1 := Sz_mul lo ((v.den : Int) : Rat)
  have m2 := Sz_mul hi ((v.den : Int) : Rat)
  have l1 : len (lo * ((v.den : Int) : Rat)).ceil.natAbs ≤ 5 := by
    rw [Rat.ceil_eq_neg_floor_neg, Int.natAbs_neg]
    exact floor_len _ (by rw [Sz_neg]; omega)
  have l2 : len (hi * ((v.den : Int) : Rat)).floor.natAbs ≤ 5 := floor_len _ (by omega)
  have l3 : len v.num.natAbs ≤ 5 := by
    rcases Int.le_total 0 v.num with t | t
    · exact Nat.le_trans (len_mono (by omega)) l2
    · exact Nat.le_trans (len_mono (by omega)) l1
  have l4 : len v.den ≤ 2 := len_le_two.2 (by omega)
  unfold Sz
  omega
structure Stand (lo hi : Rat) (N : Nat) (L : List Rat) (a : Rat) : Prop where
  row : Row lo hi N L
  fst : L = [] → a = lo
  last : L ≠ [] → a ∈ L ∧ (∀ v ∈ L, v ≤ a) ∧ ∀ c : Rat, c.den ≤ N → lo ≤ c → c ≤ a → c ∈ L
theorem between_l0 (lo hi : Rat) (s1 : Sz lo ≤ 3) (s2 : Sz hi ≤ 3) (N : Nat) (hN : N ≤ 8) (hN1 : 1 ≤ N) (h20 : hi - lo ≤ 20) : ∀ (m : Nat) (L : List Rat) (a : Rat), L.length + m = 729 → Stand lo hi N L a → Sz a ≤ 9 →
    ∃ L', Row lo hi N L' ∧ (∀ c : Rat, c.den ≤ N → lo ≤ c → c ≤ hi → c ∈ L') ∧ Ev (fun k => ratio_Between.l0 k (N : Int) (L.map cn) (cn hi).1 (cn hi).2.1 (cn hi).2.2 (cn a).1 (cn a).2.1 (cn a).2.2) (L'.map cn, 0) := by
  intro m
  induction m with
  | zero =>
    intro L a hm st sa
    have := row_len st.row hN h20
    omega
  | succ m ih =>
    intro L a hm st sa
    have hlen := row_len st.row hN h20
    have BA := cnB a sa
    have BH := cnB hi s2
    have hc := cmp_cn (cn a) (cn hi) BA BH (by decide) (by decide)
    rw [rv_cn, rv_cn] at hc
    by_cases ha : a ≤ hi
    · have q1 : cmpQ a hi ≤ 0 := by
        have : ¬ 0 < cmpQ a hi := fun e => Rat.not_lt.2 ha (cmpQ_pos.1 e)
        omega
      have hst : decide (((L.map cn).length : Int) > 0) = decide (L ≠ []) := by
        rw [decide_eq_decide, List.length_map]
        constructor
        · intro h e; rw [e] at h; exact absurd h (by decide)
        · intro h; have := List.length_pos_iff.2 h; omega
      obtain ⟨v, u, sv, hu⟩ := upward_cn a sa N (by omega) hN1 (decide (L ≠ []))
      rw [← hst] at hu
      have hcv := cmp_cn (cn v) (cn hi) (cnB v sv) BH (by decide) (by decide)
      rw [rv_cn, rv_cn] at hcv
      have hge : lo ≤ v := by
        have := u.ok
        unfold okU at this
        by_cases e : L = []
        · rw [if_neg (by simp [e]), st.fst e] at this
          exact this
        · rw [if_pos (by simp [e])] at this
          obtain ⟨l1, _, _⟩ := st.last e
          have := (st.row.mem a l1).1
          grind
      by_cases hv : hi < v
      · refine ⟨L, st.row, fun c hcd hc1 hc2 => ?_, Ev.succ ?_⟩
        · by_cases e : L = []
          · exfalso
            have := u.least c hcd (by unfold okU; rw [if_neg (by simp [e]), st.fst e]; exact hc1)
            grind
          · obtain ⟨l1, l2, l3⟩ := st.last e
            by_cases k : c ≤ a
            · exact l3 c hcd hc1 k
            · exfalso
              have := u.least c hcd (by unfold okU; rw [if_pos (by simp [e])]; exact Rat.not_le.1 k)
              grind
        · simp only [ratio_Between.l0]
          exact Ev.bind hc (Ev.if_pos q1 (Ev.bind hu (Ev.if_pos rfl (Ev.bind hcv (Ev.if_pos (cmpQ_pos.2 hv) (Ev.now _))))))
      · have hv' := Rat.not_lt.1 hv
        have svn := Sz_in s1 s2 hge hv' (by have := u.den; omega)
        have st' : Stand lo hi N (L ++ [v]) v := by
          refine ⟨⟨fun w hw => ?_, ?_⟩, fun e => absurd e (by simp), fun _ => ⟨by simp, fun w hw => ?_, fun c hcd hc1 hc2 => ?_⟩⟩
          · rcases List.mem_append.1 hw with h | h
            · exact st.row.mem w h
            · rw [List.mem_singleton.1 h]; exact ⟨hge, hv', u.den⟩
          · refine List.pairwise_append.2 ⟨st.row.up, List.pairwise_singleton _ _, fun w hw x hx => ?_⟩
            rw [List.mem_singleton.1 hx]
            have e : L ≠ [] := fun e => by rw [e] at hw; cases hw
            obtain ⟨l1, l2, l3⟩ := st.last e
            have := u.ok
            unfold okU at this
            rw [if_pos (by simp [e])] at this
            have := l2 w hw
            grind
          · rcases List.mem_append.1 hw with h | h
            · have e : L ≠ [] := fun e => by rw [e] at h; cases h
              obtain ⟨l1, l2, l3⟩ := st.last e
              have := u.ok
              unfold okU at this
              rw [if_pos (by simp [e])] at this
              have := l2 w h
              grind
            · rw [List.mem_singleton.1 h]; exact Rat.le_refl
          · by_cases e : L = []
            · have := u.least c hcd (by unfold okU; rw [if_neg (by simp [e]), st.fst e]; exact hc1)
              rw [Rat.le_antisymm hc2 this]
              simp
            · obtain ⟨l1, l2, l3⟩ := st.last e
              by_cases k : c ≤ a
              · exact List.mem_append_left _ (l3 c hcd hc1 k)
              · have := u.least c hcd (by unfold okU; rw [if_pos (by simp [e])]; exact Rat.not_le.1 k)
                rw [Rat.le_antisymm hc2 this]
                simp
        obtain ⟨L', r', hall, hr⟩ := ih (L ++ [v]) v (by rw [List.length_append, List.length_singleton]; omega) st' svn
        rw [List.map_append] at hr
        refine ⟨L', r', hall, Ev.succ ?_⟩
        simp only [ratio_Between.l0]
        refine Ev.bind hc (Ev.if_pos q1 (Ev.bind hu (Ev.if_pos rfl (Ev.bind hcv (Ev.if_neg (fun e => hv (cmpQ_pos.1 e)) (Ev.if_neg (by rw [List.length_map]; omega) (Ev.if_pos (by rw [List.length_map]; omega) (Ev.succ ?_))))))))
        simp only [ratio_Between.j1]
        exact hr
    · refine ⟨L, st.row, fun c hcd hc1 hc2 => ?_, Ev.succ ?_⟩
      · exfalso
        by_cases e : L = []
        · have := st.fst e
          grind
        · obtain ⟨l1, _, _⟩ := st.last e
          exact ha (st.row.mem a l1).2.1
      · simp only [ratio_Between.l0]
        have : 0 < cmpQ a hi := cmpQ_pos.2 (Rat.not_le.1 ha)
        exact Ev.bind hc (Ev.if_neg (by omega) (Ev.now _))
end Go.DI.Th
namespace Go.DI.Th
open Go Go.RowKit Go.DI
variable {lo hi : Rat} {N : Nat} {X Y : Rt} {L : List Rat}

theorem cmp_eq0 {a b : Nat} (e : cmp a b = 0) : a = b := by
  unfold cmp at e
  split at e
  · omega
  · split at e <;> omega
theorem betw_l2 (n1 : Int) (Ls : List Rt) (d : Nat) (hd : 1 ≤ d) (hd8 : d ≤ 8) (hB : ∀ q : Int, cl lo d ≤ q → q ≤ fo hi d + 1 → D.L q ≤ 60) {T : Bool} : ∀ (m : Nat) (p : Int) (cnt : Nat), (fo hi d + 1 - p).toNat = m → cl lo d ≤ p → cnt + m ≤ 100000 → p ≤ fo hi d + 1 ∨ p = cl lo d →
    D.L p ≤ 60 → D.L (fo hi d) ≤ 60 →
    Ev (fun k => dendronlaw03_RatioBetweens.l1 k n1 Ls 0 ((cnt + (rng d p m).length : Nat) : Int) ((d + 1 : Nat) : Int) X.1 X.2.1 X.2.2 Y.1 Y.2.1 Y.2.2) T →
    Ev (fun k => dendronlaw03_RatioBetweens.l2 k n1 Ls 0 (cnt : Int) (d : Int) X.1 X.2.1 X.2.2 Y.1 Y.2.1 Y.2.2 (D.il (fo hi d)).1 (D.il (fo hi d)).2 (D.il p).1 (D.il p).2) T := by
  intro m
  induction m with
  | zero =>
    intro p cnt hm hp hc hor hL hLf hk
    have ho := D.worder_ev p (fo hi d) (by omega) (by omega)
    have q : ¬ D.cmpI p (fo hi d) ≤ 0 := by
      unfold D.cmpI
      rw [if_neg (by omega), if_pos (by omega)]
      decide
    have ew : wrap64 ((d : Int) + 1) = ((d + 1 : Nat) : Int) := wr_succ _ (by omega)
    rw [rng, List.length_nil, Nat.add_zero] at hk
    refine Ev.succ ?_
    simp only [dendronlaw03_RatioBetweens.l2, ew]
    exact Ev.bind ho (Ev.if_neg q hk)
  | succ m ih =>
    intro p cnt hm hp hc hor hL hLf hk
    have f1 : (fo hi d + 1 - (p + 1)).toNat = m := by omega
    have f2 : cl lo d ≤ p + 1 := by omega
    have f3 : cnt + 1 + m ≤ 100000 := by omega
    have f3' : cnt + m ≤ 100000 := by omega
    have f4 : p + 1 ≤ fo hi d + 1 ∨ p + 1 = cl lo d := .inl (by omega)
    have f5 : ∀ n, cnt + 1 + n = cnt + (n + 1) := fun n => by omega
    have ho := D.worder_ev p (fo hi d) (by omega) (by omega)
    have q : D.cmpI p (fo hi d) ≤ 0 := by
      unfold D.cmpI
      split
      · decide
      · rw [if_neg (by omega)]
        decide
    have hs := D.small_ev d (by omega)
    have Ld : D.len d ≤ 1 := D.len_le (by omega)
    have hg := D.gcd_ev d p.natAbs (by have : D.len p.natAbs ≤ 60 := hL; omega) (by omega)
    have h1 := D.small_ev 1 (by decide)
    have hgd : Nat.gcd p.natAbs d ≤ d := Nat.gcd_le_right _ hd
    have Lg : D.len (Nat.gcd p.natAbs d) ≤ 1 := D.len_le (by omega)
    have hoo := D.order_ev (Nat.gcd p.natAbs d) 1 (by omega)
    have w1 := D.wsmall_ev 1 (by decide) (by decide)
    have L1 : D.L (1 : Int) ≤ 1 := D.len_le (by decide)
    have w2 := D.wplus_ev p 1 (by omega) (by omega)
    have hnext := ih (p + 1)
    have Lp1 := hB (p + 1) (by omega) (by omega)
    have ew : wrap64 ((cnt : Int) + 1) = ((cnt + 1 : Nat) : Int) := wr_succ _ (by omega)
    rw [rng] at hk
    refine Ev.succ ?_
    simp only [dendronlaw03_RatioBetweens.l2, ew]
    refine Ev.bind ho (Ev.if_pos q (Ev.bind hs (Ev.bind hg (Ev.bind h1 (Ev.bind hoo ?_)))))
    by_cases hgc : Nat.gcd p.natAbs d = 1
    · rw [if_pos hgc, List.length_cons] at hk
      have hr := hnext (cnt + 1) f1 f2 f3 f4 Lp1 hLf (by rw [f5]; exact hk)
      refine Ev.if_pos (by rw [hgc]; decide) (Ev.succ ?_)
      simp only [dendronlaw03_RatioBetweens.j3]
      exact Ev.bind w1 (Ev.bind w2 hr)
    · rw [if_neg hgc] at hk
      have hr := hnext cnt f1 f2 f3' f4 Lp1 hLf hk
      refine Ev.if_neg (fun e => hgc (cmp_eq0 e)) (Ev.succ ?_)
      simp only [dendronlaw03_RatioBetweens.j3]
      exact Ev.bind w1 (Ev.bind w2 hr)
theorem L_between {c f : Int} (h1 : D.L c ≤ 50) (h2 : D.L f ≤ 50) (q : Int) (a : c ≤ q) (b : q ≤ f + 1) : D.L q ≤ 60 := by
  have k1 : D.len c.natAbs ≤ 50 := h1
  have k2 : D.len f.natAbs ≤ 50 := h2
  have k3 : D.len (f.natAbs + 1) ≤ 51 := D.len_le (by
    have h2' := D.lt_pow_len f.natAbs
    have h3 : 10000 ^ D.len f.natAbs ≤ 10000 ^ 50 := Nat.pow_le_pow_right (by decide) k2
    have : (10000 : Nat) ^ 51 = 10000 ^ 50 * 10000 := by rw [Nat.pow_succ]
    generalize (10000 : Nat) ^ 50 = p at h3 this
    omega)
  show D.len q.natAbs ≤ 60
  rcases Int.le_total 0 q with t | t
  · have := D.len_mono (show q.natAbs ≤ f.natAbs + 1 by omega)
    omega
  · have := D.len_mono (show q.natAbs ≤ c.natAbs by omega)
    omega
theorem betw_l1 (hX : D.FL lo 20 X) (hY : D.FL hi 20 Y) (hN : N ≤ 8) (h20 : hi - lo ≤ 20) (hcount : sm (fun d => (Pd lo hi d).length) N = L.length) : ∀ (m d : Nat), d + m = N + 1 → 1 ≤ d →
    Ev (fun k => dendronlaw03_RatioBetweens.l1 k (N : Int) (L.map cn) 0 ((sm (fun d => (Pd lo hi d).length) (d - 1) : Nat) : Int) (d : Int) X.1 X.2.1 X.2.2 Y.1 Y.2.1 Y.2.2) true := by
  intro m
  induction m with
  | zero =>
    intro d hd h1
    have e : d - 1 = N := by omega
    rw [e, hcount]
    refine Ev.succ ?_
    simp only [dendronlaw03_RatioBetweens.l1]
    exact Ev.if_neg (by omega) (Ev.if_pos trivial (Ev.if_pos (by rw [List.length_map]) aw3))
  | succ m ih =>
    intro d hd h1
    obtain ⟨u, hu, eu⟩ := D.FL.small (d : Int) 1 (by omega) (by decide) (by decide)
    rw [mk_one] at hu
    obtain ⟨v, hv, ev⟩ := hX.times hu (by decide)
    obtain ⟨w, hw, ew⟩ := hv.minus
    have fw := hw.floor (by decide)
    have mw := D.wminus_ev (-(lo * ((d : Int) : Rat))).floor
    rw [← Rat.ceil_eq_neg_floor_neg] at mw
    obtain ⟨p, hp, ep⟩ := hY.times hu (by decide)
    have fp := hp.floor (by decide)
    have L1 := hw.floor_L
    have L2 := hp.floor_L
    have L3 : D.L (cl lo d) ≤ 50 := by
      unfold cl
      rw [Rat.ceil_eq_neg_floor_neg]
      show D.len _ ≤ 50
      rw [Int.natAbs_neg]
      have : D.len (-(lo * ((d : Int) : Rat))).floor.natAbs ≤ 25 := L1
      omega
    have L4 : D.L (fo hi d) ≤ 50 := by
      have : D.L (fo hi d) ≤ 25 := L2
      omega
    have e1 : ((1 : Nat) : Int) = 1 := rfl
    rw [e1] at eu
    have hnext := ih (d + 1) (by omega) (by omega)
    have hw2 := wid lo hi d (by omega) h20
    have hsm : sm (fun d => (Pd lo hi d).length) (d - 1) ≤ 728 :=
      Nat.le_trans (sm_le (d - 1) fun x a b => Pd_len lo hi x (by omega) h20) (sm_bound (d - 1) (by omega))
    have hk : Ev (fun k => dendronlaw03_RatioBetweens.l1 k (N : Int) (L.map cn) 0 ((sm (fun d => (Pd lo hi d).length) (d - 1) + (rng d (cl lo d) (fo hi d + 1 - cl lo d).toNat).length : Nat) : Int) ((d + 1 : Nat) : Int) X.1 X.2.1 X.2.2 Y.1 Y.2.1 Y.2.2) true := by
      have e : sm (fun d => (Pd lo hi d).length) (d - 1) + (rng d (cl lo d) (fo hi d + 1 - cl lo d).toNat).length = sm (fun d => (Pd lo hi d).length) (d + 1 - 1) := by
        have ed : d + 1 - 1 = (d - 1) + 1 := by omega
        have ed2 : d - 1 + 1 = d := by omega
        rw [ed, sm, ed2]
        rfl
      rw [e]
      exact hnext
    have h2 := betw_l2 (lo := lo) (hi := hi) (X := X) (Y := Y) (N : Int) (L.map cn) d h1 (by omega) (L_between L3 L4) (fo hi d + 1 - cl lo d).toNat (cl lo d) (sm (fun d => (Pd lo hi d).length) (d - 1)) rfl (Int.le_refl _) (by omega) (.inr rfl) (by omega) (by omega) hk
    refine Ev.succ ?_
    simp only [dendronlaw03_RatioBetweens.l1]
    exact Ev.if_pos (by omega) (Ev.bind eu (Ev.bind ev (Ev.bind ew (Ev.bind fw (Ev.bind mw (Ev.bind eu (Ev.bind ep (Ev.bind fp h2))))))))
theorem betw_l0 (hX : D.FL lo 20 X) (hY : D.FL hi 20 Y) (s1 : Sz lo ≤ 3) (s2 : Sz hi ≤ 3) (hN : N ≤ 8) (h20 : hi - lo ≤ 20) (r : Row lo hi N L)
    (hT : Ev (fun k => dendronlaw03_RatioBetweens.l1 k (N : Int) (L.map cn) 0 0 1 X.1 X.2.1 X.2.2 Y.1 Y.2.1 Y.2.2) true) : ∀ (b a : List Rat) (pv : Rat) (P : Rt), L = a ++ b → D.FL pv 60 P → (∀ v ∈ b, pv < v) →
    Ev (fun k => dendronlaw03_RatioBetweens.l0 k (N : Int) (L.map cn) 0 0 (a.length : Int) X.1 X.2.1 X.2.2 Y.1 Y.2.1 Y.2.2 P.1 P.2.1 P.2.2) true := by
  intro b
  induction b with
  | nil =>
    intro a pv P hL hP hlt
    rw [List.append_nil] at hL
    refine Ev.succ ?_
    simp only [dendronlaw03_RatioBetweens.l0]
    exact Ev.if_neg (by rw [List.length_map, hL]; omega) hT
  | cons v b ih =>
    intro a pv P hL hP hlt
    have hmm : L.map cn = a.map cn ++ cn v :: b.map cn := by rw [hL]; simp
    have hlen : L.length = a.length + (b.length + 1) := by rw [hL, List.length_append, List.length_cons]
    have eg : gt (false, [], []) (L.map cn) (a.length : Int) = cn v := by
      rw [hmm]
      have := gt_at ((false, [], []) : Rt) (a.map cn) (cn v) (b.map cn)
      rw [List.length_map] at this
      exact this
    obtain ⟨m1, m2, m3⟩ := r.mem v (by rw [hL]; simp)
    have sv := Sz_in s1 s2 m1 m2 (by omega)
    have BV := cnB v sv
    obtain ⟨t, ht, et⟩ := D.FL.from BV (by decide)
    rw [rv_cn] at ht
    have hri := D.right3_ev (cn v) BV (by decide)
    rw [rv_cn, decide_eq_true rfl] at hri
    have o1 := ht.order hP (by decide)
    have o2 := ht.order hX (by decide)
    have o3 := ht.order hY (by decide)
    have q1 : ¬ cmpQ v pv ≤ 0 := by
      have := cmpQ_pos.2 (hlt v List.mem_cons_self)
      omega
    have q2 : ¬ cmpQ v lo < 0 := fun e => Rat.not_lt.2 m1 (cmpQ_neg.1 e)
    have q3 : ¬ cmpQ v hi > 0 := fun e => Rat.not_lt.2 m2 (cmpQ_pos.1 e)
    have hf := D.from_ev (cn v).2.2 BV.2.1 (by have := BV.2.2.2; omega)
    rw [(val_cn v).2] at hf
    have hs := D.small_ev N (by omega)
    have Lv : D.len v.den ≤ 1 := D.len_le (by omega)
    have hoo := D.order_ev v.den N (by omega)
    have q4 : ¬ cmp v.den N > 0 := by
      unfold cmp
      split
      · decide
      · rw [if_neg (by omega)]
        decide
    have hup := r.up
    rw [hL] at hup
    have hvb : ∀ w ∈ b, v < w := ((List.pairwise_append.1 hup).2.1 |> List.pairwise_cons.1).1
    have hih := ih (a ++ [v]) v t (by rw [hL]; simp) (ht.mono (by decide)) hvb
    have ew : wrap64 ((a.length : Int) + 1) = (((a ++ [v]).length : Nat) : Int) := by
      rw [List.length_append, List.length_singleton]
      exact wr_succ _ (by have := row_len r hN h20; omega)
    refine Ev.succ ?_
    simp only [dendronlaw03_RatioBetweens.l0, ew, eg]
    exact Ev.if_pos (by rw [List.length_map]; omega) (Ev.if_pos (nn0 _) (Ev.bind et (Ev.bind hri (Ev.if_pos rfl (Ev.bind o1 (Ev.if_neg q1 (Ev.bind o2 (Ev.if_neg q2 (Ev.bind o3 (Ev.if_neg q3 (Ev.bind hf (Ev.bind hs (Ev.bind hoo (Ev.if_neg q4 hih))))))))))))))
theorem between_none (r s : Rt) (n : Int) (h : n < 1 ∨ 64 < n) : Ev (fun k => ratio_Between.f k r.1 r.2.1 r.2.2 s.1 s.2.1 s.2.2 n) (([] : List Rt), 8) := by
  unfold ratio_Between.f
  by_cases h1 : n < 1
  · exact Ev.if_pos h1 (Ev.now _)
  · exact Ev.if_neg h1 (Ev.if_pos (by omega) (Ev.now _))
theorem ratioBetweens_ev (r s : Rt) (n : Int) (hr : RtU r) (hs : RtU s) : Ev (fun k => dendronlaw03_RatioBetweens.f k r.1 r.2.1 r.2.2 s.1 s.2.1 s.2.2 n) true := by
  unfold dendronlaw03_RatioBetweens.f
  refine Ev.bind (tiny3_ev _ _ _) (Ev.bind (tiny3_ev _ _ _) ?_)
  have ha := tinyB hr
  have hb := tinyB hs
  generalize tinyR (r.1, r.2.1, r.2.2) = a at ha ⊢
  generalize tinyR (s.1, s.2.1, s.2.2) = b at hb ⊢
  obtain ⟨x, hx, ex⟩ := D.FL.from ha (by decide)
  obtain ⟨y, hy, ey⟩ := D.FL.from hb (by decide)
  obtain ⟨m, hm, em⟩ := hx.minus
  obtain ⟨p, hp, ep⟩ := hy.plus hm (by decide)
  rw [← Rat.sub_eq_add_neg] at hp
  obtain ⟨t, ht, et⟩ := D.FL.small 20 1 (by decide) (by decide) (by decide)
  rw [mk_one] at ht
  have e1 : ((1 : Nat) : Int) = 1 := rfl
  rw [e1] at et
  have ho := hp.order ht (by decide)
  have e20 : ((20 : Int) : Rat) = 20 := rfl
  rw [e20] at ho
  refine Ev.bind ex (Ev.bind ey ?_)
  by_cases h8 : n > 8
  · refine Ev.if_pos h8 ?_
    by_cases h64 : n ≤ 64
    · exact Ev.if_pos h64 aw3
    · have hN := between_none a b n (.inr (by omega))
      refine Ev.if_neg h64 (Ev.bind em (Ev.bind ep (Ev.bind et (Ev.bind ho ?_))))
      by_cases hw : cmpQ (rv b - rv a) 20 > 0
      · exact Ev.if_pos hw aw3
      · exact Ev.if_neg hw (Ev.bind hN (Ev.if_neg (by omega) (Ev.if_pos (by omega) (Ev.if_pos rfl (Ev.if_pos rfl aw3)))))
  · refine Ev.if_neg h8 (Ev.bind em (Ev.bind ep (Ev.bind et (Ev.bind ho ?_))))
    by_cases hw : cmpQ (rv b - rv a) 20 > 0
    · exact Ev.if_pos hw aw3
    · refine Ev.if_neg hw ?_
      by_cases h1 : n < 1
      · have hN := between_none a b n (.inl h1)
        exact Ev.bind hN (Ev.if_pos h1 (Ev.if_pos rfl (Ev.if_pos rfl aw3)))
      · obtain ⟨N, rfl⟩ : ∃ N : Nat, n = (N : Int) := ⟨n.toNat, by omega⟩
        have s1 := ha.sz
        have s2 := hb.sz
        have c1 := clean_cn a ha (by decide)
        have c2 := clean_cn b hb (by decide)
        have h20 : rv b - rv a ≤ 20 := Rat.not_lt.1 fun e => hw (cmpQ_pos.2 e)
        obtain ⟨L, row, hall, hrun⟩ := between_l0 (rv a) (rv b) s1 s2 N (by omega) (by omega) h20 729 [] (rv a) (by rw [List.length_nil]) ⟨⟨fun v hv => (by cases hv), List.Pairwise.nil⟩, fun _ => rfl, fun e => absurd rfl e⟩ (by omega)
        have hbt : Ev (fun k => ratio_Between.f k a.1 a.2.1 a.2.2 b.1 b.2.1 b.2.2 (N : Int)) (L.map cn, 0) := by
          unfold ratio_Between.f
          exact Ev.if_neg h1 (Ev.if_neg (by omega) (Ev.bind c1 (Ev.bind c2 hrun)))
        obtain ⟨g, hg, eg⟩ := D.FL.small (-1) 1 (by decide) (by decide) (by decide)
        rw [mk_one] at hg
        rw [e1] at eg
        obtain ⟨q, hq, eq⟩ := hx.plus hg (by decide)
        have hcount := row_count row hall
        have hT := betw_l1 (hx.mono (by decide)) (hy.mono (by decide)) (N := N) (L := L) (by omega) h20 hcount N 1 (by omega) (by decide)
        have h0 := betw_l0 (hx.mono (by decide)) (hy.mono (by decide)) s1 s2 (N := N) (by omega) h20 row hT L [] _ q rfl (hq.mono (by decide)) (fun v hv => by
          have := (row.mem v hv).1
          have em1 : ((-1 : Int) : Rat) = -1 := rfl
          rw [em1]
          grind)
        exact Ev.bind hbt (Ev.if_neg h1 (Ev.if_neg (by omega) (Ev.bind eg (Ev.bind eq h0))))
end Go.DI.Th
