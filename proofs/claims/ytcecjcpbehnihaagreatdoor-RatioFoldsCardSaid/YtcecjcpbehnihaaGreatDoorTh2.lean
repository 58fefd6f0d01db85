/- What the told functions answer, part 2. No condition. -/
import Derived.Test.YtcecjcpbehnihaaGreatDoorTh1
set_option linter.all false
namespace Go.DI.Th
open Go Go.RowKit Go.DI

def Le {α : Type} (a b : Option α) : Prop := ∀ r, a = some r → b = some r
theorem Le.refl {α : Type} (a : Option α) : Le a a := fun _ h => h
theorem Le.none {α : Type} (b : Option α) : Le none b := fun _ h => by cases h
theorem Le.eqs {α : Type} {a b c d : Option α} (h : a = c) (h' : b = d) (k : Le c d) : Le a b := by subst h; subst h'; exact k
theorem Le.bind {α β : Type} {a b : Option α} {f g : α → Option β} (h : Le a b) (k : ∀ v, Le (f v) (g v)) : Le (a.bind f) (b.bind g) := by
  intro r hr
  cases ha : a with
  | none => rw [ha] at hr; cases hr
  | some v =>
    rw [ha] at hr
    rw [h v ha]
    exact k v r hr
theorem Le.ite {α : Type} {c : Prop} [Decidable c] {a b a' b' : Option α} (h : Le a a') (k : Le b b') : Le (if c then a else b) (if c then a' else b') := by
  split
  · exact h
  · exact k
theorem Ev.mono {α : Type} {g : Nat → Option α} (h : ∀ k, Le (g k) (g (k + 1))) {K : Nat} {r : α} (hk : g K = some r) : Ev g r := by
  refine ⟨K, fun n hn => ?_⟩
  induction hn with
  | refl => exact hk
  | step _ ih => exact h _ r ih
theorem nat_trim.monoL (k : Nat) : (∀ x0 x1, Le (nat_trim.l0 k x0 x1) (nat_trim.l0 (k + 1) x0 x1)) := by
  induction k with
  | zero => exact fun _ _ => Le.none _
  | succ k ih =>
    intro x0 x1
    refine Le.eqs (nat_trim.l0.eq_2 ..) (nat_trim.l0.eq_2 ..) ?_
    repeat' (first
      | with_reducible exact Le.refl _
      | with_reducible refine Le.ite ?_ ?_
      | with_reducible exact ih _ _
      | with_reducible refine Le.bind (ih _ _) (fun _ => ?_)
      | with_reducible refine Le.bind (Le.refl _) (fun _ => ?_)
      | split)
theorem nat_trim.mono (k : Nat) : ∀ x0, Le (nat_trim.f k x0) (nat_trim.f (k + 1) x0) := by
  intro x0
  unfold nat_trim.f
  repeat' (first
    | with_reducible exact Le.refl _
    | with_reducible refine Le.ite ?_ ?_
    | with_reducible exact (nat_trim.monoL k) _ _
    | with_reducible refine Le.bind (Le.refl _) (fun _ => ?_)
    | split)
theorem nat_Clean.monoL (k : Nat) : (∀ x0 x1 x2 x3, Le (nat_Clean.l0 k x0 x1 x2 x3) (nat_Clean.l0 (k + 1) x0 x1 x2 x3)) := by
  induction k with
  | zero => exact fun _ _ _ _ => Le.none _
  | succ k ih =>
    intro x0 x1 x2 x3
    refine Le.eqs (nat_Clean.l0.eq_2 ..) (nat_Clean.l0.eq_2 ..) ?_
    repeat' (first
      | with_reducible exact Le.refl _
      | with_reducible refine Le.ite ?_ ?_
      | with_reducible exact ih _ _ _ _
      | with_reducible refine Le.bind (ih _ _ _ _) (fun _ => ?_)
      | with_reducible refine Le.bind (nat_trim.mono k _) (fun _ => ?_)
      | with_reducible exact nat_trim.mono k _
      | with_reducible refine Le.bind (Le.refl _) (fun _ => ?_)
      | split)
theorem nat_Clean.mono (k : Nat) : ∀ x0, Le (nat_Clean.f k x0) (nat_Clean.f (k + 1) x0) := by
  intro x0
  unfold nat_Clean.f
  repeat' (first
    | with_reducible exact Le.refl _
    | with_reducible refine Le.ite ?_ ?_
    | with_reducible exact (nat_Clean.monoL k) _ _ _ _
    | with_reducible refine Le.bind (Le.refl _) (fun _ => ?_)
    | split)
theorem whole_Clean.mono (k : Nat) : ∀ x0 x1, Le (whole_Clean.f k x0 x1) (whole_Clean.f (k + 1) x0 x1) := by
  intro x0 x1
  unfold whole_Clean.f
  repeat' (first
    | with_reducible exact Le.refl _
    | with_reducible refine Le.ite ?_ ?_
    | with_reducible refine Le.bind (nat_Clean.mono k _) (fun _ => ?_)
    | with_reducible exact nat_Clean.mono k _
    | with_reducible refine Le.bind (Le.refl _) (fun _ => ?_)
    | split)
theorem whole_Sign.mono (k : Nat) : ∀ x0 x1, Le (whole_Sign.f k x0 x1) (whole_Sign.f (k + 1) x0 x1) := by
  intro x0 x1
  unfold whole_Sign.f
  repeat' (first
    | with_reducible exact Le.refl _
    | with_reducible refine Le.ite ?_ ?_
    | with_reducible refine Le.bind (whole_Clean.mono k _ _) (fun _ => ?_)
    | with_reducible exact whole_Clean.mono k _ _
    | with_reducible refine Le.bind (Le.refl _) (fun _ => ?_)
    | split)
theorem whole_Neg.mono (k : Nat) : ∀ x0 x1, Le (whole_Neg.f k x0 x1) (whole_Neg.f (k + 1) x0 x1) := by
  intro x0 x1
  unfold whole_Neg.f
  repeat' (first
    | with_reducible exact Le.refl _
    | with_reducible refine Le.ite ?_ ?_
    | with_reducible refine Le.bind (whole_Clean.mono k _ _) (fun _ => ?_)
    | with_reducible exact whole_Clean.mono k _ _
    | with_reducible refine Le.bind (Le.refl _) (fun _ => ?_)
    | split)
theorem nat_Of.mono (k : Nat) : ∀ x0, Le (nat_Of.f k x0) (nat_Of.f (k + 1) x0) := by
  intro x0
  unfold nat_Of.f
  repeat' (first
    | with_reducible exact Le.refl _
    | with_reducible refine Le.ite ?_ ?_
    | with_reducible refine Le.bind (nat_trim.mono k _) (fun _ => ?_)
    | with_reducible exact nat_trim.mono k _
    | with_reducible refine Le.bind (Le.refl _) (fun _ => ?_)
    | split)
theorem nat_order.monoL (k : Nat) : (∀ x0 x1 x2, Le (nat_order.l0 k x0 x1 x2) (nat_order.l0 (k + 1) x0 x1 x2)) := by
  induction k with
  | zero => exact fun _ _ _ => Le.none _
  | succ k ih =>
    intro x0 x1 x2
    refine Le.eqs (nat_order.l0.eq_2 ..) (nat_order.l0.eq_2 ..) ?_
    repeat' (first
      | with_reducible exact Le.refl _
      | with_reducible refine Le.ite ?_ ?_
      | with_reducible exact ih _ _ _
      | with_reducible refine Le.bind (ih _ _ _) (fun _ => ?_)
      | with_reducible refine Le.bind (Le.refl _) (fun _ => ?_)
      | split)
theorem nat_order.mono (k : Nat) : ∀ x0 x1, Le (nat_order.f k x0 x1) (nat_order.f (k + 1) x0 x1) := by
  intro x0 x1
  unfold nat_order.f
  repeat' (first
    | with_reducible exact Le.refl _
    | with_reducible refine Le.ite ?_ ?_
    | with_reducible exact (nat_order.monoL k) _ _ _
    | with_reducible refine Le.bind (Le.refl _) (fun _ => ?_)
    | split)
theorem nat_To.mono (k : Nat) : ∀ x0, Le (nat_To.f k x0) (nat_To.f (k + 1) x0) := by
  intro x0
  unfold nat_To.f
  repeat' (first
    | with_reducible exact Le.refl _
    | with_reducible refine Le.ite ?_ ?_
    | with_reducible refine Le.bind (nat_Clean.mono k _) (fun _ => ?_)
    | with_reducible exact nat_Clean.mono k _
    | with_reducible refine Le.bind (Le.refl _) (fun _ => ?_)
    | split)
theorem nat_euclid.monoL (k : Nat) : (∀ x0 x1, Le (nat_euclid.l0 k x0 x1) (nat_euclid.l0 (k + 1) x0 x1)) := by
  induction k with
  | zero => exact fun _ _ => Le.none _
  | succ k ih =>
    intro x0 x1
    refine Le.eqs (nat_euclid.l0.eq_2 ..) (nat_euclid.l0.eq_2 ..) ?_
    repeat' (first
      | with_reducible exact Le.refl _
      | with_reducible refine Le.ite ?_ ?_
      | with_reducible exact ih _ _
      | with_reducible refine Le.bind (ih _ _) (fun _ => ?_)
      | with_reducible refine Le.bind (nat_Of.mono k _) (fun _ => ?_)
      | with_reducible exact nat_Of.mono k _
      | with_reducible refine Le.bind (Le.refl _) (fun _ => ?_)
      | split)
theorem nat_euclid.mono (k : Nat) : ∀ x0 x1, Le (nat_euclid.f k x0 x1) (nat_euclid.f (k + 1) x0 x1) := by
  intro x0 x1
  unfold nat_euclid.f
  repeat' (first
    | with_reducible exact Le.refl _
    | with_reducible refine Le.ite ?_ ?_
    | with_reducible exact (nat_euclid.monoL k) _ _
    | with_reducible refine Le.bind (nat_To.mono k _) (fun _ => ?_)
    | with_reducible exact nat_To.mono k _
    | with_reducible refine Le.bind (Le.refl _) (fun _ => ?_)
    | split)
theorem nat_zeros.monoL (k : Nat) : (∀ x0 x1 x2 x3, Le (nat_zeros.l0 k x0 x1 x2 x3) (nat_zeros.l0 (k + 1) x0 x1 x2 x3)) := by
  induction k with
  | zero => exact fun _ _ _ _ => Le.none _
  | succ k ih =>
    intro x0 x1 x2 x3
    refine Le.eqs (nat_zeros.l0.eq_2 ..) (nat_zeros.l0.eq_2 ..) ?_
    repeat' (first
      | with_reducible exact Le.refl _
      | with_reducible refine Le.ite ?_ ?_
      | with_reducible exact ih _ _ _ _
      | with_reducible refine Le.bind (ih _ _ _ _) (fun _ => ?_)
      | with_reducible refine Le.bind (Le.refl _) (fun _ => ?_)
      | split)
theorem nat_zeros.mono (k : Nat) : ∀ x0, Le (nat_zeros.f k x0) (nat_zeros.f (k + 1) x0) := by
  intro x0
  unfold nat_zeros.f
  repeat' (first
    | with_reducible exact Le.refl _
    | with_reducible refine Le.ite ?_ ?_
    | with_reducible exact (nat_zeros.monoL k) _ _ _ _
    | with_reducible refine Le.bind (Le.refl _) (fun _ => ?_)
    | split)
theorem nat_shr.monoL (k : Nat) : (∀ x0 x1 x2 x3 x4 x5, Le (nat_shr.l0 k x0 x1 x2 x3 x4 x5) (nat_shr.l0 (k + 1) x0 x1 x2 x3 x4 x5)) := by
  induction k with
  | zero => exact fun _ _ _ _ _ _ => Le.none _
  | succ k ih =>
    intro x0 x1 x2 x3 x4 x5
    refine Le.eqs (nat_shr.l0.eq_2 ..) (nat_shr.l0.eq_2 ..) ?_
    repeat' (first
      | with_reducible exact Le.refl _
      | with_reducible refine Le.ite ?_ ?_
      | with_reducible exact ih _ _ _ _ _ _
      | with_reducible refine Le.bind (ih _ _ _ _ _ _) (fun _ => ?_)
      | with_reducible refine Le.bind (nat_trim.mono k _) (fun _ => ?_)
      | with_reducible exact nat_trim.mono k _
      | with_reducible refine Le.bind (Le.refl _) (fun _ => ?_)
      | split)
theorem nat_shr.mono (k : Nat) : ∀ x0 x1, Le (nat_shr.f k x0 x1) (nat_shr.f (k + 1) x0 x1) := by
  intro x0 x1
  unfold nat_shr.f
  repeat' (first
    | with_reducible exact Le.refl _
    | with_reducible refine Le.ite ?_ ?_
    | with_reducible exact (nat_shr.monoL k) _ _ _ _ _ _
    | with_reducible refine Le.bind (Le.refl _) (fun _ => ?_)
    | split)
theorem nat_trimM.monoL (k : Nat) : (∀ x0 x1, Le (nat_trimM.l0 k x0 x1) (nat_trimM.l0 (k + 1) x0 x1)) := by
  induction k with
  | zero => exact fun _ _ => Le.none _
  | succ k ih =>
    intro x0 x1
    refine Le.eqs (nat_trimM.l0.eq_2 ..) (nat_trimM.l0.eq_2 ..) ?_
    repeat' (first
      | with_reducible exact Le.refl _
      | with_reducible refine Le.ite ?_ ?_
      | with_reducible exact ih _ _
      | with_reducible refine Le.bind (ih _ _) (fun _ => ?_)
      | with_reducible refine Le.bind (Le.refl _) (fun _ => ?_)
      | split)
theorem nat_trimM.mono (k : Nat) : ∀ x0, Le (nat_trimM.f k x0) (nat_trimM.f (k + 1) x0) := by
  intro x0
  unfold nat_trimM.f
  repeat' (first
    | with_reducible exact Le.refl _
    | with_reducible refine Le.ite ?_ ?_
    | with_reducible exact (nat_trimM.monoL k) _ _
    | with_reducible refine Le.bind (Le.refl _) (fun _ => ?_)
    | split)
theorem nat_shl.monoL (k : Nat) : (∀ x0 x1 x2 x3 x4 x5, Le (nat_shl.l0 k x0 x1 x2 x3 x4 x5) (nat_shl.l0 (k + 1) x0 x1 x2 x3 x4 x5)) := by
  induction k with
  | zero => exact fun _ _ _ _ _ _ => Le.none _
  | succ k ih =>
    intro x0 x1 x2 x3 x4 x5
    refine Le.eqs (nat_shl.l0.eq_2 ..) (nat_shl.l0.eq_2 ..) ?_
    repeat' (first
      | with_reducible exact Le.refl _
      | with_reducible refine Le.ite ?_ ?_
      | with_reducible exact ih _ _ _ _ _ _
      | with_reducible refine Le.bind (ih _ _ _ _ _ _) (fun _ => ?_)
      | with_reducible refine Le.bind (nat_trimM.mono k _) (fun _ => ?_)
      | with_reducible exact nat_trimM.mono k _
      | with_reducible refine Le.bind (Le.refl _) (fun _ => ?_)
      | split)
theorem nat_shl.mono (k : Nat) : ∀ x0 x1, Le (nat_shl.f k x0 x1) (nat_shl.f (k + 1) x0 x1) := by
  intro x0 x1
  unfold nat_shl.f
  repeat' (first
    | with_reducible exact Le.refl _
    | with_reducible refine Le.ite ?_ ?_
    | with_reducible exact (nat_shl.monoL k) _ _ _ _ _ _
    | with_reducible refine Le.bind (Le.refl _) (fun _ => ?_)
    | split)
theorem nat_small.monoL (k : Nat) : (∀ x0 x1 x2 x3 x4, Le (nat_small.l0 k x0 x1 x2 x3 x4) (nat_small.l0 (k + 1) x0 x1 x2 x3 x4)) := by
  induction k with
  | zero => exact fun _ _ _ _ _ => Le.none _
  | succ k ih =>
    intro x0 x1 x2 x3 x4
    refine Le.eqs (nat_small.l0.eq_2 ..) (nat_small.l0.eq_2 ..) ?_
    repeat' (first
      | with_reducible exact Le.refl _
      | with_reducible refine Le.ite ?_ ?_
      | with_reducible exact ih _ _ _ _ _
      | with_reducible refine Le.bind (ih _ _ _ _ _) (fun _ => ?_)
      | with_reducible refine Le.bind (nat_trim.mono k _) (fun _ => ?_)
      | with_reducible exact nat_trim.mono k _
      | with_reducible refine Le.bind (Le.refl _) (fun _ => ?_)
      | split)
theorem nat_small.mono (k : Nat) : ∀ x0 x1, Le (nat_small.f k x0 x1) (nat_small.f (k + 1) x0 x1) := by
  intro x0 x1
  unfold nat_small.f
  repeat' (first
    | with_reducible exact Le.refl _
    | with_reducible refine Le.ite ?_ ?_
    | with_reducible exact (nat_small.monoL k) _ _ _ _ _
    | with_reducible refine Le.bind (Le.refl _) (fun _ => ?_)
    | split)
theorem nat_take.monoL (k : Nat) : (∀ x0 x1 x2 x3 x4 x5 x6, Le (nat_take.l0 k x0 x1 x2 x3 x4 x5 x6) (nat_take.l0 (k + 1) x0 x1 x2 x3 x4 x5 x6)) := by
  induction k with
  | zero => exact fun _ _ _ _ _ _ _ => Le.none _
  | succ k ih =>
    intro x0 x1 x2 x3 x4 x5 x6
    refine Le.eqs (nat_take.l0.eq_2 ..) (nat_take.l0.eq_2 ..) ?_
    repeat' (first
      | with_reducible exact Le.refl _
      | with_reducible refine Le.ite ?_ ?_
      | with_reducible exact ih _ _ _ _ _ _ _
      | with_reducible refine Le.bind (ih _ _ _ _ _ _ _) (fun _ => ?_)
      | with_reducible refine Le.bind (Le.refl _) (fun _ => ?_)
      | split)
theorem nat_take.mono (k : Nat) : ∀ x0 x1 x2, Le (nat_take.f k x0 x1 x2) (nat_take.f (k + 1) x0 x1 x2) := by
  intro x0 x1 x2
  unfold nat_take.f
  repeat' (first
    | with_reducible exact Le.refl _
    | with_reducible refine Le.ite ?_ ?_
    | with_reducible exact (nat_take.monoL k) _ _ _ _ _ _ _
    | with_reducible refine Le.bind (Le.refl _) (fun _ => ?_)
    | split)
theorem nat_give.monoL (k : Nat) : (∀ x0 x1 x2 x3 x4, Le (nat_give.l0 k x0 x1 x2 x3 x4) (nat_give.l0 (k + 1) x0 x1 x2 x3 x4)) := by
  induction k with
  | zero => exact fun _ _ _ _ _ => Le.none _
  | succ k ih =>
    intro x0 x1 x2 x3 x4
    refine Le.eqs (nat_give.l0.eq_2 ..) (nat_give.l0.eq_2 ..) ?_
    repeat' (first
      | with_reducible exact Le.refl _
      | with_reducible refine Le.ite ?_ ?_
      | with_reducible exact ih _ _ _ _ _
      | with_reducible refine Le.bind (ih _ _ _ _ _) (fun _ => ?_)
      | with_reducible refine Le.bind (Le.refl _) (fun _ => ?_)
      | split)
theorem nat_give.mono (k : Nat) : ∀ x0 x1, Le (nat_give.f k x0 x1) (nat_give.f (k + 1) x0 x1) := by
  intro x0 x1
  unfold nat_give.f
  repeat' (first
    | with_reducible exact Le.refl _
    | with_reducible refine Le.ite ?_ ?_
    | with_reducible exact (nat_give.monoL k) _ _ _ _ _
    | with_reducible refine Le.bind (Le.refl _) (fun _ => ?_)
    | split)
theorem nat_digit.monoL (k : Nat) : (∀ x0 x1 x2 x3 x4, Le (nat_digit.l0 k x0 x1 x2 x3 x4) (nat_digit.l0 (k + 1) x0 x1 x2 x3 x4)) := by
  induction k with
  | zero => exact fun _ _ _ _ _ => Le.none _
  | succ k ih =>
    intro x0 x1 x2 x3 x4
    refine Le.eqs (nat_digit.l0.eq_2 ..) (nat_digit.l0.eq_2 ..) ?_
    repeat' (first
      | with_reducible exact Le.refl _
      | with_reducible refine Le.ite ?_ ?_
      | with_reducible exact ih _ _ _ _ _
      | with_reducible refine Le.bind (ih _ _ _ _ _) (fun _ => ?_)
      | with_reducible refine Le.bind (nat_take.mono k _ _ _) (fun _ => ?_)
      | with_reducible refine Le.bind (nat_give.mono k _ _) (fun _ => ?_)
      | with_reducible exact nat_take.mono k _ _ _
      | with_reducible exact nat_give.mono k _ _
      | with_reducible refine Le.bind (Le.refl _) (fun _ => ?_)
      | split)
theorem nat_digit.mono (k : Nat) : ∀ x0 x1, Le (nat_digit.f k x0 x1) (nat_digit.f (k + 1) x0 x1) := by
  intro x0 x1
  unfold nat_digit.f
  repeat' (first
    | with_reducible exact Le.refl _
    | with_reducible refine Le.ite ?_ ?_
    | with_reducible exact (nat_digit.monoL k) _ _ _ _ _
    | with_reducible refine Le.bind (Le.refl _) (fun _ => ?_)
    | split)
theorem nat_long.monoL (k : Nat) : (∀ x0 x1 x2 x3 x4 x5, Le (nat_long.l0 k x0 x1 x2 x3 x4 x5) (nat_long.l0 (k + 1) x0 x1 x2 x3 x4 x5)) := by
  induction k with
  | zero => exact fun _ _ _ _ _ _ => Le.none _
  | succ k ih =>
    intro x0 x1 x2 x3 x4 x5
    refine Le.eqs (nat_long.l0.eq_2 ..) (nat_long.l0.eq_2 ..) ?_
    repeat' (first
      | with_reducible exact Le.refl _
      | with_reducible refine Le.ite ?_ ?_
      | with_reducible exact ih _ _ _ _ _ _
      | with_reducible refine Le.bind (ih _ _ _ _ _ _) (fun _ => ?_)
      | with_reducible refine Le.bind (nat_digit.mono k _ _) (fun _ => ?_)
      | with_reducible refine Le.bind (nat_trim.mono k _) (fun _ => ?_)
      | with_reducible refine Le.bind (nat_shr.mono k _ _) (fun _ => ?_)
      | with_reducible exact nat_digit.mono k _ _
      | with_reducible exact nat_trim.mono k _
      | with_reducible exact nat_shr.mono k _ _
      | with_reducible refine Le.bind (Le.refl _) (fun _ => ?_)
      | split)
theorem nat_long.mono (k : Nat) : ∀ x0 x1, Le (nat_long.f k x0 x1) (nat_long.f (k + 1) x0 x1) := by
  intro x0 x1
  unfold nat_long.f
  repeat' (first
    | with_reducible exact Le.refl _
    | with_reducible refine Le.ite ?_ ?_
    | with_reducible exact (nat_long.monoL k) _ _ _ _ _ _
    | with_reducible refine Le.bind (nat_shl.mono k _ _) (fun _ => ?_)
    | with_reducible exact nat_shl.mono k _ _
    | with_reducible refine Le.bind (Le.refl _) (fun _ => ?_)
    | split)
theorem nat_DivMod.mono (k : Nat) : ∀ x0 x1, Le (nat_DivMod.f k x0 x1) (nat_DivMod.f (k + 1) x0 x1) := by
  intro x0 x1
  unfold nat_DivMod.f
  repeat' (first
    | with_reducible exact Le.refl _
    | with_reducible refine Le.ite ?_ ?_
    | with_reducible refine Le.bind (nat_Clean.mono k _) (fun _ => ?_)
    | with_reducible refine Le.bind (nat_order.mono k _ _) (fun _ => ?_)
    | with_reducible refine Le.bind (nat_small.mono k _ _) (fun _ => ?_)
    | with_reducible refine Le.bind (nat_Of.mono k _) (fun _ => ?_)
    | with_reducible refine Le.bind (nat_long.mono k _ _) (fun _ => ?_)
    | with_reducible exact nat_Clean.mono k _
    | with_reducible exact nat_order.mono k _ _
    | with_reducible exact nat_small.mono k _ _
    | with_reducible exact nat_Of.mono k _
    | with_reducible exact nat_long.mono k _ _
    | with_reducible refine Le.bind (Le.refl _) (fun _ => ?_)
    | split)
theorem nat_rest.mono (k : Nat) : ∀ x0 x1, Le (nat_rest.f k x0 x1) (nat_rest.f (k + 1) x0 x1) := by
  intro x0 x1
  unfold nat_rest.f
  repeat' (first
    | with_reducible exact Le.refl _
    | with_reducible refine Le.ite ?_ ?_
    | with_reducible refine Le.bind (nat_DivMod.mono k _ _) (fun _ => ?_)
    | with_reducible exact nat_DivMod.mono k _ _
    | with_reducible refine Le.bind (Le.refl _) (fun _ => ?_)
    | split)
theorem nat_minus.monoL (k : Nat) : (∀ x0 x1 x2 x3 x4 x5, Le (nat_minus.l0 k x0 x1 x2 x3 x4 x5) (nat_minus.l0 (k + 1) x0 x1 x2 x3 x4 x5)) := by
  induction k with
  | zero => exact fun _ _ _ _ _ _ => Le.none _
  | succ k ih =>
    intro x0 x1 x2 x3 x4 x5
    refine Le.eqs (nat_minus.l0.eq_2 ..) (nat_minus.l0.eq_2 ..) ?_
    repeat' (first
      | with_reducible exact Le.refl _
      | with_reducible refine Le.ite ?_ ?_
      | with_reducible exact ih _ _ _ _ _ _
      | with_reducible refine Le.bind (ih _ _ _ _ _ _) (fun _ => ?_)
      | with_reducible refine Le.bind (nat_trim.mono k _) (fun _ => ?_)
      | with_reducible exact nat_trim.mono k _
      | with_reducible refine Le.bind (Le.refl _) (fun _ => ?_)
      | split)
theorem nat_minus.mono (k : Nat) : ∀ x0 x1, Le (nat_minus.f k x0 x1) (nat_minus.f (k + 1) x0 x1) := by
  intro x0 x1
  unfold nat_minus.f
  repeat' (first
    | with_reducible exact Le.refl _
    | with_reducible refine Le.ite ?_ ?_
    | with_reducible exact (nat_minus.monoL k) _ _ _ _ _ _
    | with_reducible refine Le.bind (Le.refl _) (fun _ => ?_)
    | split)
theorem nat_Gcd.monoL (k : Nat) : (∀ x0 x1 x2 x3, Le (nat_Gcd.l0 k x0 x1 x2 x3) (nat_Gcd.l0 (k + 1) x0 x1 x2 x3)) := by
  induction k with
  | zero => exact fun _ _ _ _ => Le.none _
  | succ k ih =>
    intro x0 x1 x2 x3
    refine Le.eqs (nat_Gcd.l0.eq_2 ..) (nat_Gcd.l0.eq_2 ..) ?_
    repeat' (first
      | with_reducible exact Le.refl _
      | with_reducible refine Le.ite ?_ ?_
      | with_reducible exact ih _ _ _ _
      | with_reducible refine Le.bind (ih _ _ _ _) (fun _ => ?_)
      | with_reducible refine Le.bind (nat_order.mono k _ _) (fun _ => ?_)
      | with_reducible refine Le.bind (nat_shl.mono k _ _) (fun _ => ?_)
      | with_reducible refine Le.bind (nat_rest.mono k _ _) (fun _ => ?_)
      | with_reducible refine Le.bind (nat_zeros.mono k _) (fun _ => ?_)
      | with_reducible refine Le.bind (nat_shr.mono k _ _) (fun _ => ?_)
      | with_reducible refine Le.bind (nat_minus.mono k _ _) (fun _ => ?_)
      | with_reducible exact nat_order.mono k _ _
      | with_reducible exact nat_shl.mono k _ _
      | with_reducible exact nat_rest.mono k _ _
      | with_reducible exact nat_zeros.mono k _
      | with_reducible exact nat_shr.mono k _ _
      | with_reducible exact nat_minus.mono k _ _
      | with_reducible refine Le.bind (Le.refl _) (fun _ => ?_)
      | split)
theorem nat_Gcd.mono (k : Nat) : ∀ x0 x1, Le (nat_Gcd.f k x0 x1) (nat_Gcd.f (k + 1) x0 x1) := by
  intro x0 x1
  unfold nat_Gcd.f
  repeat' (first
    | with_reducible exact Le.refl _
    | with_reducible refine Le.ite ?_ ?_
    | with_reducible exact (nat_Gcd.monoL k) _ _ _ _
    | with_reducible refine Le.bind (nat_Clean.mono k _) (fun _ => ?_)
    | with_reducible refine Le.bind (nat_euclid.mono k _ _) (fun _ => ?_)
    | with_reducible refine Le.bind (nat_zeros.mono k _) (fun _ => ?_)
    | with_reducible refine Le.bind (nat_shr.mono k _ _) (fun _ => ?_)
    | with_reducible exact nat_Clean.mono k _
    | with_reducible exact nat_euclid.mono k _ _
    | with_reducible exact nat_zeros.mono k _
    | with_reducible exact nat_shr.mono k _ _
    | with_reducible refine Le.bind (Le.refl _) (fun _ => ?_)
    | split)
theorem ratio_form.mono (k : Nat) : ∀ x0 x1 x2, Le (ratio_form.f k x0 x1 x2) (ratio_form.f (k + 1) x0 x1 x2) := by
  intro x0 x1 x2
  unfold ratio_form.f
  repeat' (first
    | with_reducible exact Le.refl _
    | with_reducible refine Le.ite ?_ ?_
    | with_reducible refine Le.bind (nat_Of.mono k _) (fun _ => ?_)
    | with_reducible refine Le.bind (nat_Gcd.mono k _ _) (fun _ => ?_)
    | with_reducible refine Le.bind (nat_DivMod.mono k _ _) (fun _ => ?_)
    | with_reducible exact nat_Of.mono k _
    | with_reducible exact nat_Gcd.mono k _ _
    | with_reducible exact nat_DivMod.mono k _ _
    | with_reducible refine Le.bind (Le.refl _) (fun _ => ?_)
    | split)
theorem ratio_Make.mono (k : Nat) : ∀ x0 x1 x2 x3, Le (ratio_Make.f k x0 x1 x2 x3) (ratio_Make.f (k + 1) x0 x1 x2 x3) := by
  intro x0 x1 x2 x3
  unfold ratio_Make.f
  repeat' (first
    | with_reducible exact Le.refl _
    | with_reducible refine Le.ite ?_ ?_
    | with_reducible refine Le.bind (whole_Clean.mono k _ _) (fun _ => ?_)
    | with_reducible refine Le.bind (whole_Sign.mono k _ _) (fun _ => ?_)
    | with_reducible refine Le.bind (whole_Neg.mono k _ _) (fun _ => ?_)
    | with_reducible refine Le.bind (ratio_form.mono k _ _ _) (fun _ => ?_)
    | with_reducible exact whole_Clean.mono k _ _
    | with_reducible exact whole_Sign.mono k _ _
    | with_reducible exact whole_Neg.mono k _ _
    | with_reducible exact ratio_form.mono k _ _ _
    | with_reducible refine Le.bind (Le.refl _) (fun _ => ?_)
    | split)
theorem ratio_Zero.mono (k : Nat) : Le (ratio_Zero.f k ) (ratio_Zero.f (k + 1) ) := by
  unfold ratio_Zero.f
  repeat' (first
    | with_reducible exact Le.refl _
    | with_reducible refine Le.ite ?_ ?_
    | with_reducible refine Le.bind (nat_Of.mono k _) (fun _ => ?_)
    | with_reducible exact nat_Of.mono k _
    | with_reducible refine Le.bind (Le.refl _) (fun _ => ?_)
    | split)
theorem whole_Of.mono (k : Nat) : ∀ x0, Le (whole_Of.f k x0) (whole_Of.f (k + 1) x0) := by
  intro x0
  unfold whole_Of.f
  repeat' (first
    | with_reducible exact Le.refl _
    | with_reducible refine Le.ite ?_ ?_
    | with_reducible refine Le.bind (nat_Of.mono k _) (fun _ => ?_)
    | with_reducible exact nat_Of.mono k _
    | with_reducible refine Le.bind (Le.refl _) (fun _ => ?_)
    | split)
theorem ratio_Of.mono (k : Nat) : ∀ x0, Le (ratio_Of.f k x0) (ratio_Of.f (k + 1) x0) := by
  intro x0
  unfold ratio_Of.f
  repeat' (first
    | with_reducible exact Le.refl _
    | with_reducible refine Le.ite ?_ ?_
    | with_reducible refine Le.bind (whole_Of.mono k _) (fun _ => ?_)
    | with_reducible refine Le.bind (nat_Of.mono k _) (fun _ => ?_)
    | with_reducible exact whole_Of.mono k _
    | with_reducible exact nat_Of.mono k _
    | with_reducible refine Le.bind (Le.refl _) (fun _ => ?_)
    | split)
theorem ratio_One.mono (k : Nat) : Le (ratio_One.f k ) (ratio_One.f (k + 1) ) := by
  unfold ratio_One.f
  repeat' (first
    | with_reducible exact Le.refl _
    | with_reducible refine Le.ite ?_ ?_
    | with_reducible refine Le.bind (ratio_Of.mono k _) (fun _ => ?_)
    | with_reducible exact ratio_Of.mono k _
    | with_reducible refine Le.bind (Le.refl _) (fun _ => ?_)
    | split)
theorem ratio_Int.mono (k : Nat) : ∀ x0 x1, Le (ratio_Int.f k x0 x1) (ratio_Int.f (k + 1) x0 x1) := by
  intro x0 x1
  unfold ratio_Int.f
  repeat' (first
    | with_reducible exact Le.refl _
    | with_reducible refine Le.ite ?_ ?_
    | with_reducible refine Le.bind (whole_Clean.mono k _ _) (fun _ => ?_)
    | with_reducible refine Le.bind (nat_Of.mono k _) (fun _ => ?_)
    | with_reducible exact whole_Clean.mono k _ _
    | with_reducible exact nat_Of.mono k _
    | with_reducible refine Le.bind (Le.refl _) (fun _ => ?_)
    | split)
theorem ratio_Clean.mono (k : Nat) : ∀ x0 x1 x2, Le (ratio_Clean.f k x0 x1 x2) (ratio_Clean.f (k + 1) x0 x1 x2) := by
  intro x0 x1 x2
  unfold ratio_Clean.f
  repeat' (first
    | with_reducible exact Le.refl _
    | with_reducible refine Le.ite ?_ ?_
    | with_reducible refine Le.bind (nat_Clean.mono k _) (fun _ => ?_)
    | with_reducible refine Le.bind (ratio_Zero.mono k ) (fun _ => ?_)
    | with_reducible refine Le.bind (whole_Clean.mono k _ _) (fun _ => ?_)
    | with_reducible refine Le.bind (ratio_form.mono k _ _ _) (fun _ => ?_)
    | with_reducible exact nat_Clean.mono k _
    | with_reducible exact ratio_Zero.mono k 
    | with_reducible exact whole_Clean.mono k _ _
    | with_reducible exact ratio_form.mono k _ _ _
    | with_reducible refine Le.bind (Le.refl _) (fun _ => ?_)
    | split)
theorem ratio_Frac.mono (k : Nat) : ∀ x0 x1, Le (ratio_Frac.f k x0 x1) (ratio_Frac.f (k + 1) x0 x1) := by
  intro x0 x1
  unfold ratio_Frac.f
  repeat' (first
    | with_reducible exact Le.refl _
    | with_reducible refine Le.ite ?_ ?_
    | with_reducible refine Le.bind (whole_Of.mono k _) (fun _ => ?_)
    | with_reducible refine Le.bind (ratio_Make.mono k _ _ _ _) (fun _ => ?_)
    | with_reducible refine Le.bind (ratio_Clean.mono k _ _ _) (fun _ => ?_)
    | with_reducible exact whole_Of.mono k _
    | with_reducible exact ratio_Make.mono k _ _ _ _
    | with_reducible exact ratio_Clean.mono k _ _ _
    | with_reducible refine Le.bind (Le.refl _) (fun _ => ?_)
    | split)
theorem nat_Add.monoL (k : Nat) : (∀ x0 x1 x2 x3 x4 x5, Le (nat_Add.l0 k x0 x1 x2 x3 x4 x5) (nat_Add.l0 (k + 1) x0 x1 x2 x3 x4 x5)) := by
  induction k with
  | zero => exact fun _ _ _ _ _ _ => Le.none _
  | succ k ih =>
    intro x0 x1 x2 x3 x4 x5
    refine Le.eqs (nat_Add.l0.eq_2 ..) (nat_Add.l0.eq_2 ..) ?_
    repeat' (first
      | with_reducible exact Le.refl _
      | with_reducible refine Le.ite ?_ ?_
      | with_reducible exact ih _ _ _ _ _ _
      | with_reducible refine Le.bind (ih _ _ _ _ _ _) (fun _ => ?_)
      | with_reducible refine Le.bind (nat_trim.mono k _) (fun _ => ?_)
      | with_reducible exact nat_trim.mono k _
      | with_reducible refine Le.bind (Le.refl _) (fun _ => ?_)
      | split)
theorem nat_Add.mono (k : Nat) : ∀ x0 x1, Le (nat_Add.f k x0 x1) (nat_Add.f (k + 1) x0 x1) := by
  intro x0 x1
  unfold nat_Add.f
  repeat' (first
    | with_reducible exact Le.refl _
    | with_reducible refine Le.ite ?_ ?_
    | with_reducible exact (nat_Add.monoL k) _ _ _ _ _ _
    | with_reducible refine Le.bind (nat_Clean.mono k _) (fun _ => ?_)
    | with_reducible exact nat_Clean.mono k _
    | with_reducible refine Le.bind (Le.refl _) (fun _ => ?_)
    | split)
theorem nat_Sub.mono (k : Nat) : ∀ x0 x1, Le (nat_Sub.f k x0 x1) (nat_Sub.f (k + 1) x0 x1) := by
  intro x0 x1
  unfold nat_Sub.f
  repeat' (first
    | with_reducible exact Le.refl _
    | with_reducible refine Le.ite ?_ ?_
    | with_reducible refine Le.bind (nat_Clean.mono k _) (fun _ => ?_)
    | with_reducible refine Le.bind (nat_order.mono k _ _) (fun _ => ?_)
    | with_reducible refine Le.bind (nat_minus.mono k _ _) (fun _ => ?_)
    | with_reducible exact nat_Clean.mono k _
    | with_reducible exact nat_order.mono k _ _
    | with_reducible exact nat_minus.mono k _ _
    | with_reducible refine Le.bind (Le.refl _) (fun _ => ?_)
    | split)
theorem whole_DivMod.mono (k : Nat) : ∀ x0 x1 x2 x3, Le (whole_DivMod.f k x0 x1 x2 x3) (whole_DivMod.f (k + 1) x0 x1 x2 x3) := by
  intro x0 x1 x2 x3
  unfold whole_DivMod.f
  repeat' (first
    | with_reducible exact Le.refl _
    | with_reducible refine Le.ite ?_ ?_
    | with_reducible refine Le.bind (whole_Clean.mono k _ _) (fun _ => ?_)
    | with_reducible refine Le.bind (nat_DivMod.mono k _ _) (fun _ => ?_)
    | with_reducible refine Le.bind (nat_Of.mono k _) (fun _ => ?_)
    | with_reducible refine Le.bind (nat_Add.mono k _ _) (fun _ => ?_)
    | with_reducible refine Le.bind (nat_Sub.mono k _ _) (fun _ => ?_)
    | with_reducible exact whole_Clean.mono k _ _
    | with_reducible exact nat_DivMod.mono k _ _
    | with_reducible exact nat_Of.mono k _
    | with_reducible exact nat_Add.mono k _ _
    | with_reducible exact nat_Sub.mono k _ _
    | with_reducible refine Le.bind (Le.refl _) (fun _ => ?_)
    | split)
theorem ratio_Floor.mono (k : Nat) : ∀ x0 x1 x2, Le (ratio_Floor.f k x0 x1 x2) (ratio_Floor.f (k + 1) x0 x1 x2) := by
  intro x0 x1 x2
  unfold ratio_Floor.f
  repeat' (first
    | with_reducible exact Le.refl _
    | with_reducible refine Le.ite ?_ ?_
    | with_reducible refine Le.bind (ratio_Clean.mono k _ _ _) (fun _ => ?_)
    | with_reducible refine Le.bind (whole_DivMod.mono k _ _ _ _) (fun _ => ?_)
    | with_reducible exact ratio_Clean.mono k _ _ _
    | with_reducible exact whole_DivMod.mono k _ _ _ _
    | with_reducible refine Le.bind (Le.refl _) (fun _ => ?_)
    | split)
theorem ratio_Neg.mono (k : Nat) : ∀ x0 x1 x2, Le (ratio_Neg.f k x0 x1 x2) (ratio_Neg.f (k + 1) x0 x1 x2) := by
  intro x0 x1 x2
  unfold ratio_Neg.f
  repeat' (first
    | with_reducible exact Le.refl _
    | with_reducible refine Le.ite ?_ ?_
    | with_reducible refine Le.bind (ratio_Clean.mono k _ _ _) (fun _ => ?_)
    | with_reducible refine Le.bind (whole_Neg.mono k _ _) (fun _ => ?_)
    | with_reducible exact ratio_Clean.mono k _ _ _
    | with_reducible exact whole_Neg.mono k _ _
    | with_reducible refine Le.bind (Le.refl _) (fun _ => ?_)
    | split)
theorem ratio_Ceil.mono (k : Nat) : ∀ x0 x1 x2, Le (ratio_Ceil.f k x0 x1 x2) (ratio_Ceil.f (k + 1) x0 x1 x2) := by
  intro x0 x1 x2
  unfold ratio_Ceil.f
  repeat' (first
    | with_reducible exact Le.refl _
    | with_reducible refine Le.ite ?_ ?_
    | with_reducible refine Le.bind (ratio_Neg.mono k _ _ _) (fun _ => ?_)
    | with_reducible refine Le.bind (ratio_Floor.mono k _ _ _) (fun _ => ?_)
    | with_reducible refine Le.bind (whole_Neg.mono k _ _) (fun _ => ?_)
    | with_reducible exact ratio_Neg.mono k _ _ _
    | with_reducible exact ratio_Floor.mono k _ _ _
    | with_reducible exact whole_Neg.mono k _ _
    | with_reducible refine Le.bind (Le.refl _) (fun _ => ?_)
    | split)
theorem nat_Cmp.mono (k : Nat) : ∀ x0 x1, Le (nat_Cmp.f k x0 x1) (nat_Cmp.f (k + 1) x0 x1) := by
  intro x0 x1
  unfold nat_Cmp.f
  repeat' (first
    | with_reducible exact Le.refl _
    | with_reducible refine Le.ite ?_ ?_
    | with_reducible refine Le.bind (nat_Clean.mono k _) (fun _ => ?_)
    | with_reducible refine Le.bind (nat_order.mono k _ _) (fun _ => ?_)
    | with_reducible exact nat_Clean.mono k _
    | with_reducible exact nat_order.mono k _ _
    | with_reducible refine Le.bind (Le.refl _) (fun _ => ?_)
    | split)
theorem whole_Cmp.mono (k : Nat) : ∀ x0 x1 x2 x3, Le (whole_Cmp.f k x0 x1 x2 x3) (whole_Cmp.f (k + 1) x0 x1 x2 x3) := by
  intro x0 x1 x2 x3
  unfold whole_Cmp.f
  repeat' (first
    | with_reducible exact Le.refl _
    | with_reducible refine Le.ite ?_ ?_
    | with_reducible refine Le.bind (whole_Clean.mono k _ _) (fun _ => ?_)
    | with_reducible refine Le.bind (nat_Cmp.mono k _ _) (fun _ => ?_)
    | with_reducible exact whole_Clean.mono k _ _
    | with_reducible exact nat_Cmp.mono k _ _
    | with_reducible refine Le.bind (Le.refl _) (fun _ => ?_)
    | split)
theorem nat_Mul.monoL (k : Nat) : (∀ x0 x1 x2 x3 x4, Le (nat_Mul.l0 k x0 x1 x2 x3 x4) (nat_Mul.l0 (k + 1) x0 x1 x2 x3 x4)) ∧ (∀ x0 x1 x2 x3 x4 x5 x6 x7 x8 x9 x10, Le (nat_Mul.l1 k x0 x1 x2 x3 x4 x5 x6 x7 x8 x9 x10) (nat_Mul.l1 (k + 1) x0 x1 x2 x3 x4 x5 x6 x7 x8 x9 x10)) := by
  induction k with
  | zero => exact ⟨fun _ _ _ _ _ => Le.none _, fun _ _ _ _ _ _ _ _ _ _ _ => Le.none _⟩
  | succ k ih =>
    refine ⟨?_, ?_⟩
    · intro x0 x1 x2 x3 x4
      refine Le.eqs (nat_Mul.l0.eq_2 ..) (nat_Mul.l0.eq_2 ..) ?_
      repeat' (first
        | with_reducible exact Le.refl _
        | with_reducible refine Le.ite ?_ ?_
        | with_reducible exact ih.2 _ _ _ _ _ _ _ _ _ _ _
        | with_reducible refine Le.bind (ih.2 _ _ _ _ _ _ _ _ _ _ _) (fun _ => ?_)
        | with_reducible refine Le.bind (nat_trim.mono k _) (fun _ => ?_)
        | with_reducible exact nat_trim.mono k _
        | with_reducible refine Le.bind (Le.refl _) (fun _ => ?_)
        | split)
    · intro x0 x1 x2 x3 x4 x5 x6 x7 x8 x9 x10
      refine Le.eqs (nat_Mul.l1.eq_2 ..) (nat_Mul.l1.eq_2 ..) ?_
      repeat' (first
        | with_reducible exact Le.refl _
        | with_reducible refine Le.ite ?_ ?_
        | with_reducible exact ih.1 _ _ _ _ _
        | with_reducible refine Le.bind (ih.1 _ _ _ _ _) (fun _ => ?_)
        | with_reducible exact ih.2 _ _ _ _ _ _ _ _ _ _ _
        | with_reducible refine Le.bind (ih.2 _ _ _ _ _ _ _ _ _ _ _) (fun _ => ?_)
        | with_reducible refine Le.bind (Le.refl _) (fun _ => ?_)
        | split)
theorem nat_Mul.mono (k : Nat) : ∀ x0 x1, Le (nat_Mul.f k x0 x1) (nat_Mul.f (k + 1) x0 x1) := by
  intro x0 x1
  unfold nat_Mul.f
  repeat' (first
    | with_reducible exact Le.refl _
    | with_reducible refine Le.ite ?_ ?_
    | with_reducible exact (nat_Mul.monoL k).1 _ _ _ _ _
    | with_reducible refine Le.bind (nat_Clean.mono k _) (fun _ => ?_)
    | with_reducible exact nat_Clean.mono k _
    | with_reducible refine Le.bind (Le.refl _) (fun _ => ?_)
    | split)
theorem whole_Mul.mono (k : Nat) : ∀ x0 x1 x2 x3, Le (whole_Mul.f k x0 x1 x2 x3) (whole_Mul.f (k + 1) x0 x1 x2 x3) := by
  intro x0 x1 x2 x3
  unfold whole_Mul.f
  repeat' (first
    | with_reducible exact Le.refl _
    | with_reducible refine Le.ite ?_ ?_
    | with_reducible refine Le.bind (whole_Clean.mono k _ _) (fun _ => ?_)
    | with_reducible refine Le.bind (nat_Mul.mono k _ _) (fun _ => ?_)
    | with_reducible exact whole_Clean.mono k _ _
    | with_reducible exact nat_Mul.mono k _ _
    | with_reducible refine Le.bind (Le.refl _) (fun _ => ?_)
    | split)
theorem ratio_Cmp.mono (k : Nat) : ∀ x0 x1 x2 x3 x4 x5, Le (ratio_Cmp.f k x0 x1 x2 x3 x4 x5) (ratio_Cmp.f (k + 1) x0 x1 x2 x3 x4 x5) := by
  intro x0 x1 x2 x3 x4 x5
  unfold ratio_Cmp.f
  repeat' (first
    | with_reducible exact Le.refl _
    | with_reducible refine Le.ite ?_ ?_
    | with_reducible refine Le.bind (ratio_Clean.mono k _ _ _) (fun _ => ?_)
    | with_reducible refine Le.bind (whole_Mul.mono k _ _ _ _) (fun _ => ?_)
    | with_reducible refine Le.bind (whole_Cmp.mono k _ _ _ _) (fun _ => ?_)
    | with_reducible exact ratio_Clean.mono k _ _ _
    | with_reducible exact whole_Mul.mono k _ _ _ _
    | with_reducible exact whole_Cmp.mono k _ _ _ _
    | with_reducible refine Le.bind (Le.refl _) (fun _ => ?_)
    | split)
theorem whole_Add.mono (k : Nat) : ∀ x0 x1 x2 x3, Le (whole_Add.f k x0 x1 x2 x3) (whole_Add.f (k + 1) x0 x1 x2 x3) := by
  intro x0 x1 x2 x3
  unfold whole_Add.f
  repeat' (first
    | with_reducible exact Le.refl _
    | with_reducible refine Le.ite ?_ ?_
    | with_reducible refine Le.bind (whole_Clean.mono k _ _) (fun _ => ?_)
    | with_reducible refine Le.bind (nat_Add.mono k _ _) (fun _ => ?_)
    | with_reducible refine Le.bind (nat_Cmp.mono k _ _) (fun _ => ?_)
    | with_reducible refine Le.bind (nat_Sub.mono k _ _) (fun _ => ?_)
    | with_reducible exact whole_Clean.mono k _ _
    | with_reducible exact nat_Add.mono k _ _
    | with_reducible exact nat_Cmp.mono k _ _
    | with_reducible exact nat_Sub.mono k _ _
    | with_reducible refine Le.bind (Le.refl _) (fun _ => ?_)
    | split)
theorem ratio_Add.mono (k : Nat) : ∀ x0 x1 x2 x3 x4 x5, Le (ratio_Add.f k x0 x1 x2 x3 x4 x5) (ratio_Add.f (k + 1) x0 x1 x2 x3 x4 x5) := by
  intro x0 x1 x2 x3 x4 x5
  unfold ratio_Add.f
  repeat' (first
    | with_reducible exact Le.refl _
    | with_reducible refine Le.ite ?_ ?_
    | with_reducible refine Le.bind (ratio_Clean.mono k _ _ _) (fun _ => ?_)
    | with_reducible refine Le.bind (whole_Mul.mono k _ _ _ _) (fun _ => ?_)
    | with_reducible refine Le.bind (whole_Add.mono k _ _ _ _) (fun _ => ?_)
    | with_reducible refine Le.bind (nat_Mul.mono k _ _) (fun _ => ?_)
    | with_reducible refine Le.bind (ratio_form.mono k _ _ _) (fun _ => ?_)
    | with_reducible exact ratio_Clean.mono k _ _ _
    | with_reducible exact whole_Mul.mono k _ _ _ _
    | with_reducible exact whole_Add.mono k _ _ _ _
    | with_reducible exact nat_Mul.mono k _ _
    | with_reducible exact ratio_form.mono k _ _ _
    | with_reducible refine Le.bind (Le.refl _) (fun _ => ?_)
    | split)
theorem ratio_Sub.mono (k : Nat) : ∀ x0 x1 x2 x3 x4 x5, Le (ratio_Sub.f k x0 x1 x2 x3 x4 x5) (ratio_Sub.f (k + 1) x0 x1 x2 x3 x4 x5) := by
  intro x0 x1 x2 x3 x4 x5
  unfold ratio_Sub.f
  repeat' (first
    | with_reducible exact Le.refl _
    | with_reducible refine Le.ite ?_ ?_
    | with_reducible refine Le.bind (ratio_Neg.mono k _ _ _) (fun _ => ?_)
    | with_reducible refine Le.bind (ratio_Add.mono k _ _ _ _ _ _) (fun _ => ?_)
    | with_reducible exact ratio_Neg.mono k _ _ _
    | with_reducible exact ratio_Add.mono k _ _ _ _ _ _
    | with_reducible refine Le.bind (Le.refl _) (fun _ => ?_)
    | split)
theorem ratio_Sign.mono (k : Nat) : ∀ x0 x1 x2, Le (ratio_Sign.f k x0 x1 x2) (ratio_Sign.f (k + 1) x0 x1 x2) := by
  intro x0 x1 x2
  unfold ratio_Sign.f
  repeat' (first
    | with_reducible exact Le.refl _
    | with_reducible refine Le.ite ?_ ?_
    | with_reducible refine Le.bind (ratio_Clean.mono k _ _ _) (fun _ => ?_)
    | with_reducible refine Le.bind (whole_Sign.mono k _ _) (fun _ => ?_)
    | with_reducible exact ratio_Clean.mono k _ _ _
    | with_reducible exact whole_Sign.mono k _ _
    | with_reducible refine Le.bind (Le.refl _) (fun _ => ?_)
    | split)
theorem ratio_Mul.mono (k : Nat) : ∀ x0 x1 x2 x3 x4 x5, Le (ratio_Mul.f k x0 x1 x2 x3 x4 x5) (ratio_Mul.f (k + 1) x0 x1 x2 x3 x4 x5) := by
  intro x0 x1 x2 x3 x4 x5
  unfold ratio_Mul.f
  repeat' (first
    | with_reducible exact Le.refl _
    | with_reducible refine Le.ite ?_ ?_
    | with_reducible refine Le.bind (ratio_Clean.mono k _ _ _) (fun _ => ?_)
    | with_reducible refine Le.bind (whole_Mul.mono k _ _ _ _) (fun _ => ?_)
    | with_reducible refine Le.bind (nat_Mul.mono k _ _) (fun _ => ?_)
    | with_reducible refine Le.bind (ratio_form.mono k _ _ _) (fun _ => ?_)
    | with_reducible exact ratio_Clean.mono k _ _ _
    | with_reducible exact whole_Mul.mono k _ _ _ _
    | with_reducible exact nat_Mul.mono k _ _
    | with_reducible exact ratio_form.mono k _ _ _
    | with_reducible refine Le.bind (Le.refl _) (fun _ => ?_)
    | split)
theorem ratio_Inv.mono (k : Nat) : ∀ x0 x1 x2, Le (ratio_Inv.f k x0 x1 x2) (ratio_Inv.f (k + 1) x0 x1 x2) := by
  intro x0 x1 x2
  unfold ratio_Inv.f
  repeat' (first
    | with_reducible exact Le.refl _
    | with_reducible refine Le.ite ?_ ?_
    | with_reducible refine Le.bind (ratio_Clean.mono k _ _ _) (fun _ => ?_)
    | with_reducible refine Le.bind (ratio_Make.mono k _ _ _ _) (fun _ => ?_)
    | with_reducible exact ratio_Clean.mono k _ _ _
    | with_reducible exact ratio_Make.mono k _ _ _ _
    | with_reducible refine Le.bind (Le.refl _) (fun _ => ?_)
    | split)
theorem ratio_Div.mono (k : Nat) : ∀ x0 x1 x2 x3 x4 x5, Le (ratio_Div.f k x0 x1 x2 x3 x4 x5) (ratio_Div.f (k + 1) x0 x1 x2 x3 x4 x5) := by
  intro x0 x1 x2 x3 x4 x5
  unfold ratio_Div.f
  repeat' (first
    | with_reducible exact Le.refl _
    | with_reducible refine Le.ite ?_ ?_
    | with_reducible refine Le.bind (ratio_Inv.mono k _ _ _) (fun _ => ?_)
    | with_reducible refine Le.bind (ratio_Mul.mono k _ _ _ _ _ _) (fun _ => ?_)
    | with_reducible exact ratio_Inv.mono k _ _ _
    | with_reducible exact ratio_Mul.mono k _ _ _ _ _ _
    | with_reducible refine Le.bind (Le.refl _) (fun _ => ?_)
    | split)
theorem ratio_over.mono (k : Nat) : ∀ x0 x1 x2 x3 x4 x5, Le (ratio_over.f k x0 x1 x2 x3 x4 x5) (ratio_over.f (k + 1) x0 x1 x2 x3 x4 x5) := by
  intro x0 x1 x2 x3 x4 x5
  unfold ratio_over.f
  repeat' (first
    | with_reducible exact Le.refl _
    | with_reducible refine Le.ite ?_ ?_
    | with_reducible refine Le.bind (ratio_Div.mono k _ _ _ _ _ _) (fun _ => ?_)
    | with_reducible exact ratio_Div.mono k _ _ _ _ _ _
    | with_reducible refine Le.bind (Le.refl _) (fun _ => ?_)
    | split)
theorem ratio_unfold.monoL (k : Nat) : (∀ x0 x1 x2 x3 x4 x5, Le (ratio_unfold.l0 k x0 x1 x2 x3 x4 x5) (ratio_unfold.l0 (k + 1) x0 x1 x2 x3 x4 x5)) := by
  induction k with
  | zero => exact fun _ _ _ _ _ _ => Le.none _
  | succ k ih =>
    intro x0 x1 x2 x3 x4 x5
    refine Le.eqs (ratio_unfold.l0.eq_2 ..) (ratio_unfold.l0.eq_2 ..) ?_
    repeat' (first
      | with_reducible exact Le.refl _
      | with_reducible refine Le.ite ?_ ?_
      | with_reducible exact ih _ _ _ _ _ _
      | with_reducible refine Le.bind (ih _ _ _ _ _ _) (fun _ => ?_)
      | with_reducible refine Le.bind (ratio_One.mono k ) (fun _ => ?_)
      | with_reducible refine Le.bind (ratio_over.mono k _ _ _ _ _ _) (fun _ => ?_)
      | with_reducible refine Le.bind (ratio_Add.mono k _ _ _ _ _ _) (fun _ => ?_)
      | with_reducible exact ratio_One.mono k 
      | with_reducible exact ratio_over.mono k _ _ _ _ _ _
      | with_reducible exact ratio_Add.mono k _ _ _ _ _ _
      | with_reducible refine Le.bind (Le.refl _) (fun _ => ?_)
      | split)
theorem ratio_unfold.mono (k : Nat) : ∀ x0 x1 x2 x3, Le (ratio_unfold.f k x0 x1 x2 x3) (ratio_unfold.f (k + 1) x0 x1 x2 x3) := by
  intro x0 x1 x2 x3
  unfold ratio_unfold.f
  repeat' (first
    | with_reducible exact Le.refl _
    | with_reducible refine Le.ite ?_ ?_
    | with_reducible exact (ratio_unfold.monoL k) _ _ _ _ _ _
    | with_reducible refine Le.bind (Le.refl _) (fun _ => ?_)
    | split)
theorem ratio_Simplest.monoL (k : Nat) : (∀ x0 x1 x2 x3 x4 x5 x6 x7, Le (ratio_Simplest.l0 k x0 x1 x2 x3 x4 x5 x6 x7) (ratio_Simplest.l0 (k + 1) x0 x1 x2 x3 x4 x5 x6 x7)) ∧ (∀ x0 x1 x2 x3 x4 x5, Le (ratio_Simplest.f k x0 x1 x2 x3 x4 x5) (ratio_Simplest.f (k + 1) x0 x1 x2 x3 x4 x5)) := by
  induction k with
  | zero => exact ⟨fun _ _ _ _ _ _ _ _ => Le.none _, fun _ _ _ _ _ _ => Le.none _⟩
  | succ k ih =>
    refine ⟨?_, ?_⟩
    · intro x0 x1 x2 x3 x4 x5 x6 x7
      refine Le.eqs (ratio_Simplest.l0.eq_2 ..) (ratio_Simplest.l0.eq_2 ..) ?_
      repeat' (first
        | with_reducible exact Le.refl _
        | with_reducible refine Le.ite ?_ ?_
        | with_reducible exact ih.1 _ _ _ _ _ _ _ _
        | with_reducible refine Le.bind (ih.1 _ _ _ _ _ _ _ _) (fun _ => ?_)
        | with_reducible refine Le.bind (ratio_Ceil.mono k _ _ _) (fun _ => ?_)
        | with_reducible refine Le.bind (ratio_Int.mono k _ _) (fun _ => ?_)
        | with_reducible refine Le.bind (ratio_Cmp.mono k _ _ _ _ _ _) (fun _ => ?_)
        | with_reducible refine Le.bind (ratio_unfold.mono k _ _ _ _) (fun _ => ?_)
        | with_reducible refine Le.bind (ratio_Floor.mono k _ _ _) (fun _ => ?_)
        | with_reducible refine Le.bind (ratio_One.mono k ) (fun _ => ?_)
        | with_reducible refine Le.bind (ratio_Sub.mono k _ _ _ _ _ _) (fun _ => ?_)
        | with_reducible refine Le.bind (ratio_over.mono k _ _ _ _ _ _) (fun _ => ?_)
        | with_reducible exact ratio_Ceil.mono k _ _ _
        | with_reducible exact ratio_Int.mono k _ _
        | with_reducible exact ratio_Cmp.mono k _ _ _ _ _ _
        | with_reducible exact ratio_unfold.mono k _ _ _ _
        | with_reducible exact ratio_Floor.mono k _ _ _
        | with_reducible exact ratio_One.mono k 
        | with_reducible exact ratio_Sub.mono k _ _ _ _ _ _
        | with_reducible exact ratio_over.mono k _ _ _ _ _ _
        | with_reducible refine Le.bind (Le.refl _) (fun _ => ?_)
        | split)
    · intro x0 x1 x2 x3 x4 x5
      refine Le.eqs (ratio_Simplest.f.eq_2 ..) (ratio_Simplest.f.eq_2 ..) ?_
      repeat' (first
        | with_reducible exact Le.refl _
        | with_reducible refine Le.ite ?_ ?_
        | with_reducible exact ih.1 _ _ _ _ _ _ _ _
        | with_reducible refine Le.bind (ih.1 _ _ _ _ _ _ _ _) (fun _ => ?_)
        | with_reducible exact ih.2 _ _ _ _ _ _
        | with_reducible refine Le.bind (ih.2 _ _ _ _ _ _) (fun _ => ?_)
        | with_reducible refine Le.bind (ratio_Clean.mono k _ _ _) (fun _ => ?_)
        | with_reducible refine Le.bind (ratio_Cmp.mono k _ _ _ _ _ _) (fun _ => ?_)
        | with_reducible refine Le.bind (ratio_Sign.mono k _ _ _) (fun _ => ?_)
        | with_reducible refine Le.bind (ratio_Zero.mono k ) (fun _ => ?_)
        | with_reducible refine Le.bind (ratio_Neg.mono k _ _ _) (fun _ => ?_)
        | with_reducible exact ratio_Clean.mono k _ _ _
        | with_reducible exact ratio_Cmp.mono k _ _ _ _ _ _
        | with_reducible exact ratio_Sign.mono k _ _ _
        | with_reducible exact ratio_Zero.mono k 
        | with_reducible exact ratio_Neg.mono k _ _ _
        | with_reducible refine Le.bind (Le.refl _) (fun _ => ?_)
        | split)
theorem ratio_Simplest.mono (k : Nat) : ∀ x0 x1 x2 x3 x4 x5, Le (ratio_Simplest.f k x0 x1 x2 x3 x4 x5) (ratio_Simplest.f (k + 1) x0 x1 x2 x3 x4 x5) := (ratio_Simplest.monoL k).2
theorem ratio_Same.mono (k : Nat) : ∀ x0 x1 x2 x3 x4 x5, Le (ratio_Same.f k x0 x1 x2 x3 x4 x5) (ratio_Same.f (k + 1) x0 x1 x2 x3 x4 x5) := by
  intro x0 x1 x2 x3 x4 x5
  unfold ratio_Same.f
  repeat' (first
    | with_reducible exact Le.refl _
    | with_reducible refine Le.ite ?_ ?_
    | with_reducible refine Le.bind (ratio_Cmp.mono k _ _ _ _ _ _) (fun _ => ?_)
    | with_reducible exact ratio_Cmp.mono k _ _ _ _ _ _
    | with_reducible refine Le.bind (Le.refl _) (fun _ => ?_)
    | split)
theorem ratio_middle.mono (k : Nat) : ∀ x0 x1 x2 x3 x4 x5, Le (ratio_middle.f k x0 x1 x2 x3 x4 x5) (ratio_middle.f (k + 1) x0 x1 x2 x3 x4 x5) := by
  intro x0 x1 x2 x3 x4 x5
  unfold ratio_middle.f
  repeat' (first
    | with_reducible exact Le.refl _
    | with_reducible refine Le.ite ?_ ?_
    | with_reducible refine Le.bind (whole_Add.mono k _ _ _ _) (fun _ => ?_)
    | with_reducible refine Le.bind (nat_Add.mono k _ _) (fun _ => ?_)
    | with_reducible refine Le.bind (ratio_form.mono k _ _ _) (fun _ => ?_)
    | with_reducible exact whole_Add.mono k _ _ _ _
    | with_reducible exact nat_Add.mono k _ _
    | with_reducible exact ratio_form.mono k _ _ _
    | with_reducible refine Le.bind (Le.refl _) (fun _ => ?_)
    | split)
theorem ratio_Near.monoL (k : Nat) : (∀ x0 x1 x2 x3 x4 x5 x6 x7 x8 x9 x10, Le (ratio_Near.l0 k x0 x1 x2 x3 x4 x5 x6 x7 x8 x9 x10) (ratio_Near.l0 (k + 1) x0 x1 x2 x3 x4 x5 x6 x7 x8 x9 x10)) := by
  induction k with
  | zero => exact fun _ _ _ _ _ _ _ _ _ _ _ => Le.none _
  | succ k ih =>
    intro x0 x1 x2 x3 x4 x5 x6 x7 x8 x9 x10
    refine Le.eqs (ratio_Near.l0.eq_2 ..) (ratio_Near.l0.eq_2 ..) ?_
    repeat' (first
      | with_reducible exact Le.refl _
      | with_reducible refine Le.ite ?_ ?_
      | with_reducible exact ih _ _ _ _ _ _ _ _ _ _ _
      | with_reducible refine Le.bind (ih _ _ _ _ _ _ _ _ _ _ _) (fun _ => ?_)
      | with_reducible refine Le.bind (nat_Add.mono k _ _) (fun _ => ?_)
      | with_reducible refine Le.bind (nat_Cmp.mono k _ _) (fun _ => ?_)
      | with_reducible refine Le.bind (ratio_middle.mono k _ _ _ _ _ _) (fun _ => ?_)
      | with_reducible refine Le.bind (ratio_Cmp.mono k _ _ _ _ _ _) (fun _ => ?_)
      | with_reducible refine Le.bind (ratio_Sub.mono k _ _ _ _ _ _) (fun _ => ?_)
      | with_reducible exact nat_Add.mono k _ _
      | with_reducible exact nat_Cmp.mono k _ _
      | with_reducible exact ratio_middle.mono k _ _ _ _ _ _
      | with_reducible exact ratio_Cmp.mono k _ _ _ _ _ _
      | with_reducible exact ratio_Sub.mono k _ _ _ _ _ _
      | with_reducible refine Le.bind (Le.refl _) (fun _ => ?_)
      | split)
theorem ratio_Near.mono (k : Nat) : ∀ x0 x1 x2 x3, Le (ratio_Near.f k x0 x1 x2 x3) (ratio_Near.f (k + 1) x0 x1 x2 x3) := by
  intro x0 x1 x2 x3
  unfold ratio_Near.f
  repeat' (first
    | with_reducible exact Le.refl _
    | with_reducible refine Le.ite ?_ ?_
    | with_reducible exact (ratio_Near.monoL k) _ _ _ _ _ _ _ _ _ _ _
    | with_reducible refine Le.bind (ratio_Clean.mono k _ _ _) (fun _ => ?_)
    | with_reducible refine Le.bind (ratio_Floor.mono k _ _ _) (fun _ => ?_)
    | with_reducible refine Le.bind (ratio_Int.mono k _ _) (fun _ => ?_)
    | with_reducible refine Le.bind (ratio_One.mono k ) (fun _ => ?_)
    | with_reducible refine Le.bind (ratio_Add.mono k _ _ _ _ _ _) (fun _ => ?_)
    | with_reducible refine Le.bind (ratio_Same.mono k _ _ _ _ _ _) (fun _ => ?_)
    | with_reducible refine Le.bind (nat_Of.mono k _) (fun _ => ?_)
    | with_reducible exact ratio_Clean.mono k _ _ _
    | with_reducible exact ratio_Floor.mono k _ _ _
    | with_reducible exact ratio_Int.mono k _ _
    | with_reducible exact ratio_One.mono k 
    | with_reducible exact ratio_Add.mono k _ _ _ _ _ _
    | with_reducible exact ratio_Same.mono k _ _ _ _ _ _
    | with_reducible exact nat_Of.mono k _
    | with_reducible refine Le.bind (Le.refl _) (fun _ => ?_)
    | split)
theorem ratio_ten.monoL (k : Nat) : (∀ x0 x1 x2, Le (ratio_ten.l0 k x0 x1 x2) (ratio_ten.l0 (k + 1) x0 x1 x2)) := by
  induction k with
  | zero => exact fun _ _ _ => Le.none _
  | succ k ih =>
    intro x0 x1 x2
    refine Le.eqs (ratio_ten.l0.eq_2 ..) (ratio_ten.l0.eq_2 ..) ?_
    repeat' (first
      | with_reducible exact Le.refl _
      | with_reducible refine Le.ite ?_ ?_
      | with_reducible exact ih _ _ _
      | with_reducible refine Le.bind (ih _ _ _) (fun _ => ?_)
      | with_reducible refine Le.bind (nat_Of.mono k _) (fun _ => ?_)
      | with_reducible refine Le.bind (nat_Mul.mono k _ _) (fun _ => ?_)
      | with_reducible exact nat_Of.mono k _
      | with_reducible exact nat_Mul.mono k _ _
      | with_reducible refine Le.bind (Le.refl _) (fun _ => ?_)
      | split)
theorem ratio_ten.mono (k : Nat) : ∀ x0, Le (ratio_ten.f k x0) (ratio_ten.f (k + 1) x0) := by
  intro x0
  unfold ratio_ten.f
  repeat' (first
    | with_reducible exact Le.refl _
    | with_reducible refine Le.ite ?_ ?_
    | with_reducible exact (ratio_ten.monoL k) _ _ _
    | with_reducible refine Le.bind (nat_Of.mono k _) (fun _ => ?_)
    | with_reducible exact nat_Of.mono k _
    | with_reducible refine Le.bind (Le.refl _) (fun _ => ?_)
    | split)
theorem stringslite_Index.mono (k : Nat) : ∀ x0 x1, Le (stringslite_Index.f k x0 x1) (stringslite_Index.f (k + 1) x0 x1) := by
  intro x0 x1
  unfold stringslite_Index.f
  repeat' (first
    | with_reducible exact Le.refl _
    | with_reducible refine Le.ite ?_ ?_
    | with_reducible refine Le.bind (Le.refl _) (fun _ => ?_)
    | split)
theorem stringslite_Cut.mono (k : Nat) : ∀ x0 x1, Le (stringslite_Cut.f k x0 x1) (stringslite_Cut.f (k + 1) x0 x1) := by
  intro x0 x1
  unfold stringslite_Cut.f
  repeat' (first
    | with_reducible exact Le.refl _
    | with_reducible refine Le.ite ?_ ?_
    | with_reducible refine Le.bind (stringslite_Index.mono k _ _) (fun _ => ?_)
    | with_reducible exact stringslite_Index.mono k _ _
    | with_reducible refine Le.bind (Le.refl _) (fun _ => ?_)
    | split)
theorem strings_Cut.mono (k : Nat) : ∀ x0 x1, Le (strings_Cut.f k x0 x1) (strings_Cut.f (k + 1) x0 x1) := by
  intro x0 x1
  unfold strings_Cut.f
  repeat' (first
    | with_reducible exact Le.refl _
    | with_reducible refine Le.ite ?_ ?_
    | with_reducible refine Le.bind (stringslite_Cut.mono k _ _) (fun _ => ?_)
    | with_reducible exact stringslite_Cut.mono k _ _
    | with_reducible refine Le.bind (Le.refl _) (fun _ => ?_)
    | split)
theorem nat_plus.monoL (k : Nat) : (∀ x0 x1 x2 x3 x4, Le (nat_plus.l0 k x0 x1 x2 x3 x4) (nat_plus.l0 (k + 1) x0 x1 x2 x3 x4)) := by
  induction k with
  | zero => exact fun _ _ _ _ _ => Le.none _
  | succ k ih =>
    intro x0 x1 x2 x3 x4
    refine Le.eqs (nat_plus.l0.eq_2 ..) (nat_plus.l0.eq_2 ..) ?_
    repeat' (first
      | with_reducible exact Le.refl _
      | with_reducible refine Le.ite ?_ ?_
      | with_reducible exact ih _ _ _ _ _
      | with_reducible refine Le.bind (ih _ _ _ _ _) (fun _ => ?_)
      | with_reducible refine Le.bind (nat_trim.mono k _) (fun _ => ?_)
      | with_reducible exact nat_trim.mono k _
      | with_reducible refine Le.bind (Le.refl _) (fun _ => ?_)
      | split)
theorem nat_plus.mono (k : Nat) : ∀ x0 x1, Le (nat_plus.f k x0 x1) (nat_plus.f (k + 1) x0 x1) := by
  intro x0 x1
  unfold nat_plus.f
  repeat' (first
    | with_reducible exact Le.refl _
    | with_reducible refine Le.ite ?_ ?_
    | with_reducible exact (nat_plus.monoL k) _ _ _ _ _
    | with_reducible refine Le.bind (Le.refl _) (fun _ => ?_)
    | split)
theorem nat_Parse.monoL (k : Nat) : (∀ x0 x1 x2, Le (nat_Parse.l0 k x0 x1 x2) (nat_Parse.l0 (k + 1) x0 x1 x2)) ∧ (∀ x0 x1, Le (nat_Parse.l1 k x0 x1) (nat_Parse.l1 (k + 1) x0 x1)) ∧ (∀ x0 x1 x2 x3 x4 x5 x6, Le (nat_Parse.l2 k x0 x1 x2 x3 x4 x5 x6) (nat_Parse.l2 (k + 1) x0 x1 x2 x3 x4 x5 x6)) := by
  induction k with
  | zero => exact ⟨fun _ _ _ => Le.none _, fun _ _ => Le.none _, fun _ _ _ _ _ _ _ => Le.none _⟩
  | succ k ih =>
    refine ⟨?_, ?_, ?_⟩
    · intro x0 x1 x2
      refine Le.eqs (nat_Parse.l0.eq_2 ..) (nat_Parse.l0.eq_2 ..) ?_
      repeat' (first
        | with_reducible exact Le.refl _
        | with_reducible refine Le.ite ?_ ?_
        | with_reducible exact ih.1 _ _ _
        | with_reducible refine Le.bind (ih.1 _ _ _) (fun _ => ?_)
        | with_reducible exact ih.2.1 _ _
        | with_reducible refine Le.bind (ih.2.1 _ _) (fun _ => ?_)
        | with_reducible refine Le.bind (Le.refl _) (fun _ => ?_)
        | split)
    · intro x0 x1
      refine Le.eqs (nat_Parse.l1.eq_2 ..) (nat_Parse.l1.eq_2 ..) ?_
      repeat' (first
        | with_reducible exact Le.refl _
        | with_reducible refine Le.ite ?_ ?_
        | with_reducible exact ih.2.2 _ _ _ _ _ _ _
        | with_reducible refine Le.bind (ih.2.2 _ _ _ _ _ _ _) (fun _ => ?_)
        | with_reducible refine Le.bind (Le.refl _) (fun _ => ?_)
        | split)
    · intro x0 x1 x2 x3 x4 x5 x6
      refine Le.eqs (nat_Parse.l2.eq_2 ..) (nat_Parse.l2.eq_2 ..) ?_
      repeat' (first
        | with_reducible exact Le.refl _
        | with_reducible refine Le.ite ?_ ?_
        | with_reducible exact ih.2.1 _ _
        | with_reducible refine Le.bind (ih.2.1 _ _) (fun _ => ?_)
        | with_reducible exact ih.2.2 _ _ _ _ _ _ _
        | with_reducible refine Le.bind (ih.2.2 _ _ _ _ _ _ _) (fun _ => ?_)
        | with_reducible refine Le.bind (nat_plus.mono k _ _) (fun _ => ?_)
        | with_reducible exact nat_plus.mono k _ _
        | with_reducible refine Le.bind (Le.refl _) (fun _ => ?_)
        | split)
theorem nat_Parse.mono (k : Nat) : ∀ x0, Le (nat_Parse.f k x0) (nat_Parse.f (k + 1) x0) := by
  intro x0
  unfold nat_Parse.f
  repeat' (first
    | with_reducible exact Le.refl _
    | with_reducible refine Le.ite ?_ ?_
    | with_reducible exact (nat_Parse.monoL k).1 _ _ _
    | with_reducible refine Le.bind (Le.refl _) (fun _ => ?_)
    | split)
theorem ratio_plain.mono (k : Nat) : ∀ x0, Le (ratio_plain.f k x0) (ratio_plain.f (k + 1) x0) := by
  intro x0
  unfold ratio_plain.f
  repeat' (first
    | with_reducible exact Le.refl _
    | with_reducible refine Le.ite ?_ ?_
    | with_reducible refine Le.bind (strings_Cut.mono k _ _) (fun _ => ?_)
    | with_reducible refine Le.bind (nat_Parse.mono k _) (fun _ => ?_)
    | with_reducible refine Le.bind (ratio_form.mono k _ _ _) (fun _ => ?_)
    | with_reducible refine Le.bind (ratio_ten.mono k _) (fun _ => ?_)
    | with_reducible refine Le.bind (nat_Mul.mono k _ _) (fun _ => ?_)
    | with_reducible refine Le.bind (nat_Add.mono k _ _) (fun _ => ?_)
    | with_reducible refine Le.bind (nat_Of.mono k _) (fun _ => ?_)
    | with_reducible exact strings_Cut.mono k _ _
    | with_reducible exact nat_Parse.mono k _
    | with_reducible exact ratio_form.mono k _ _ _
    | with_reducible exact ratio_ten.mono k _
    | with_reducible exact nat_Mul.mono k _ _
    | with_reducible exact nat_Add.mono k _ _
    | with_reducible exact nat_Of.mono k _
    | with_reducible refine Le.bind (Le.refl _) (fun _ => ?_)
    | split)
theorem ratio_Parse.mono (k : Nat) : ∀ x0, Le (ratio_Parse.f k x0) (ratio_Parse.f (k + 1) x0) := by
  intro x0
  unfold ratio_Parse.f
  repeat' (first
    | with_reducible exact Le.refl _
    | with_reducible refine Le.ite ?_ ?_
    | with_reducible refine Le.bind (ratio_plain.mono k _) (fun _ => ?_)
    | with_reducible refine Le.bind (ratio_Neg.mono k _ _ _) (fun _ => ?_)
    | with_reducible exact ratio_plain.mono k _
    | with_reducible exact ratio_Neg.mono k _ _ _
    | with_reducible refine Le.bind (Le.refl _) (fun _ => ?_)
    | split)
theorem nat_Bit.mono (k : Nat) : ∀ x0 x1, Le (nat_Bit.f k x0 x1) (nat_Bit.f (k + 1) x0 x1) := by
  intro x0 x1
  unfold nat_Bit.f
  repeat' (first
    | with_reducible exact Le.refl _
    | with_reducible refine Le.ite ?_ ?_
    | with_reducible refine Le.bind (nat_Clean.mono k _) (fun _ => ?_)
    | with_reducible exact nat_Clean.mono k _
    | with_reducible refine Le.bind (Le.refl _) (fun _ => ?_)
    | split)
theorem nat_Even.mono (k : Nat) : ∀ x0, Le (nat_Even.f k x0) (nat_Even.f (k + 1) x0) := by
  intro x0
  unfold nat_Even.f
  repeat' (first
    | with_reducible exact Le.refl _
    | with_reducible refine Le.ite ?_ ?_
    | with_reducible refine Le.bind (nat_Bit.mono k _ _) (fun _ => ?_)
    | with_reducible exact nat_Bit.mono k _ _
    | with_reducible refine Le.bind (Le.refl _) (fun _ => ?_)
    | split)
theorem ratio_Round.mono (k : Nat) : ∀ x0 x1 x2, Le (ratio_Round.f k x0 x1 x2) (ratio_Round.f (k + 1) x0 x1 x2) := by
  intro x0 x1 x2
  unfold ratio_Round.f
  repeat' (first
    | with_reducible exact Le.refl _
    | with_reducible refine Le.ite ?_ ?_
    | with_reducible refine Le.bind (ratio_Floor.mono k _ _ _) (fun _ => ?_)
    | with_reducible refine Le.bind (ratio_Int.mono k _ _) (fun _ => ?_)
    | with_reducible refine Le.bind (ratio_Sub.mono k _ _ _ _ _ _) (fun _ => ?_)
    | with_reducible refine Le.bind (ratio_Frac.mono k _ _) (fun _ => ?_)
    | with_reducible refine Le.bind (ratio_Cmp.mono k _ _ _ _ _ _) (fun _ => ?_)
    | with_reducible refine Le.bind (nat_Even.mono k _) (fun _ => ?_)
    | with_reducible refine Le.bind (whole_Of.mono k _) (fun _ => ?_)
    | with_reducible refine Le.bind (whole_Add.mono k _ _ _ _) (fun _ => ?_)
    | with_reducible exact ratio_Floor.mono k _ _ _
    | with_reducible exact ratio_Int.mono k _ _
    | with_reducible exact ratio_Sub.mono k _ _ _ _ _ _
    | with_reducible exact ratio_Frac.mono k _ _
    | with_reducible exact ratio_Cmp.mono k _ _ _ _ _ _
    | with_reducible exact nat_Even.mono k _
    | with_reducible exact whole_Of.mono k _
    | with_reducible exact whole_Add.mono k _ _ _ _
    | with_reducible refine Le.bind (Le.refl _) (fun _ => ?_)
    | split)
theorem nat_nine.monoL (k : Nat) : (∀ x0 x1 x2, Le (nat_nine.l0 k x0 x1 x2) (nat_nine.l0 (k + 1) x0 x1 x2)) := by
  induction k with
  | zero => exact fun _ _ _ => Le.none _
  | succ k ih =>
    intro x0 x1 x2
    refine Le.eqs (nat_nine.l0.eq_2 ..) (nat_nine.l0.eq_2 ..) ?_
    repeat' (first
      | with_reducible exact Le.refl _
      | with_reducible refine Le.ite ?_ ?_
      | with_reducible exact ih _ _ _
      | with_reducible refine Le.bind (ih _ _ _) (fun _ => ?_)
      | with_reducible refine Le.bind (Le.refl _) (fun _ => ?_)
      | split)
theorem nat_nine.mono (k : Nat) : ∀ x0, Le (nat_nine.f k x0) (nat_nine.f (k + 1) x0) := by
  intro x0
  unfold nat_nine.f
  repeat' (first
    | with_reducible exact Le.refl _
    | with_reducible refine Le.ite ?_ ?_
    | with_reducible exact (nat_nine.monoL k) _ _ _
    | with_reducible refine Le.bind (Le.refl _) (fun _ => ?_)
    | split)
theorem nat_Print.monoL (k : Nat) : (∀ x0 x1, Le (nat_Print.l0 k x0 x1) (nat_Print.l0 (k + 1) x0 x1)) ∧ (∀ x0 x1 x2, Le (nat_Print.l1 k x0 x1 x2) (nat_Print.l1 (k + 1) x0 x1 x2)) ∧ (∀ x0 x1, Le (nat_Print.l2 k x0 x1) (nat_Print.l2 (k + 1) x0 x1)) := by
  induction k with
  | zero => exact ⟨fun _ _ => Le.none _, fun _ _ _ => Le.none _, fun _ _ => Le.none _⟩
  | succ k ih =>
    refine ⟨?_, ?_, ?_⟩
    · intro x0 x1
      refine Le.eqs (nat_Print.l0.eq_2 ..) (nat_Print.l0.eq_2 ..) ?_
      repeat' (first
        | with_reducible exact Le.refl _
        | with_reducible refine Le.ite ?_ ?_
        | with_reducible exact ih.1 _ _
        | with_reducible refine Le.bind (ih.1 _ _) (fun _ => ?_)
        | with_reducible exact ih.2.1 _ _ _
        | with_reducible refine Le.bind (ih.2.1 _ _ _) (fun _ => ?_)
        | with_reducible refine Le.bind (nat_small.mono k _ _) (fun _ => ?_)
        | with_reducible exact nat_small.mono k _ _
        | with_reducible refine Le.bind (Le.refl _) (fun _ => ?_)
        | split)
    · intro x0 x1 x2
      refine Le.eqs (nat_Print.l1.eq_2 ..) (nat_Print.l1.eq_2 ..) ?_
      repeat' (first
        | with_reducible exact Le.refl _
        | with_reducible refine Le.ite ?_ ?_
        | with_reducible exact ih.2.1 _ _ _
        | with_reducible refine Le.bind (ih.2.1 _ _ _) (fun _ => ?_)
        | with_reducible exact ih.2.2 _ _
        | with_reducible refine Le.bind (ih.2.2 _ _) (fun _ => ?_)
        | with_reducible refine Le.bind (nat_nine.mono k _) (fun _ => ?_)
        | with_reducible exact nat_nine.mono k _
        | with_reducible refine Le.bind (Le.refl _) (fun _ => ?_)
        | split)
    · intro x0 x1
      refine Le.eqs (nat_Print.l2.eq_2 ..) (nat_Print.l2.eq_2 ..) ?_
      repeat' (first
        | with_reducible exact Le.refl _
        | with_reducible refine Le.ite ?_ ?_
        | with_reducible exact ih.2.2 _ _
        | with_reducible refine Le.bind (ih.2.2 _ _) (fun _ => ?_)
        | with_reducible refine Le.bind (Le.refl _) (fun _ => ?_)
        | split)
theorem nat_Print.mono (k : Nat) : ∀ x0, Le (nat_Print.f k x0) (nat_Print.f (k + 1) x0) := by
  intro x0
  unfold nat_Print.f
  repeat' (first
    | with_reducible exact Le.refl _
    | with_reducible refine Le.ite ?_ ?_
    | with_reducible exact (nat_Print.monoL k).1 _ _
    | with_reducible refine Le.bind (nat_Clean.mono k _) (fun _ => ?_)
    | with_reducible exact nat_Clean.mono k _
    | with_reducible refine Le.bind (Le.refl _) (fun _ => ?_)
    | split)
theorem ratio_Decimal.mono (k : Nat) : ∀ x0 x1 x2 x3, Le (ratio_Decimal.f k x0 x1 x2 x3) (ratio_Decimal.f (k + 1) x0 x1 x2 x3) := by
  intro x0 x1 x2 x3
  unfold ratio_Decimal.f
  repeat' (first
    | with_reducible exact Le.refl _
    | with_reducible refine Le.ite ?_ ?_
    | with_reducible refine Le.bind (ratio_ten.mono k _) (fun _ => ?_)
    | with_reducible refine Le.bind (ratio_Int.mono k _ _) (fun _ => ?_)
    | with_reducible refine Le.bind (ratio_Mul.mono k _ _ _ _ _ _) (fun _ => ?_)
    | with_reducible refine Le.bind (ratio_Round.mono k _ _ _) (fun _ => ?_)
    | with_reducible refine Le.bind (nat_Print.mono k _) (fun _ => ?_)
    | with_reducible exact ratio_ten.mono k _
    | with_reducible exact ratio_Int.mono k _ _
    | with_reducible exact ratio_Mul.mono k _ _ _ _ _ _
    | with_reducible exact ratio_Round.mono k _ _ _
    | with_reducible exact nat_Print.mono k _
    | with_reducible refine Le.bind (Le.refl _) (fun _ => ?_)
    | split)
theorem whole_Print.mono (k : Nat) : ∀ x0 x1, Le (whole_Print.f k x0 x1) (whole_Print.f (k + 1) x0 x1) := by
  intro x0 x1
  unfold whole_Print.f
  repeat' (first
    | with_reducible exact Le.refl _
    | with_reducible refine Le.ite ?_ ?_
    | with_reducible refine Le.bind (whole_Clean.mono k _ _) (fun _ => ?_)
    | with_reducible refine Le.bind (nat_Print.mono k _) (fun _ => ?_)
    | with_reducible exact whole_Clean.mono k _ _
    | with_reducible exact nat_Print.mono k _
    | with_reducible refine Le.bind (Le.refl _) (fun _ => ?_)
    | split)
theorem ratio_Print.mono (k : Nat) : ∀ x0 x1 x2, Le (ratio_Print.f k x0 x1 x2) (ratio_Print.f (k + 1) x0 x1 x2) := by
  intro x0 x1 x2
  unfold ratio_Print.f
  repeat' (first
    | with_reducible exact Le.refl _
    | with_reducible refine Le.ite ?_ ?_
    | with_reducible refine Le.bind (ratio_Clean.mono k _ _ _) (fun _ => ?_)
    | with_reducible refine Le.bind (whole_Print.mono k _ _) (fun _ => ?_)
    | with_reducible refine Le.bind (nat_Of.mono k _) (fun _ => ?_)
    | with_reducible refine Le.bind (nat_Cmp.mono k _ _) (fun _ => ?_)
    | with_reducible refine Le.bind (nat_Print.mono k _) (fun _ => ?_)
    | with_reducible exact ratio_Clean.mono k _ _ _
    | with_reducible exact whole_Print.mono k _ _
    | with_reducible exact nat_Of.mono k _
    | with_reducible exact nat_Cmp.mono k _ _
    | with_reducible exact nat_Print.mono k _
    | with_reducible refine Le.bind (Le.refl _) (fun _ => ?_)
    | split)
theorem dendronlaw03_awake.mono (k : Nat) : Le (dendronlaw03_awake.f k ) (dendronlaw03_awake.f (k + 1) ) := by
  unfold dendronlaw03_awake.f
  repeat' (first
    | with_reducible exact Le.refl _
    | with_reducible refine Le.ite ?_ ?_
    | with_reducible refine Le.bind (ratio_Parse.mono k _) (fun _ => ?_)
    | with_reducible refine Le.bind (ratio_Frac.mono k _ _) (fun _ => ?_)
    | with_reducible refine Le.bind (ratio_Simplest.mono k _ _ _ _ _ _) (fun _ => ?_)
    | with_reducible refine Le.bind (ratio_Near.mono k _ _ _ _) (fun _ => ?_)
    | with_reducible refine Le.bind (ratio_Decimal.mono k _ _ _ _) (fun _ => ?_)
    | with_reducible refine Le.bind (ratio_Print.mono k _ _ _) (fun _ => ?_)
    | with_reducible exact ratio_Parse.mono k _
    | with_reducible exact ratio_Frac.mono k _ _
    | with_reducible exact ratio_Simplest.mono k _ _ _ _ _ _
    | with_reducible exact ratio_Near.mono k _ _ _ _
    | with_reducible exact ratio_Decimal.mono k _ _ _ _
    | with_reducible exact ratio_Print.mono k _ _ _
    | with_reducible refine Le.bind (Le.refl _) (fun _ => ?_)
    | split)
end Go.DI.Th
namespace Go.DI.Th
open Go Go.RowKit Go.DI
theorem awake03_ev : Ev (fun k => dendronlaw03_awake.f k) true := Ev.mono (K := 400) dendronlaw03_awake.mono (by decide +kernel)
end Go.DI.Th
namespace Go.DI.Th
open Go Go.RowKit Go.DI

def fewR (r : Rt) : Rt := (r.1, r.2.1.take 8, r.2.2.take 8)
theorem few3_eq (b : Bool) (n d : List Int) : dendronlaw03_few.f b n d = some (fewR (b, n, d)) := by
  unfold dendronlaw03_few.f fewR
  have t : ∀ l : List Int, ¬ (l.length : Int) > 8 → l.take 8 = l := fun l h => List.take_of_length_le (by omega)
  by_cases h1 : (n.length : Int) > 8
  · rw [if_pos h1, if_pos (by omega)]
    by_cases h2 : (d.length : Int) > 8
    · rw [if_pos h2, if_pos (by omega)]
    · rw [if_neg h2]; dsimp only; rw [t d h2]
  · rw [if_neg h1]
    by_cases h2 : (d.length : Int) > 8
    · rw [if_pos h2, if_pos (by omega)]; dsimp only; rw [t n h1]
    · rw [if_neg h2]; dsimp only; rw [t n h1, t d h2]
theorem few3_ev (b : Bool) (n d : List Int) : Ev (fun _ => dendronlaw03_few.f b n d) (fewR (b, n, d)) := Ev.congr (fun _ => few3_eq b n d) (Ev.now _)
theorem U.takeN {l : List Int} (h : U l) (n : Nat) : U (l.take n) := fun x hx => h x (List.mem_of_mem_take hx)
def RtU (r : Rt) : Prop := U r.2.1 ∧ U r.2.2
theorem fewB {r : Rt} (h : RtU r) : RtB 8 (fewR r) := ⟨h.1.takeN 8, h.2.takeN 8, by show (List.take 8 _).length ≤ 8; rw [List.length_take]; omega, by show (List.take 8 _).length ≤ 8; rw [List.length_take]; omega⟩
theorem aw3 : Ev (fun k => (dendronlaw03_awake.f k).bind fun v => some v) true := Ev.bind awake03_ev (Ev.now _)
theorem sgn_cmp (x : Rat) : sgn x.num = cmpQ x 0 := by
  unfold sgn cmpQ
  by_cases h : x < 0
  · rw [if_pos h, if_pos ((num_neg_iff x).2 h)]
  · have h1 : ¬ x.num < 0 := fun e => h ((num_neg_iff x).1 e)
    rw [if_neg h, if_neg h1]
    by_cases h2 : x = 0
    · rw [if_pos (Rat.num_eq_zero.2 h2), if_neg (by rw [h2]; exact Rat.lt_irrefl)]
    · rw [if_neg (fun e => h2 (Rat.num_eq_zero.1 e)), if_pos (Rat.lt_of_le_of_ne (Rat.not_lt.1 h) (fun e => h2 e.symm))]
theorem sign3_cn (r : Rt) {b : Nat} (h : RtB b r) (hb : b ≤ 1073741824) : Ev (fun k => ratio_Sign.f k r.1 r.2.1 r.2.2) (cmpQ (rv r) 0) := by
  unfold ratio_Sign.f
  refine Ev.bind (clean_cn r h (by omega)) ?_
  have h1 := cnB (rv r) h.sz
  have := wsign_ev (cn (rv r)).1 (cn (rv r)).2.1 h1.1 (by have := h1.2.2.1; omega)
  rw [wv_cn, sgn_cmp] at this
  exact Ev.bind this (Ev.now _)
end Go.DI.Th
namespace Go.DI.Th
open Go Go.RowKit Go.DI

theorem mk_one (z : Int) : mkRat z 1 = (z : Rat) := Rat.mkRat_self (z : Rat)
theorem Sz_int64 (z : Int) (h : -9223372036854775808 ≤ z ∧ z ≤ 9223372036854775807) : Sz (z : Rat) ≤ 2 := by
  rw [Sz_int]
  have := len_small (n := z.natAbs) (by omega)
  omega
end Go.DI.Th
namespace Go.DI.Th
open Go Go.RowKit Go.DI

abbrev It := Bool × List Int
abbrev it0 : It := (false, [])
def gi (m : List It) (i : Nat) : It := gt it0 m (i : Int)
end Go.DI.Th
namespace Go.DI.Th
open Go Go.RowKit Go.DI

def fr (y : Rat) : Rat := y - (y.floor : Rat)
theorem fr_mk (y : Rat) : fr y = mkRat (y.num % (y.den : Int)) y.den := by
  have h1 : y = mkRat y.num y.den := (Rat.mkRat_self y).symm
  have h2 : ((y.floor : Int) : Rat) = mkRat y.floor 1 := (mk_one _).symm
  have h3 : -((y.floor : Int) : Rat) = mkRat (-y.floor) 1 := by rw [h2, Rat.neg_mkRat]
  have hd := y.den_nz
  have hf := Rat.floor_def y
  have hm := Int.mul_ediv_add_emod y.num (y.den : Int)
  unfold fr
  rw [Rat.sub_eq_add_neg, h3]
  generalize hz : y.floor = z at hf ⊢
  rw [← hf] at hm
  calc y + mkRat (-z) 1 = mkRat y.num y.den + mkRat (-z) 1 := by rw [← h1]
    _ = mkRat (y.num * ((1 : Nat) : Int) + -z * (y.den : Int)) (y.den * 1) := Rat.mkRat_add_mkRat _ _ hd (by decide)
    _ = mkRat (y.num % (y.den : Int)) y.den := by
      rw [Nat.mul_one]
      congr 1
      generalize y.num % (y.den : Int) = r at hm ⊢
      generalize y.num = a at hm ⊢
      have : (y.den : Int) * z = z * (y.den : Int) := Int.mul_comm _ _
      rw [Int.neg_mul, ← this]
      omega
theorem fr_lt (y : Rat) (h : fr y ≠ 0) : 0 < (fr y).num ∧ (fr y).num < ((fr y).den : Int) ∧ (fr y).den ≤ y.den ∧ (fr y).num ≤ y.num % (y.den : Int) := by
  have hd := y.den_nz
  have e := fr_mk y
  have hz : (fr y).num ≠ 0 := fun e => h (Rat.num_eq_zero.1 e)
  rw [e] at hz ⊢
  rw [num_mk _ _ hd] at hz ⊢
  rw [den_mk _ _ hd]
  have h1 := Int.emod_nonneg y.num (b := (y.den : Int)) (by omega)
  have h2 := Int.emod_lt_of_pos y.num (b := (y.den : Int)) (by omega)
  generalize y.num % (y.den : Int) = z at hz h1 h2 ⊢
  generalize y.den = q at hd h1 h2 hz ⊢
  obtain ⟨g, g0, e1, e2⟩ := rnum_gcd z q hd
  generalize rnum z q = n at hz e1 ⊢
  generalize rden z q = d at e2 ⊢
  have g1 : (0 : Int) < (g : Int) := by omega
  have hn : 0 < n := by
    rcases Int.lt_trichotomy n 0 with c | c | c
    · have : (g : Int) * n < 0 := Int.mul_neg_of_pos_of_neg g1 c
      omega
    · exact absurd c hz
    · exact c
  refine ⟨hn, ?_, ?_, ?_⟩
  · have : (g : Int) * n < (g : Int) * (d : Int) := by
      rw [← e1, ← Int.natCast_mul, ← e2]; exact h2
    exact Int.lt_of_mul_lt_mul_left this (by omega)
  · rw [e2]
    exact Nat.le_mul_of_pos_left _ (by omega)
  · rw [e1]
    have : 1 * n ≤ (g : Int) * n := Int.mul_le_mul_of_nonneg_right (by omega) (by omega)
    omega
def stp (y : Rat) : Rat := (fr y)⁻¹
theorem stp_nd (y : Rat) (h : fr y ≠ 0) : (stp y).num = ((fr y).den : Int) ∧ ((stp y).den : Int) = (fr y).num := by
  obtain ⟨h1, _⟩ := fr_lt y h
  unfold stp
  rw [Rat.num_inv, Rat.den_inv, if_neg (fun e => by rw [e] at h1; omega), Int.sign_eq_one_of_pos h1]
  exact ⟨Int.one_mul _, by omega⟩
theorem stp_lt (y : Rat) (h : fr y ≠ 0) : ((stp y).den : Int) < (stp y).num ∧ (stp y).num ≤ (y.den : Int) ∧ ((stp y).den : Int) ≤ y.num % (y.den : Int) := by
  obtain ⟨a, b⟩ := stp_nd y h
  obtain ⟨_, h2, h3, h4⟩ := fr_lt y h
  rw [a, b]
  exact ⟨h2, by omega, h4⟩
theorem stp_ne (y : Rat) (h : fr y ≠ 0) : stp y ≠ 0 := fun e => by
  obtain ⟨a, _⟩ := stp_lt y h
  rw [e] at a
  have : (0 : Rat).num = 0 := rfl
  omega
def nx (x : Rat) : Nat → Rat
  | 0 => x
  | i + 1 => stp (nx x i)
theorem nx_shift (x : Rat) : ∀ i, nx (stp x) i = nx x (i + 1)
  | 0 => rfl
  | i + 1 => by rw [nx, nx_shift x i, nx, nx, nx]
theorem half_mod (a b : Int) (h1 : 0 < b) (h2 : b < a) : 2 * (a % b) < a := by
  have e1 := Int.emod_nonneg a (b := b) (by omega)
  have e2 := Int.emod_lt_of_pos a h1
  have e3 := Int.mul_ediv_add_emod a b
  have e4 : 1 ≤ a / b := Int.le_ediv_of_mul_le h1 (by omega)
  have e5 : b * 1 ≤ b * (a / b) := Int.mul_le_mul_of_nonneg_left e4 (by omega)
  omega
theorem ends : ∀ (n : Nat) (y : Rat), y.den ≤ 2 ^ n → ∃ j, j ≤ 2 * n ∧ fr (nx y j) = 0 ∧ ∀ i, i < j → fr (nx y i) ≠ 0 := by
  intro n
  induction n with
  | zero =>
    intro y h
    refine ⟨0, by omega, ?_, fun i hi => by omega⟩
    by_cases h0 : fr y = 0
    · exact h0
    · obtain ⟨a, b, c, d⟩ := fr_lt y h0
      exfalso
      have : y.den = 1 := by have := y.den_nz; omega
      rw [this] at d
      omega
  | succ n ih =>
    intro y h
    by_cases h0 : fr y = 0
    · exact ⟨0, by omega, h0, fun i hi => by omega⟩
    by_cases h1 : fr (stp y) = 0
    · refine ⟨1, by omega, h1, fun i hi => ?_⟩
      obtain rfl : i = 0 := by omega
      exact h0
    obtain ⟨a1, a2, a3⟩ := stp_lt y h0
    obtain ⟨b1, b2, b3⟩ := stp_lt (stp y) h1
    have hp : 0 < ((stp y).den : Int) := by have := (stp y).den_nz; omega
    have hh := half_mod _ _ hp a1
    have h2 : (stp (stp y)).den ≤ 2 ^ n := by
      have : 2 ^ (n + 1) = 2 * 2 ^ n := by rw [Nat.pow_succ]; omega
      rw [this] at h
      generalize (2 : Nat) ^ n = p at h ⊢
      omega
    obtain ⟨j, j1, j2, j3⟩ := ih _ h2
    refine ⟨j + 2, by omega, ?_, fun i hi => ?_⟩
    · rw [← nx_shift, ← nx_shift]; exact j2
    · rcases i with _ | _ | i
      · exact h0
      · exact h1
      · rw [← nx_shift, ← nx_shift]; exact j3 i (by omega)
theorem Sz_stp (y : Rat) (h : fr y ≠ 0) : Sz (stp y) ≤ Sz y := by
  obtain ⟨a1, a2, a3⟩ := stp_lt y h
  have h1 := len_mono (show (stp y).num.natAbs ≤ y.den by omega)
  have h2 := len_mono (show (stp y).den ≤ y.den by omega)
  unfold Sz
  omega
theorem Sz_nx (x : Rat) (j : Nat) (h : ∀ i, i < j → fr (nx x i) ≠ 0) : ∀ i, i ≤ j → Sz (nx x i) ≤ Sz x
  | 0, _ => Nat.le_refl _
  | i + 1, hi => Nat.le_trans (Sz_stp _ (h i (by omega))) (Sz_nx x j h i (by omega))
def fM (x : Rat) (n : Nat) : List It := (List.range n).map fun i => wl (nx x i).floor
theorem fM_len (x : Rat) (n : Nat) : (fM x n).length = n := by rw [fM, List.length_map, List.length_range]
theorem fM_succ (x : Rat) (n : Nat) : fM x (n + 1) = fM x n ++ [wl (nx x n).floor] := by
  unfold fM
  rw [List.range_succ, List.map_append]
  rfl
theorem gi_fM (x : Rat) (n i : Nat) (h : i < n) : gi (fM x n) i = wl (nx x i).floor := by
  unfold gi gt
  rw [Int.toNat_natCast, List.getD_eq_getElem?_getD]
  unfold fM
  rw [List.getElem?_map, List.getElem?_range h]
  rfl
theorem fold_l0 (x : Rat) (j b : Nat) (hb : Sz x ≤ b) (hb2 : b ≤ 100000) (hj : j ≤ 100000) (h0 : fr (nx x j) = 0) (h : ∀ i, i < j → fr (nx x i) ≠ 0) : ∀ d i, i + d = j →
    Ev (fun k => ratio_Fold.l0 k (fM x i) (cn (nx x i)).1 (cn (nx x i)).2.1 (cn (nx x i)).2.2) (fM x (j + 1)) := by
  intro d
  induction d with
  | zero =>
    intro i hi
    obtain rfl : i = j := by omega
    have hs := Nat.le_trans (Sz_nx x i h i (Nat.le_refl _)) hb
    have hB := cnB _ hs
    have hf := floor_cn (cn (nx x i)) hB (by omega)
    rw [rv_cn] at hf
    have hl := floor_len _ hs
    have hi' := intz_cn (nx x i).floor (by omega)
    have hsb := sub_cn (cn (nx x i)) (cn ((nx x i).floor : Rat)) hB (cnB (b := b + 1) _ (by rw [Sz_int]; omega)) (by omega)
    rw [rv_cn, rv_cn] at hsb
    have hz := Sz_sub (nx x i) ((nx x i).floor : Rat)
    rw [Sz_int] at hz
    have hsg := sign3_cn (cn (fr (nx x i))) (cnB (b := 3 * b + 3) _ (by unfold fr; omega)) (by omega)
    rw [rv_cn] at hsg
    refine Ev.succ ?_
    simp only [ratio_Fold.l0]
    exact Ev.bind hf (Ev.if_pos (by rw [fM_len]; omega) (Ev.bind hi' (Ev.bind hsb (Ev.bind hsg (Ev.if_pos (cmpQ_zero.2 h0) ((Ev.now _).of_eq (fM_succ x i).symm))))))
  | succ d ih =>
    intro i hi
    have hs := Nat.le_trans (Sz_nx x j h i (by omega)) hb
    have hB := cnB _ hs
    have hf := floor_cn (cn (nx x i)) hB (by omega)
    rw [rv_cn] at hf
    have hl := floor_len _ hs
    have hi' := intz_cn (nx x i).floor (by omega)
    have hsb := sub_cn (cn (nx x i)) (cn ((nx x i).floor : Rat)) hB (cnB (b := b + 1) _ (by rw [Sz_int]; omega)) (by omega)
    rw [rv_cn, rv_cn] at hsb
    have hz := Sz_sub (nx x i) ((nx x i).floor : Rat)
    rw [Sz_int] at hz
    have hsF := cnB (b := 3 * b + 3) (fr (nx x i)) (by unfold fr; omega)
    have hsg := sign3_cn (cn (fr (nx x i))) hsF (by omega)
    rw [rv_cn] at hsg
    have ho := over_cn (cn 1) (cn (fr (nx x i))) (cnB (b := 2) 1 (Sz_int64 1 (by decide))) hsF (by omega) (by rw [rv_cn]; exact h i (by omega))
    rw [rv_cn, rv_cn, Rat.one_mul] at ho
    have hih := ih (i + 1) (by omega)
    rw [fM_succ] at hih
    refine Ev.succ ?_
    simp only [ratio_Fold.l0]
    exact Ev.bind hf (Ev.if_pos (by rw [fM_len]; omega) (Ev.bind hi' (Ev.bind hsb (Ev.bind hsg (Ev.if_neg (fun e => h i (by omega) (cmpQ_zero.1 e)) (Ev.bind one_cn (Ev.bind ho hih)))))))
theorem refold_l0 (x : Rat) (j b : Nat) (hb : Sz x ≤ b) (hb2 : b ≤ 100000) (hj : j ≤ 100000) (h : ∀ i, i < j → fr (nx x i) ≠ 0) (b20 : Bool) : ∀ i, i ≤ j →
    Ev (fun k => ratio_Unfold.l0 k (fM x (j + 1)) ((i : Int) - 1) b20 (cn (nx x i)).1 (cn (nx x i)).2.1 (cn (nx x i)).2.2) ((cn x).1, (cn x).2.1, (cn x).2.2, 0) := by
  intro i
  induction i with
  | zero =>
    intro hi
    refine Ev.succ ?_
    simp only [ratio_Unfold.l0]
    exact Ev.if_neg (by omega) (Ev.now _)
  | succ i ih =>
    intro hi
    have e1 : ((i + 1 : Nat) : Int) - 1 = (i : Int) := by omega
    have ew : wrap64 ((i : Int) - 1) = (i : Int) - 1 := wrap_id (by omega) (by omega)
    have eg : gt it0 (fM x (j + 1)) (i : Int) = wl (nx x i).floor := gi_fM x (j + 1) i (by omega)
    have hs1 := Nat.le_trans (Sz_nx x j h (i + 1) hi) hb
    have hs := Nat.le_trans (Sz_nx x j h i (by omega)) hb
    have hbx := cnB _ hs1
    have hsg := sign3_cn (cn (nx x (i + 1))) hbx (by omega)
    rw [rv_cn] at hsg
    have hn : nx x (i + 1) ≠ 0 := stp_ne _ (h i (by omega))
    have hl := floor_len _ hs
    have hint := intz_cn (nx x i).floor (by omega)
    have ho := over_cn (cn 1) (cn (nx x (i + 1))) (cnB (b := 2) 1 (Sz_int64 1 (by decide))) hbx (by omega) (by rw [rv_cn]; exact hn)
    rw [rv_cn, rv_cn, Rat.one_mul] at ho
    have z4 := Sz_inv (nx x (i + 1))
    have ha := add_cn (cn ((nx x i).floor : Rat)) (cn (nx x (i + 1))⁻¹) (cnB (b := b + 1) _ (by rw [Sz_int]; omega)) (cnB (b := b) _ (by omega)) (by omega)
    rw [rv_cn, rv_cn] at ha
    have ex : ((nx x i).floor : Rat) + (nx x (i + 1))⁻¹ = nx x i := by
      rw [nx, stp, Rat.inv_inv, fr]
      grind
    rw [ex] at ha
    refine Ev.succ ?_
    simp only [ratio_Unfold.l0, e1, ew, eg]
    exact Ev.if_pos (by omega) (Ev.bind hsg (Ev.if_neg (fun e => hn (cmpQ_zero.1 e)) (Ev.if_pos (by rw [fM_len]; omega) (Ev.bind hint (Ev.bind one_cn (Ev.bind ho (Ev.bind ha (ih (by omega)))))))))
theorem fr_zero {y : Rat} (h : fr y = 0) : y = (y.floor : Rat) := by
  unfold fr at h
  grind
theorem refold_cn (x : Rat) (j b : Nat) (hb : Sz x ≤ b) (hb2 : b ≤ 100000) (hj : j ≤ 100000) (h0 : fr (nx x j) = 0) (h : ∀ i, i < j → fr (nx x i) ≠ 0) :
    Ev (fun k => ratio_Unfold.f k (fM x (j + 1))) ((cn x).1, (cn x).2.1, (cn x).2.2, 0) := by
  unfold ratio_Unfold.f
  have hL := fM_len x (j + 1)
  have e1 : wrap64 (((fM x (j + 1)).length : Int) - 1) = ((j : Nat) : Int) := by rw [hL, wrap_id (by omega) (by omega)]; omega
  have e2 : wrap64 (((fM x (j + 1)).length : Int) - 2) = ((j : Nat) : Int) - 1 := by rw [hL, wrap_id (by omega) (by omega)]; omega
  have eg : gt it0 (fM x (j + 1)) ((j : Nat) : Int) = wl (nx x j).floor := gi_fM x (j + 1) j (by omega)
  have hs := Nat.le_trans (Sz_nx x j h j (by omega)) hb
  have hl := floor_len _ hs
  have hint := intz_cn (nx x j).floor (by omega)
  rw [← fr_zero h0] at hint
  rw [e1, e2, eg]
  exact Ev.if_neg (by omega) (Ev.if_pos (by omega) (Ev.if_pos (by omega) (Ev.bind hint (refold_l0 x j b hb hb2 hj h false j (Nat.le_refl _)))))
theorem part_pos (x : Rat) (i : Nat) (h : fr (nx x i) ≠ 0) : 1 ≤ (nx x (i + 1)).floor ∧ (fr (nx x (i + 1)) = 0 → (nx x (i + 1)).floor ≠ 1) := by
  obtain ⟨a1, a2, a3⟩ := stp_lt _ h
  have hp : 0 < ((stp (nx x i)).den : Int) := by have := (stp (nx x i)).den_nz; omega
  refine ⟨?_, fun h0 h1 => ?_⟩
  · rw [Rat.floor_def]
    exact Int.le_ediv_of_mul_le hp (by rw [Int.one_mul]; exact Int.le_of_lt a1)
  · have e := fr_zero h0
    rw [h1] at e
    have e2 : stp (nx x i) = ((1 : Int) : Rat) := e
    rw [e2, Rat.den_intCast, Rat.num_intCast] at a1
    omega
theorem folds_l0 (x : Rat) (j b : Nat) (hb : Sz x ≤ b) (hb2 : b ≤ 100000) (hj : j ≤ 100000) (h0 : fr (nx x j) = 0) (h : ∀ i, i < j → fr (nx x i) ≠ 0) : ∀ d i, i + 1 + d = j + 1 →
    Ev (fun k => dendronlaw03_RatioFolds.l0 k (fM x (j + 1)) ((i + 1 : Nat) : Int)) true := by
  have hL := fM_len x (j + 1)
  have ej : wrap64 (((fM x (j + 1)).length : Int) - 1) = ((j : Nat) : Int) := by rw [hL, wrap_id (by omega) (by omega)]; omega
  intro d
  induction d with
  | zero =>
    intro i hi
    refine Ev.succ ?_
    simp only [dendronlaw03_RatioFolds.l0]
    exact Ev.if_neg (by omega) aw3
  | succ d ih =>
    intro i hi
    have eg : gt it0 (fM x (j + 1)) ((i + 1 : Nat) : Int) = wl (nx x (i + 1)).floor := gi_fM x (j + 1) (i + 1) (by omega)
    have hs := Nat.le_trans (Sz_nx x j h (i + 1) (by omega)) hb
    have hl := floor_len _ hs
    have hf := D.wfrom_ev (wl (nx x (i + 1)).floor).1 (wl (nx x (i + 1)).floor).2 (lm_ok _).U (by rw [wl_lens]; omega)
    rw [wv_wl] at hf
    obtain ⟨p1, p2⟩ := part_pos x i (h i (by omega))
    have hih := ih (i + 1) (by omega)
    have ew : wrap64 (((i + 1 : Nat) : Int) + 1) = ((i + 1 + 1 : Nat) : Int) := wr_succ _ (by omega)
    have q1 : (D.il (nx x (i + 1)).floor).1 = false := decide_eq_false (by omega)
    have q2 : ¬ ((D.il (nx x (i + 1)).floor).2.length : Int) = 0 := fun e => by
      have := D.lm_nil'.1 e
      omega
    have ho := D.order_ev (nx x (i + 1)).floor.natAbs 1 (by have := D.len_of_len (nx x (i + 1)).floor.natAbs; omega)
    refine Ev.succ ?_
    simp only [dendronlaw03_RatioFolds.l0, ej, ew, eg]
    refine Ev.if_pos (by omega) (Ev.if_pos (nn0 _) (Ev.bind hf (Ev.if_neg (fun e => by rw [q1] at e; cases e) (Ev.if_neg q2 ?_))))
    by_cases hlast : i + 1 = j
    · refine Ev.if_pos (by omega) (Ev.bind (D.small_ev 1 (by decide)) (Ev.bind ho (Ev.if_neg (fun e => ?_) hih)))
      have := p2 (by rw [hlast]; exact h0)
      have e2 : (nx x (i + 1)).floor.natAbs = 1 := by
        unfold cmp at e
        split at e
        · omega
        · split at e <;> omega
      omega
    · exact Ev.if_neg (by omega) hih
theorem ratioFolds_ev (r : Rt) (hr : RtU r) : Ev (fun k => dendronlaw03_RatioFolds.f k r.1 r.2.1 r.2.2) true := by
  unfold dendronlaw03_RatioFolds.f
  refine Ev.bind (few3_ev _ _ _) ?_
  have ha := fewB hr
  have za := ha.sz
  generalize fewR (r.1, r.2.1, r.2.2) = a at ha za ⊢
  obtain ⟨x, hx, ex⟩ := D.FL.from ha (by decide)
  have hfl := hx.floor (by decide)
  have i1 := D.wis_true (rv a).floor (by have := floor_len (rv a) za; omega)
  have his := D.is_true hx (b := 9) za (by decide)
  have h1 : len (rv a).den ≤ 9 := by unfold Sz at za; omega
  obtain ⟨j, hj, h0, h⟩ := ends (32 * len (rv a).den) (rv a) (by
    rw [Nat.pow_mul]
    exact Nat.le_of_lt (lt_pow_len (rv a).den))
  have hcl := clean_cn a ha (by decide)
  have hfold := fold_l0 (rv a) j 9 za (by decide) (by omega) h0 h j 0 (by omega)
  have hun := refold_cn (rv a) j 9 za (by decide) (by omega) h0 h
  have hL := fM_len (rv a) (j + 1)
  have hm : fM (rv a) 0 = [] := rfl
  rw [hm] at hfold
  have hF : Ev (fun k => ratio_Fold.f k a.1 a.2.1 a.2.2) (fM (rv a) (j + 1)) := by
    unfold ratio_Fold.f
    exact Ev.bind hcl hfold
  have eg : gt it0 (fM (rv a) (j + 1)) 0 = wl (rv a).floor := gi_fM (rv a) (j + 1) 0 (by omega)
  have hlo := folds_l0 (rv a) j 9 za (by decide) (by omega) h0 h j 0 (by omega)
  refine Ev.bind hF (Ev.bind hun (Ev.if_neg (by omega) (Ev.if_neg (fun e => e rfl) (Ev.bind ex (Ev.bind his (Ev.if_pos rfl (Ev.if_pos (by omega) (Ev.bind ex (Ev.bind hfl ?_)))))))))
  rw [eg]
  exact Ev.bind i1 (Ev.if_pos rfl hlo)
end Go.DI.Th
