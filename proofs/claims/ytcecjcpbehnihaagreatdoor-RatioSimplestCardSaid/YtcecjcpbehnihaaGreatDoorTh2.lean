/- What the told functions answer, part 2. No condition. -/
import Derived.Test.YtcecjcpbehnihaaGreatDoorTh1
set_option linter.all false
namespace Go.DI.Th
open Go Go.RowKit Go.DI

def Le {α : Type} (a b : Option α) : Prop := ∀ r, a = some r → b = some r
theorem Le.refl {α : Type} (a : Option α) : Le a a := fun _ h => h
theorem Le.none {α : Type} (b : Option α) : Le none b := fun _ h => by cases h
theorem Le.eqs {α : Type} {a b c d : Option α} (h : a = c) (h' : b = d) (k : Le c d) : Le a b := by subst h; subst h'; exact k
theorem Le.bind {α β : Type} {a b : Option α} {f g : α → Option β} (h : Le a b) (k : ∀ v, Le (f v) (g v)) : Le (a.bind f) (b.bind g) := by
  intro r hr
  cases ha : a with
  | none => rw [ha] at hr; cases hr
  | some v =>
    rw [ha] at hr
    rw [h v ha]
    exact k v r hr
theorem Le.ite {α : Type} {c : Prop} [Decidable c] {a b a' b' : Option α} (h : Le a a') (k : Le b b') : Le (if c then a else b) (if c then a' else b') := by
  split
  · exact h
  · exact k
theorem Ev.mono {α : Type} {g : Nat → Option α} (h : ∀ k, Le (g k) (g (k + 1))) {K : Nat} {r : α} (hk : g K = some r) : Ev g r := by
  refine ⟨K, fun n hn => ?_⟩
  induction hn with
  | refl => exact hk
  | step _ ih => exact h _ r ih
theorem nat_trim.monoL (k : Nat) : (∀ x0 x1, Le (nat_trim.l0 k x0 x1) (nat_trim.l0 (k + 1) x0 x1)) := by
  induction k with
  | zero => exact fun _ _ => Le.none _
  | succ k ih =>
    intro x0 x1
    refine Le.eqs (nat_trim.l0.eq_2 ..) (nat_trim.l0.eq_2 ..) ?_
    repeat' (first
      | with_reducible exact Le.refl _
      | with_reducible refine Le.ite ?_ ?_
      | with_reducible exact ih _ _
      | with_reducible refine Le.bind (ih _ _) (fun _ => ?_)
      | with_reducible refine Le.bind (Le.refl _) (fun _ => ?_)
      | split)
theorem nat_trim.mono (k : Nat) : ∀ x0, Le (nat_trim.f k x0) (nat_trim.f (k + 1) x0) := by
  intro x0
  unfold nat_trim.f
  repeat' (first
    | with_reducible exact Le.refl _
    | with_reducible refine Le.ite ?_ ?_
    | with_reducible exact (nat_trim.monoL k) _ _
    | with_reducible refine Le.bind (Le.refl _) (fun _ => ?_)
    | split)
theorem nat_Clean.monoL (k : Nat) : (∀ x0 x1 x2 x3, Le (nat_Clean.l0 k x0 x1 x2 x3) (nat_Clean.l0 (k + 1) x0 x1 x2 x3)) := by
  induction k with
  | zero => exact fun _ _ _ _ => Le.none _
  | succ k ih =>
    intro x0 x1 x2 x3
    refine Le.eqs (nat_Clean.l0.eq_2 ..) (nat_Clean.l0.eq_2 ..) ?_
    repeat' (first
      | with_reducible exact Le.refl _
      | with_reducible refine Le.ite ?_ ?_
      | with_reducible exact ih _ _ _ _
      | with_reducible refine Le.bind (ih _ _ _ _) (fun _ => ?_)
      | with_reducible refine Le.bind (nat_trim.mono k _) (fun _ => ?_)
      | with_reducible exact nat_trim.mono k _
      | with_reducible refine Le.bind (Le.refl _) (fun _ => ?_)
      | split)
theorem nat_Clean.mono (k : Nat) : ∀ x0, Le (nat_Clean.f k x0) (nat_Clean.f (k + 1) x0) := by
  intro x0
  unfold nat_Clean.f
  repeat' (first
    | with_reducible exact Le.refl _
    | with_reducible refine Le.ite ?_ ?_
    | with_reducible exact (nat_Clean.monoL k) _ _ _ _
    | with_reducible refine Le.bind (Le.refl _) (fun _ => ?_)
    | split)
theorem whole_Clean.mono (k : Nat) : ∀ x0 x1, Le (whole_Clean.f k x0 x1) (whole_Clean.f (k + 1) x0 x1) := by
  intro x0 x1
  unfold whole_Clean.f
  repeat' (first
    | with_reducible exact Le.refl _
    | with_reducible refine Le.ite ?_ ?_
    | with_reducible refine Le.bind (nat_Clean.mono k _) (fun _ => ?_)
    | with_reducible exact nat_Clean.mono k _
    | with_reducible refine Le.bind (Le.refl _) (fun _ => ?_)
    | split)
theorem whole_Sign.mono (k : Nat) : ∀ x0 x1, Le (whole_Sign.f k x0 x1) (whole_Sign.f (k + 1) x0 x1) := by
  intro x0 x1
  unfold whole_Sign.f
  repeat' (first
    | with_reducible exact Le.refl _
    | with_reducible refine Le.ite ?_ ?_
    | with_reducible refine Le.bind (whole_Clean.mono k _ _) (fun _ => ?_)
    | with_reducible exact whole_Clean.mono k _ _
    | with_reducible refine Le.bind (Le.refl _) (fun _ => ?_)
    | split)
theorem whole_Neg.mono (k : Nat) : ∀ x0 x1, Le (whole_Neg.f k x0 x1) (whole_Neg.f (k + 1) x0 x1) := by
  intro x0 x1
  unfold whole_Neg.f
  repeat' (first
    | with_reducible exact Le.refl _
    | with_reducible refine Le.ite ?_ ?_
    | with_reducible refine Le.bind (whole_Clean.mono k _ _) (fun _ => ?_)
    | with_reducible exact whole_Clean.mono k _ _
    | with_reducible refine Le.bind (Le.refl _) (fun _ => ?_)
    | split)
theorem nat_Of.mono (k : Nat) : ∀ x0, Le (nat_Of.f k x0) (nat_Of.f (k + 1) x0) := by
  intro x0
  unfold nat_Of.f
  repeat' (first
    | with_reducible exact Le.refl _
    | with_reducible refine Le.ite ?_ ?_
    | with_reducible refine Le.bind (nat_trim.mono k _) (fun _ => ?_)
    | with_reducible exact nat_trim.mono k _
    | with_reducible refine Le.bind (Le.refl _) (fun _ => ?_)
    | split)
theorem nat_order.monoL (k : Nat) : (∀ x0 x1 x2, Le (nat_order.l0 k x0 x1 x2) (nat_order.l0 (k + 1) x0 x1 x2)) := by
  induction k with
  | zero => exact fun _ _ _ => Le.none _
  | succ k ih =>
    intro x0 x1 x2
    refine Le.eqs (nat_order.l0.eq_2 ..) (nat_order.l0.eq_2 ..) ?_
    repeat' (first
      | with_reducible exact Le.refl _
      | with_reducible refine Le.ite ?_ ?_
      | with_reducible exact ih _ _ _
      | with_reducible refine Le.bind (ih _ _ _) (fun _ => ?_)
      | with_reducible refine Le.bind (Le.refl _) (fun _ => ?_)
      | split)
theorem nat_order.mono (k : Nat) : ∀ x0 x1, Le (nat_order.f k x0 x1) (nat_order.f (k + 1) x0 x1) := by
  intro x0 x1
  unfold nat_order.f
  repeat' (first
    | with_reducible exact Le.refl _
    | with_reducible refine Le.ite ?_ ?_
    | with_reducible exact (nat_order.monoL k) _ _ _
    | with_reducible refine Le.bind (Le.refl _) (fun _ => ?_)
    | split)
theorem nat_To.mono (k : Nat) : ∀ x0, Le (nat_To.f k x0) (nat_To.f (k + 1) x0) := by
  intro x0
  unfold nat_To.f
  repeat' (first
    | with_reducible exact Le.refl _
    | with_reducible refine Le.ite ?_ ?_
    | with_reducible refine Le.bind (nat_Clean.mono k _) (fun _ => ?_)
    | with_reducible exact nat_Clean.mono k _
    | with_reducible refine Le.bind (Le.refl _) (fun _ => ?_)
    | split)
theorem nat_euclid.monoL (k : Nat) : (∀ x0 x1, Le (nat_euclid.l0 k x0 x1) (nat_euclid.l0 (k + 1) x0 x1)) := by
  induction k with
  | zero => exact fun _ _ => Le.none _
  | succ k ih =>
    intro x0 x1
    refine Le.eqs (nat_euclid.l0.eq_2 ..) (nat_euclid.l0.eq_2 ..) ?_
    repeat' (first
      | with_reducible exact Le.refl _
      | with_reducible refine Le.ite ?_ ?_
      | with_reducible exact ih _ _
      | with_reducible refine Le.bind (ih _ _) (fun _ => ?_)
      | with_reducible refine Le.bind (nat_Of.mono k _) (fun _ => ?_)
      | with_reducible exact nat_Of.mono k _
      | with_reducible refine Le.bind (Le.refl _) (fun _ => ?_)
      | split)
theorem nat_euclid.mono (k : Nat) : ∀ x0 x1, Le (nat_euclid.f k x0 x1) (nat_euclid.f (k + 1) x0 x1) := by
  intro x0 x1
  unfold nat_euclid.f
  repeat' (first
    | with_reducible exact Le.refl _
    | with_reducible refine Le.ite ?_ ?_
    | with_reducible exact (nat_euclid.monoL k) _ _
    | with_reducible refine Le.bind (nat_To.mono k _) (fun _ => ?_)
    | with_reducible exact nat_To.mono k _
    | with_reducible refine Le.bind (Le.refl _) (fun _ => ?_)
    | split)
theorem nat_zeros.monoL (k : Nat) : (∀ x0 x1 x2 x3, Le (nat_zeros.l0 k x0 x1 x2 x3) (nat_zeros.l0 (k + 1) x0 x1 x2 x3)) := by
  induction k with
  | zero => exact fun _ _ _ _ => Le.none _
  | succ k ih =>
    intro x0 x1 x2 x3
    refine Le.eqs (nat_zeros.l0.eq_2 ..) (nat_zeros.l0.eq_2 ..) ?_
    repeat' (first
      | with_reducible exact Le.refl _
      | with_reducible refine Le.ite ?_ ?_
      | with_reducible exact ih _ _ _ _
      | with_reducible refine Le.bind (ih _ _ _ _) (fun _ => ?_)
      | with_reducible refine Le.bind (Le.refl _) (fun _ => ?_)
      | split)
theorem nat_zeros.mono (k : Nat) : ∀ x0, Le (nat_zeros.f k x0) (nat_zeros.f (k + 1) x0) := by
  intro x0
  unfold nat_zeros.f
  repeat' (first
    | with_reducible exact Le.refl _
    | with_reducible refine Le.ite ?_ ?_
    | with_reducible exact (nat_zeros.monoL k) _ _ _ _
    | with_reducible refine Le.bind (Le.refl _) (fun _ => ?_)
    | split)
theorem nat_shr.monoL (k : Nat) : (∀ x0 x1 x2 x3 x4 x5, Le (nat_shr.l0 k x0 x1 x2 x3 x4 x5) (nat_shr.l0 (k + 1) x0 x1 x2 x3 x4 x5)) := by
  induction k with
  | zero => exact fun _ _ _ _ _ _ => Le.none _
  | succ k ih =>
    intro x0 x1 x2 x3 x4 x5
    refine Le.eqs (nat_shr.l0.eq_2 ..) (nat_shr.l0.eq_2 ..) ?_
    repeat' (first
      | with_reducible exact Le.refl _
      | with_reducible refine Le.ite ?_ ?_
      | with_reducible exact ih _ _ _ _ _ _
      | with_reducible refine Le.bind (ih _ _ _ _ _ _) (fun _ => ?_)
      | with_reducible refine Le.bind (nat_trim.mono k _) (fun _ => ?_)
      | with_reducible exact nat_trim.mono k _
      | with_reducible refine Le.bind (Le.refl _) (fun _ => ?_)
      | split)
theorem nat_shr.mono (k : Nat) : ∀ x0 x1, Le (nat_shr.f k x0 x1) (nat_shr.f (k + 1) x0 x1) := by
  intro x0 x1
  unfold nat_shr.f
  repeat' (first
    | with_reducible exact Le.refl _
    | with_reducible refine Le.ite ?_ ?_
    | with_reducible exact (nat_shr.monoL k) _ _ _ _ _ _
    | with_reducible refine Le.bind (Le.refl _) (fun _ => ?_)
    | split)
theorem nat_trimM.monoL (k : Nat) : (∀ x0 x1, Le (nat_trimM.l0 k x0 x1) (nat_trimM.l0 (k + 1) x0 x1)) := by
  induction k with
  | zero => exact fun _ _ => Le.none _
  | succ k ih =>
    intro x0 x1
    refine Le.eqs (nat_trimM.l0.eq_2 ..) (nat_trimM.l0.eq_2 ..) ?_
    repeat' (first
      | with_reducible exact Le.refl _
      | with_reducible refine Le.ite ?_ ?_
      | with_reducible exact ih _ _
      | with_reducible refine Le.bind (ih _ _) (fun _ => ?_)
      | with_reducible refine Le.bind (Le.refl _) (fun _ => ?_)
      | split)
theorem nat_trimM.mono (k : Nat) : ∀ x0, Le (nat_trimM.f k x0) (nat_trimM.f (k + 1) x0) := by
  intro x0
  unfold nat_trimM.f
  repeat' (first
    | with_reducible exact Le.refl _
    | with_reducible refine Le.ite ?_ ?_
    | with_reducible exact (nat_trimM.monoL k) _ _
    | with_reducible refine Le.bind (Le.refl _) (fun _ => ?_)
    | split)
theorem nat_shl.monoL (k : Nat) : (∀ x0 x1 x2 x3 x4 x5, Le (nat_shl.l0 k x0 x1 x2 x3 x4 x5) (nat_shl.l0 (k + 1) x0 x1 x2 x3 x4 x5)) := by
  induction k with
  | zero => exact fun _ _ _ _ _ _ => Le.none _
  | succ k ih =>
    intro x0 x1 x2 x3 x4 x5
    refine Le.eqs (nat_shl.l0.eq_2 ..) (nat_shl.l0.eq_2 ..) ?_
    repeat' (first
      | with_reducible exact Le.refl _
      | with_reducible refine Le.ite ?_ ?_
      | with_reducible exact ih _ _ _ _ _ _
      | with_reducible refine Le.bind (ih _ _ _ _ _ _) (fun _ => ?_)
      | with_reducible refine Le.bind (nat_trimM.mono k _) (fun _ => ?_)
      | with_reducible exact nat_trimM.mono k _
      | with_reducible refine Le.bind (Le.refl _) (fun _ => ?_)
      | split)
theorem nat_shl.mono (k : Nat) : ∀ x0 x1, Le (nat_shl.f k x0 x1) (nat_shl.f (k + 1) x0 x1) := by
  intro x0 x1
  unfold nat_shl.f
  repeat' (first
    | with_reducible exact Le.refl _
    | with_reducible refine Le.ite ?_ ?_
    | with_reducible exact (nat_shl.monoL k) _ _ _ _ _ _
    | with_reducible refine Le.bind (Le.refl _) (fun _ => ?_)
    | split)
theorem nat_small.monoL (k : Nat) : (∀ x0 x1 x2 x3 x4, Le (nat_small.l0 k x0 x1 x2 x3 x4) (nat_small.l0 (k + 1) x0 x1 x2 x3 x4)) := by
  induction k with
  | zero => exact fun _ _ _ _ _ => Le.none _
  | succ k ih =>
    intro x0 x1 x2 x3 x4
    refine Le.eqs (nat_small.l0.eq_2 ..) (nat_small.l0.eq_2 ..) ?_
    repeat' (first
      | with_reducible exact Le.refl _
      | with_reducible refine Le.ite ?_ ?_
      | with_reducible exact ih _ _ _ _ _
      | with_reducible refine Le.bind (ih _ _ _ _ _) (fun _ => ?_)
      | with_reducible refine Le.bind (nat_trim.mono k _) (fun _ => ?_)
      | with_reducible exact nat_trim.mono k _
      | with_reducible refine Le.bind (Le.refl _) (fun _ => ?_)
      | split)
theorem nat_small.mono (k : Nat) : ∀ x0 x1, Le (nat_small.f k x0 x1) (nat_small.f (k + 1) x0 x1) := by
  intro x0 x1
  unfold nat_small.f
  repeat' (first
    | with_reducible exact Le.refl _
    | with_reducible refine Le.ite ?_ ?_
    | with_reducible exact (nat_small.monoL k) _ _ _ _ _
    | with_reducible refine Le.bind (Le.refl _) (fun _ => ?_)
    | split)
theorem nat_take.monoL (k : Nat) : (∀ x0 x1 x2 x3 x4 x5 x6, Le (nat_take.l0 k x0 x1 x2 x3 x4 x5 x6) (nat_take.l0 (k + 1) x0 x1 x2 x3 x4 x5 x6)) := by
  induction k with
  | zero => exact fun _ _ _ _ _ _ _ => Le.none _
  | succ k ih =>
    intro x0 x1 x2 x3 x4 x5 x6
    refine Le.eqs (nat_take.l0.eq_2 ..) (nat_take.l0.eq_2 ..) ?_
    repeat' (first
      | with_reducible exact Le.refl _
      | with_reducible refine Le.ite ?_ ?_
      | with_reducible exact ih _ _ _ _ _ _ _
      | with_reducible refine Le.bind (ih _ _ _ _ _ _ _) (fun _ => ?_)
      | with_reducible refine Le.bind (Le.refl _) (fun _ => ?_)
      | split)
theorem nat_take.mono (k : Nat) : ∀ x0 x1 x2, Le (nat_take.f k x0 x1 x2) (nat_take.f (k + 1) x0 x1 x2) := by
  intro x0 x1 x2
  unfold nat_take.f
  repeat' (first
    | with_reducible exact Le.refl _
    | with_reducible refine Le.ite ?_ ?_
    | with_reducible exact (nat_take.monoL k) _ _ _ _ _ _ _
    | with_reducible refine Le.bind (Le.refl _) (fun _ => ?_)
    | split)
theorem nat_give.monoL (k : Nat) : (∀ x0 x1 x2 x3 x4, Le (nat_give.l0 k x0 x1 x2 x3 x4) (nat_give.l0 (k + 1) x0 x1 x2 x3 x4)) := by
  induction k with
  | zero => exact fun _ _ _ _ _ => Le.none _
  | succ k ih =>
    intro x0 x1 x2 x3 x4
    refine Le.eqs (nat_give.l0.eq_2 ..) (nat_give.l0.eq_2 ..) ?_
    repeat' (first
      | with_reducible exact Le.refl _
      | with_reducible refine Le.ite ?_ ?_
      | with_reducible exact ih _ _ _ _ _
      | with_reducible refine Le.bind (ih _ _ _ _ _) (fun _ => ?_)
      | with_reducible refine Le.bind (Le.refl _) (fun _ => ?_)
      | split)
theorem nat_give.mono (k : Nat) : ∀ x0 x1, Le (nat_give.f k x0 x1) (nat_give.f (k + 1) x0 x1) := by
  intro x0 x1
  unfold nat_give.f
  repeat' (first
    | with_reducible exact Le.refl _
    | with_reducible refine Le.ite ?_ ?_
    | with_reducible exact (nat_give.monoL k) _ _ _ _ _
    | with_reducible refine Le.bind (Le.refl _) (fun _ => ?_)
    | split)
theorem nat_digit.monoL (k : Nat) : (∀ x0 x1 x2 x3 x4, Le (nat_digit.l0 k x0 x1 x2 x3 x4) (nat_digit.l0 (k + 1) x0 x1 x2 x3 x4)) := by
  induction k with
  | zero => exact fun _ _ _ _ _ => Le.none _
  | succ k ih =>
    intro x0 x1 x2 x3 x4
    refine Le.eqs (nat_digit.l0.eq_2 ..) (nat_digit.l0.eq_2 ..) ?_
    repeat' (first
      | with_reducible exact Le.refl _
      | with_reducible refine Le.ite ?_ ?_
      | with_reducible exact ih _ _ _ _ _
      | with_reducible refine Le.bind (ih _ _ _ _ _) (fun _ => ?_)
      | with_reducible refine Le.bind (nat_take.mono k _ _ _) (fun _ => ?_)
      | with_reducible refine Le.bind (nat_give.mono k _ _) (fun _ => ?_)
      | with_reducible exact nat_take.mono k _ _ _
      | with_reducible exact nat_give.mono k _ _
      | with_reducible refine Le.bind (Le.refl _) (fun _ => ?_)
      | split)
theorem nat_digit.mono (k : Nat) : ∀ x0 x1, Le (nat_digit.f k x0 x1) (nat_digit.f (k + 1) x0 x1) := by
  intro x0 x1
  unfold nat_digit.f
  repeat' (first
    | with_reducible exact Le.refl _
    | with_reducible refine Le.ite ?_ ?_
    | with_reducible exact (nat_digit.monoL k) _ _ _ _ _
    | with_reducible refine Le.bind (Le.refl _) (fun _ => ?_)
    | split)
theorem nat_long.monoL (k : Nat) : (∀ x0 x1 x2 x3 x4 x5, Le (nat_long.l0 k x0 x1 x2 x3 x4 x5) (nat_long.l0 (k + 1) x0 x1 x2 x3 x4 x5)) := by
  induction k with
  | zero => exact fun _ _ _ _ _ _ => Le.none _
  | succ k ih =>
    intro x0 x1 x2 x3 x4 x5
    refine Le.eqs (nat_long.l0.eq_2 ..) (nat_long.l0.eq_2 ..) ?_
    repeat' (first
      | with_reducible exact Le.refl _
      | with_reducible refine Le.ite ?_ ?_
      | with_reducible exact ih _ _ _ _ _ _
      | with_reducible refine Le.bind (ih _ _ _ _ _ _) (fun _ => ?_)
      | with_reducible refine Le.bind (nat_digit.mono k _ _) (fun _ => ?_)
      | with_reducible refine Le.bind (nat_trim.mono k _) (fun _ => ?_)
      | with_reducible refine Le.bind (nat_shr.mono k _ _) (fun _ => ?_)
      | with_reducible exact nat_digit.mono k _ _
      | with_reducible exact nat_trim.mono k _
      | with_reducible exact nat_shr.mono k _ _
      | with_reducible refine Le.bind (Le.refl _) (fun _ => ?_)
      | split)
theorem nat_long.mono (k : Nat) : ∀ x0 x1, Le (nat_long.f k x0 x1) (nat_long.f (k + 1) x0 x1) := by
  intro x0 x1
  unfold nat_long.f
  repeat' (first
    | with_reducible exact Le.refl _
    | with_reducible refine Le.ite ?_ ?_
    | with_reducible exact (nat_long.monoL k) _ _ _ _ _ _
    | with_reducible refine Le.bind (nat_shl.mono k _ _) (fun _ => ?_)
    | with_reducible exact nat_shl.mono k _ _
    | with_reducible refine Le.bind (Le.refl _) (fun _ => ?_)
    | split)
theorem nat_DivMod.mono (k : Nat) : ∀ x0 x1, Le (nat_DivMod.f k x0 x1) (nat_DivMod.f (k + 1) x0 x1) := by
  intro x0 x1
  unfold nat_DivMod.f
  repeat' (first
    | with_reducible exact Le.refl _
    | with_reducible refine Le.ite ?_ ?_
    | with_reducible refine Le.bind (nat_Clean.mono k _) (fun _ => ?_)
    | with_reducible refine Le.bind (nat_order.mono k _ _) (fun _ => ?_)
    | with_reducible refine Le.bind (nat_small.mono k _ _) (fun _ => ?_)
    | with_reducible refine Le.bind (nat_Of.mono k _) (fun _ => ?_)
    | with_reducible refine Le.bind (nat_long.mono k _ _) (fun _ => ?_)
    | with_reducible exact nat_Clean.mono k _
    | with_reducible exact nat_order.mono k _ _
    | with_reducible exact nat_small.mono k _ _
    | with_reducible exact nat_Of.mono k _
    | with_reducible exact nat_long.mono k _ _
    | with_reducible refine Le.bind (Le.refl _) (fun _ => ?_)
    | split)
theorem nat_rest.mono (k : Nat) : ∀ x0 x1, Le (nat_rest.f k x0 x1) (nat_rest.f (k + 1) x0 x1) := by
  intro x0 x1
  unfold nat_rest.f
  repeat' (first
    | with_reducible exact Le.refl _
    | with_reducible refine Le.ite ?_ ?_
    | with_reducible refine Le.bind (nat_DivMod.mono k _ _) (fun _ => ?_)
    | with_reducible exact nat_DivMod.mono k _ _
    | with_reducible refine Le.bind (Le.refl _) (fun _ => ?_)
    | split)
theorem nat_minus.monoL (k : Nat) : (∀ x0 x1 x2 x3 x4 x5, Le (nat_minus.l0 k x0 x1 x2 x3 x4 x5) (nat_minus.l0 (k + 1) x0 x1 x2 x3 x4 x5)) := by
  induction k with
  | zero => exact fun _ _ _ _ _ _ => Le.none _
  | succ k ih =>
    intro x0 x1 x2 x3 x4 x5
    refine Le.eqs (nat_minus.l0.eq_2 ..) (nat_minus.l0.eq_2 ..) ?_
    repeat' (first
      | with_reducible exact Le.refl _
      | with_reducible refine Le.ite ?_ ?_
      | with_reducible exact ih _ _ _ _ _ _
      | with_reducible refine Le.bind (ih _ _ _ _ _ _) (fun _ => ?_)
      | with_reducible refine Le.bind (nat_trim.mono k _) (fun _ => ?_)
      | with_reducible exact nat_trim.mono k _
      | with_reducible refine Le.bind (Le.refl _) (fun _ => ?_)
      | split)
theorem nat_minus.mono (k : Nat) : ∀ x0 x1, Le (nat_minus.f k x0 x1) (nat_minus.f (k + 1) x0 x1) := by
  intro x0 x1
  unfold nat_minus.f
  repeat' (first
    | with_reducible exact Le.refl _
    | with_reducible refine Le.ite ?_ ?_
    | with_reducible exact (nat_minus.monoL k) _ _ _ _ _ _
    | with_reducible refine Le.bind (Le.refl _) (fun _ => ?_)
    | split)
theorem nat_Gcd.monoL (k : Nat) : (∀ x0 x1 x2 x3, Le (nat_Gcd.l0 k x0 x1 x2 x3) (nat_Gcd.l0 (k + 1) x0 x1 x2 x3)) := by
  induction k with
  | zero => exact fun _ _ _ _ => Le.none _
  | succ k ih =>
    intro x0 x1 x2 x3
    refine Le.eqs (nat_Gcd.l0.eq_2 ..) (nat_Gcd.l0.eq_2 ..) ?_
    repeat' (first
      | with_reducible exact Le.refl _
      | with_reducible refine Le.ite ?_ ?_
      | with_reducible exact ih _ _ _ _
      | with_reducible refine Le.bind (ih _ _ _ _) (fun _ => ?_)
      | with_reducible refine Le.bind (nat_order.mono k _ _) (fun _ => ?_)
      | with_reducible refine Le.bind (nat_shl.mono k _ _) (fun _ => ?_)
      | with_reducible refine Le.bind (nat_rest.mono k _ _) (fun _ => ?_)
      | with_reducible refine Le.bind (nat_zeros.mono k _) (fun _ => ?_)
      | with_reducible refine Le.bind (nat_shr.mono k _ _) (fun _ => ?_)
      | with_reducible refine Le.bind (nat_minus.mono k _ _) (fun _ => ?_)
      | with_reducible exact nat_order.mono k _ _
      | with_reducible exact nat_shl.mono k _ _
      | with_reducible exact nat_rest.mono k _ _
      | with_reducible exact nat_zeros.mono k _
      | with_reducible exact nat_shr.mono k _ _
      | with_reducible exact nat_minus.mono k _ _
      | with_reducible refine Le.bind (Le.refl _) (fun _ => ?_)
      | split)
theorem nat_Gcd.mono (k : Nat) : ∀ x0 x1, Le (nat_Gcd.f k x0 x1) (nat_Gcd.f (k + 1) x0 x1) := by
  intro x0 x1
  unfold nat_Gcd.f
  repeat' (first
    | with_reducible exact Le.refl _
    | with_reducible refine Le.ite ?_ ?_
    | with_reducible exact (nat_Gcd.monoL k) _ _ _ _
    | with_reducible refine Le.bind (nat_Clean.mono k _) (fun _ => ?_)
    | with_reducible refine Le.bind (nat_euclid.mono k _ _) (fun _ => ?_)
    | with_reducible refine Le.bind (nat_zeros.mono k _) (fun _ => ?_)
    | with_reducible refine Le.bind (nat_shr.mono k _ _) (fun _ => ?_)
    | with_reducible exact nat_Clean.mono k _
    | with_reducible exact nat_euclid.mono k _ _
    | with_reducible exact nat_zeros.mono k _
    | with_reducible exact nat_shr.mono k _ _
    | with_reducible refine Le.bind (Le.refl _) (fun _ => ?_)
    | split)
theorem ratio_form.mono (k : Nat) : ∀ x0 x1 x2, Le (ratio_form.f k x0 x1 x2) (ratio_form.f (k + 1) x0 x1 x2) := by
  intro x0 x1 x2
  unfold ratio_form.f
  repeat' (first
    | with_reducible exact Le.refl _
    | with_reducible refine Le.ite ?_ ?_
    | with_reducible refine Le.bind (nat_Of.mono k _) (fun _ => ?_)
    | with_reducible refine Le.bind (nat_Gcd.mono k _ _) (fun _ => ?_)
    | with_reducible refine Le.bind (nat_DivMod.mono k _ _) (fun _ => ?_)
    | with_reducible exact nat_Of.mono k _
    | with_reducible exact nat_Gcd.mono k _ _
    | with_reducible exact nat_DivMod.mono k _ _
    | with_reducible refine Le.bind (Le.refl _) (fun _ => ?_)
    | split)
theorem ratio_Make.mono (k : Nat) : ∀ x0 x1 x2 x3, Le (ratio_Make.f k x0 x1 x2 x3) (ratio_Make.f (k + 1) x0 x1 x2 x3) := by
  intro x0 x1 x2 x3
  unfold ratio_Make.f
  repeat' (first
    | with_reducible exact Le.refl _
    | with_reducible refine Le.ite ?_ ?_
    | with_reducible refine Le.bind (whole_Clean.mono k _ _) (fun _ => ?_)
    | with_reducible refine Le.bind (whole_Sign.mono k _ _) (fun _ => ?_)
    | with_reducible refine Le.bind (whole_Neg.mono k _ _) (fun _ => ?_)
    | with_reducible refine Le.bind (ratio_form.mono k _ _ _) (fun _ => ?_)
    | with_reducible exact whole_Clean.mono k _ _
    | with_reducible exact whole_Sign.mono k _ _
    | with_reducible exact whole_Neg.mono k _ _
    | with_reducible exact ratio_form.mono k _ _ _
    | with_reducible refine Le.bind (Le.refl _) (fun _ => ?_)
    | split)
theorem ratio_Zero.mono (k : Nat) : Le (ratio_Zero.f k ) (ratio_Zero.f (k + 1) ) := by
  unfold ratio_Zero.f
  repeat' (first
    | with_reducible exact Le.refl _
    | with_reducible refine Le.ite ?_ ?_
    | with_reducible refine Le.bind (nat_Of.mono k _) (fun _ => ?_)
    | with_reducible exact nat_Of.mono k _
    | with_reducible refine Le.bind (Le.refl _) (fun _ => ?_)
    | split)
theorem whole_Of.mono (k : Nat) : ∀ x0, Le (whole_Of.f k x0) (whole_Of.f (k + 1) x0) := by
  intro x0
  unfold whole_Of.f
  repeat' (first
    | with_reducible exact Le.refl _
    | with_reducible refine Le.ite ?_ ?_
    | with_reducible refine Le.bind (nat_Of.mono k _) (fun _ => ?_)
    | with_reducible exact nat_Of.mono k _
    | with_reducible refine Le.bind (Le.refl _) (fun _ => ?_)
    | split)
theorem ratio_Of.mono (k : Nat) : ∀ x0, Le (ratio_Of.f k x0) (ratio_Of.f (k + 1) x0) := by
  intro x0
  unfold ratio_Of.f
  repeat' (first
    | with_reducible exact Le.refl _
    | with_reducible refine Le.ite ?_ ?_
    | with_reducible refine Le.bind (whole_Of.mono k _) (fun _ => ?_)
    | with_reducible refine Le.bind (nat_Of.mono k _) (fun _ => ?_)
    | with_reducible exact whole_Of.mono k _
    | with_reducible exact nat_Of.mono k _
    | with_reducible refine Le.bind (Le.refl _) (fun _ => ?_)
    | split)
theorem ratio_One.mono (k : Nat) : Le (ratio_One.f k ) (ratio_One.f (k + 1) ) := by
  unfold ratio_One.f
  repeat' (first
    | with_reducible exact Le.refl _
    | with_reducible refine Le.ite ?_ ?_
    | with_reducible refine Le.bind (ratio_Of.mono k _) (fun _ => ?_)
    | with_reducible exact ratio_Of.mono k _
    | with_reducible refine Le.bind (Le.refl _) (fun _ => ?_)
    | split)
theorem ratio_Int.mono (k : Nat) : ∀ x0 x1, Le (ratio_Int.f k x0 x1) (ratio_Int.f (k + 1) x0 x1) := by
  intro x0 x1
  unfold ratio_Int.f
  repeat' (first
    | with_reducible exact Le.refl _
    | with_reducible refine Le.ite ?_ ?_
    | with_reducible refine Le.bind (whole_Clean.mono k _ _) (fun _ => ?_)
    | with_reducible refine Le.bind (nat_Of.mono k _) (fun _ => ?_)
    | with_reducible exact whole_Clean.mono k _ _
    | with_reducible exact nat_Of.mono k _
    | with_reducible refine Le.bind (Le.refl _) (fun _ => ?_)
    | split)
theorem ratio_Clean.mono (k : Nat) : ∀ x0 x1 x2, Le (ratio_Clean.f k x0 x1 x2) (ratio_Clean.f (k + 1) x0 x1 x2) := by
  intro x0 x1 x2
  unfold ratio_Clean.f
  repeat' (first
    | with_reducible exact Le.refl _
    | with_reducible refine Le.ite ?_ ?_
    | with_reducible refine Le.bind (nat_Clean.mono k _) (fun _ => ?_)
    | with_reducible refine Le.bind (ratio_Zero.mono k ) (fun _ => ?_)
    | with_reducible refine Le.bind (whole_Clean.mono k _ _) (fun _ => ?_)
    | with_reducible refine Le.bind (ratio_form.mono k _ _ _) (fun _ => ?_)
    | with_reducible exact nat_Clean.mono k _
    | with_reducible exact ratio_Zero.mono k 
    | with_reducible exact whole_Clean.mono k _ _
    | with_reducible exact ratio_form.mono k _ _ _
    | with_reducible refine Le.bind (Le.refl _) (fun _ => ?_)
    | split)
theorem ratio_Frac.mono (k : Nat) : ∀ x0 x1, Le (ratio_Frac.f k x0 x1) (ratio_Frac.f (k + 1) x0 x1) := by
  intro x0 x1
  unfold ratio_Frac.f
  repeat' (first
    | with_reducible exact Le.refl _
    | with_reducible refine Le.ite ?_ ?_
    | with_reducible refine Le.bind (whole_Of.mono k _) (fun _ => ?_)
    | with_reducible refine Le.bind (ratio_Make.mono k _ _ _ _) (fun _ => ?_)
    | with_reducible refine Le.bind (ratio_Clean.mono k _ _ _) (fun _ => ?_)
    | with_reducible exact whole_Of.mono k _
    | with_reducible exact ratio_Make.mono k _ _ _ _
    | with_reducible exact ratio_Clean.mono k _ _ _
    | with_reducible refine Le.bind (Le.refl _) (fun _ => ?_)
    | split)
theorem nat_Add.monoL (k : Nat) : (∀ x0 x1 x2 x3 x4 x5, Le (nat_Add.l0 k x0 x1 x2 x3 x4 x5) (nat_Add.l0 (k + 1) x0 x1 x2 x3 x4 x5)) := by
  induction k with
  | zero => exact fun _ _ _ _ _ _ => Le.none _
  | succ k ih =>
    intro x0 x1 x2 x3 x4 x5
    refine Le.eqs (nat_Add.l0.eq_2 ..) (nat_Add.l0.eq_2 ..) ?_
    repeat' (first
      | with_reducible exact Le.refl _
      | with_reducible refine Le.ite ?_ ?_
      | with_reducible exact ih _ _ _ _ _ _
      | with_reducible refine Le.bind (ih _ _ _ _ _ _) (fun _ => ?_)
      | with_reducible refine Le.bind (nat_trim.mono k _) (fun _ => ?_)
      | with_reducible exact nat_trim.mono k _
      | with_reducible refine Le.bind (Le.refl _) (fun _ => ?_)
      | split)
theorem nat_Add.mono (k : Nat) : ∀ x0 x1, Le (nat_Add.f k x0 x1) (nat_Add.f (k + 1) x0 x1) := by
  intro x0 x1
  unfold nat_Add.f
  repeat' (first
    | with_reducible exact Le.refl _
    | with_reducible refine Le.ite ?_ ?_
    | with_reducible exact (nat_Add.monoL k) _ _ _ _ _ _
    | with_reducible refine Le.bind (nat_Clean.mono k _) (fun _ => ?_)
    | with_reducible exact nat_Clean.mono k _
    | with_reducible refine Le.bind (Le.refl _) (fun _ => ?_)
    | split)
theorem nat_Sub.mono (k : Nat) : ∀ x0 x1, Le (nat_Sub.f k x0 x1) (nat_Sub.f (k + 1) x0 x1) := by
  intro x0 x1
  unfold nat_Sub.f
  repeat' (first
    | with_reducible exact Le.refl _
    | with_reducible refine Le.ite ?_ ?_
    | with_reducible refine Le.bind (nat_Clean.mono k _) (fun _ => ?_)
    | with_reducible refine Le.bind (nat_order.mono k _ _) (fun _ => ?_)
    | with_reducible refine Le.bind (nat_minus.mono k _ _) (fun _ => ?_)
    | with_reducible exact nat_Clean.mono k _
    | with_reducible exact nat_order.mono k _ _
    | with_reducible exact nat_minus.mono k _ _
    | with_reducible refine Le.bind (Le.refl _) (fun _ => ?_)
    | split)
theorem whole_DivMod.mono (k : Nat) : ∀ x0 x1 x2 x3, Le (whole_DivMod.f k x0 x1 x2 x3) (whole_DivMod.f (k + 1) x0 x1 x2 x3) := by
  intro x0 x1 x2 x3
  unfold whole_DivMod.f
  repeat' (first
    | with_reducible exact Le.refl _
    | with_reducible refine Le.ite ?_ ?_
    | with_reducible refine Le.bind (whole_Clean.mono k _ _) (fun _ => ?_)
    | with_reducible refine Le.bind (nat_DivMod.mono k _ _) (fun _ => ?_)
    | with_reducible refine Le.bind (nat_Of.mono k _) (fun _ => ?_)
    | with_reducible refine Le.bind (nat_Add.mono k _ _) (fun _ => ?_)
    | with_reducible refine Le.bind (nat_Sub.mono k _ _) (fun _ => ?_)
    | with_reducible exact whole_Clean.mono k _ _
    | with_reducible exact nat_DivMod.mono k _ _
    | with_reducible exact nat_Of.mono k _
    | with_reducible exact nat_Add.mono k _ _
    | with_reducible exact nat_Sub.mono k _ _
    | with_reducible refine Le.bind (Le.refl _) (fun _ => ?_)
    | split)
theorem ratio_Floor.mono (k : Nat) : ∀ x0 x1 x2, Le (ratio_Floor.f k x0 x1 x2) (ratio_Floor.f (k + 1) x0 x1 x2) := by
  intro x0 x1 x2
  unfold ratio_Floor.f
  repeat' (first
    | with_reducible exact Le.refl _
    | with_reducible refine Le.ite ?_ ?_
    | with_reducible refine Le.bind (ratio_Clean.mono k _ _ _) (fun _ => ?_)
    | with_reducible refine Le.bind (whole_DivMod.mono k _ _ _ _) (fun _ => ?_)
    | with_reducible exact ratio_Clean.mono k _ _ _
    | with_reducible exact whole_DivMod.mono k _ _ _ _
    | with_reducible refine Le.bind (Le.refl _) (fun _ => ?_)
    | split)
theorem ratio_Neg.mono (k : Nat) : ∀ x0 x1 x2, Le (ratio_Neg.f k x0 x1 x2) (ratio_Neg.f (k + 1) x0 x1 x2) := by
  intro x0 x1 x2
  unfold ratio_Neg.f
  repeat' (first
    | with_reducible exact Le.refl _
    | with_reducible refine Le.ite ?_ ?_
    | with_reducible refine Le.bind (ratio_Clean.mono k _ _ _) (fun _ => ?_)
    | with_reducible refine Le.bind (whole_Neg.mono k _ _) (fun _ => ?_)
    | with_reducible exact ratio_Clean.mono k _ _ _
    | with_reducible exact whole_Neg.mono k _ _
    | with_reducible refine Le.bind (Le.refl _) (fun _ => ?_)
    | split)
theorem ratio_Ceil.mono (k : Nat) : ∀ x0 x1 x2, Le (ratio_Ceil.f k x0 x1 x2) (ratio_Ceil.f (k + 1) x0 x1 x2) := by
  intro x0 x1 x2
  unfold ratio_Ceil.f
  repeat' (first
    | with_reducible exact Le.refl _
    | with_reducible refine Le.ite ?_ ?_
    | with_reducible refine Le.bind (ratio_Neg.mono k _ _ _) (fun _ => ?_)
    | with_reducible refine Le.bind (ratio_Floor.mono k _ _ _) (fun _ => ?_)
    | with_reducible refine Le.bind (whole_Neg.mono k _ _) (fun _ => ?_)
    | with_reducible exact ratio_Neg.mono k _ _ _
    | with_reducible exact ratio_Floor.mono k _ _ _
    | with_reducible exact whole_Neg.mono k _ _
    | with_reducible refine Le.bind (Le.refl _) (fun _ => ?_)
    | split)
theorem nat_Cmp.mono (k : Nat) : ∀ x0 x1, Le (nat_Cmp.f k x0 x1) (nat_Cmp.f (k + 1) x0 x1) := by
  intro x0 x1
  unfold nat_Cmp.f
  repeat' (first
    | with_reducible exact Le.refl _
    | with_reducible refine Le.ite ?_ ?_
    | with_reducible refine Le.bind (nat_Clean.mono k _) (fun _ => ?_)
    | with_reducible refine Le.bind (nat_order.mono k _ _) (fun _ => ?_)
    | with_reducible exact nat_Clean.mono k _
    | with_reducible exact nat_order.mono k _ _
    | with_reducible refine Le.bind (Le.refl _) (fun _ => ?_)
    | split)
theorem whole_Cmp.mono (k : Nat) : ∀ x0 x1 x2 x3, Le (whole_Cmp.f k x0 x1 x2 x3) (whole_Cmp.f (k + 1) x0 x1 x2 x3) := by
  intro x0 x1 x2 x3
  unfold whole_Cmp.f
  repeat' (first
    | with_reducible exact Le.refl _
    | with_reducible refine Le.ite ?_ ?_
    | with_reducible refine Le.bind (whole_Clean.mono k _ _) (fun _ => ?_)
    | with_reducible refine Le.bind (nat_Cmp.mono k _ _) (fun _ => ?_)
    | with_reducible exact whole_Clean.mono k _ _
    | with_reducible exact nat_Cmp.mono k _ _
    | with_reducible refine Le.bind (Le.refl _) (fun _ => ?_)
    | split)
theorem nat_Mul.monoL (k : Nat) : (∀ x0 x1 x2 x3 x4, Le (nat_Mul.l0 k x0 x1 x2 x3 x4) (nat_Mul.l0 (k + 1) x0 x1 x2 x3 x4)) ∧ (∀ x0 x1 x2 x3 x4 x5 x6 x7 x8 x9 x10, Le (nat_Mul.l1 k x0 x1 x2 x3 x4 x5 x6 x7 x8 x9 x10) (nat_Mul.l1 (k + 1) x0 x1 x2 x3 x4 x5 x6 x7 x8 x9 x10)) := by
  induction k with
  | zero => exact ⟨fun _ _ _ _ _ => Le.none _, fun _ _ _ _ _ _ _ _ _ _ _ => Le.none _⟩
  | succ k ih =>
    refine ⟨?_, ?_⟩
    · intro x0 x1 x2 x3 x4
      refine Le.eqs (nat_Mul.l0.eq_2 ..) (nat_Mul.l0.eq_2 ..) ?_
      repeat' (first
        | with_reducible exact Le.refl _
        | with_reducible refine Le.ite ?_ ?_
        | with_reducible exact ih.2 _ _ _ _ _ _ _ _ _ _ _
        | with_reducible refine Le.bind (ih.2 _ _ _ _ _ _ _ _ _ _ _) (fun _ => ?_)
        | with_reducible refine Le.bind (nat_trim.mono k _) (fun _ => ?_)
        | with_reducible exact nat_trim.mono k _
        | with_reducible refine Le.bind (Le.refl _) (fun _ => ?_)
        | split)
    · intro x0 x1 x2 x3 x4 x5 x6 x7 x8 x9 x10
      refine Le.eqs (nat_Mul.l1.eq_2 ..) (nat_Mul.l1.eq_2 ..) ?_
      repeat' (first
        | with_reducible exact Le.refl _
        | with_reducible refine Le.ite ?_ ?_
        | with_reducible exact ih.1 _ _ _ _ _
        | with_reducible refine Le.bind (ih.1 _ _ _ _ _) (fun _ => ?_)
        | with_reducible exact ih.2 _ _ _ _ _ _ _ _ _ _ _
        | with_reducible refine Le.bind (ih.2 _ _ _ _ _ _ _ _ _ _ _) (fun _ => ?_)
        | with_reducible refine Le.bind (Le.refl _) (fun _ => ?_)
        | split)
theorem nat_Mul.mono (k : Nat) : ∀ x0 x1, Le (nat_Mul.f k x0 x1) (nat_Mul.f (k + 1) x0 x1) := by
  intro x0 x1
  unfold nat_Mul.f
  repeat' (first
    | with_reducible exact Le.refl _
    | with_reducible refine Le.ite ?_ ?_
    | with_reducible exact (nat_Mul.monoL k).1 _ _ _ _ _
    | with_reducible refine Le.bind (nat_Clean.mono k _) (fun _ => ?_)
    | with_reducible exact nat_Clean.mono k _
    | with_reducible refine Le.bind (Le.refl _) (fun _ => ?_)
    | split)
theorem whole_Mul.mono (k : Nat) : ∀ x0 x1 x2 x3, Le (whole_Mul.f k x0 x1 x2 x3) (whole_Mul.f (k + 1) x0 x1 x2 x3) := by
  intro x0 x1 x2 x3
  unfold whole_Mul.f
  repeat' (first
    | with_reducible exact Le.refl _
    | with_reducible refine Le.ite ?_ ?_
    | with_reducible refine Le.bind (whole_Clean.mono k _ _) (fun _ => ?_)
    | with_reducible refine Le.bind (nat_Mul.mono k _ _) (fun _ => ?_)
    | with_reducible exact whole_Clean.mono k _ _
    | with_reducible exact nat_Mul.mono k _ _
    | with_reducible refine Le.bind (Le.refl _) (fun _ => ?_)
    | split)
theorem ratio_Cmp.mono (k : Nat) : ∀ x0 x1 x2 x3 x4 x5, Le (ratio_Cmp.f k x0 x1 x2 x3 x4 x5) (ratio_Cmp.f (k + 1) x0 x1 x2 x3 x4 x5) := by
  intro x0 x1 x2 x3 x4 x5
  unfold ratio_Cmp.f
  repeat' (first
    | with_reducible exact Le.refl _
    | with_reducible refine Le.ite ?_ ?_
    | with_reducible refine Le.bind (ratio_Clean.mono k _ _ _) (fun _ => ?_)
    | with_reducible refine Le.bind (whole_Mul.mono k _ _ _ _) (fun _ => ?_)
    | with_reducible refine Le.bind (whole_Cmp.mono k _ _ _ _) (fun _ => ?_)
    | with_reducible exact ratio_Clean.mono k _ _ _
    | with_reducible exact whole_Mul.mono k _ _ _ _
    | with_reducible exact whole_Cmp.mono k _ _ _ _
    | with_reducible refine Le.bind (Le.refl _) (fun _ => ?_)
    | split)
theorem whole_Add.mono (k : Nat) : ∀ x0 x1 x2 x3, Le (whole_Add.f k x0 x1 x2 x3) (whole_Add.f (k + 1) x0 x1 x2 x3) := by
  intro x0 x1 x2 x3
  unfold whole_Add.f
  repeat' (first
    | with_reducible exact Le.refl _
    | with_reducible refine Le.ite ?_ ?_
    | with_reducible refine Le.bind (whole_Clean.mono k _ _) (fun _ => ?_)
    | with_reducible refine Le.bind (nat_Add.mono k _ _) (fun _ => ?_)
    | with_reducible refine Le.bind (nat_Cmp.mono k _ _) (fun _ => ?_)
    | with_reducible refine Le.bind (nat_Sub.mono k _ _) (fun _ => ?_)
    | with_reducible exact whole_Clean.mono k _ _
    | with_reducible exact nat_Add.mono k _ _
    | with_reducible exact nat_Cmp.mono k _ _
    | with_reducible exact nat_Sub.mono k _ _
    | with_reducible refine Le.bind (Le.refl _) (fun _ => ?_)
    | split)
theorem ratio_Add.mono (k : Nat) : ∀ x0 x1 x2 x3 x4 x5, Le (ratio_Add.f k x0 x1 x2 x3 x4 x5) (ratio_Add.f (k + 1) x0 x1 x2 x3 x4 x5) := by
  intro x0 x1 x2 x3 x4 x5
  unfold ratio_Add.f
  repeat' (first
    | with_reducible exact Le.refl _
    | with_reducible refine Le.ite ?_ ?_
    | with_reducible refine Le.bind (ratio_Clean.mono k _ _ _) (fun _ => ?_)
    | with_reducible refine Le.bind (whole_Mul.mono k _ _ _ _) (fun _ => ?_)
    | with_reducible refine Le.bind (whole_Add.mono k _ _ _ _) (fun _ => ?_)
    | with_reducible refine Le.bind (nat_Mul.mono k _ _) (fun _ => ?_)
    | with_reducible refine Le.bind (ratio_form.mono k _ _ _) (fun _ => ?_)
    | with_reducible exact ratio_Clean.mono k _ _ _
    | with_reducible exact whole_Mul.mono k _ _ _ _
    | with_reducible exact whole_Add.mono k _ _ _ _
    | with_reducible exact nat_Mul.mono k _ _
    | with_reducible exact ratio_form.mono k _ _ _
    | with_reducible refine Le.bind (Le.refl _) (fun _ => ?_)
    | split)
theorem ratio_Sub.mono (k : Nat) : ∀ x0 x1 x2 x3 x4 x5, Le (ratio_Sub.f k x0 x1 x2 x3 x4 x5) (ratio_Sub.f (k + 1) x0 x1 x2 x3 x4 x5) := by
  intro x0 x1 x2 x3 x4 x5
  unfold ratio_Sub.f
  repeat' (first
    | with_reducible exact Le.refl _
    | with_reducible refine Le.ite ?_ ?_
    | with_reducible refine Le.bind (ratio_Neg.mono k _ _ _) (fun _ => ?_)
    | with_reducible refine Le.bind (ratio_Add.mono k _ _ _ _ _ _) (fun _ => ?_)
    | with_reducible exact ratio_Neg.mono k _ _ _
    | with_reducible exact ratio_Add.mono k _ _ _ _ _ _
    | with_reducible refine Le.bind (Le.refl _) (fun _ => ?_)
    | split)
theorem ratio_Sign.mono (k : Nat) : ∀ x0 x1 x2, Le (ratio_Sign.f k x0 x1 x2) (ratio_Sign.f (k + 1) x0 x1 x2) := by
  intro x0 x1 x2
  unfold ratio_Sign.f
  repeat' (first
    | with_reducible exact Le.refl _
    | with_reducible refine Le.ite ?_ ?_
    | with_reducible refine Le.bind (ratio_Clean.mono k _ _ _) (fun _ => ?_)
    | with_reducible refine Le.bind (whole_Sign.mono k _ _) (fun _ => ?_)
    | with_reducible exact ratio_Clean.mono k _ _ _
    | with_reducible exact whole_Sign.mono k _ _
    | with_reducible refine Le.bind (Le.refl _) (fun _ => ?_)
    | split)
theorem ratio_Mul.mono (k : Nat) : ∀ x0 x1 x2 x3 x4 x5, Le (ratio_Mul.f k x0 x1 x2 x3 x4 x5) (ratio_Mul.f (k + 1) x0 x1 x2 x3 x4 x5) := by
  intro x0 x1 x2 x3 x4 x5
  unfold ratio_Mul.f
  repeat' (first
    | with_reducible exact Le.refl _
    | with_reducible refine Le.ite ?_ ?_
    | with_reducible refine Le.bind (ratio_Clean.mono k _ _ _) (fun _ => ?_)
    | with_reducible refine Le.bind (whole_Mul.mono k _ _ _ _) (fun _ => ?_)
    | with_reducible refine Le.bind (nat_Mul.mono k _ _) (fun _ => ?_)
    | with_reducible refine Le.bind (ratio_form.mono k _ _ _) (fun _ => ?_)
    | with_reducible exact ratio_Clean.mono k _ _ _
    | with_reducible exact whole_Mul.mono k _ _ _ _
    | with_reducible exact nat_Mul.mono k _ _
    | with_reducible exact ratio_form.mono k _ _ _
    | with_reducible refine Le.bind (Le.refl _) (fun _ => ?_)
    | split)
theorem ratio_Inv.mono (k : Nat) : ∀ x0 x1 x2, Le (ratio_Inv.f k x0 x1 x2) (ratio_Inv.f (k + 1) x0 x1 x2) := by
  intro x0 x1 x2
  unfold ratio_Inv.f
  repeat' (first
    | with_reducible exact Le.refl _
    | with_reducible refine Le.ite ?_ ?_
    | with_reducible refine Le.bind (ratio_Clean.mono k _ _ _) (fun _ => ?_)
    | with_reducible refine Le.bind (ratio_Make.mono k _ _ _ _) (fun _ => ?_)
    | with_reducible exact ratio_Clean.mono k _ _ _
    | with_reducible exact ratio_Make.mono k _ _ _ _
    | with_reducible refine Le.bind (Le.refl _) (fun _ => ?_)
    | split)
theorem ratio_Div.mono (k : Nat) : ∀ x0 x1 x2 x3 x4 x5, Le (ratio_Div.f k x0 x1 x2 x3 x4 x5) (ratio_Div.f (k + 1) x0 x1 x2 x3 x4 x5) := by
  intro x0 x1 x2 x3 x4 x5
  unfold ratio_Div.f
  repeat' (first
    | with_reducible exact Le.refl _
    | with_reducible refine Le.ite ?_ ?_
    | with_reducible refine Le.bind (ratio_Inv.mono k _ _ _) (fun _ => ?_)
    | with_reducible refine Le.bind (ratio_Mul.mono k _ _ _ _ _ _) (fun _ => ?_)
    | with_reducible exact ratio_Inv.mono k _ _ _
    | with_reducible exact ratio_Mul.mono k _ _ _ _ _ _
    | with_reducible refine Le.bind (Le.refl _) (fun _ => ?_)
    | split)
theorem ratio_over.mono (k : Nat) : ∀ x0 x1 x2 x3 x4 x5, Le (ratio_over.f k x0 x1 x2 x3 x4 x5) (ratio_over.f (k + 1) x0 x1 x2 x3 x4 x5) := by
  intro x0 x1 x2 x3 x4 x5
  unfold ratio_over.f
  repeat' (first
    | with_reducible exact Le.refl _
    | with_reducible refine Le.ite ?_ ?_
    | with_reducible refine Le.bind (ratio_Div.mono k _ _ _ _ _ _) (fun _ => ?_)
    | with_reducible exact ratio_Div.mono k _ _ _ _ _ _
    | with_reducible refine Le.bind (Le.refl _) (fun _ => ?_)
    | split)
theorem ratio_unfold.monoL (k : Nat) : (∀ x0 x1 x2 x3 x4 x5, Le (ratio_unfold.l0 k x0 x1 x2 x3 x4 x5) (ratio_unfold.l0 (k + 1) x0 x1 x2 x3 x4 x5)) := by
  induction k with
  | zero => exact fun _ _ _ _ _ _ => Le.none _
  | succ k ih =>
    intro x0 x1 x2 x3 x4 x5
    refine Le.eqs (ratio_unfold.l0.eq_2 ..) (ratio_unfold.l0.eq_2 ..) ?_
    repeat' (first
      | with_reducible exact Le.refl _
      | with_reducible refine Le.ite ?_ ?_
      | with_reducible exact ih _ _ _ _ _ _
      | with_reducible refine Le.bind (ih _ _ _ _ _ _) (fun _ => ?_)
      | with_reducible refine Le.bind (ratio_One.mono k ) (fun _ => ?_)
      | with_reducible refine Le.bind (ratio_over.mono k _ _ _ _ _ _) (fun _ => ?_)
      | with_reducible refine Le.bind (ratio_Add.mono k _ _ _ _ _ _) (fun _ => ?_)
      | with_reducible exact ratio_One.mono k 
      | with_reducible exact ratio_over.mono k _ _ _ _ _ _
      | with_reducible exact ratio_Add.mono k _ _ _ _ _ _
      | with_reducible refine Le.bind (Le.refl _) (fun _ => ?_)
      | split)
theorem ratio_unfold.mono (k : Nat) : ∀ x0 x1 x2 x3, Le (ratio_unfold.f k x0 x1 x2 x3) (ratio_unfold.f (k + 1) x0 x1 x2 x3) := by
  intro x0 x1 x2 x3
  unfold ratio_unfold.f
  repeat' (first
    | with_reducible exact Le.refl _
    | with_reducible refine Le.ite ?_ ?_
    | with_reducible exact (ratio_unfold.monoL k) _ _ _ _ _ _
    | with_reducible refine Le.bind (Le.refl _) (fun _ => ?_)
    | split)
theorem ratio_Simplest.monoL (k : Nat) : (∀ x0 x1 x2 x3 x4 x5 x6 x7, Le (ratio_Simplest.l0 k x0 x1 x2 x3 x4 x5 x6 x7) (ratio_Simplest.l0 (k + 1) x0 x1 x2 x3 x4 x5 x6 x7)) ∧ (∀ x0 x1 x2 x3 x4 x5, Le (ratio_Simplest.f k x0 x1 x2 x3 x4 x5) (ratio_Simplest.f (k + 1) x0 x1 x2 x3 x4 x5)) := by
  induction k with
  | zero => exact ⟨fun _ _ _ _ _ _ _ _ => Le.none _, fun _ _ _ _ _ _ => Le.none _⟩
  | succ k ih =>
    refine ⟨?_, ?_⟩
    · intro x0 x1 x2 x3 x4 x5 x6 x7
      refine Le.eqs (ratio_Simplest.l0.eq_2 ..) (ratio_Simplest.l0.eq_2 ..) ?_
      repeat' (first
        | with_reducible exact Le.refl _
        | with_reducible refine Le.ite ?_ ?_
        | with_reducible exact ih.1 _ _ _ _ _ _ _ _
        | with_reducible refine Le.bind (ih.1 _ _ _ _ _ _ _ _) (fun _ => ?_)
        | with_reducible refine Le.bind (ratio_Ceil.mono k _ _ _) (fun _ => ?_)
        | with_reducible refine Le.bind (ratio_Int.mono k _ _) (fun _ => ?_)
        | with_reducible refine Le.bind (ratio_Cmp.mono k _ _ _ _ _ _) (fun _ => ?_)
        | with_reducible refine Le.bind (ratio_unfold.mono k _ _ _ _) (fun _ => ?_)
        | with_reducible refine Le.bind (ratio_Floor.mono k _ _ _) (fun _ => ?_)
        | with_reducible refine Le.bind (ratio_One.mono k ) (fun _ => ?_)
        | with_reducible refine Le.bind (ratio_Sub.mono k _ _ _ _ _ _) (fun _ => ?_)
        | with_reducible refine Le.bind (ratio_over.mono k _ _ _ _ _ _) (fun _ => ?_)
        | with_reducible exact ratio_Ceil.mono k _ _ _
        | with_reducible exact ratio_Int.mono k _ _
        | with_reducible exact ratio_Cmp.mono k _ _ _ _ _ _
        | with_reducible exact ratio_unfold.mono k _ _ _ _
        | with_reducible exact ratio_Floor.mono k _ _ _
        | with_reducible exact ratio_One.mono k 
        | with_reducible exact ratio_Sub.mono k _ _ _ _ _ _
        | with_reducible exact ratio_over.mono k _ _ _ _ _ _
        | with_reducible refine Le.bind (Le.refl _) (fun _ => ?_)
        | split)
    · intro x0 x1 x2 x3 x4 x5
      refine Le.eqs (ratio_Simplest.f.eq_2 ..) (ratio_Simplest.f.eq_2 ..) ?_
      repeat' (first
        | with_reducible exact Le.refl _
        | with_reducible refine Le.ite ?_ ?_
        | with_reducible exact ih.1 _ _ _ _ _ _ _ _
        | with_reducible refine Le.bind (ih.1 _ _ _ _ _ _ _ _) (fun _ => ?_)
        | with_reducible exact ih.2 _ _ _ _ _ _
        | with_reducible refine Le.bind (ih.2 _ _ _ _ _ _) (fun _ => ?_)
        | with_reducible refine Le.bind (ratio_Clean.mono k _ _ _) (fun _ => ?_)
        | with_reducible refine Le.bind (ratio_Cmp.mono k _ _ _ _ _ _) (fun _ => ?_)
        | with_reducible refine Le.bind (ratio_Sign.mono k _ _ _) (fun _ => ?_)
        | with_reducible refine Le.bind (ratio_Zero.mono k ) (fun _ => ?_)
        | with_reducible refine Le.bind (ratio_Neg.mono k _ _ _) (fun _ => ?_)
        | with_reducible exact ratio_Clean.mono k _ _ _
        | with_reducible exact ratio_Cmp.mono k _ _ _ _ _ _
        | with_reducible exact ratio_Sign.mono k _ _ _
        | with_reducible exact ratio_Zero.mono k 
        | with_reducible exact ratio_Neg.mono k _ _ _
        | with_reducible refine Le.bind (Le.refl _) (fun _ => ?_)
        | split)
theorem ratio_Simplest.mono (k : Nat) : ∀ x0 x1 x2 x3 x4 x5, Le (ratio_Simplest.f k x0 x1 x2 x3 x4 x5) (ratio_Simplest.f (k + 1) x0 x1 x2 x3 x4 x5) := (ratio_Simplest.monoL k).2
theorem ratio_Same.mono (k : Nat) : ∀ x0 x1 x2 x3 x4 x5, Le (ratio_Same.f k x0 x1 x2 x3 x4 x5) (ratio_Same.f (k + 1) x0 x1 x2 x3 x4 x5) := by
  intro x0 x1 x2 x3 x4 x5
  unfold ratio_Same.f
  repeat' (first
    | with_reducible exact Le.refl _
    | with_reducible refine Le.ite ?_ ?_
    | with_reducible refine Le.bind (ratio_Cmp.mono k _ _ _ _ _ _) (fun _ => ?_)
    | with_reducible exact ratio_Cmp.mono k _ _ _ _ _ _
    | with_reducible refine Le.bind (Le.refl _) (fun _ => ?_)
    | split)
theorem ratio_middle.mono (k : Nat) : ∀ x0 x1 x2 x3 x4 x5, Le (ratio_middle.f k x0 x1 x2 x3 x4 x5) (ratio_middle.f (k + 1) x0 x1 x2 x3 x4 x5) := by
  intro x0 x1 x2 x3 x4 x5
  unfold ratio_middle.f
  repeat' (first
    | with_reducible exact Le.refl _
    | with_reducible refine Le.ite ?_ ?_
    | with_reducible refine Le.bind (whole_Add.mono k _ _ _ _) (fun _ => ?_)
    | with_reducible refine Le.bind (nat_Add.mono k _ _) (fun _ => ?_)
    | with_reducible refine Le.bind (ratio_form.mono k _ _ _) (fun _ => ?_)
    | with_reducible exact whole_Add.mono k _ _ _ _
    | with_reducible exact nat_Add.mono k _ _
    | with_reducible exact ratio_form.mono k _ _ _
    | with_reducible refine Le.bind (Le.refl _) (fun _ => ?_)
    | split)
theorem ratio_Near.monoL (k : Nat) : (∀ x0 x1 x2 x3 x4 x5 x6 x7 x8 x9 x10, Le (ratio_Near.l0 k x0 x1 x2 x3 x4 x5 x6 x7 x8 x9 x10) (ratio_Near.l0 (k + 1) x0 x1 x2 x3 x4 x5 x6 x7 x8 x9 x10)) := by
  induction k with
  | zero => exact fun _ _ _ _ _ _ _ _ _ _ _ => Le.none _
  | succ k ih =>
    intro x0 x1 x2 x3 x4 x5 x6 x7 x8 x9 x10
    refine Le.eqs (ratio_Near.l0.eq_2 ..) (ratio_Near.l0.eq_2 ..) ?_
    repeat' (first
      | with_reducible exact Le.refl _
      | with_reducible refine Le.ite ?_ ?_
      | with_reducible exact ih _ _ _ _ _ _ _ _ _ _ _
      | with_reducible refine Le.bind (ih _ _ _ _ _ _ _ _ _ _ _) (fun _ => ?_)
      | with_reducible refine Le.bind (nat_Add.mono k _ _) (fun _ => ?_)
      | with_reducible refine Le.bind (nat_Cmp.mono k _ _) (fun _ => ?_)
      | with_reducible refine Le.bind (ratio_middle.mono k _ _ _ _ _ _) (fun _ => ?_)
      | with_reducible refine Le.bind (ratio_Cmp.mono k _ _ _ _ _ _) (fun _ => ?_)
      | with_reducible refine Le.bind (ratio_Sub.mono k _ _ _ _ _ _) (fun _ => ?_)
      | with_reducible exact nat_Add.mono k _ _
      | with_reducible exact nat_Cmp.mono k _ _
      | with_reducible exact ratio_middle.mono k _ _ _ _ _ _
      | with_reducible exact ratio_Cmp.mono k _ _ _ _ _ _
      | with_reducible exact ratio_Sub.mono k _ _ _ _ _ _
      | with_reducible refine Le.bind (Le.refl _) (fun _ => ?_)
      | split)
theorem ratio_Near.mono (k : Nat) : ∀ x0 x1 x2 x3, Le (ratio_Near.f k x0 x1 x2 x3) (ratio_Near.f (k + 1) x0 x1 x2 x3) := by
  intro x0 x1 x2 x3
  unfold ratio_Near.f
  repeat' (first
    | with_reducible exact Le.refl _
    | with_reducible refine Le.ite ?_ ?_
    | with_reducible exact (ratio_Near.monoL k) _ _ _ _ _ _ _ _ _ _ _
    | with_reducible refine Le.bind (ratio_Clean.mono k _ _ _) (fun _ => ?_)
    | with_reducible refine Le.bind (ratio_Floor.mono k _ _ _) (fun _ => ?_)
    | with_reducible refine Le.bind (ratio_Int.mono k _ _) (fun _ => ?_)
    | with_reducible refine Le.bind (ratio_One.mono k ) (fun _ => ?_)
    | with_reducible refine Le.bind (ratio_Add.mono k _ _ _ _ _ _) (fun _ => ?_)
    | with_reducible refine Le.bind (ratio_Same.mono k _ _ _ _ _ _) (fun _ => ?_)
    | with_reducible refine Le.bind (nat_Of.mono k _) (fun _ => ?_)
    | with_reducible exact ratio_Clean.mono k _ _ _
    | with_reducible exact ratio_Floor.mono k _ _ _
    | with_reducible exact ratio_Int.mono k _ _
    | with_reducible exact ratio_One.mono k 
    | with_reducible exact ratio_Add.mono k _ _ _ _ _ _
    | with_reducible exact ratio_Same.mono k _ _ _ _ _ _
    | with_reducible exact nat_Of.mono k _
    | with_reducible refine Le.bind (Le.refl _) (fun _ => ?_)
    | split)
theorem ratio_ten.monoL (k : Nat) : (∀ x0 x1 x2, Le (ratio_ten.l0 k x0 x1 x2) (ratio_ten.l0 (k + 1) x0 x1 x2)) := by
  induction k with
  | zero => exact fun _ _ _ => Le.none _
  | succ k ih =>
    intro x0 x1 x2
    refine Le.eqs (ratio_ten.l0.eq_2 ..) (ratio_ten.l0.eq_2 ..) ?_
    repeat' (first
      | with_reducible exact Le.refl _
      | with_reducible refine Le.ite ?_ ?_
      | with_reducible exact ih _ _ _
      | with_reducible refine Le.bind (ih _ _ _) (fun _ => ?_)
      | with_reducible refine Le.bind (nat_Of.mono k _) (fun _ => ?_)
      | with_reducible refine Le.bind (nat_Mul.mono k _ _) (fun _ => ?_)
      | with_reducible exact nat_Of.mono k _
      | with_reducible exact nat_Mul.mono k _ _
      | with_reducible refine Le.bind (Le.refl _) (fun _ => ?_)
      | split)
theorem ratio_ten.mono (k : Nat) : ∀ x0, Le (ratio_ten.f k x0) (ratio_ten.f (k + 1) x0) := by
  intro x0
  unfold ratio_ten.f
  repeat' (first
    | with_reducible exact Le.refl _
    | with_reducible refine Le.ite ?_ ?_
    | with_reducible exact (ratio_ten.monoL k) _ _ _
    | with_reducible refine Le.bind (nat_Of.mono k _) (fun _ => ?_)
    | with_reducible exact nat_Of.mono k _
    | with_reducible refine Le.bind (Le.refl _) (fun _ => ?_)
    | split)
theorem stringslite_Index.mono (k : Nat) : ∀ x0 x1, Le (stringslite_Index.f k x0 x1) (stringslite_Index.f (k + 1) x0 x1) := by
  intro x0 x1
  unfold stringslite_Index.f
  repeat' (first
    | with_reducible exact Le.refl _
    | with_reducible refine Le.ite ?_ ?_
    | with_reducible refine Le.bind (Le.refl _) (fun _ => ?_)
    | split)
theorem stringslite_Cut.mono (k : Nat) : ∀ x0 x1, Le (stringslite_Cut.f k x0 x1) (stringslite_Cut.f (k + 1) x0 x1) := by
  intro x0 x1
  unfold stringslite_Cut.f
  repeat' (first
    | with_reducible exact Le.refl _
    | with_reducible refine Le.ite ?_ ?_
    | with_reducible refine Le.bind (stringslite_Index.mono k _ _) (fun _ => ?_)
    | with_reducible exact stringslite_Index.mono k _ _
    | with_reducible refine Le.bind (Le.refl _) (fun _ => ?_)
    | split)
theorem strings_Cut.mono (k : Nat) : ∀ x0 x1, Le (strings_Cut.f k x0 x1) (strings_Cut.f (k + 1) x0 x1) := by
  intro x0 x1
  unfold strings_Cut.f
  repeat' (first
    | with_reducible exact Le.refl _
    | with_reducible refine Le.ite ?_ ?_
    | with_reducible refine Le.bind (stringslite_Cut.mono k _ _) (fun _ => ?_)
    | with_reducible exact stringslite_Cut.mono k _ _
    | with_reducible refine Le.bind (Le.refl _) (fun _ => ?_)
    | split)
theorem nat_plus.monoL (k : Nat) : (∀ x0 x1 x2 x3 x4, Le (nat_plus.l0 k x0 x1 x2 x3 x4) (nat_plus.l0 (k + 1) x0 x1 x2 x3 x4)) := by
  induction k with
  | zero => exact fun _ _ _ _ _ => Le.none _
  | succ k ih =>
    intro x0 x1 x2 x3 x4
    refine Le.eqs (nat_plus.l0.eq_2 ..) (nat_plus.l0.eq_2 ..) ?_
    repeat' (first
      | with_reducible exact Le.refl _
      | with_reducible refine Le.ite ?_ ?_
      | with_reducible exact ih _ _ _ _ _
      | with_reducible refine Le.bind (ih _ _ _ _ _) (fun _ => ?_)
      | with_reducible refine Le.bind (nat_trim.mono k _) (fun _ => ?_)
      | with_reducible exact nat_trim.mono k _
      | with_reducible refine Le.bind (Le.refl _) (fun _ => ?_)
      | split)
theorem nat_plus.mono (k : Nat) : ∀ x0 x1, Le (nat_plus.f k x0 x1) (nat_plus.f (k + 1) x0 x1) := by
  intro x0 x1
  unfold nat_plus.f
  repeat' (first
    | with_reducible exact Le.refl _
    | with_reducible refine Le.ite ?_ ?_
    | with_reducible exact (nat_plus.monoL k) _ _ _ _ _
    | with_reducible refine Le.bind (Le.refl _) (fun _ => ?_)
    | split)
theorem nat_Parse.monoL (k : Nat) : (∀ x0 x1 x2, Le (nat_Parse.l0 k x0 x1 x2) (nat_Parse.l0 (k + 1) x0 x1 x2)) ∧ (∀ x0 x1, Le (nat_Parse.l1 k x0 x1) (nat_Parse.l1 (k + 1) x0 x1)) ∧ (∀ x0 x1 x2 x3 x4 x5 x6, Le (nat_Parse.l2 k x0 x1 x2 x3 x4 x5 x6) (nat_Parse.l2 (k + 1) x0 x1 x2 x3 x4 x5 x6)) := by
  induction k with
  | zero => exact ⟨fun _ _ _ => Le.none _, fun _ _ => Le.none _, fun _ _ _ _ _ _ _ => Le.none _⟩
  | succ k ih =>
    refine ⟨?_, ?_, ?_⟩
    · intro x0 x1 x2
      refine Le.eqs (nat_Parse.l0.eq_2 ..) (nat_Parse.l0.eq_2 ..) ?_
      repeat' (first
        | with_reducible exact Le.refl _
        | with_reducible refine Le.ite ?_ ?_
        | with_reducible exact ih.1 _ _ _
        | with_reducible refine Le.bind (ih.1 _ _ _) (fun _ => ?_)
        | with_reducible exact ih.2.1 _ _
        | with_reducible refine Le.bind (ih.2.1 _ _) (fun _ => ?_)
        | with_reducible refine Le.bind (Le.refl _) (fun _ => ?_)
        | split)
    · intro x0 x1
      refine Le.eqs (nat_Parse.l1.eq_2 ..) (nat_Parse.l1.eq_2 ..) ?_
      repeat' (first
        | with_reducible exact Le.refl _
        | with_reducible refine Le.ite ?_ ?_
        | with_reducible exact ih.2.2 _ _ _ _ _ _ _
        | with_reducible refine Le.bind (ih.2.2 _ _ _ _ _ _ _) (fun _ => ?_)
        | with_reducible refine Le.bind (Le.refl _) (fun _ => ?_)
        | split)
    · intro x0 x1 x2 x3 x4 x5 x6
      refine Le.eqs (nat_Parse.l2.eq_2 ..) (nat_Parse.l2.eq_2 ..) ?_
      repeat' (first
        | with_reducible exact Le.refl _
        | with_reducible refine Le.ite ?_ ?_
        | with_reducible exact ih.2.1 _ _
        | with_reducible refine Le.bind (ih.2.1 _ _) (fun _ => ?_)
        | with_reducible exact ih.2.2 _ _ _ _ _ _ _
        | with_reducible refine Le.bind (ih.2.2 _ _ _ _ _ _ _) (fun _ => ?_)
        | with_reducible refine Le.bind (nat_plus.mono k _ _) (fun _ => ?_)
        | with_reducible exact nat_plus.mono k _ _
        | with_reducible refine Le.bind (Le.refl _) (fun _ => ?_)
        | split)
theorem nat_Parse.mono (k : Nat) : ∀ x0, Le (nat_Parse.f k x0) (nat_Parse.f (k + 1) x0) := by
  intro x0
  unfold nat_Parse.f
  repeat' (first
    | with_reducible exact Le.refl _
    | with_reducible refine Le.ite ?_ ?_
    | with_reducible exact (nat_Parse.monoL k).1 _ _ _
    | with_reducible refine Le.bind (Le.refl _) (fun _ => ?_)
    | split)
theorem ratio_plain.mono (k : Nat) : ∀ x0, Le (ratio_plain.f k x0) (ratio_plain.f (k + 1) x0) := by
  intro x0
  unfold ratio_plain.f
  repeat' (first
    | with_reducible exact Le.refl _
    | with_reducible refine Le.ite ?_ ?_
    | with_reducible refine Le.bind (strings_Cut.mono k _ _) (fun _ => ?_)
    | with_reducible refine Le.bind (nat_Parse.mono k _) (fun _ => ?_)
    | with_reducible refine Le.bind (ratio_form.mono k _ _ _) (fun _ => ?_)
    | with_reducible refine Le.bind (ratio_ten.mono k _) (fun _ => ?_)
    | with_reducible refine Le.bind (nat_Mul.mono k _ _) (fun _ => ?_)
    | with_reducible refine Le.bind (nat_Add.mono k _ _) (fun _ => ?_)
    | with_reducible refine Le.bind (nat_Of.mono k _) (fun _ => ?_)
    | with_reducible exact strings_Cut.mono k _ _
    | with_reducible exact nat_Parse.mono k _
    | with_reducible exact ratio_form.mono k _ _ _
    | with_reducible exact ratio_ten.mono k _
    | with_reducible exact nat_Mul.mono k _ _
    | with_reducible exact nat_Add.mono k _ _
    | with_reducible exact nat_Of.mono k _
    | with_reducible refine Le.bind (Le.refl _) (fun _ => ?_)
    | split)
theorem ratio_Parse.mono (k : Nat) : ∀ x0, Le (ratio_Parse.f k x0) (ratio_Parse.f (k + 1) x0) := by
  intro x0
  unfold ratio_Parse.f
  repeat' (first
    | with_reducible exact Le.refl _
    | with_reducible refine Le.ite ?_ ?_
    | with_reducible refine Le.bind (ratio_plain.mono k _) (fun _ => ?_)
    | with_reducible refine Le.bind (ratio_Neg.mono k _ _ _) (fun _ => ?_)
    | with_reducible exact ratio_plain.mono k _
    | with_reducible exact ratio_Neg.mono k _ _ _
    | with_reducible refine Le.bind (Le.refl _) (fun _ => ?_)
    | split)
theorem nat_Bit.mono (k : Nat) : ∀ x0 x1, Le (nat_Bit.f k x0 x1) (nat_Bit.f (k + 1) x0 x1) := by
  intro x0 x1
  unfold nat_Bit.f
  repeat' (first
    | with_reducible exact Le.refl _
    | with_reducible refine Le.ite ?_ ?_
    | with_reducible refine Le.bind (nat_Clean.mono k _) (fun _ => ?_)
    | with_reducible exact nat_Clean.mono k _
    | with_reducible refine Le.bind (Le.refl _) (fun _ => ?_)
    | split)
theorem nat_Even.mono (k : Nat) : ∀ x0, Le (nat_Even.f k x0) (nat_Even.f (k + 1) x0) := by
  intro x0
  unfold nat_Even.f
  repeat' (first
    | with_reducible exact Le.refl _
    | with_reducible refine Le.ite ?_ ?_
    | with_reducible refine Le.bind (nat_Bit.mono k _ _) (fun _ => ?_)
    | with_reducible exact nat_Bit.mono k _ _
    | with_reducible refine Le.bind (Le.refl _) (fun _ => ?_)
    | split)
theorem ratio_Round.mono (k : Nat) : ∀ x0 x1 x2, Le (ratio_Round.f k x0 x1 x2) (ratio_Round.f (k + 1) x0 x1 x2) := by
  intro x0 x1 x2
  unfold ratio_Round.f
  repeat' (first
    | with_reducible exact Le.refl _
    | with_reducible refine Le.ite ?_ ?_
    | with_reducible refine Le.bind (ratio_Floor.mono k _ _ _) (fun _ => ?_)
    | with_reducible refine Le.bind (ratio_Int.mono k _ _) (fun _ => ?_)
    | with_reducible refine Le.bind (ratio_Sub.mono k _ _ _ _ _ _) (fun _ => ?_)
    | with_reducible refine Le.bind (ratio_Frac.mono k _ _) (fun _ => ?_)
    | with_reducible refine Le.bind (ratio_Cmp.mono k _ _ _ _ _ _) (fun _ => ?_)
    | with_reducible refine Le.bind (nat_Even.mono k _) (fun _ => ?_)
    | with_reducible refine Le.bind (whole_Of.mono k _) (fun _ => ?_)
    | with_reducible refine Le.bind (whole_Add.mono k _ _ _ _) (fun _ => ?_)
    | with_reducible exact ratio_Floor.mono k _ _ _
    | with_reducible exact ratio_Int.mono k _ _
    | with_reducible exact ratio_Sub.mono k _ _ _ _ _ _
    | with_reducible exact ratio_Frac.mono k _ _
    | with_reducible exact ratio_Cmp.mono k _ _ _ _ _ _
    | with_reducible exact nat_Even.mono k _
    | with_reducible exact whole_Of.mono k _
    | with_reducible exact whole_Add.mono k _ _ _ _
    | with_reducible refine Le.bind (Le.refl _) (fun _ => ?_)
    | split)
theorem nat_nine.monoL (k : Nat) : (∀ x0 x1 x2, Le (nat_nine.l0 k x0 x1 x2) (nat_nine.l0 (k + 1) x0 x1 x2)) := by
  induction k with
  | zero => exact fun _ _ _ => Le.none _
  | succ k ih =>
    intro x0 x1 x2
    refine Le.eqs (nat_nine.l0.eq_2 ..) (nat_nine.l0.eq_2 ..) ?_
    repeat' (first
      | with_reducible exact Le.refl _
      | with_reducible refine Le.ite ?_ ?_
      | with_reducible exact ih _ _ _
      | with_reducible refine Le.bind (ih _ _ _) (fun _ => ?_)
      | with_reducible refine Le.bind (Le.refl _) (fun _ => ?_)
      | split)
theorem nat_nine.mono (k : Nat) : ∀ x0, Le (nat_nine.f k x0) (nat_nine.f (k + 1) x0) := by
  intro x0
  unfold nat_nine.f
  repeat' (first
    | with_reducible exact Le.refl _
    | with_reducible refine Le.ite ?_ ?_
    | with_reducible exact (nat_nine.monoL k) _ _ _
    | with_reducible refine Le.bind (Le.refl _) (fun _ => ?_)
    | split)
theorem nat_Print.monoL (k : Nat) : (∀ x0 x1, Le (nat_Print.l0 k x0 x1) (nat_Print.l0 (k + 1) x0 x1)) ∧ (∀ x0 x1 x2, Le (nat_Print.l1 k x0 x1 x2) (nat_Print.l1 (k + 1) x0 x1 x2)) ∧ (∀ x0 x1, Le (nat_Print.l2 k x0 x1) (nat_Print.l2 (k + 1) x0 x1)) := by
  induction k with
  | zero => exact ⟨fun _ _ => Le.none _, fun _ _ _ => Le.none _, fun _ _ => Le.none _⟩
  | succ k ih =>
    refine ⟨?_, ?_, ?_⟩
    · intro x0 x1
      refine Le.eqs (nat_Print.l0.eq_2 ..) (nat_Print.l0.eq_2 ..) ?_
      repeat' (first
        | with_reducible exact Le.refl _
        | with_reducible refine Le.ite ?_ ?_
        | with_reducible exact ih.1 _ _
        | with_reducible refine Le.bind (ih.1 _ _) (fun _ => ?_)
        | with_reducible exact ih.2.1 _ _ _
        | with_reducible refine Le.bind (ih.2.1 _ _ _) (fun _ => ?_)
        | with_reducible refine Le.bind (nat_small.mono k _ _) (fun _ => ?_)
        | with_reducible exact nat_small.mono k _ _
        | with_reducible refine Le.bind (Le.refl _) (fun _ => ?_)
        | split)
    · intro x0 x1 x2
      refine Le.eqs (nat_Print.l1.eq_2 ..) (nat_Print.l1.eq_2 ..) ?_
      repeat' (first
        | with_reducible exact Le.refl _
        | with_reducible refine Le.ite ?_ ?_
        | with_reducible exact ih.2.1 _ _ _
        | with_reducible refine Le.bind (ih.2.1 _ _ _) (fun _ => ?_)
        | with_reducible exact ih.2.2 _ _
        | with_reducible refine Le.bind (ih.2.2 _ _) (fun _ => ?_)
        | with_reducible refine Le.bind (nat_nine.mono k _) (fun _ => ?_)
        | with_reducible exact nat_nine.mono k _
        | with_reducible refine Le.bind (Le.refl _) (fun _ => ?_)
        | split)
    · intro x0 x1
      refine Le.eqs (nat_Print.l2.eq_2 ..) (nat_Print.l2.eq_2 ..) ?_
      repeat' (first
        | with_reducible exact Le.refl _
        | with_reducible refine Le.ite ?_ ?_
        | with_reducible exact ih.2.2 _ _
        | with_reducible refine Le.bind (ih.2.2 _ _) (fun _ => ?_)
        | with_reducible refine Le.bind (Le.refl _) (fun _ => ?_)
        | split)
theorem nat_Print.mono (k : Nat) : ∀ x0, Le (nat_Print.f k x0) (nat_Print.f (k + 1) x0) := by
  intro x0
  unfold nat_Print.f
  repeat' (first
    | with_reducible exact Le.refl _
    | with_reducible refine Le.ite ?_ ?_
    | with_reducible exact (nat_Print.monoL k).1 _ _
    | with_reducible refine Le.bind (nat_Clean.mono k _) (fun _ => ?_)
    | with_reducible exact nat_Clean.mono k _
    | with_reducible refine Le.bind (Le.refl _) (fun _ => ?_)
    | split)
theorem ratio_Decimal.mono (k : Nat) : ∀ x0 x1 x2 x3, Le (ratio_Decimal.f k x0 x1 x2 x3) (ratio_Decimal.f (k + 1) x0 x1 x2 x3) := by
  intro x0 x1 x2 x3
  unfold ratio_Decimal.f
  repeat' (first
    | with_reducible exact Le.refl _
    | with_reducible refine Le.ite ?_ ?_
    | with_reducible refine Le.bind (ratio_ten.mono k _) (fun _ => ?_)
    | with_reducible refine Le.bind (ratio_Int.mono k _ _) (fun _ => ?_)
    | with_reducible refine Le.bind (ratio_Mul.mono k _ _ _ _ _ _) (fun _ => ?_)
    | with_reducible refine Le.bind (ratio_Round.mono k _ _ _) (fun _ => ?_)
    | with_reducible refine Le.bind (nat_Print.mono k _) (fun _ => ?_)
    | with_reducible exact ratio_ten.mono k _
    | with_reducible exact ratio_Int.mono k _ _
    | with_reducible exact ratio_Mul.mono k _ _ _ _ _ _
    | with_reducible exact ratio_Round.mono k _ _ _
    | with_reducible exact nat_Print.mono k _
    | with_reducible refine Le.bind (Le.refl _) (fun _ => ?_)
    | split)
theorem whole_Print.mono (k : Nat) : ∀ x0 x1, Le (whole_Print.f k x0 x1) (whole_Print.f (k + 1) x0 x1) := by
  intro x0 x1
  unfold whole_Print.f
  repeat' (first
    | with_reducible exact Le.refl _
    | with_reducible refine Le.ite ?_ ?_
    | with_reducible refine Le.bind (whole_Clean.mono k _ _) (fun _ => ?_)
    | with_reducible refine Le.bind (nat_Print.mono k _) (fun _ => ?_)
    | with_reducible exact whole_Clean.mono k _ _
    | with_reducible exact nat_Print.mono k _
    | with_reducible refine Le.bind (Le.refl _) (fun _ => ?_)
    | split)
theorem ratio_Print.mono (k : Nat) : ∀ x0 x1 x2, Le (ratio_Print.f k x0 x1 x2) (ratio_Print.f (k + 1) x0 x1 x2) := by
  intro x0 x1 x2
  unfold ratio_Print.f
  repeat' (first
    | with_reducible exact Le.refl _
    | with_reducible refine Le.ite ?_ ?_
    | with_reducible refine Le.bind (ratio_Clean.mono k _ _ _) (fun _ => ?_)
    | with_reducible refine Le.bind (whole_Print.mono k _ _) (fun _ => ?_)
    | with_reducible refine Le.bind (nat_Of.mono k _) (fun _ => ?_)
    | with_reducible refine Le.bind (nat_Cmp.mono k _ _) (fun _ => ?_)
    | with_reducible refine Le.bind (nat_Print.mono k _) (fun _ => ?_)
    | with_reducible exact ratio_Clean.mono k _ _ _
    | with_reducible exact whole_Print.mono k _ _
    | with_reducible exact nat_Of.mono k _
    | with_reducible exact nat_Cmp.mono k _ _
    | with_reducible exact nat_Print.mono k _
    | with_reducible refine Le.bind (Le.refl _) (fun _ => ?_)
    | split)
theorem dendronlaw03_awake.mono (k : Nat) : Le (dendronlaw03_awake.f k ) (dendronlaw03_awake.f (k + 1) ) := by
  unfold dendronlaw03_awake.f
  repeat' (first
    | with_reducible exact Le.refl _
    | with_reducible refine Le.ite ?_ ?_
    | with_reducible refine Le.bind (ratio_Parse.mono k _) (fun _ => ?_)
    | with_reducible refine Le.bind (ratio_Frac.mono k _ _) (fun _ => ?_)
    | with_reducible refine Le.bind (ratio_Simplest.mono k _ _ _ _ _ _) (fun _ => ?_)
    | with_reducible refine Le.bind (ratio_Near.mono k _ _ _ _) (fun _ => ?_)
    | with_reducible refine Le.bind (ratio_Decimal.mono k _ _ _ _) (fun _ => ?_)
    | with_reducible refine Le.bind (ratio_Print.mono k _ _ _) (fun _ => ?_)
    | with_reducible exact ratio_Parse.mono k _
    | with_reducible exact ratio_Frac.mono k _ _
    | with_reducible exact ratio_Simplest.mono k _ _ _ _ _ _
    | with_reducible exact ratio_Near.mono k _ _ _ _
    | with_reducible exact ratio_Decimal.mono k _ _ _ _
    | with_reducible exact ratio_Print.mono k _ _ _
    | with_reducible refine Le.bind (Le.refl _) (fun _ => ?_)
    | split)
end Go.DI.Th
namespace Go.DI.Th
open Go Go.RowKit Go.DI
theorem awake03_ev : Ev (fun k => dendronlaw03_awake.f k) true := Ev.mono (K := 400) dendronlaw03_awake.mono (by decide +kernel)
end Go.DI.Th
namespace Go.DI.Th
open Go Go.RowKit Go.DI

def tinyR (r : Rt) : Rt := (r.1, r.2.1.take 2, r.2.2.take 2)
theorem tiny3_eq (b : Bool) (n d : List Int) : dendronlaw03_tiny.f b n d = some (tinyR (b, n, d)) := by
  unfold dendronlaw03_tiny.f tinyR
  have t : ∀ l : List Int, ¬ (l.length : Int) > 2 → l.take 2 = l := fun l h => List.take_of_length_le (by omega)
  by_cases h1 : (n.length : Int) > 2
  · rw [if_pos h1, if_pos (by omega)]
    by_cases h2 : (d.length : Int) > 2
    · rw [if_pos h2, if_pos (by omega)]
    · rw [if_neg h2]; dsimp only; rw [t d h2]
  · rw [if_neg h1]
    by_cases h2 : (d.length : Int) > 2
    · rw [if_pos h2, if_pos (by omega)]; dsimp only; rw [t n h1]
    · rw [if_neg h2]; dsimp only; rw [t n h1, t d h2]
theorem tiny3_ev (b : Bool) (n d : List Int) : Ev (fun _ => dendronlaw03_tiny.f b n d) (tinyR (b, n, d)) := Ev.congr (fun _ => tiny3_eq b n d) (Ev.now _)
theorem U.takeN {l : List Int} (h : U l) (n : Nat) : U (l.take n) := fun x hx => h x (List.mem_of_mem_take hx)
def RtU (r : Rt) : Prop := U r.2.1 ∧ U r.2.2
theorem tinyB {r : Rt} (h : RtU r) : RtB 2 (tinyR r) := ⟨h.1.takeN 2, h.2.takeN 2, by show (List.take 2 _).length ≤ 2; rw [List.length_take]; omega, by show (List.take 2 _).length ≤ 2; rw [List.length_take]; omega⟩
theorem aw3 : Ev (fun k => (dendronlaw03_awake.f k).bind fun v => some v) true := Ev.bind awake03_ev (Ev.now _)
theorem sgn_cmp (x : Rat) : sgn x.num = cmpQ x 0 := by
  unfold sgn cmpQ
  by_cases h : x < 0
  · rw [if_pos h, if_pos ((num_neg_iff x).2 h)]
  · have h1 : ¬ x.num < 0 := fun e => h ((num_neg_iff x).1 e)
    rw [if_neg h, if_neg h1]
    by_cases h2 : x = 0
    · rw [if_pos (Rat.num_eq_zero.2 h2), if_neg (by rw [h2]; exact Rat.lt_irrefl)]
    · rw [if_neg (fun e => h2 (Rat.num_eq_zero.1 e)), if_pos (Rat.lt_of_le_of_ne (Rat.not_lt.1 h) (fun e => h2 e.symm))]
theorem sign3_cn (r : Rt) {b : Nat} (h : RtB b r) (hb : b ≤ 1073741824) : Ev (fun k => ratio_Sign.f k r.1 r.2.1 r.2.2) (cmpQ (rv r) 0) := by
  unfold ratio_Sign.f
  refine Ev.bind (clean_cn r h (by omega)) ?_
  have h1 := cnB (rv r) h.sz
  have := wsign_ev (cn (rv r)).1 (cn (rv r)).2.1 h1.1 (by have := h1.2.2.1; omega)
  rw [wv_cn, sgn_cmp] at this
  exact Ev.bind this (Ev.now _)
end Go.DI.Th
namespace Go.DI.Th
open Go Go.RowKit Go.DI

theorem mk_one (z : Int) : mkRat z 1 = (z : Rat) := Rat.mkRat_self (z : Rat)
theorem Sz_int64 (z : Int) (h : -9223372036854775808 ≤ z ∧ z ≤ 9223372036854775807) : Sz (z : Rat) ≤ 2 := by
  rw [Sz_int]
  have := len_small (n := z.natAbs) (by omega)
  omega
end Go.DI.Th
namespace Go.DI.Th
open Go Go.RowKit Go.DI

end Go.DI.Th
namespace Go.DI.Th
open Go Go.RowKit Go.DI

end Go.DI.Th
namespace Go.DI.Th
open Go Go.RowKit Go.DI

def fr (y : Rat) : Rat := y - (y.floor : Rat)
theorem fr_mk (y : Rat) : fr y = mkRat (y.num % (y.den : Int)) y.den := by
  have h1 : y = mkRat y.num y.den := (Rat.mkRat_self y).symm
  have h2 : ((y.floor : Int) : Rat) = mkRat y.floor 1 := (mk_one _).symm
  have h3 : -((y.floor : Int) : Rat) = mkRat (-y.floor) 1 := by rw [h2, Rat.neg_mkRat]
  have hd := y.den_nz
  have hf := Rat.floor_def y
  have hm := Int.mul_ediv_add_emod y.num (y.den : Int)
  unfold fr
  rw [Rat.sub_eq_add_neg, h3]
  generalize hz : y.floor = z at hf ⊢
  rw [← hf] at hm
  calc y + mkRat (-z) 1 = mkRat y.num y.den + mkRat (-z) 1 := by rw [← h1]
    _ = mkRat (y.num * ((1 : Nat) : Int) + -z * (y.den : Int)) (y.den * 1) := Rat.mkRat_add_mkRat _ _ hd (by decide)
    _ = mkRat (y.num % (y.den : Int)) y.den := by
      rw [Nat.mul_one]
      congr 1
      generalize y.num % (y.den : Int) = r at hm ⊢
      generalize y.num = a at hm ⊢
      have : (y.den : Int) * z = z * (y.den : Int) := Int.mul_comm _ _
      rw [Int.neg_mul, ← this]
      omega
theorem fr_lt (y : Rat) (h : fr y ≠ 0) : 0 < (fr y).num ∧ (fr y).num < ((fr y).den : Int) ∧ (fr y).den ≤ y.den ∧ (fr y).num ≤ y.num % (y.den : Int) := by
  have hd := y.den_nz
  have e := fr_mk y
  have hz : (fr y).num ≠ 0 := fun e => h (Rat.num_eq_zero.1 e)
  rw [e] at hz ⊢
  rw [num_mk _ _ hd] at hz ⊢
  rw [den_mk _ _ hd]
  have h1 := Int.emod_nonneg y.num (b := (y.den : Int)) (by omega)
  have h2 := Int.emod_lt_of_pos y.num (b := (y.den : Int)) (by omega)
  generalize y.num % (y.den : Int) = z at hz h1 h2 ⊢
  generalize y.den = q at hd h1 h2 hz ⊢
  obtain ⟨g, g0, e1, e2⟩ := rnum_gcd z q hd
  generalize rnum z q = n at hz e1 ⊢
  generalize rden z q = d at e2 ⊢
  have g1 : (0 : Int) < (g : Int) := by omega
  have hn : 0 < n := by
    rcases Int.lt_trichotomy n 0 with c | c | c
    · have : (g : Int) * n < 0 := Int.mul_neg_of_pos_of_neg g1 c
      omega
    · exact absurd c hz
    · exact c
  refine ⟨hn, ?_, ?_, ?_⟩
  · have : (g : Int) * n < (g : Int) * (d : Int) := by
      rw [← e1, ← Int.natCast_mul, ← e2]; exact h2
    exact Int.lt_of_mul_lt_mul_left this (by omega)
  · rw [e2]
    exact Nat.le_mul_of_pos_left _ (by omega)
  · rw [e1]
    have : 1 * n ≤ (g : Int) * n := Int.mul_le_mul_of_nonneg_right (by omega) (by omega)
    omega
def stp (y : Rat) : Rat := (fr y)⁻¹
theorem stp_nd (y : Rat) (h : fr y ≠ 0) : (stp y).num = ((fr y).den : Int) ∧ ((stp y).den : Int) = (fr y).num := by
  obtain ⟨h1, _⟩ := fr_lt y h
  unfold stp
  rw [Rat.num_inv, Rat.den_inv, if_neg (fun e => by rw [e] at h1; omega), Int.sign_eq_one_of_pos h1]
  exact ⟨Int.one_mul _, by omega⟩
theorem stp_lt (y : Rat) (h : fr y ≠ 0) : ((stp y).den : Int) < (stp y).num ∧ (stp y).num ≤ (y.den : Int) ∧ ((stp y).den : Int) ≤ y.num % (y.den : Int) := by
  obtain ⟨a, b⟩ := stp_nd y h
  obtain ⟨_, h2, h3, h4⟩ := fr_lt y h
  rw [a, b]
  exact ⟨h2, by omega, h4⟩
def nx (x : Rat) : Nat → Rat
  | 0 => x
  | i + 1 => stp (nx x i)
theorem nx_shift (x : Rat) : ∀ i, nx (stp x) i = nx x (i + 1)
  | 0 => rfl
  | i + 1 => by rw [nx, nx_shift x i, nx, nx, nx]
theorem half_mod (a b : Int) (h1 : 0 < b) (h2 : b < a) : 2 * (a % b) < a := by
  have e1 := Int.emod_nonneg a (b := b) (by omega)
  have e2 := Int.emod_lt_of_pos a h1
  have e3 := Int.mul_ediv_add_emod a b
  have e4 : 1 ≤ a / b := Int.le_ediv_of_mul_le h1 (by omega)
  have e5 : b * 1 ≤ b * (a / b) := Int.mul_le_mul_of_nonneg_left e4 (by omega)
  omega
theorem ends : ∀ (n : Nat) (y : Rat), y.den ≤ 2 ^ n → ∃ j, j ≤ 2 * n ∧ fr (nx y j) = 0 ∧ ∀ i, i < j → fr (nx y i) ≠ 0 := by
  intro n
  induction n with
  | zero =>
    intro y h
    refine ⟨0, by omega, ?_, fun i hi => by omega⟩
    by_cases h0 : fr y = 0
    · exact h0
    · obtain ⟨a, b, c, d⟩ := fr_lt y h0
      exfalso
      have : y.den = 1 := by have := y.den_nz; omega
      rw [this] at d
      omega
  | succ n ih =>
    intro y h
    by_cases h0 : fr y = 0
    · exact ⟨0, by omega, h0, fun i hi => by omega⟩
    by_cases h1 : fr (stp y) = 0
    · refine ⟨1, by omega, h1, fun i hi => ?_⟩
      obtain rfl : i = 0 := by omega
      exact h0
    obtain ⟨a1, a2, a3⟩ := stp_lt y h0
    obtain ⟨b1, b2, b3⟩ := stp_lt (stp y) h1
    have hp : 0 < ((stp y).den : Int) := by have := (stp y).den_nz; omega
    have hh := half_mod _ _ hp a1
    have h2 : (stp (stp y)).den ≤ 2 ^ n := by
      have : 2 ^ (n + 1) = 2 * 2 ^ n := by rw [Nat.pow_succ]; omega
      rw [this] at h
      generalize (2 : Nat) ^ n = p at h ⊢
      omega
    obtain ⟨j, j1, j2, j3⟩ := ih _ h2
    refine ⟨j + 2, by omega, ?_, fun i hi => ?_⟩
    · rw [← nx_shift, ← nx_shift]; exact j2
    · rcases i with _ | _ | i
      · exact h0
      · exact h1
      · rw [← nx_shift, ← nx_shift]; exact j3 i (by omega)
theorem Sz_stp (y : Rat) (h : fr y ≠ 0) : Sz (stp y) ≤ Sz y := by
  obtain ⟨a1, a2, a3⟩ := stp_lt y h
  have h1 := len_mono (show (stp y).num.natAbs ≤ y.den by omega)
  have h2 := len_mono (show (stp y).den ≤ y.den by omega)
  unfold Sz
  omega
theorem fr_zero {y : Rat} (h : fr y = 0) : y = (y.floor : Rat) := by
  unfold fr at h
  grind
end Go.DI.Th
namespace Go.DI.Th
open Go Go.RowKit Go.DI

def zc (z : Int) : Rt := cn (z : Rat)
def pk (x : Rat) : Bool × List Int × List Int × Int := ((cn x).1, (cn x).2.1, (cn x).2.2, 0)
def fb (zs : List Int) (s : Rat) : Rat := zs.foldr (fun (z : Int) (a : Rat) => (z : Rat) + a⁻¹) s
theorem fb_snoc (zs : List Int) (z : Int) (s : Rat) : fb (zs ++ [z]) s = fb zs ((z : Rat) + s⁻¹) := by
  unfold fb
  rw [List.foldr_append]
  rfl
theorem runfold_l0 (m : List Int) (hz : ∀ z ∈ m, 0 ≤ z ∧ Sz (z : Rat) ≤ 9) (hm : m.length ≤ 1000) : ∀ (n : Nat) (a c : List Int) (v : Rat), a.length = n → m = a ++ c → 0 < v → Sz v + 10 * n ≤ 100000 →
    Ev (fun k => ratio_unfold.l0 k (m.map zc) ((n : Int) - 1) (cn v).1 (cn v).2.1 (cn v).2.2 false) (cn (fb a v)) := by
  intro n
  induction n with
  | zero =>
    intro a c v ha hmc hv hs
    obtain rfl : a = [] := List.length_eq_zero_iff.1 ha
    refine Ev.succ ?_
    simp only [ratio_unfold.l0]
    exact Ev.if_neg (by omega) ((Ev.now _).of_eq rfl)
  | succ n ih =>
    intro a c v ha hmc hv hs
    rcases List.eq_nil_or_concat a with rfl | ⟨a, z, rfl⟩
    · simp at ha
    rw [List.concat_eq_append] at ha hmc ⊢
    have hn : a.length = n := by rw [List.length_append, List.length_singleton] at ha; omega
    obtain ⟨z0, z1⟩ := hz z (by rw [hmc]; simp)
    have hml : m.length = n + 1 + c.length := by rw [hmc, List.length_append, ha]
    have e1 : ((n + 1 : Nat) : Int) - 1 = (n : Int) := by omega
    have ew : wrap64 ((n : Int) - 1) = (n : Int) - 1 := wrap_id (by omega) (by omega)
    have hmm : m.map zc = a.map zc ++ zc z :: c.map zc := by rw [hmc]; simp
    have eg : gt (false, [], []) (m.map zc) (n : Int) = zc z := by
      rw [hmm, ← hn]
      have := gt_at ((false, [], []) : Rt) (a.map zc) (zc z) (c.map zc)
      rw [List.length_map] at this
      exact this
    have hB := cnB (b := 100000) v (by omega)
    have hv0 : v ≠ 0 := fun e => by rw [e] at hv; exact absurd hv (by decide)
    have ho := over_cn (cn 1) (cn v) (cnB (b := 2) 1 (Sz_int64 1 (by decide))) hB (by omega) (by rw [rv_cn]; exact hv0)
    rw [rv_cn, rv_cn, Rat.one_mul] at ho
    have zi := Sz_inv v
    have ha2 := add_cn (zc z) (cn v⁻¹) (cnB (b := 9) _ z1) (cnB (b := 100000) _ (by omega)) (by omega)
    rw [zc, rv_cn, rv_cn] at ha2
    have hadd := Sz_add ((z : Int) : Rat) v⁻¹
    have hvi := Rat.inv_pos.2 hv
    have hz0 : (0 : Rat) ≤ ((z : Int) : Rat) := by
      have := Rat.intCast_le_intCast.2 z0
      simpa using this
    have hih := ih a (z :: c) ((z : Rat) + v⁻¹) hn (by rw [hmc]; simp) (by grind) (by omega)
    rw [fb_snoc]
    refine Ev.succ ?_
    simp only [ratio_unfold.l0, e1, ew, eg]
    exact Ev.if_pos (by omega) (Ev.if_pos (by rw [List.length_map]; omega) (Ev.bind one_cn (Ev.bind ho (Ev.bind ha2 hih))))
structure Spec (lo hi s : Rat) : Prop where
  ge : lo ≤ s
  le : s ≤ hi
  least : ∀ p q : Int, 0 < q → lo * (q : Rat) ≤ (p : Rat) → (p : Rat) ≤ hi * (q : Rat) → s.num ≤ p ∧ (s.den : Int) ≤ q
theorem num_den (x : Rat) : x * ((x.den : Int) : Rat) = (x.num : Rat) := by
  have h : x = mkRat x.num x.den := (Rat.mkRat_self x).symm
  have hd : ((x.den : Int) : Rat) ≠ 0 := fun e => by
    have : (x.den : Int) = 0 := by
      rw [show (0 : Rat) = ((0 : Int) : Rat) from rfl] at e
      exact Rat.intCast_inj.1 e
    exact x.den_nz (by omega)
  rw [Rat.mkRat_eq_div] at h
  have h2 : ((x.den : Nat) : Rat) = ((x.den : Int) : Rat) := (Rat.intCast_natCast _).symm
  rw [h2] at h
  generalize ((x.den : Int) : Rat) = d at h hd ⊢
  generalize (x.num : Rat) = n at h ⊢
  rw [h, Rat.div_def, Rat.mul_assoc, Rat.inv_mul_cancel _ hd, Rat.mul_one]
theorem inv_le {a s : Rat} (ha : 0 < a) (hs : 0 < s) (h : a⁻¹ ≤ s) : s⁻¹ ≤ a := by
  have a0 : a ≠ 0 := fun e => by rw [e] at ha; exact absurd ha (by decide)
  have s0 : s ≠ 0 := fun e => by rw [e] at hs; exact absurd hs (by decide)
  have h1 := Rat.mul_le_mul_of_nonneg_left h (Rat.le_of_lt ha)
  rw [Rat.mul_inv_cancel _ a0] at h1
  have h2 := Rat.mul_le_mul_of_nonneg_right h1 (Rat.le_of_lt (Rat.inv_pos.2 hs))
  rw [Rat.one_mul, Rat.mul_assoc, Rat.mul_inv_cancel _ s0, Rat.mul_one] at h2
  exact h2
theorem le_inv {a s : Rat} (ha : 0 < a) (hs : 0 < s) (h : s ≤ a⁻¹) : a ≤ s⁻¹ := by
  have := inv_le (a := s⁻¹) (s := a⁻¹) (Rat.inv_pos.2 hs) (Rat.inv_pos.2 ha) (by rw [Rat.inv_inv]; exact h)
  rwa [Rat.inv_inv] at this
theorem num_pos_of {x : Rat} (h : 0 < x) : 0 < x.num := by
  rw [Rat.lt_iff] at h
  have h1 : (0 : Rat).num = 0 := rfl
  have h2 : (0 : Rat).den = 1 := rfl
  rw [h1, h2, Int.zero_mul] at h
  omega
theorem spec_step {lo hi s : Rat} (z : Int) (z0 : 0 ≤ z) (h1 : (z : Rat) < lo) (h2 : lo ≤ hi) (hs : 0 < s) (h : Spec (hi - (z : Rat))⁻¹ (lo - (z : Rat))⁻¹ s) : Spec lo hi ((z : Rat) + s⁻¹) := by
  have p1 : 0 < hi - (z : Rat) := by grind
  have p2 : 0 < lo - (z : Rat) := by grind
  have q1 := inv_le p1 hs h.ge
  have q2 := le_inv p2 hs h.le
  refine ⟨by grind, by grind, fun p q hq k1 k2 => ?_⟩
  have hq' : (0 : Rat) < (q : Rat) := by
    have := Rat.intCast_lt_intCast.2 hq
    simpa using this
  have m1 := Rat.mul_lt_mul_of_pos_right h1 hq'
  have r0 : ((z * q : Int) : Rat) < (p : Rat) := by
    rw [Rat.intCast_mul]
    grind
  have r1 : z * q < p := Rat.intCast_lt_intCast.1 r0
  have ep : ((p - z * q : Int) : Rat) = (p : Rat) - (z : Rat) * (q : Rat) := by
    rw [Rat.intCast_sub, Rat.intCast_mul]
  have n1 : (hi - (z : Rat)) ≠ 0 := fun e => by rw [e] at p1; exact absurd p1 (by decide)
  have n2 : (lo - (z : Rat)) ≠ 0 := fun e => by rw [e] at p2; exact absurd p2 (by decide)
  have l1 : (hi - (z : Rat))⁻¹ * ((p - z * q : Int) : Rat) ≤ (q : Rat) := by
    rw [ep]
    have t : (p : Rat) - (z : Rat) * (q : Rat) ≤ (hi - (z : Rat)) * (q : Rat) := by grind
    have t2 := Rat.mul_le_mul_of_nonneg_left t (Rat.le_of_lt (Rat.inv_pos.2 p1))
    rw [← Rat.mul_assoc (hi - (z : Rat))⁻¹, Rat.inv_mul_cancel _ n1, Rat.one_mul] at t2
    exact t2
  have l2 : (q : Rat) ≤ (lo - (z : Rat))⁻¹ * ((p - z * q : Int) : Rat) := by
    rw [ep]
    have t : (lo - (z : Rat)) * (q : Rat) ≤ (p : Rat) - (z : Rat) * (q : Rat) := by grind
    have t2 := Rat.mul_le_mul_of_nonneg_left t (Rat.le_of_lt (Rat.inv_pos.2 p2))
    rw [← Rat.mul_assoc (lo - (z : Rat))⁻¹, Rat.inv_mul_cancel _ n2, Rat.one_mul] at t2
    exact t2
  obtain ⟨i1, i2⟩ := h.least q (p - z * q) (by omega) l1 l2
  -- the number z + 1/s
  have sn := num_pos_of hs
  have es : (z : Rat) + s⁻¹ = mkRat (z * s.num + (s.den : Int)) s.num.natAbs := by
    have e1 : s⁻¹ = mkRat (s.den : Int) s.num.natAbs := by
      have t1 : s⁻¹ = mkRat (s⁻¹).num (s⁻¹).den := (Rat.mkRat_self _).symm
      rw [t1, Rat.num_inv, Rat.den_inv, if_neg (fun e => by omega), Int.sign_eq_one_of_pos sn, Int.one_mul]
    rw [e1, ← mk_one z, Rat.mkRat_add_mkRat _ _ (by decide) (by omega)]
    congr 1
    · have : ((s.num.natAbs : Nat) : Int) = s.num := by omega
      rw [this]
      show z * s.num + (s.den : Int) * ((1 : Nat) : Int) = _
      omega
    · omega
  have hq0 : s.num.natAbs ≠ 0 := by omega
  obtain ⟨g, g0, e1, e2⟩ := rnum_gcd (z * s.num + (s.den : Int)) s.num.natAbs hq0
  have hN := num_mk (z * s.num + (s.den : Int)) s.num.natAbs hq0
  have hD := den_mk (z * s.num + (s.den : Int)) s.num.natAbs hq0
  rw [es, hN, hD]
  have hzs : 0 ≤ z * s.num := Int.mul_nonneg z0 (by omega)
  have hzq : z * s.num ≤ z * q := Int.mul_le_mul_of_nonneg_left i1 z0
  generalize hA : z * s.num + (s.den : Int) = A at e1 e2 ⊢
  generalize rnum A s.num.natAbs = n at e1 ⊢
  generalize rden A s.num.natAbs = d at e2 ⊢
  have hA0 : 0 ≤ A := by omega
  constructor
  · have : n ≤ A := by
      rcases Int.lt_or_le n 0 with c | c
      · omega
      · rw [e1]
        have : 1 * n ≤ (g : Int) * n := Int.mul_le_mul_of_nonneg_right (by omega) c
        omega
    omega
  · have : d ≤ s.num.natAbs := by rw [e2]; exact Nat.le_mul_of_pos_left _ (by omega)
    omega
theorem spec_pos {lo hi s : Rat} (h0 : 0 < lo) (h : Spec lo hi s) : 0 < s := by
  have := h.ge
  grind
theorem Sz_spec {lo hi s : Rat} (h0 : 0 < lo) (h1 : lo ≤ hi) (h : Spec lo hi s) : Sz s ≤ Sz lo := by
  have hn := num_den lo
  have hd := lo.den_nz
  have hp : (0 : Rat) ≤ ((lo.den : Int) : Rat) := by
    have := Rat.intCast_le_intCast.2 (show (0 : Int) ≤ (lo.den : Int) by omega)
    simpa using this
  have hm := Rat.mul_le_mul_of_nonneg_right h1 hp
  obtain ⟨a, b⟩ := h.least lo.num lo.den (by omega) (by rw [hn]; exact Rat.le_refl) (by rw [← hn]; exact hm)
  have sp := num_pos_of (spec_pos h0 h)
  have l1 := len_mono (show s.num.natAbs ≤ lo.num.natAbs by omega)
  have l2 := len_mono (show s.den ≤ lo.den by omega)
  unfold Sz
  omega
theorem spec_ceil {lo hi : Rat} (h0 : 0 < lo) (h : (lo.ceil : Rat) ≤ hi) : Spec lo hi (lo.ceil : Rat) := by
  refine ⟨Rat.le_ceil, h, fun p q hq k1 k2 => ?_⟩
  rw [Rat.num_intCast, Rat.den_intCast]
  have hq' : (1 : Rat) ≤ (q : Rat) := by
    have := Rat.intCast_le_intCast.2 (show (1 : Int) ≤ q by omega)
    simpa using this
  have m1 := Rat.mul_le_mul_of_nonneg_left hq' (Rat.le_of_lt h0)
  rw [Rat.mul_one] at m1
  exact ⟨Rat.ceil_le_iff.2 (Rat.le_trans m1 k1), by omega⟩
theorem simp_l0 : ∀ (j : Nat) (lo hi : Rat), 0 < lo → lo ≤ hi → (fr (nx lo j) = 0 ∨ fr (nx hi j) = 0) → Sz lo ≤ 8 → Sz hi ≤ 8 →
    ∃ s, Spec lo hi s ∧ ∀ zs : List Int, (∀ z ∈ zs, 0 ≤ z ∧ Sz (z : Rat) ≤ 9) → zs.length + j ≤ 1000 →
      Ev (fun k => ratio_Simplest.l0 k (zs.map zc) (cn lo).1 (cn lo).2.1 (cn lo).2.2 (cn hi).1 (cn hi).2.1 (cn hi).2.2 false) (pk (fb zs s)) := by
  intro j
  induction j with
  | zero =>
    intro lo hi h0 h1 hj s1 s2
    have hc : (lo.ceil : Rat) ≤ hi := by
      rcases hj with h | h
      · have e := fr_zero h
        have : lo.ceil ≤ lo.floor := Rat.ceil_le_iff.2 (by rw [← show nx lo 0 = lo from rfl] ; exact (by rw [← e]; exact Rat.le_refl))
        have := Rat.intCast_le_intCast.2 this
        have := Rat.floor_le lo
        grind
      · have e : hi = (hi.floor : Rat) := fr_zero h
        have : lo.ceil ≤ hi.floor := Rat.ceil_le_iff.2 (by rw [← e]; exact h1)
        rw [e]
        exact Rat.intCast_le_intCast.2 this
    have B1 := cnB lo s1
    have B2 := cnB hi s2
    have hce := ceil_cn (cn lo) B1 (by decide)
    rw [rv_cn] at hce
    have lc : len lo.ceil.natAbs ≤ 8 := by
      rw [Rat.ceil_eq_neg_floor_neg, Int.natAbs_neg]
      exact floor_len (-lo) (by rw [Sz_neg]; exact s1)
    have hint := intz_cn lo.ceil (by omega)
    have szc : Sz (lo.ceil : Rat) ≤ 9 := by rw [Sz_int]; omega
    have hcm := cmp_cn (cn (lo.ceil : Rat)) (cn hi) (cnB _ szc) B2 (by decide) (by decide)
    rw [rv_cn, rv_cn] at hcm
    refine ⟨_, spec_ceil h0 hc, fun zs hz hl => ?_⟩
    have hpos := spec_pos h0 (spec_ceil h0 hc)
    have hr := runfold_l0 zs hz (by omega) zs.length zs [] (lo.ceil : Rat) rfl (by simp) hpos (by omega)
    have hr2 : Ev (fun k => ratio_unfold.f k (zs.map zc) (cn (lo.ceil : Rat)).1 (cn (lo.ceil : Rat)).2.1 (cn (lo.ceil : Rat)).2.2) (cn (fb zs (lo.ceil : Rat))) := by
      unfold ratio_unfold.f
      rw [List.length_map, wrap_id (by omega) (by omega)]
      exact hr
    refine Ev.succ ?_
    simp only [ratio_Simplest.l0]
    refine Ev.bind hce (Ev.bind hint (Ev.bind hcm (Ev.if_pos ?_ (Ev.bind hr2 (Ev.now _)))))
    have : ¬ 0 < cmpQ (lo.ceil : Rat) hi := fun e => Rat.not_lt.2 hc (cmpQ_pos.1 e)
    omega
  | succ j ih =>
    intro lo hi h0 h1 hj s1 s2
    have B1 := cnB lo s1
    have B2 := cnB hi s2
    have hce := ceil_cn (cn lo) B1 (by decide)
    rw [rv_cn] at hce
    have lc : len lo.ceil.natAbs ≤ 8 := by
      rw [Rat.ceil_eq_neg_floor_neg, Int.natAbs_neg]
      exact floor_len (-lo) (by rw [Sz_neg]; exact s1)
    have hint := intz_cn lo.ceil (by omega)
    have szc : Sz (lo.ceil : Rat) ≤ 9 := by rw [Sz_int]; omega
    have hcm := cmp_cn (cn (lo.ceil : Rat)) (cn hi) (cnB _ szc) B2 (by decide) (by decide)
    rw [rv_cn, rv_cn] at hcm
    by_cases hc : (lo.ceil : Rat) ≤ hi
    · refine ⟨_, spec_ceil h0 hc, fun zs hz hl => ?_⟩
      have hpos := spec_pos h0 (spec_ceil h0 hc)
      have hr := runfold_l0 zs hz (by omega) zs.length zs [] (lo.ceil : Rat) rfl (by simp) hpos (by omega)
      have hr2 : Ev (fun k => ratio_unfold.f k (zs.map zc) (cn (lo.ceil : Rat)).1 (cn (lo.ceil : Rat)).2.1 (cn (lo.ceil : Rat)).2.2) (cn (fb zs (lo.ceil : Rat))) := by
        unfold ratio_unfold.f
        rw [List.length_map, wrap_id (by omega) (by omega)]
        exact hr
      refine Ev.succ ?_
      simp only [ratio_Simplest.l0]
      refine Ev.bind hce (Ev.bind hint (Ev.bind hcm (Ev.if_pos ?_ (Ev.bind hr2 (Ev.now _)))))
      have : ¬ 0 < cmpQ (lo.ceil : Rat) hi := fun e => Rat.not_lt.2 hc (cmpQ_pos.1 e)
      omega
    · have hc' := Rat.not_le.1 hc
      have hfl : (lo.floor : Rat) < lo := by
        refine Rat.lt_iff_le_and_ne.2 ⟨Rat.floor_le lo, fun e => ?_⟩
        have k1 : lo.ceil ≤ lo.floor := Rat.ceil_le_iff.2 (by rw [e]; exact Rat.le_refl)
        have k2 := Rat.intCast_le_intCast.2 k1
        have k3 := Rat.floor_le lo
        grind
      have hcf : lo.ceil ≤ lo.floor + 1 := Rat.ceil_le_iff.2 (Rat.le_of_lt (Rat.lt_floor_add_one lo))
      have hhi : hi.floor = lo.floor := by
        have a1 : lo.floor ≤ hi.floor := Rat.le_floor_iff.2 (by have := Rat.floor_le lo; grind)
        have a2 : hi.floor < lo.floor + 1 := Rat.floor_lt_iff.2 (by
          have := Rat.intCast_le_intCast.2 hcf
          grind)
        omega
      have n1 : fr lo ≠ 0 := fun e => by
        have := fr_zero e
        rw [← this] at hfl
        exact absurd hfl (by grind)
      have n2 : fr hi ≠ 0 := fun e => by
        have e2 := fr_zero e
        rw [hhi] at e2
        grind
      have e1 : fr lo = lo - (lo.floor : Rat) := rfl
      have e2 : fr hi = hi - (lo.floor : Rat) := by unfold fr; rw [hhi]
      have z0 : 0 ≤ lo.floor := Rat.le_floor_iff.2 (by have := Rat.le_of_lt h0; simpa using this)
      have p1 : 0 < fr lo := by rw [e1]; grind
      have p2 : 0 < fr hi := by rw [e2]; grind
      have hll : stp hi ≤ stp lo := by
        unfold stp
        exact inv_le (a := (fr lo)⁻¹) (s := fr hi) (Rat.inv_pos.2 p1) p2 (by rw [Rat.inv_inv, e1, e2]; grind)
      have l1 := Nat.le_trans (Sz_stp _ n1) s1
      have l2 := Nat.le_trans (Sz_stp _ n2) s2
      obtain ⟨s, sp, hrun⟩ := ih (stp hi) (stp lo) (Rat.inv_pos.2 p2) hll (by
        rw [nx_shift, nx_shift]
        exact hj.symm) l2 l1
      have spos := spec_pos (Rat.inv_pos.2 p2) sp
      have sp' : Spec (hi - (lo.floor : Rat))⁻¹ (lo - (lo.floor : Rat))⁻¹ s := by
        rw [← e1, ← e2]; exact sp
      refine ⟨(lo.floor : Rat) + s⁻¹, spec_step lo.floor z0 hfl h1 spos sp', fun zs hz hl => ?_⟩
      have lf := floor_len lo s1
      have szf : Sz (lo.floor : Rat) ≤ 9 := by rw [Sz_int]; omega
      have hr := hrun (zs ++ [lo.floor]) (fun z h => by
        rcases List.mem_append.1 h with h | h
        · exact hz z h
        · rw [List.mem_singleton.1 h]; exact ⟨z0, szf⟩) (by rw [List.length_append, List.length_singleton]; omega)
      rw [fb_snoc, List.map_append] at hr
      have hf := floor_cn (cn lo) B1 (by decide)
      rw [rv_cn] at hf
      have hintf := intz_cn lo.floor (by omega)
      have sub1 := sub_cn (cn hi) (cn (lo.floor : Rat)) B2 (cnB _ szf) (by decide)
      have sub2 := sub_cn (cn lo) (cn (lo.floor : Rat)) B1 (cnB _ szf) (by decide)
      rw [rv_cn, rv_cn] at sub1 sub2
      rw [← e2] at sub1
      rw [← e1] at sub2
      have zz1 := Sz_sub hi (lo.floor : Rat)
      have zz2 := Sz_sub lo (lo.floor : Rat)
      rw [← e2] at zz1
      rw [← e1] at zz2
      have o1 := over_cn (cn 1) (cn (fr hi)) (cnB (b := 2) 1 (Sz_int64 1 (by decide))) (cnB (b := 100) _ (by omega)) (by decide) (by rw [rv_cn]; exact n2)
      have o2 := over_cn (cn 1) (cn (fr lo)) (cnB (b := 2) 1 (Sz_int64 1 (by decide))) (cnB (b := 100) _ (by omega)) (by decide) (by rw [rv_cn]; exact n1)
      rw [rv_cn, rv_cn, Rat.one_mul] at o1 o2
      refine Ev.succ ?_
      simp only [ratio_Simplest.l0]
      refine Ev.bind hce (Ev.bind hint (Ev.bind hcm (Ev.if_neg ?_ (Ev.bind hf (Ev.bind hintf (Ev.if_pos (by rw [List.length_map]; omega) (Ev.bind one_cn (Ev.bind sub1 (Ev.bind o1 (Ev.bind one_cn (Ev.bind sub2 (Ev.bind o2 hr))))))))))))
      have : 0 < cmpQ (lo.ceil : Rat) hi := cmpQ_pos.2 hc'
      omega

def pick (c f : Int) : Int := if f < 0 then f else if c < 0 then 0 else c
structure Good (lo hi R : Rat) : Prop where
  ge : lo ≤ R
  le : R ≤ hi
  low : ∀ d : Nat, 1 ≤ d → d < R.den → (hi * ((d : Int) : Rat)).floor < (lo * ((d : Int) : Rat)).ceil
  at_ : (lo * ((R.den : Int) : Rat)).ceil ≤ (hi * ((R.den : Int) : Rat)).floor
  pick : pick (lo * ((R.den : Int) : Rat)).ceil (hi * ((R.den : Int) : Rat)).floor = R.num
theorem den_nn (x : Rat) : (0 : Rat) ≤ ((x.den : Int) : Rat) := by
  have := Rat.intCast_le_intCast.2 (show (0 : Int) ≤ (x.den : Int) by omega)
  simpa using this
theorem cle (lo : Rat) (p q : Int) : lo * (q : Rat) ≤ (p : Rat) ↔ (lo * (q : Rat)).ceil ≤ p := Rat.ceil_le_iff.symm
theorem lef (hi : Rat) (p q : Int) : (p : Rat) ≤ hi * (q : Rat) ↔ p ≤ (hi * (q : Rat)).floor := Rat.le_floor_iff.symm
theorem spec_parts {lo hi s : Rat} (h0 : 0 < lo) (h : Spec lo hi s) : (∀ d : Nat, 1 ≤ d → d < s.den → (hi * ((d : Int) : Rat)).floor < (lo * ((d : Int) : Rat)).ceil) ∧
    (lo * ((s.den : Int) : Rat)).ceil = s.num ∧ s.num ≤ (hi * ((s.den : Int) : Rat)).floor := by
  have hn := num_den s
  have hd := s.den_nz
  have a1 := Rat.mul_le_mul_of_nonneg_right h.ge (den_nn s)
  have a2 := Rat.mul_le_mul_of_nonneg_right h.le (den_nn s)
  rw [hn] at a1 a2
  have b1 := (cle lo s.num s.den).1 a1
  have b2 := (lef hi s.num s.den).1 a2
  refine ⟨fun d hd1 hd2 => ?_, ?_, b2⟩
  · rcases Int.lt_or_le (hi * ((d : Int) : Rat)).floor (lo * ((d : Int) : Rat)).ceil with c | c
    · exact c
    · have := (h.least _ (d : Int) (by omega) ((cle lo _ _).2 (Int.le_refl _)) ((lef hi _ _).2 c)).2
      omega
  · have := (h.least (lo * ((s.den : Int) : Rat)).ceil s.den (by omega) ((cle lo _ _).2 (Int.le_refl _)) ((lef hi _ _).2 (by omega))).1
    omega
theorem good_pos {lo hi s : Rat} (h0 : 0 < lo) (h : Spec lo hi s) : Good lo hi s := by
  obtain ⟨a, b, c⟩ := spec_parts h0 h
  have sp := num_pos_of (spec_pos h0 h)
  refine ⟨h.ge, h.le, a, by omega, ?_⟩
  unfold pick
  rw [if_neg (by omega), if_neg (by omega)]
  exact b
theorem ceil_neg (x : Rat) : (-x).ceil = -x.floor := by rw [Rat.ceil_eq_neg_floor_neg, Rat.neg_neg]
theorem floor_neg (x : Rat) : (-x).floor = -x.ceil := by rw [Rat.ceil_eq_neg_floor_neg]; omega
theorem good_neg {lo hi s : Rat} (h0 : hi < 0) (h : Spec (-hi) (-lo) s) : Good lo hi (-s) := by
  obtain ⟨a, b, c⟩ := spec_parts (by grind) h
  have sp := num_pos_of (spec_pos (by grind) h)
  have h1 := h.ge
  have h2 := h.le
  have e : ∀ (x : Rat) (d : Int), -x * (d : Rat) = -(x * (d : Rat)) := fun x d => by rw [Rat.neg_mul]
  refine ⟨by grind, by grind, fun d hd1 hd2 => ?_, ?_, ?_⟩
  · rw [Rat.neg_den] at hd2
    have := a d hd1 hd2
    rw [e, e, floor_neg, ceil_neg] at this
    omega
  · rw [Rat.neg_den]
    rw [e, ceil_neg] at b
    rw [e, floor_neg] at c
    omega
  · rw [Rat.neg_den, Rat.neg_num]
    rw [e, ceil_neg] at b
    unfold pick
    rw [if_pos (by omega)]
    omega
theorem good_zero {lo hi : Rat} (h0 : lo ≤ 0) (h1 : 0 ≤ hi) : Good lo hi 0 := by
  have d0 : (0 : Rat).den = 1 := rfl
  have n0 : (0 : Rat).num = 0 := rfl
  have e : (((1 : Nat) : Int) : Rat) = 1 := rfl
  have c1 : lo.ceil ≤ 0 := Rat.ceil_le_iff.2 (by simpa using h0)
  have c2 : 0 ≤ hi.floor := Rat.le_floor_iff.2 (by simpa using h1)
  refine ⟨h0, h1, fun d hd1 hd2 => by rw [d0] at hd2; omega, ?_, ?_⟩
  · rw [d0, e, Rat.mul_one, Rat.mul_one]; omega
  · rw [d0, e, Rat.mul_one, Rat.mul_one, n0]
    unfold pick
    rw [if_neg (by omega)]
    by_cases c : lo.ceil < 0
    · rw [if_pos c]
    · rw [if_neg c]; omega
theorem simpP (lo hi : Rat) (h0 : 0 < lo) (h1 : lo ≤ hi) (s1 : Sz lo ≤ 8) (s2 : Sz hi ≤ 8) : ∃ s, Spec lo hi s ∧
      Ev (fun k => ratio_Simplest.l0 k [] (cn lo).1 (cn lo).2.1 (cn lo).2.2 (cn hi).1 (cn hi).2.1 (cn hi).2.2 false) (pk s) := by
  have l1 : len lo.den ≤ 8 := by unfold Sz at s1; omega
  obtain ⟨j, hj, e0, _⟩ := ends (32 * len lo.den) lo (by
    rw [Nat.pow_mul]
    exact Nat.le_of_lt (lt_pow_len lo.den))
  obtain ⟨s, sp, hr⟩ := simp_l0 j lo hi h0 h1 (.inl e0) s1 s2
  exact ⟨s, sp, hr [] (fun z hz => by cases hz) (by rw [List.length_nil]; omega)⟩
theorem simplest_pos (lo hi : Rat) (h0 : 0 < lo) (h1 : lo ≤ hi) (s1 : Sz lo ≤ 8) (s2 : Sz hi ≤ 8) : ∃ s, Spec lo hi s ∧
      Ev (fun k => ratio_Simplest.f k (cn lo).1 (cn lo).2.1 (cn lo).2.2 (cn hi).1 (cn hi).2.1 (cn hi).2.2) (pk s) := by
  obtain ⟨s, sp, hr⟩ := simpP lo hi h0 h1 s1 s2
  refine ⟨s, sp, ?_⟩
  have B1 := cnB lo s1
  have B2 := cnB hi s2
  have c1 := clean_cn (cn lo) B1 (by decide)
  have c2 := clean_cn (cn hi) B2 (by decide)
  have cm := cmp_cn (cn lo) (cn hi) B1 B2 (by decide) (by decide)
  have g1 := sign3_cn (cn lo) B1 (by decide)
  have g2 := sign3_cn (cn hi) B2 (by decide)
  rw [rv_cn] at c1 c2 g1 g2
  rw [rv_cn, rv_cn] at cm
  have q1 : ¬ cmpQ lo hi > 0 := fun e => Rat.not_lt.2 h1 (cmpQ_pos.1 e)
  have q2 : 0 < cmpQ lo 0 := cmpQ_pos.2 h0
  have q3 : ¬ cmpQ hi 0 < 0 := fun e => by have := cmpQ_neg.1 e; grind
  refine Ev.succ ?_
  simp only [ratio_Simplest.f]
  exact Ev.bind c1 (Ev.bind c2 (Ev.bind cm (Ev.if_neg q1 (Ev.bind g1 (Ev.if_neg (by omega) (Ev.bind g2 (Ev.if_neg q3 hr)))))))
theorem simplest_cn (r t : Rt) (hr : RtB 2 r) (ht : RtB 2 t) (h1 : rv r ≤ rv t) : ∃ R, Good (rv r) (rv t) R ∧ Sz R ≤ 8 ∧
      Ev (fun k => ratio_Simplest.f k r.1 r.2.1 r.2.2 t.1 t.2.1 t.2.2) (pk R) := by
  have s1 := hr.sz
  have s2 := ht.sz
  have c1 := clean_cn r hr (by decide)
  have c2 := clean_cn t ht (by decide)
  generalize rv r = lo at h1 s1 c1 ⊢
  generalize rv t = hi at h1 s2 c2 ⊢
  have B1 := cnB lo s1
  have B2 := cnB hi s2
  have cm := cmp_cn (cn lo) (cn hi) B1 B2 (by decide) (by decide)
  have g1 := sign3_cn (cn lo) B1 (by decide)
  have g2 := sign3_cn (cn hi) B2 (by decide)
  rw [rv_cn] at g1 g2
  rw [rv_cn, rv_cn] at cm
  have q1 : ¬ cmpQ lo hi > 0 := fun e => Rat.not_lt.2 h1 (cmpQ_pos.1 e)
  by_cases h0 : 0 < lo
  · obtain ⟨s, sp, hrun⟩ := simpP lo hi h0 h1 (by omega) (by omega)
    have q2 : 0 < cmpQ lo 0 := cmpQ_pos.2 h0
    have q3 : ¬ cmpQ hi 0 < 0 := fun e => by have := cmpQ_neg.1 e; grind
    refine ⟨s, good_pos h0 sp, Nat.le_trans (Sz_spec h0 h1 sp) (by omega), ?_⟩
    refine Ev.succ ?_
    simp only [ratio_Simplest.f]
    exact Ev.bind c1 (Ev.bind c2 (Ev.bind cm (Ev.if_neg q1 (Ev.bind g1 (Ev.if_neg (by omega) (Ev.bind g2 (Ev.if_neg q3 hrun)))))))
  · have q2 : cmpQ lo 0 ≤ 0 := by
      have : ¬ 0 < cmpQ lo 0 := fun e => h0 (cmpQ_pos.1 e)
      omega
    by_cases h2 : hi < 0
    · obtain ⟨s, sp, hrun⟩ := simplest_pos (-hi) (-lo) (by grind) (by grind) (by rw [Sz_neg]; omega) (by rw [Sz_neg]; omega)
      have zs := Sz_spec (show 0 < -hi by grind) (by grind) sp
      rw [Sz_neg] at zs
      have q3 : cmpQ hi 0 < 0 := cmpQ_neg.2 h2
      have n1 := neg_cn (cn hi) B2 (by decide)
      have n2 := neg_cn (cn lo) B1 (by decide)
      have n3 := neg_cn (cn s) (cnB (b := 8) s (by omega)) (by decide)
      rw [rv_cn] at n1 n2 n3
      refine ⟨-s, good_neg h2 sp, by rw [Sz_neg]; omega, ?_⟩
      refine Ev.succ ?_
      simp only [ratio_Simplest.f]
      exact Ev.bind c1 (Ev.bind c2 (Ev.bind cm (Ev.if_neg q1 (Ev.bind g1 (Ev.if_pos q2 (Ev.bind g2 (Ev.if_neg (by omega) (Ev.bind g2 (Ev.if_pos q3 (Ev.bind n1 (Ev.bind n2 (Ev.bind hrun (Ev.bind n3 (Ev.now _))))))))))))))
    · have q3 : cmpQ hi 0 ≥ 0 := by
        have : ¬ cmpQ hi 0 < 0 := fun e => h2 (cmpQ_neg.1 e)
        omega
      refine ⟨0, good_zero (Rat.not_lt.1 h0) (Rat.not_lt.1 h2), by decide +kernel, ?_⟩
      refine Ev.succ ?_
      simp only [ratio_Simplest.f]
      exact Ev.bind c1 (Ev.bind c2 (Ev.bind cm (Ev.if_neg q1 (Ev.bind g1 (Ev.if_pos q2 (Ev.bind g2 (Ev.if_pos q3 (Ev.bind zero_cn (Ev.now _)))))))))
theorem simplest_none (r t : Rt) (hr : RtB 2 r) (ht : RtB 2 t) (h1 : rv t < rv r) : Ev (fun k => ratio_Simplest.f k r.1 r.2.1 r.2.2 t.1 t.2.1 t.2.2) (false, [], [], 8) := by
  have s1 := hr.sz
  have s2 := ht.sz
  have c1 := clean_cn r hr (by decide)
  have c2 := clean_cn t ht (by decide)
  generalize rv r = lo at h1 s1 c1 ⊢
  generalize rv t = hi at h1 s2 c2 ⊢
  have cm := cmp_cn (cn lo) (cn hi) (cnB lo s1) (cnB hi s2) (by decide) (by decide)
  rw [rv_cn, rv_cn] at cm
  refine Ev.succ ?_
  simp only [ratio_Simplest.f]
  exact Ev.bind c1 (Ev.bind c2 (Ev.bind cm (Ev.if_pos (cmpQ_pos.2 h1) (Ev.now _))))
theorem fl_den1 (n : Int) (d : Nat) (hd : d ≠ 0) : ((n : Int) : Rat) * mkRat 1 d = mkRat n d := by
  rw [← mk_one n, Rat.mkRat_mul_mkRat, Int.mul_one, Nat.one_mul]
theorem srch {lo hi R : Rat} (g : Good lo hi R) {x y : Rt} (hx : D.FL lo 20 x) (hy : D.FL hi 20 y) : ∀ (m d : Nat), d + m = 61 → 1 ≤ d → d ≤ R.den →
    (R.den ≤ 60 → ∃ t, D.FL R 100 t ∧ Ev (fun k => dendronlaw03_simplest.l0 k 60 (d : Int) x.1 x.2.1 x.2.2 y.1 y.2.1 y.2.2 false) (t.1, t.2.1, t.2.2, true)) ∧
    (60 < R.den → Ev (fun k => dendronlaw03_simplest.l0 k 60 (d : Int) x.1 x.2.1 x.2.2 y.1 y.2.1 y.2.2 false) (false, [], [], false)) := by
  intro m
  induction m with
  | zero =>
    intro d hd h1 h2
    refine ⟨fun h => by omega, fun _ => Ev.succ ?_⟩
    simp only [dendronlaw03_simplest.l0]
    exact Ev.if_neg (by omega) (Ev.now _)
  | succ m ih =>
    intro d hd h1 h2
    obtain ⟨u, hu, eu⟩ := D.FL.small (d : Int) 1 (by omega) (by decide) (by decide)
    rw [mk_one] at hu
    obtain ⟨v, hv, ev⟩ := hx.times hu (by decide)
    obtain ⟨w, hw, ew⟩ := hv.minus
    have fw := hw.floor (by decide)
    have mw := D.wminus_ev (-(lo * ((d : Int) : Rat))).floor
    rw [← Rat.ceil_eq_neg_floor_neg] at mw
    obtain ⟨p, hp, ep⟩ := hy.times hu (by decide)
    have fp := hp.floor (by decide)
    have L1 := hw.floor_L
    have L2 := hp.floor_L
    have L3 : D.L (lo * ((d : Int) : Rat)).ceil ≤ 25 := by
      rw [Rat.ceil_eq_neg_floor_neg]
      show D.len _ ≤ 25
      rw [Int.natAbs_neg]
      exact L1
    have ho := D.worder_ev (lo * ((d : Int) : Rat)).ceil (hi * ((d : Int) : Rat)).floor (by omega) (by omega)
    have e1 : ((1 : Nat) : Int) = 1 := rfl
    rw [e1] at eu
    have pre : ∀ {T : Nat → Option (Bool × List Int × List Int × Bool)} {r}, Ev T r → Ev T r := fun h => h
    by_cases hlt : d < R.den
    · have hlow := g.low d h1 hlt
      have c1 : D.cmpI (lo * ((d : Int) : Rat)).ceil (hi * ((d : Int) : Rat)).floor > 0 := by
        unfold D.cmpI
        rw [if_neg (by omega), if_pos hlow]
        decide
      have ew1 : wrap64 ((d : Int) + 1) = ((d + 1 : Nat) : Int) := wr_succ _ (by omega)
      obtain ⟨i1, i2⟩ := ih (d + 1) (by omega) (by omega) (by omega)
      constructor
      · intro h
        obtain ⟨t, ht, et⟩ := i1 h
        refine ⟨t, ht, Ev.succ ?_⟩
        simp only [dendronlaw03_simplest.l0, ew1]
        exact Ev.if_pos (by omega) (Ev.bind eu (Ev.bind ev (Ev.bind ew (Ev.bind fw (Ev.bind mw (Ev.bind eu (Ev.bind ep (Ev.bind fp (Ev.bind ho (Ev.if_pos c1 et))))))))))
      · intro h
        refine Ev.succ ?_
        simp only [dendronlaw03_simplest.l0, ew1]
        exact Ev.if_pos (by omega) (Ev.bind eu (Ev.bind ev (Ev.bind ew (Ev.bind fw (Ev.bind mw (Ev.bind eu (Ev.bind ep (Ev.bind fp (Ev.bind ho (Ev.if_pos c1 (i2 h)))))))))))
    · obtain rfl : d = R.den := by omega
      refine ⟨fun h => ?_, fun h => by omega⟩
      have hat := g.at_
      have hpk := g.pick
      have c1 : ¬ D.cmpI (lo * ((R.den : Int) : Rat)).ceil (hi * ((R.den : Int) : Rat)).floor > 0 := by
        unfold D.cmpI
        split
        · decide
        · rw [if_neg (by omega)]
          decide
      obtain ⟨q, hq, eq⟩ := D.FL.small 1 R.den (by decide) (by omega) R.den_nz
      -- the number picked
      have fin : ∀ n : Int, n = R.num → D.L n ≤ 25 → ∃ z t, Ev (fun k => dendronref03_Whole.f k (D.il n).1 (D.il n).2) z ∧ D.FL R 100 t ∧ Ev (fun k => dendronref03_Times.f k z.1 z.2.1 z.2.2 q.1 q.2.1 q.2.2) t := fun n hn hL => by
        obtain ⟨z, hz, ez⟩ := D.FL.whole n hL (by decide)
        obtain ⟨t, ht, et⟩ := hz.times hq (by decide)
        rw [fl_den1 n R.den R.den_nz, hn, Rat.mkRat_self] at ht
        exact ⟨z, t, ez, ht.mono (by decide), et⟩
      have hfl : (D.il (hi * ((R.den : Int) : Rat)).floor).1 = decide ((hi * ((R.den : Int) : Rat)).floor < 0) := rfl
      have hce : (D.il (lo * ((R.den : Int) : Rat)).ceil).1 = decide ((lo * ((R.den : Int) : Rat)).ceil < 0) := rfl
      unfold pick at hpk
      by_cases k1 : (hi * ((R.den : Int) : Rat)).floor < 0
      · rw [if_pos k1] at hpk
        obtain ⟨z, t, ez, ht, et⟩ := fin _ hpk L2
        refine ⟨t, ht, Ev.succ ?_⟩
        simp only [dendronlaw03_simplest.l0]
        exact Ev.if_pos (by omega) (Ev.bind eu (Ev.bind ev (Ev.bind ew (Ev.bind fw (Ev.bind mw (Ev.bind eu (Ev.bind ep (Ev.bind fp (Ev.bind ho (Ev.if_neg c1 (Ev.if_pos (by rw [hfl]; exact decide_eq_true k1) (Ev.bind ez (Ev.bind eq (Ev.bind et (Ev.now _)))))))))))))))
      · rw [if_neg k1] at hpk
        by_cases k2 : (lo * ((R.den : Int) : Rat)).ceil < 0
        · rw [if_pos k2] at hpk
          obtain ⟨z, t, ez, ht, et⟩ := fin 0 hpk (by decide +kernel)
          have h0 := D.wsmall_ev 0 (by decide) (by decide)
          refine ⟨t, ht, Ev.succ ?_⟩
          simp only [dendronlaw03_simplest.l0]
          exact Ev.if_pos (by omega) (Ev.bind eu (Ev.bind ev (Ev.bind ew (Ev.bind fw (Ev.bind mw (Ev.bind eu (Ev.bind ep (Ev.bind fp (Ev.bind ho (Ev.if_neg c1 (Ev.if_neg (by rw [hfl, decide_eq_false k1]; decide) (Ev.if_pos (by rw [hce]; exact decide_eq_true k2) (Ev.bind h0 (Ev.bind ez (Ev.bind eq (Ev.bind et (Ev.now _)))))))))))))))))
        · rw [if_neg k2] at hpk
          obtain ⟨z, t, ez, ht, et⟩ := fin _ hpk L3
          refine ⟨t, ht, Ev.succ ?_⟩
          simp only [dendronlaw03_simplest.l0]
          exact Ev.if_pos (by omega) (Ev.bind eu (Ev.bind ev (Ev.bind ew (Ev.bind fw (Ev.bind mw (Ev.bind eu (Ev.bind ep (Ev.bind fp (Ev.bind ho (Ev.if_neg c1 (Ev.if_neg (by rw [hfl, decide_eq_false k1]; decide) (Ev.if_neg (by rw [hce, decide_eq_false k2]; decide) (Ev.bind ez (Ev.bind eq (Ev.bind et (Ev.now _))))))))))))))))
theorem ratioSimplest_ev (r s : Rt) (hr : RtU r) (hs : RtU s) : Ev (fun k => dendronlaw03_RatioSimplest.f k r.1 r.2.1 r.2.2 s.1 s.2.1 s.2.2) true := by
  unfold dendronlaw03_RatioSimplest.f
  refine Ev.bind (tiny3_ev _ _ _) (Ev.bind (tiny3_ev _ _ _) ?_)
  have ha := tinyB hr
  have hb := tinyB hs
  generalize tinyR (r.1, r.2.1, r.2.2) = a at ha ⊢
  generalize tinyR (s.1, s.2.1, s.2.2) = b at hb ⊢
  obtain ⟨x, hx, ex⟩ := D.FL.from ha (by decide)
  obtain ⟨y, hy, ey⟩ := D.FL.from hb (by decide)
  have ho := hx.order hy (by decide)
  by_cases h1 : rv a ≤ rv b
  · obtain ⟨R, g, zR, hrun⟩ := simplest_cn a b ha hb h1
    have BR := cnB R zR
    obtain ⟨w, hw, ew⟩ := D.FL.from BR (by decide)
    rw [rv_cn] at hw
    have hri := D.right3_ev (cn R) BR (by decide)
    rw [rv_cn, decide_eq_true rfl] at hri
    have o1 := hw.order hx (by decide)
    have o2 := hw.order hy (by decide)
    have q0 : ¬ cmpQ (rv a) (rv b) > 0 := fun e => Rat.not_lt.2 h1 (cmpQ_pos.1 e)
    have q1 : ¬ cmpQ R (rv a) < 0 := fun e => Rat.not_lt.2 g.ge (cmpQ_neg.1 e)
    have q2 : ¬ cmpQ R (rv b) > 0 := fun e => Rat.not_lt.2 g.le (cmpQ_pos.1 e)
    have hdp := R.den_nz
    obtain ⟨i1, i2⟩ := srch g (hx.mono (by decide)) (hy.mono (by decide)) 60 1 (by decide) (by decide) (by omega)
    refine Ev.bind ex (Ev.bind ey (Ev.bind hrun (Ev.bind ho (Ev.if_neg q0 (Ev.bind ew (Ev.if_neg (fun e => e rfl) (Ev.bind hri (Ev.if_pos rfl (Ev.bind o1 (Ev.if_neg q1 (Ev.bind o2 (Ev.if_neg q2 ?_))))))))))))
    by_cases h60 : R.den ≤ 60
    · obtain ⟨t, ht, et⟩ := i1 h60
      have his := D.is_true ht zR (by decide)
      exact Ev.bind et (Ev.if_pos rfl (Ev.bind his (Ev.if_pos rfl aw3)))
    · have et := i2 (by omega)
      have lR : len R.den ≤ 8 := by unfold Sz at zR; omega
      have hf := D.from_ev (cn R).2.2 BR.2.1 (by rw [show (cn R).2.2.length = len R.den from lm_length _]; omega)
      rw [(val_cn R).2] at hf
      have hoo := D.order_ev R.den 60 (by have := D.len_of_len R.den; omega)
      have hc : cmp R.den 60 > 0 := by
        unfold cmp
        rw [if_neg (by omega), if_pos (by omega)]
        decide
      exact Ev.bind et (Ev.if_neg (by decide) (Ev.bind hf (Ev.bind (D.small_ev 60 (by decide)) (Ev.bind hoo (Ev.if_pos hc aw3)))))
  · have h2 := Rat.not_le.1 h1
    have hrun := simplest_none a b ha hb h2
    exact Ev.bind ex (Ev.bind ey (Ev.bind hrun (Ev.bind ho (Ev.if_pos (cmpQ_pos.2 h2) (Ev.bind D.none_true (Ev.if_pos rfl (Ev.if_pos rfl aw3)))))))
end Go.DI.Th
