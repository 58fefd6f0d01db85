/- The code of the functions does what is told of it, part 1. No condition. -/
import Derived.Test.YtmnjjphdkjohpaaGreatDoorBAskAgain
set_option linter.all false
namespace Go.DI
open Go Go.RowKit Go.Proofs
set_option linter.unusedVariables false
set_option maxRecDepth 20000
theorem ask_form.does {a0 : Int} {r : Int} (h : ask_form.f a0 = some r) :
    Does Tryz.prog 13 [.c (.d (.int .i64 a0))] [] (.c (.d (.int .i64 r))) none [] := by
  refine does_fn Tryz.func13 (by kernel_rfl) rfl rfl ?_
  unfold ask_form.f at h
  by_cases h0 : a0 = 1
  · rw [if_pos h0] at h
    obtain rfl := Option.some.inj h
    exact Til.fin Tryz.func13 [(2, .b true)] (fun _ f => o (beq_iff_eq.2 h0) f) (by kernel_rfl)
  · rw [if_neg h0] at h
    by_cases h1 : a0 = 3
    · rw [if_pos h1] at h
      obtain rfl := Option.some.inj h
      exact Til.fin Tryz.func13 [(2, .b false), (4, .b true)] (fun _ f => o (beq_false_of_ne h0) (o (beq_iff_eq.2 h1) f)) (by kernel_rfl)
    · rw [if_neg h1] at h
      by_cases h2 : a0 = 5
      · rw [if_pos h2] at h
        obtain rfl := Option.some.inj h
        exact Til.fin Tryz.func13 [(2, .b false), (4, .b false), (6, .b true)] (fun _ f => o (beq_false_of_ne h0) (o (beq_false_of_ne h1) (o (beq_iff_eq.2 h2) f))) (by kernel_rfl)
      · rw [if_neg h2] at h
        by_cases h3 : a0 = 6
        · rw [if_pos h3] at h
          obtain rfl := Option.some.inj h
          exact Til.fin Tryz.func13 [(2, .b false), (4, .b false), (6, .b false), (8, .b true)] (fun _ f => o (beq_false_of_ne h0) (o (beq_false_of_ne h1) (o (beq_false_of_ne h2) (o (beq_iff_eq.2 h3) f)))) (by kernel_rfl)
        · rw [if_neg h3] at h
          by_cases h4 : a0 = 4
          · rw [if_pos h4] at h
            obtain rfl := Option.some.inj h
            exact Til.fin Tryz.func13 [(2, .b false), (4, .b false), (6, .b false), (8, .b false), (10, .b true)] (fun _ f => o (beq_false_of_ne h0) (o (beq_false_of_ne h1) (o (beq_false_of_ne h2) (o (beq_false_of_ne h3) (o (beq_iff_eq.2 h4) f))))) (by kernel_rfl)
          · rw [if_neg h4] at h
            by_cases h5 : a0 = 7
            · rw [if_pos h5] at h
              obtain rfl := Option.some.inj h
              exact Til.fin Tryz.func13 [(2, .b false), (4, .b false), (6, .b false), (8, .b false), (10, .b false), (12, .b true)] (fun _ f => o (beq_false_of_ne h0) (o (beq_false_of_ne h1) (o (beq_false_of_ne h2) (o (beq_false_of_ne h3) (o (beq_false_of_ne h4) (o (beq_iff_eq.2 h5) f)))))) (by kernel_rfl)
            · rw [if_neg h5] at h
              by_cases h6 : a0 = 8
              · rw [if_pos h6] at h
                obtain rfl := Option.some.inj h
                exact Til.fin Tryz.func13 [(2, .b false), (4, .b false), (6, .b false), (8, .b false), (10, .b false), (12, .b false), (14, .b true)] (fun _ f => o (beq_false_of_ne h0) (o (beq_false_of_ne h1) (o (beq_false_of_ne h2) (o (beq_false_of_ne h3) (o (beq_false_of_ne h4) (o (beq_false_of_ne h5) (o (beq_iff_eq.2 h6) f))))))) (by kernel_rfl)
              · rw [if_neg h6] at h
                by_cases h7 : a0 = 9
                · rw [if_pos h7] at h
                  obtain rfl := Option.some.inj h
                  exact Til.fin Tryz.func13 [(2, .b false), (4, .b false), (6, .b false), (8, .b false), (10, .b false), (12, .b false), (14, .b false), (16, .b true)] (fun _ f => o (beq_false_of_ne h0) (o (beq_false_of_ne h1) (o (beq_false_of_ne h2) (o (beq_false_of_ne h3) (o (beq_false_of_ne h4) (o (beq_false_of_ne h5) (o (beq_false_of_ne h6) (o (beq_iff_eq.2 h7) f)))))))) (by kernel_rfl)
                · rw [if_neg h7] at h
                  obtain rfl := Option.some.inj h
                  exact Til.fin Tryz.func13 [(2, .b false), (4, .b false), (6, .b false), (8, .b false), (10, .b false), (12, .b false), (14, .b false), (16, .b false)] (fun _ f => o (beq_false_of_ne h0) (o (beq_false_of_ne h1) (o (beq_false_of_ne h2) (o (beq_false_of_ne h3) (o (beq_false_of_ne h4) (o (beq_false_of_ne h5) (o (beq_false_of_ne h6) (o (beq_false_of_ne h7) f)))))))) (by kernel_rfl)

theorem ask_word.does {a0 : Int} {r : ByteArray} (h : ask_word.f a0 = some r) :
    Does Tryz.prog 14 [.c (.d (.int .i64 a0))] [] (.c (.d (.str r))) none [] := by
  refine does_fn Tryz.func14 (by kernel_rfl) rfl rfl ?_
  unfold ask_word.f at h
  by_cases h0 : a0 = 1
  · rw [if_pos h0] at h
    obtain rfl := Option.some.inj h
    exact Til.fin Tryz.func14 [(2, .b true)] (fun _ f => o (beq_iff_eq.2 h0) f) (by kernel_rfl)
  · rw [if_neg h0] at h
    by_cases h1 : a0 = 2
    · rw [if_pos h1] at h
      obtain rfl := Option.some.inj h
      exact Til.fin Tryz.func14 [(2, .b false), (4, .b true)] (fun _ f => o (beq_false_of_ne h0) (o (beq_iff_eq.2 h1) f)) (by kernel_rfl)
    · rw [if_neg h1] at h
      by_cases h2 : a0 = 3
      · rw [if_pos h2] at h
        obtain rfl := Option.some.inj h
        exact Til.fin Tryz.func14 [(2, .b false), (4, .b false), (6, .b true)] (fun _ f => o (beq_false_of_ne h0) (o (beq_false_of_ne h1) (o (beq_iff_eq.2 h2) f))) (by kernel_rfl)
      · rw [if_neg h2] at h
        by_cases h3 : a0 = 4
        · rw [if_pos h3] at h
          obtain rfl := Option.some.inj h
          exact Til.fin Tryz.func14 [(2, .b false), (4, .b false), (6, .b false), (8, .b true)] (fun _ f => o (beq_false_of_ne h0) (o (beq_false_of_ne h1) (o (beq_false_of_ne h2) (o (beq_iff_eq.2 h3) f)))) (by kernel_rfl)
        · rw [if_neg h3] at h
          by_cases h4 : a0 = 5
          · rw [if_pos h4] at h
            obtain rfl := Option.some.inj h
            exact Til.fin Tryz.func14 [(2, .b false), (4, .b false), (6, .b false), (8, .b false), (10, .b true)] (fun _ f => o (beq_false_of_ne h0) (o (beq_false_of_ne h1) (o (beq_false_of_ne h2) (o (beq_false_of_ne h3) (o (beq_iff_eq.2 h4) f))))) (by kernel_rfl)
          · rw [if_neg h4] at h
            by_cases h5 : a0 = 6
            · rw [if_pos h5] at h
              obtain rfl := Option.some.inj h
              exact Til.fin Tryz.func14 [(2, .b false), (4, .b false), (6, .b false), (8, .b false), (10, .b false), (12, .b true)] (fun _ f => o (beq_false_of_ne h0) (o (beq_false_of_ne h1) (o (beq_false_of_ne h2) (o (beq_false_of_ne h3) (o (beq_false_of_ne h4) (o (beq_iff_eq.2 h5) f)))))) (by kernel_rfl)
            · rw [if_neg h5] at h
              by_cases h6 : a0 = 7
              · rw [if_pos h6] at h
                obtain rfl := Option.some.inj h
                exact Til.fin Tryz.func14 [(2, .b false), (4, .b false), (6, .b false), (8, .b false), (10, .b false), (12, .b false), (14, .b true)] (fun _ f => o (beq_false_of_ne h0) (o (beq_false_of_ne h1) (o (beq_false_of_ne h2) (o (beq_false_of_ne h3) (o (beq_false_of_ne h4) (o (beq_false_of_ne h5) (o (beq_iff_eq.2 h6) f))))))) (by kernel_rfl)
              · rw [if_neg h6] at h
                by_cases h7 : a0 = 8
                · rw [if_pos h7] at h
                  obtain rfl := Option.some.inj h
                  exact Til.fin Tryz.func14 [(2, .b false), (4, .b false), (6, .b false), (8, .b false), (10, .b false), (12, .b false), (14, .b false), (16, .b true)] (fun _ f => o (beq_false_of_ne h0) (o (beq_false_of_ne h1) (o (beq_false_of_ne h2) (o (beq_false_of_ne h3) (o (beq_false_of_ne h4) (o (beq_false_of_ne h5) (o (beq_false_of_ne h6) (o (beq_iff_eq.2 h7) f)))))))) (by kernel_rfl)
                · rw [if_neg h7] at h
                  by_cases h8 : a0 = 9
                  · rw [if_pos h8] at h
                    obtain rfl := Option.some.inj h
                    exact Til.fin Tryz.func14 [(2, .b false), (4, .b false), (6, .b false), (8, .b false), (10, .b false), (12, .b false), (14, .b false), (16, .b false), (18, .b true)] (fun _ f => o (beq_false_of_ne h0) (o (beq_false_of_ne h1) (o (beq_false_of_ne h2) (o (beq_false_of_ne h3) (o (beq_false_of_ne h4) (o (beq_false_of_ne h5) (o (beq_false_of_ne h6) (o (beq_false_of_ne h7) (o (beq_iff_eq.2 h8) f))))))))) (by kernel_rfl)
                  · rw [if_neg h8] at h
                    obtain rfl := Option.some.inj h
                    exact Til.fin Tryz.func14 [(2, .b false), (4, .b false), (6, .b false), (8, .b false), (10, .b false), (12, .b false), (14, .b false), (16, .b false), (18, .b false)] (fun _ f => o (beq_false_of_ne h0) (o (beq_false_of_ne h1) (o (beq_false_of_ne h2) (o (beq_false_of_ne h3) (o (beq_false_of_ne h4) (o (beq_false_of_ne h5) (o (beq_false_of_ne h6) (o (beq_false_of_ne h7) (o (beq_false_of_ne h8) f))))))))) (by kernel_rfl)

def c67 (x : Int) : List Dat := [.int .u64 x]
def L67 (xs : List Int) : Dat := fr 1 c67 0 xs
def Z67 (xs : List Int) : Sup := .r xs.length (enc c67 0 xs)
def O67 (k : RK) (xs : List Int) : Ob := .row k 67 1 xs.length (enc c67 0 xs)

def nat_trim.l0E (x0 : List Int) (x3 : Int) : Env := [(0, .c (.d (L67 x0))), (3, .c (.d (.int .i64 x3)))]
theorem nat_trim.w (k : Nat) : (∀  (x0 : List Int) (x3 : Int) (r : List Int), nat_trim.l0 k x0 x3 = some r → Til Tryz.prog 51 [] (.c (.d (L67 r))) none [] (at_ Tryz.f51 2) (nat_trim.l0E x0 x3) []) := by
  induction k with
  | zero =>
    exact fun _ _ _ h => (by cases h)
  | succ k ih =>
    intro x0 x3 r h
    rw [nat_trim.l0] at h
    by_cases h0 : x3 > 0
    · rw [if_pos h0] at h
      obtain ⟨h1, h⟩ := ifp h
      obtain ⟨h2, h⟩ := ifp h
      by_cases h3 : (rd x0 (wrap64 (x3 - 1))) = 0
      · rw [if_pos h3] at h
        exact Til.mid Tryz.func51 2 [(1, .b true), (8, .b true)] (fun _ f => o (decide_eq_true h0) (o (o h1 h2) (o (beq_iff_eq.2 h3) f))) (by kernel_rfl) (ih _ _ _ h)
      · rw [if_neg h3] at h
        by_cases h4 : x3 = 0
        · rw [if_pos h4] at h
          obtain rfl := Option.some.inj h
          exact Til.fin Tryz.func51 [(1, .b true), (8, .b false), (11, .b true)] (fun _ f => o (decide_eq_true h0) (o (o h1 h2) (o (beq_false_of_ne h3) (o (beq_iff_eq.2 h4) f)))) (by kernel_rfl)
        · rw [if_neg h4] at h
          obtain ⟨h5, h⟩ := ifp h
          obtain ⟨h6, h⟩ := ifp h
          obtain rfl := Option.some.inj h
          exact Til.fin Tryz.func51 [(1, .b true), (8, .b false), (11, .b false), (14, Z67 (x0.take ((x3 : Int).toNat)))] (fun _ f => o (decide_eq_true h0) (o (o h1 h2) (o (beq_false_of_ne h3) (o (beq_false_of_ne h4) (o (take_ok c67 0 x0 h5 h6) f))))) (by kernel_rfl)
    · rw [if_neg h0] at h
      by_cases h1 : x3 = 0
      · rw [if_pos h1] at h
        obtain rfl := Option.some.inj h
        exact Til.fin Tryz.func51 [(1, .b false), (11, .b true)] (fun _ f => o (decide_eq_false h0) (o (beq_iff_eq.2 h1) f)) (by kernel_rfl)
      · rw [if_neg h1] at h
        obtain ⟨h2, h⟩ := ifp h
        obtain ⟨h3, h⟩ := ifp h
        obtain rfl := Option.some.inj h
        exact Til.fin Tryz.func51 [(1, .b false), (11, .b false), (14, Z67 (x0.take ((x3 : Int).toNat)))] (fun _ f => o (decide_eq_false h0) (o (beq_false_of_ne h1) (o (take_ok c67 0 x0 h2 h3) f))) (by kernel_rfl)
theorem nat_trim.does {k : Nat} {l0 : List Int} {r : List Int} (h : nat_trim.f k l0 = some r) :
    Does Tryz.prog 51 [.c (.d (L67 l0))] [] (.c (.d (L67 r))) none [] := by
  refine does_fn Tryz.func51 (by kernel_rfl) rfl rfl ?_
  unfold nat_trim.f at h
  have ih := nat_trim.w k
  exact Til.mid Tryz.func51 2 [] (fun _ f => f) (by kernel_rfl) (ih _ _ _ h)

def nat_Clean.l0E (x3 : List Int) (x9 : List Int) (x10 : Int) (x11 : Int) : Env := [(3, .c (.own 3)), (9, .c (.d (L67 x9))), (10, .c (.d (.int .i64 x10))), (11, .c (.d (.int .i64 x11)))]
def nat_Clean.l0B (x3 : List Int) (x9 : List Int) (x10 : Int) (x11 : Int) : Obs := [(3, some (O67 .own x3))]
theorem nat_Clean.w (k : Nat) : (∀  (x3 : List Int) (x9 : List Int) (x10 : Int) (x11 : Int) (r : List Int), nat_Clean.l0 k x3 x9 x10 x11 = some r → Til Tryz.prog 46 [] (.c (.d (L67 r))) none [] (at_ Tryz.f46 3) (nat_Clean.l0E x3 x9 x10 x11) (nat_Clean.l0B x3 x9 x10 x11)) := by
  induction k with
  | zero =>
    exact fun _ _ _ _ _ h => (by cases h)
  | succ k ih =>
    intro x3 x9 x10 x11 r h
    rw [nat_Clean.l0] at h
    by_cases h0 : x11 < x10
    · rw [if_pos h0] at h
      obtain ⟨h1, h⟩ := ifp h
      obtain ⟨h2, h⟩ := ifp h
      obtain ⟨h3, h⟩ := ifp h
      exact Til.mid Tryz.func46 3 [(0, .b true), (11, Z67 (x3.set ((x11 : Int).toNat) (Go.bits .and .u64 (rd x9 x11) 4294967295)))] (fun _ f => o (decide_eq_true h0) (o (o h1 h2) (o (o h1 h3) (o (set_ok c67 0 (fun _ _ => rfl) x3 ((x11 : Int).toNat) (Go.bits .and .u64 (rd x9 x11) 4294967295) (lt_ok h1 h3)) f)))) (by kernel_rfl) (ih _ _ _ _ _ h)
    · rw [if_neg h0] at h
      obtain ⟨v2, h1, h⟩ := bnd h
      obtain rfl := Option.some.inj h
      exact Til.fin Tryz.func46 [(0, .b false), (2, ca (.c (.d (L67 v2))))] (fun _ f => o (decide_eq_false h0) (o (nat_trim.does h1) f)) (by kernel_rfl)
theorem nat_Clean.does {k : Nat} {l0 : List Int} {r : List Int} (h : nat_Clean.f k l0 = some r) :
    Does Tryz.prog 46 [.c (.d (L67 l0))] [] (.c (.d (L67 r))) none [] := by
  refine does_fn Tryz.func46 (by kernel_rfl) rfl rfl ?_
  unfold nat_Clean.f at h
  have ih := nat_Clean.w k
  obtain ⟨h0, h⟩ := ifp h
  exact Til.mid Tryz.func46 3 [(3, Z67 (List.replicate (((l0.length : Int) : Int).toNat) 0 : List Int))] (fun _ f => o (make_ok c67 0 [.int .u64 0] ⟨.refl _, trivial⟩ (l0.length : Int) 8 35184372088832 (by decide) (Int.natCast_nonneg l0.length) h0) f) (by kernel_rfl) (ih _ _ _ _ _ h)

theorem nat_Of.does {k : Nat} {a0 : Int} {r : List Int} (h : nat_Of.f k a0 = some r) :
    Does Tryz.prog 32 [.c (.d (.int .u64 a0))] [] (.c (.d (L67 r))) none [] := by
  refine does_fn Tryz.func32 (by kernel_rfl) rfl rfl ?_
  unfold nat_Of.f at h
  obtain ⟨v6, h0, h⟩ := bnd h
  obtain rfl := Option.some.inj h
  exact Til.fin Tryz.func32 [(5, Z67 ([(Go.bits .and .u64 a0 4294967295), (a0 / 4294967296)] : List Int)), (6, ca (.c (.d (L67 v6))))] (fun _ f => o (nn 32) (o (lit_ok c67 0 ([(Go.bits .and .u64 a0 4294967295), (a0 / 4294967296)] : List Int)) (o (nat_trim.does h0) f))) (by kernel_rfl)

theorem ratio_Zero.does {k : Nat}  {r : Bool × List Int × List Int} (h : ratio_Zero.f k = some r) :
    Does Tryz.prog 47 [] [] (.agg [.d (.bool r.1), .d (L67 r.2.1), .d (L67 r.2.2)]) none [] := by
  refine does_fn Tryz.func47 (by kernel_rfl) rfl rfl ?_
  unfold ratio_Zero.f at h
  obtain ⟨v1, h0, h⟩ := bnd h
  obtain rfl := Option.some.inj h
  exact Til.fin Tryz.func47 [(1, ca (.c (.d (L67 v1))))] (fun _ f => o (nat_Of.does h0) f) (by kernel_rfl)

def nat_order.l0E (x0 : List Int) (x1 : List Int) (x5 : Int) : Env := [(0, .c (.d (L67 x0))), (1, .c (.d (L67 x1))), (5, .c (.d (.int .i64 x5)))]
theorem nat_order.w (k : Nat) : (∀  (x0 : List Int) (x1 : List Int) (x5 : Int) (r : Int), nat_order.l0 k x0 x1 x5 = some r → Til Tryz.prog 50 [] (.c (.d (.int .i64 r))) none [] (at_ Tryz.f50 6) (nat_order.l0E x0 x1 x5) []) := by
  induction k with
  | zero =>
    exact fun _ _ _ _ h => (by cases h)
  | succ k ih =>
    intro x0 x1 x5 r h
    rw [nat_order.l0] at h
    by_cases h0 : x5 ≥ 0
    · rw [if_pos h0] at h
      obtain ⟨h1, h⟩ := ifp h
      obtain ⟨h2, h⟩ := ifp h
      by_cases h3 : (rd x0 x5) < (rd x1 x5)
      · rw [if_pos h3] at h
        obtain rfl := Option.some.inj h
        exact Til.fin Tryz.func50 [(1, .b true), (10, .b true)] (fun _ f => o (decide_eq_true h0) (o (o h0 h1) (o (o h0 h2) (o (decide_eq_true h3) f)))) (by kernel_rfl)
      · rw [if_neg h3] at h
        by_cases h4 : (rd x0 x5) > (rd x1 x5)
        · rw [if_pos h4] at h
          obtain rfl := Option.some.inj h
          exact Til.fin Tryz.func50 [(1, .b true), (10, .b false), (20, .b true)] (fun _ f => o (decide_eq_true h0) (o (o h0 h1) (o (o h0 h2) (o (decide_eq_false h3) (o (o h0 h1) (o (o h0 h2) (o (decide_eq_true h4) f))))))) (by kernel_rfl)
        · rw [if_neg h4] at h
          exact Til.mid Tryz.func50 6 [(1, .b true), (10, .b false), (20, .b false)] (fun _ f => o (decide_eq_true h0) (o (o h0 h1) (o (o h0 h2) (o (decide_eq_false h3) (o (o h0 h1) (o (o h0 h2) (o (decide_eq_false h4) f))))))) (by kernel_rfl) (ih _ _ _ _ h)
    · rw [if_neg h0] at h
      obtain rfl := Option.some.inj h
      exact Til.fin Tryz.func50 [(1, .b false)] (fun _ f => o (decide_eq_false h0) f) (by kernel_rfl)
theorem nat_order.does {k : Nat} {l0 : List Int} {l1 : List Int} {r : Int} (h : nat_order.f k l0 l1 = some r) :
    Does Tryz.prog 50 [.c (.d (L67 l0)), .c (.d (L67 l1))] [] (.c (.d (.int .i64 r))) none [] := by
  refine does_fn Tryz.func50 (by kernel_rfl) rfl rfl ?_
  unfold nat_order.f at h
  have ih := nat_order.w k
  by_cases h0 : (l0.length : Int) < (l1.length : Int)
  · rw [if_pos h0] at h
    obtain rfl := Option.some.inj h
    exact Til.fin Tryz.func50 [(5, .b true)] (fun _ f => o (decide_eq_true h0) f) (by kernel_rfl)
  · rw [if_neg h0] at h
    by_cases h1 : (l0.length : Int) > (l1.length : Int)
    · rw [if_pos h1] at h
      obtain rfl := Option.some.inj h
      exact Til.fin Tryz.func50 [(5, .b false), (11, .b true)] (fun _ f => o (decide_eq_false h0) (o (decide_eq_true h1) f)) (by kernel_rfl)
    · rw [if_neg h1] at h
      exact Til.mid Tryz.func50 6 [(5, .b false), (11, .b false)] (fun _ f => o (decide_eq_false h0) (o (decide_eq_false h1) f)) (by kernel_rfl) (ih _ _ _ _ h)

theorem nat_To.does {k : Nat} {l0 : List Int} {r : Int × Bool} (h : nat_To.f k l0 = some r) :
    Does Tryz.prog 87 [.c (.d (L67 l0))] [] (.tup [.c (.d (.int .u64 r.1)), .c (.d (.bool r.2))]) none [] := by
  refine does_fn Tryz.func87 (by kernel_rfl) rfl rfl ?_
  unfold nat_To.f at h
  obtain ⟨v3, h0, h⟩ := bnd h
  by_cases h1 : (v3.length : Int) = 0
  · rw [if_pos h1] at h
    obtain rfl := Option.some.inj h
    exact Til.fin Tryz.func87 [(3, ca (.c (.d (L67 v3)))), (7, .b true)] (fun _ f => o (nat_Clean.does h0) (o (beq_iff_eq.2 h1) f)) (by kernel_rfl)
  · rw [if_neg h1] at h
    by_cases h2 : (v3.length : Int) = 1
    · rw [if_pos h2] at h
      obtain ⟨h3, h⟩ := ifp h
      obtain rfl := Option.some.inj h
      exact Til.fin Tryz.func87 [(3, ca (.c (.d (L67 v3)))), (7, .b false), (9, .b true)] (fun _ f => o (nat_Clean.does h0) (o (beq_false_of_ne h1) (o (beq_iff_eq.2 h2) (o (o (nn 0) h3) f)))) (by kernel_rfl)
    · rw [if_neg h2] at h
      by_cases h3 : (v3.length : Int) = 2
      · rw [if_pos h3] at h
        obtain ⟨h4, h⟩ := ifp h
        obtain ⟨h5, h⟩ := ifp h
        obtain rfl := Option.some.inj h
        exact Til.fin Tryz.func87 [(3, ca (.c (.d (L67 v3)))), (7, .b false), (9, .b false), (11, .b true)] (fun _ f => o (nat_Clean.does h0) (o (beq_false_of_ne h1) (o (beq_false_of_ne h2) (o (beq_iff_eq.2 h3) (o (o (nn 1) h4) (o (nn 32) (o (o (nn 0) h5) f))))))) (by kernel_rfl)
      · rw [if_neg h3] at h
        obtain rfl := Option.some.inj h
        exact Til.fin Tryz.func87 [(3, ca (.c (.d (L67 v3)))), (7, .b false), (9, .b false), (11, .b false)] (fun _ f => o (nat_Clean.does h0) (o (beq_false_of_ne h1) (o (beq_false_of_ne h2) (o (beq_false_of_ne h3) f)))) (by kernel_rfl)

def nat_euclid.l0E (x5 : Int) (x7 : Int) : Env := [(5, .c (.d (.int .u64 x5))), (7, .c (.d (.int .u64 x7)))]
theorem nat_euclid.w (k : Nat) : (∀  (x5 : Int) (x7 : Int) (r : List Int), nat_euclid.l0 k x5 x7 = some r → Til Tryz.prog 71 [] (.c (.d (L67 r))) none [] (at_ Tryz.f71 3) (nat_euclid.l0E x5 x7) []) := by
  induction k with
  | zero =>
    exact fun _ _ _ h => (by cases h)
  | succ k ih =>
    intro x5 x7 r h
    rw [nat_euclid.l0] at h
    by_cases h0 : x7 ≠ 0
    · rw [if_pos h0] at h
      obtain ⟨h1, h⟩ := ifn h
      exact Til.mid Tryz.func71 3 [(1, .b true)] (fun _ f => o (bne_iff_ne.2 h0) (o h1 f)) (by kernel_rfl) (ih _ _ _ h)
    · rw [if_neg h0] at h
      obtain ⟨v3, h1, h⟩ := bnd h
      obtain rfl := Option.some.inj h
      exact Til.fin Tryz.func71 [(1, .b false), (3, ca (.c (.d (L67 v3))))] (fun _ f => o (ne_f h0) (o (nat_Of.does h1) f)) (by kernel_rfl)
theorem nat_euclid.does {k : Nat} {l0 : List Int} {l1 : List Int} {r : List Int} (h : nat_euclid.f k l0 l1 = some r) :
    Does Tryz.prog 71 [.c (.d (L67 l0)), .c (.d (L67 l1))] [] (.c (.d (L67 r))) none [] := by
  refine does_fn Tryz.func71 (by kernel_rfl) rfl rfl ?_
  unfold nat_euclid.f at h
  have ih := nat_euclid.w k
  obtain ⟨v2, h0, h⟩ := bnd h
  obtain ⟨v9, h1, h⟩ := bnd h
  exact Til.mid Tryz.func71 3 [(2, ca (.tup [.c (.d (.int .u64 v2.1)), .c (.d (.bool v2.2))])), (9, ca (.tup [.c (.d (.int .u64 v9.1)), .c (.d (.bool v9.2))]))] (fun _ f => o (nat_To.does h0) (o (nat_To.does h1) f)) (by kernel_rfl) (ih _ _ _ h)

theorem bits_TrailingZeros64.does {a0 : Int} {r : Int} (h : bits_TrailingZeros64.f a0 = some r) :
    Does Tryz.prog 88 [.c (.d (.int .u64 a0))] [] (.c (.d (.int .i64 r))) none [] := by
  refine does_fn Tryz.func88 (by kernel_rfl) rfl rfl ?_
  unfold bits_TrailingZeros64.f at h
  by_cases h0 : a0 = 0
  · rw [if_pos h0] at h
    obtain rfl := Option.some.inj h
    exact Til.fin Tryz.func88 [(2, .b true)] (fun _ f => o (beq_iff_eq.2 h0) f) (by kernel_rfl)
  · rw [if_neg h0] at h
    obtain ⟨h1, h⟩ := ifp h
    obtain ⟨h2, h⟩ := ifp h
    obtain rfl := Option.some.inj h
    exact Til.fin Tryz.func88 [(2, .b false), (10, .v (.c (.d (.int .u8 (rd tab_deBruijn64tab ((IntKind.u64.wrap ((Go.bits .and .u64 a0 (IntKind.u64.wrap (0 - a0))) * 285870213051353865)) / 288230376151711744))))))] (fun _ f => o (beq_false_of_ne h0) (o (nn 58) (o (o h1 h2) (o (tab_ok .u8 tab_deBruijn64tab h1 h2 rfl) f)))) (by kernel_rfl)

def nat_zeros.l0E (x3 : Int) (x6 : List Int) (x7 : Int) (x8 : Int) : Env := [(3, .c (.d (.int .i64 x3))), (6, .c (.d (L67 x6))), (7, .c (.d (.int .i64 x7))), (8, .c (.d (.int .i64 x8)))]
theorem nat_zeros.w (k : Nat) : (∀  (x3 : Int) (x6 : List Int) (x7 : Int) (x8 : Int) (r : Int), nat_zeros.l0 k x3 x6 x7 x8 = some r → Til Tryz.prog 72 [] (.c (.d (.int .i64 r))) none [] (at_ Tryz.f72 3) (nat_zeros.l0E x3 x6 x7 x8) []) := by
  induction k with
  | zero =>
    exact fun _ _ _ _ _ h => (by cases h)
  | succ k ih =>
    intro x3 x6 x7 x8 r h
    rw [nat_zeros.l0] at h
    by_cases h0 : x8 < x7
    · rw [if_pos h0] at h
      obtain ⟨h1, h⟩ := ifp h
      obtain ⟨h2, h⟩ := ifp h
      by_cases h3 : (rd x6 x8) ≠ 0
      · rw [if_pos h3] at h
        obtain ⟨v11, h4, h⟩ := bnd h
        obtain rfl := Option.some.inj h
        exact Til.fin Tryz.func72 [(0, .b true), (7, .b true), (11, ca (.c (.d (.int .i64 v11))))] (fun _ f => o (decide_eq_true h0) (o (o h1 h2) (o (bne_iff_ne.2 h3) (o (bits_TrailingZeros64.does h4) f)))) (by kernel_rfl)
      · rw [if_neg h3] at h
        exact Til.mid Tryz.func72 3 [(0, .b true), (7, .b false)] (fun _ f => o (decide_eq_true h0) (o (o h1 h2) (o (ne_f h3) f))) (by kernel_rfl) (ih _ _ _ _ _ h)
    · rw [if_neg h0] at h
      obtain rfl := Option.some.inj h
      exact Til.fin Tryz.func72 [(0, .b false)] (fun _ f => o (decide_eq_false h0) f) (by kernel_rfl)
theorem nat_zeros.does {k : Nat} {l0 : List Int} {r : Int} (h : nat_zeros.f k l0 = some r) :
    Does Tryz.prog 72 [.c (.d (L67 l0))] [] (.c (.d (.int .i64 r))) none [] := by
  refine does_fn Tryz.func72 (by kernel_rfl) rfl rfl ?_
  unfold nat_zeros.f at h
  have ih := nat_zeros.w k
  exact Til.mid Tryz.func72 3 [] (fun _ f => f) (by kernel_rfl) (ih _ _ _ _ _ h)

theorem nat_limb.does {l0 : List Int} {a1 : Int} {r : Int} (h : nat_limb.f l0 a1 = some r) :
    Does Tryz.prog 89 [.c (.d (L67 l0)), .c (.d (.int .i64 a1))] [] (.c (.d (.int .u64 r))) none [] := by
  refine does_fn Tryz.func89 (by kernel_rfl) rfl rfl ?_
  unfold nat_limb.f at h
  by_cases h0 : a1 < (l0.length : Int)
  · rw [if_pos h0] at h
    obtain ⟨h1, h⟩ := ifp h
    obtain rfl := Option.some.inj h
    exact Til.fin Tryz.func89 [(4, .b true)] (fun _ f => o (decide_eq_true h0) (o (o h1 h0) f)) (by kernel_rfl)
  · rw [if_neg h0] at h
    obtain rfl := Option.some.inj h
    exact Til.fin Tryz.func89 [(4, .b false)] (fun _ f => o (decide_eq_false h0) f) (by kernel_rfl)

def nat_shr.l0E (x0 : List Int) (x5 : Int) (x6 : Int) (x7 : List Int) (x23 : Int) (x24 : Int) : Env := [(0, .c (.d (L67 x0))), (5, .c (.d (.int .i64 x5))), (6, .c (.d (.int .i64 x6))), (7, .c (.own 7)), (23, .c (.d (.int .i64 x23))), (24, .c (.d (.int .i64 x24)))]
def nat_shr.l0B (x0 : List Int) (x5 : Int) (x6 : Int) (x7 : List Int) (x23 : Int) (x24 : Int) : Obs := [(7, some (O67 .own x7))]
theorem nat_shr.w (k : Nat) : (∀  (x0 : List Int) (x5 : Int) (x6 : Int) (x7 : List Int) (x23 : Int) (x24 : Int) (r : List Int), nat_shr.l0 k x0 x5 x6 x7 x23 x24 = some r → Til Tryz.prog 73 [] (.c (.d (L67 r))) none [] (at_ Tryz.f73 6) (nat_shr.l0E x0 x5 x6 x7 x23 x24) (nat_shr.l0B x0 x5 x6 x7 x23 x24)) := by
  induction k with
  | zero =>
    exact fun _ _ _ _ _ _ _ h => (by cases h)
  | succ k ih =>
    intro x0 x5 x6 x7 x23 x24 r h
    rw [nat_shr.l0] at h
    by_cases h0 : x24 < x23
    · rw [if_pos h0] at h
      obtain ⟨v10, h1, h⟩ := bnd h
      obtain ⟨h2, h⟩ := ifp h
      obtain ⟨h3, h⟩ := ifp h
      obtain ⟨h4, h⟩ := ifp h
      obtain ⟨h5, h⟩ := ifp h
      obtain ⟨h6, h⟩ := ifp h
      exact Til.mid Tryz.func73 6 [(0, .b true), (10, ca (.c (.d (.int .u64 v10)))), (23, Z67 (x7.set ((x24 : Int).toNat) (Go.bits .and .u64 (shr .u64 (Go.bits .or .u64 (IntKind.u64.wrap (v10 * 4294967296)) (rd x0 (wrap64 (x24 + x5)))) x6) 4294967295)))] (fun _ f => o (decide_eq_true h0) (o (nat_limb.does h1) (o (nn 32) (o (o h2 h3) (o h4 (o (o h5 h6) (o (set_ok c67 0 (fun _ _ => rfl) x7 ((x24 : Int).toNat) (Go.bits .and .u64 (shr .u64 (Go.bits .or .u64 (IntKind.u64.wrap (v10 * 4294967296)) (rd x0 (wrap64 (x24 + x5)))) x6) 4294967295) (lt_ok h5 h6)) f))))))) (by kernel_rfl) (ih _ _ _ _ _ _ _ h)
    · rw [if_neg h0] at h
      obtain ⟨v2, h1, h⟩ := bnd h
      obtain rfl := Option.some.inj h
      exact Til.fin Tryz.func73 [(0, .b false), (2, ca (.c (.d (L67 v2))))] (fun _ f => o (decide_eq_false h0) (o (nat_trim.does h1) f)) (by kernel_rfl)
theorem nat_shr.does {k : Nat} {l0 : List Int} {a1 : Int} {r : List Int} (h : nat_shr.f k l0 a1 = some r) :
    Does Tryz.prog 73 [.c (.d (L67 l0)), .c (.d (.int .i64 a1))] [] (.c (.d (L67 r))) none [] := by
  refine does_fn Tryz.func73 (by kernel_rfl) rfl rfl ?_
  unfold nat_shr.f at h
  have ih := nat_shr.w k
  by_cases h0 : (wrap64 (Int.tdiv a1 32)) ≥ (l0.length : Int)
  · rw [if_pos h0] at h
    obtain rfl := Option.some.inj h
    exact Til.fin Tryz.func73 [(10, .b true)] (fun _ f => o (by decide : ¬ (32 : Int) = 0) (o (by decide : ¬ (32 : Int) = 0) (o (decide_eq_true h0) f))) (by kernel_rfl)
  · rw [if_neg h0] at h
    obtain ⟨h1, h⟩ := ifp h
    obtain ⟨h2, h⟩ := ifp h
    exact Til.mid Tryz.func73 6 [(10, .b false), (15, Z67 (List.replicate (((wrap64 ((l0.length : Int) - (wrap64 (Int.tdiv a1 32)))) : Int).toNat) 0 : List Int))] (fun _ f => o (by decide : ¬ (32 : Int) = 0) (o (by decide : ¬ (32 : Int) = 0) (o (decide_eq_false h0) (o (make_ok c67 0 [.int .u64 0] ⟨.refl _, trivial⟩ (wrap64 ((l0.length : Int) - (wrap64 (Int.tdiv a1 32)))) 8 35184372088832 (by decide) h1 h2) f)))) (by kernel_rfl) (ih _ _ _ _ _ _ _ h)

def nat_trimM.l0E (x0 : List Int) (x3 : Int) : Env := [(0, .c (.own 0)), (3, .c (.d (.int .i64 x3)))]
def nat_trimM.l0B (x0 : List Int) (x3 : Int) : Obs := [(0, some (O67 .own x0))]
theorem nat_trimM.w (k : Nat) : (∀ (l0 : List Int) (x0 : List Int) (x3 : Int) (r : List Int), nat_trimM.l0 k x0 x3 = some r → Til Tryz.prog 51 [(0, some (O67 .own l0))] (.c (.own newName)) (some (O67 .own r)) [] (at_ Tryz.f51 2) (nat_trimM.l0E x0 x3) (nat_trimM.l0B x0 x3)) := by
  induction k with
  | zero =>
    exact fun _ _ _ _ h => (by cases h)
  | succ k ih =>
    intro l0 x0 x3 r h
    rw [nat_trimM.l0] at h
    by_cases h0 : x3 > 0
    · rw [if_pos h0] at h
      obtain ⟨h1, h⟩ := ifp h
      obtain ⟨h2, h⟩ := ifp h
      by_cases h3 : (rd x0 (wrap64 (x3 - 1))) = 0
      · rw [if_pos h3] at h
        exact Til.mid Tryz.func51 2 [(1, .b true), (8, .b true)] (fun _ f => o (decide_eq_true h0) (o (o h1 h2) (o (beq_iff_eq.2 h3) f))) (by kernel_rfl) (ih _ _ _ _ h)
      · rw [if_neg h3] at h
        by_cases h4 : x3 = 0
        · rw [if_pos h4] at h
          obtain rfl := Option.some.inj h
          exact Til.fin Tryz.func51 [(1, .b true), (8, .b false), (11, .b true)] (fun _ f => o (decide_eq_true h0) (o (o h1 h2) (o (beq_false_of_ne h3) (o (beq_iff_eq.2 h4) f)))) (by kernel_rfl)
        · rw [if_neg h4] at h
          obtain ⟨h5, h⟩ := ifp h
          obtain ⟨h6, h⟩ := ifp h
          obtain rfl := Option.some.inj h
          exact Til.fin Tryz.func51 [(1, .b true), (8, .b false), (11, .b false), (14, Z67 (x0.take ((x3 : Int).toNat)))] (fun _ f => o (decide_eq_true h0) (o (o h1 h2) (o (beq_false_of_ne h3) (o (beq_false_of_ne h4) (o (take_ok c67 0 x0 h5 h6) f))))) (by kernel_rfl)
    · rw [if_neg h0] at h
      by_cases h1 : x3 = 0
      · rw [if_pos h1] at h
        obtain rfl := Option.some.inj h
        exact Til.fin Tryz.func51 [(1, .b false), (11, .b true)] (fun _ f => o (decide_eq_false h0) (o (beq_iff_eq.2 h1) f)) (by kernel_rfl)
      · rw [if_neg h1] at h
        obtain ⟨h2, h⟩ := ifp h
        obtain ⟨h3, h⟩ := ifp h
        obtain rfl := Option.some.inj h
        exact Til.fin Tryz.func51 [(1, .b false), (11, .b false), (14, Z67 (x0.take ((x3 : Int).toNat)))] (fun _ f => o (decide_eq_false h0) (o (beq_false_of_ne h1) (o (take_ok c67 0 x0 h2 h3) f))) (by kernel_rfl)
theorem nat_trimM.does {k : Nat} {l0 : List Int} {r : List Int} (h : nat_trimM.f k l0 = some r) :
    Does Tryz.prog 51 [.c (.own 0)] [(0, some (O67 .own l0))] (.c (.own newName)) (some (O67 .own r)) [] := by
  refine does_fn Tryz.func51 (by kernel_rfl) rfl rfl ?_
  unfold nat_trimM.f at h
  have ih := nat_trimM.w k
  exact Til.mid Tryz.func51 2 [] (fun _ f => f) (by kernel_rfl) (ih _ _ _ _ h)

def nat_shl.l0E (x5 : Int) (x6 : Int) (x7 : List Int) (x20 : List Int) (x21 : Int) (x22 : Int) : Env := [(5, .c (.d (.int .i64 x5))), (6, .c (.d (.int .i64 x6))), (7, .c (.own 7)), (20, .c (.d (L67 x20))), (21, .c (.d (.int .i64 x21))), (22, .c (.d (.int .i64 x22)))]
def nat_shl.l0B (x5 : Int) (x6 : Int) (x7 : List Int) (x20 : List Int) (x21 : Int) (x22 : Int) : Obs := [(7, some (O67 .own x7))]
theorem nat_shl.w (k : Nat) : (∀  (x5 : Int) (x6 : Int) (x7 : List Int) (x20 : List Int) (x21 : Int) (x22 : Int) (r : List Int), nat_shl.l0 k x5 x6 x7 x20 x21 x22 = some r → Til Tryz.prog 74 [] (.c (.own newName)) (some (O67 .own r)) [] (at_ Tryz.f74 4) (nat_shl.l0E x5 x6 x7 x20 x21 x22) (nat_shl.l0B x5 x6 x7 x20 x21 x22)) := by
  induction k with
  | zero =>
    exact fun _ _ _ _ _ _ _ h => (by cases h)
  | succ k ih =>
    intro x5 x6 x7 x20 x21 x22 r h
    rw [nat_shl.l0] at h
    by_cases h0 : x22 < x21
    · rw [if_pos h0] at h
      obtain ⟨h1, h⟩ := ifp h
      obtain ⟨h2, h⟩ := ifp h
      obtain ⟨h3, h⟩ := ifp h
      obtain ⟨h4, h⟩ := ifp h
      obtain ⟨h5, h⟩ := ifp h
      obtain ⟨h6, h⟩ := ifp h
      obtain ⟨h7, h⟩ := ifp h
      exact Til.mid Tryz.func74 4 [(0, .b true), (20, Z67 (x7.set (((wrap64 (x22 + x5)) : Int).toNat) (Go.bits .or .u64 (rd x7 (wrap64 (x22 + x5))) (Go.bits .and .u64 (shl .u64 (rd x20 x22) x6) 4294967295)))), (29, Z67 ((x7.set (((wrap64 (x22 + x5)) : Int).toNat) (Go.bits .or .u64 (rd x7 (wrap64 (x22 + x5))) (Go.bits .and .u64 (shl .u64 (rd x20 x22) x6) 4294967295))).set (((wrap64 ((wrap64 (x22 + x5)) + 1)) : Int).toNat) ((shl .u64 (rd x20 x22) x6) / 4294967296)))] (fun _ f => o (decide_eq_true h0) (o (o h1 h2) (o h3 (o (o h4 h5) (o (o h4 h5) (o (set_ok c67 0 (fun _ _ => rfl) x7 (((wrap64 (x22 + x5)) : Int).toNat) (Go.bits .or .u64 (rd x7 (wrap64 (x22 + x5))) (Go.bits .and .u64 (shl .u64 (rd x20 x22) x6) 4294967295)) (lt_ok h4 h5)) (o (nn 32) (o (o h6 h7) (o (set_ok c67 0 (fun _ _ => rfl) (x7.set (((wrap64 (x22 + x5)) : Int).toNat) (Go.bits .or .u64 (rd x7 (wrap64 (x22 + x5))) (Go.bits .and .u64 (shl .u64 (rd x20 x22) x6) 4294967295))) (((wrap64 ((wrap64 (x22 + x5)) + 1)) : Int).toNat) ((shl .u64 (rd x20 x22) x6) / 4294967296) (lt_ok h6 h7)) f))))))))) (by kernel_rfl) (ih _ _ _ _ _ _ _ h)
    · rw [if_neg h0] at h
      obtain ⟨v2, h1, h⟩ := bnd h
      obtain rfl := Option.some.inj h
      exact Til.fin Tryz.func74 [(0, .b false), (2, .call [] [0] (.c (.own 0)) (some (O67 .own v2)) [] [])] (fun _ f => o (decide_eq_false h0) (o (nat_trimM.does h1) f)) (by kernel_rfl)
theorem nat_shl.does {k : Nat} {l0 : List Int} {a1 : Int} {r : List Int} (h : nat_shl.f k l0 a1 = some r) :
    Does Tryz.prog 74 [.c (.d (L67 l0)), .c (.d (.int .i64 a1))] [] (.c (.own newName)) (some (O67 .own r)) [] := by
  refine does_fn Tryz.func74 (by kernel_rfl) rfl rfl ?_
  unfold nat_shl.f at h
  have ih := nat_shl.w k
  obtain ⟨h0, h⟩ := ifp h
  obtain ⟨h1, h⟩ := ifp h
  exact Til.mid Tryz.func74 4 [(12, Z67 (List.replicate (((wrap64 ((wrap64 ((l0.length : Int) + (wrap64 (Int.tdiv a1 32)))) + 1)) : Int).toNat) 0 : List Int))] (fun _ f => o (by decide : ¬ (32 : Int) = 0) (o (by decide : ¬ (32 : Int) = 0) (o (make_ok c67 0 [.int .u64 0] ⟨.refl _, trivial⟩ (wrap64 ((wrap64 ((l0.length : Int) + (wrap64 (Int.tdiv a1 32)))) + 1)) 8 35184372088832 (by decide) h0 h1) f))) (by kernel_rfl) (ih _ _ _ _ _ _ _ h)

def nat_small.l0E (x0 : List Int) (x1 : Int) (x6 : List Int) (x7 : Int) (x8 : Int) : Env := [(0, .c (.d (L67 x0))), (1, .c (.d (.int .u64 x1))), (6, .c (.own 6)), (7, .c (.d (.int .u64 x7))), (8, .c (.d (.int .i64 x8)))]
def nat_small.l0B (x0 : List Int) (x1 : Int) (x6 : List Int) (x7 : Int) (x8 : Int) : Obs := [(6, some (O67 .own x6))]
theorem nat_small.w (k : Nat) : (∀  (x0 : List Int) (x1 : Int) (x6 : List Int) (x7 : Int) (x8 : Int) (r : List Int × Int), nat_small.l0 k x0 x1 x6 x7 x8 = some r → Til Tryz.prog 52 [] (.tup [.c (.d (L67 r.1)), .c (.d (.int .u64 r.2))]) none [] (at_ Tryz.f52 4) (nat_small.l0E x0 x1 x6 x7 x8) (nat_small.l0B x0 x1 x6 x7 x8)) := by
  induction k with
  | zero =>
    exact fun _ _ _ _ _ _ h => (by cases h)
  | succ k ih =>
    intro x0 x1 x6 x7 x8 r h
    rw [nat_small.l0] at h
    by_cases h0 : x8 ≥ 0
    · rw [if_pos h0] at h
      obtain ⟨h1, h⟩ := ifp h
      obtain ⟨h2, h⟩ := ifn h
      obtain ⟨h3, h⟩ := ifp h
      exact Til.mid Tryz.func52 4 [(1, .b true), (16, Z67 (x6.set ((x8 : Int).toNat) (IntKind.u64.wrap (Int.tdiv (Go.bits .or .u64 (IntKind.u64.wrap (x7 * 4294967296)) (rd x0 x8)) x1))))] (fun _ f => o (decide_eq_true h0) (o (nn 32) (o (o h0 h1) (o h2 (o (o h0 h3) (o (set_ok c67 0 (fun _ _ => rfl) x6 ((x8 : Int).toNat) (IntKind.u64.wrap (Int.tdiv (Go.bits .or .u64 (IntKind.u64.wrap (x7 * 4294967296)) (rd x0 x8)) x1)) (lt_ok h0 h3)) (o h2 f))))))) (by kernel_rfl) (ih _ _ _ _ _ _ h)
    · rw [if_neg h0] at h
      obtain ⟨v3, h1, h⟩ := bnd h
      obtain rfl := Option.some.inj h
      exact Til.fin Tryz.func52 [(1, .b false), (3, ca (.c (.d (L67 v3))))] (fun _ f => o (decide_eq_false h0) (o (nat_trim.does h1) f)) (by kernel_rfl)
theorem nat_small.does {k : Nat} {l0 : List Int} {a1 : Int} {r : List Int × Int} (h : nat_small.f k l0 a1 = some r) :
    Does Tryz.prog 52 [.c (.d (L67 l0)), .c (.d (.int .u64 a1))] [] (.tup [.c (.d (L67 r.1)), .c (.d (.int .u64 r.2))]) none [] := by
  refine does_fn Tryz.func52 (by kernel_rfl) rfl rfl ?_
  unfold nat_small.f at h
  have ih := nat_small.w k
  obtain ⟨h0, h⟩ := ifp h
  exact Til.mid Tryz.func52 4 [(4, Z67 (List.replicate (((l0.length : Int) : Int).toNat) 0 : List Int))] (fun _ f => o (make_ok c67 0 [.int .u64 0] ⟨.refl _, trivial⟩ (l0.length : Int) 8 35184372088832 (by decide) (Int.natCast_nonneg l0.length) h0) f) (by kernel_rfl) (ih _ _ _ _ _ _ h)

theorem bits_Len32.does {a0 : Int} {r : Int} (h : bits_Len32.f a0 = some r) :
    Does Tryz.prog 101 [.c (.d (.int .u32 a0))] [] (.c (.d (.int .i64 r))) none [] := by
  refine does_fn Tryz.func101 (by kernel_rfl) rfl rfl ?_
  unfold bits_Len32.f at h
  by_cases h0 : a0 ≥ 65536
  · rw [if_pos h0] at h
    by_cases h1 : (a0 / 65536) ≥ 256
    · rw [if_pos h1] at h
      obtain ⟨h2, h⟩ := ifp h
      obtain ⟨h3, h⟩ := ifp h
      obtain rfl := Option.some.inj h
      exact Til.fin Tryz.func101 [(2, .b true), (8, .b true)] (fun _ f => o (decide_eq_true h0) (o (nn 16) (o (decide_eq_true h1) (o (nn 8) (o (o h2 h3) f))))) (by kernel_rfl)
    · rw [if_neg h1] at h
      obtain ⟨h2, h⟩ := ifp h
      obtain ⟨h3, h⟩ := ifp h
      obtain rfl := Option.some.inj h
      exact Til.fin Tryz.func101 [(2, .b true), (8, .b false)] (fun _ f => o (decide_eq_true h0) (o (nn 16) (o (decide_eq_false h1) (o (o h2 h3) f)))) (by kernel_rfl)
  · rw [if_neg h0] at h
    by_cases h1 : a0 ≥ 256
    · rw [if_pos h1] at h
      obtain ⟨h2, h⟩ := ifp h
      obtain ⟨h3, h⟩ := ifp h
      obtain rfl := Option.some.inj h
      exact Til.fin Tryz.func101 [(2, .b false), (4, .b true)] (fun _ f => o (decide_eq_false h0) (o (decide_eq_true h1) (o (nn 8) (o (o h2 h3) f)))) (by kernel_rfl)
    · rw [if_neg h1] at h
      obtain ⟨h2, h⟩ := ifp h
      obtain ⟨h3, h⟩ := ifp h
      obtain rfl := Option.some.inj h
      exact Til.fin Tryz.func101 [(2, .b false), (4, .b false)] (fun _ f => o (decide_eq_false h0) (o (decide_eq_false h1) (o (o h2 h3) f))) (by kernel_rfl)

theorem bits_LeadingZeros32.does {a0 : Int} {r : Int} (h : bits_LeadingZeros32.f a0 = some r) :
    Does Tryz.prog 90 [.c (.d (.int .u32 a0))] [] (.c (.d (.int .i64 r))) none [] := by
  refine does_fn Tryz.func90 (by kernel_rfl) rfl rfl ?_
  unfold bits_LeadingZeros32.f at h
  obtain ⟨v2, h0, h⟩ := bnd h
  obtain rfl := Option.some.inj h
  exact Til.fin Tryz.func90 [(2, ca (.c (.d (.int .i64 v2))))] (fun _ f => o (bits_Len32.does h0) f) (by kernel_rfl)

def nat_take.l0E (x0 : List Int) (x1 : List Int) (x2 : Int) (x7 : Int) (x8 : Int) (x12 : Int) (x13 : Int) : Env := [(0, .c (.own 0)), (1, .c (.d (L67 x1))), (2, .c (.d (.int .u64 x2))), (7, .c (.d (.int .u64 x7))), (8, .c (.d (.int .u64 x8))), (12, .c (.d (.int .i64 x12))), (13, .c (.d (.int .i64 x13)))]
def nat_take.l0B (x0 : List Int) (x1 : List Int) (x2 : Int) (x7 : Int) (x8 : Int) (x12 : Int) (x13 : Int) : Obs := [(0, some (O67 .win x0))]
theorem nat_take.w (k : Nat) : (∀ (l0 : List Int) (x0 : List Int) (x1 : List Int) (x2 : Int) (x7 : Int) (x8 : Int) (x12 : Int) (x13 : Int) (r : Bool × List Int), nat_take.l0 k x0 x1 x2 x7 x8 x12 x13 = some r → Til Tryz.prog 102 [(0, some (O67 .win l0))] (.c (.d (.bool r.1))) none [(0, some (O67 .win r.2))] (at_ Tryz.f102 3) (nat_take.l0E x0 x1 x2 x7 x8 x12 x13) (nat_take.l0B x0 x1 x2 x7 x8 x12 x13)) := by
  induction k with
  | zero =>
    exact fun _ _ _ _ _ _ _ _ _ h => (by cases h)
  | succ k ih =>
    intro l0 x0 x1 x2 x7 x8 x12 x13 r h
    rw [nat_take.l0] at h
    by_cases h0 : x13 < x12
    · rw [if_pos h0] at h
      obtain ⟨v7, h1, h⟩ := bnd h
      obtain ⟨h2, h⟩ := ifp h
      obtain ⟨h3, h⟩ := ifp h
      exact Til.mid Tryz.func102 3 [(0, .b true), (7, ca (.c (.d (.int .u64 v7)))), (27, Z67 (x0.set ((x13 : Int).toNat) (Go.bits .and .u64 (IntKind.u64.wrap ((IntKind.u64.wrap ((IntKind.u64.wrap (4294967296 + (rd x0 x13))) - (Go.bits .and .u64 (IntKind.u64.wrap (x7 + (IntKind.u64.wrap (x2 * v7)))) 4294967295))) - x8)) 4294967295)))] (fun _ f => o (decide_eq_true h0) (o (nat_limb.does h1) (o (o h2 h3) (o (o h2 h3) (o (set_ok c67 0 (fun _ _ => rfl) x0 ((x13 : Int).toNat) (Go.bits .and .u64 (IntKind.u64.wrap ((IntKind.u64.wrap ((IntKind.u64.wrap (4294967296 + (rd x0 x13))) - (Go.bits .and .u64 (IntKind.u64.wrap (x7 + (IntKind.u64.wrap (x2 * v7)))) 4294967295))) - x8)) 4294967295) (lt_ok h2 h3)) (o (nn 32) (o (nn 32) f))))))) (by kernel_rfl) (ih _ _ _ _ _ _ _ _ _ h)
    · rw [if_neg h0] at h
      obtain rfl := Option.some.inj h
      exact Til.fin Tryz.func102 [(0, .b false)] (fun _ f => o (decide_eq_false h0) f) (by kernel_rfl)
theorem nat_take.does {k : Nat} {l0 : List Int} {l1 : List Int} {a2 : Int} {r : Bool × List Int} (h : nat_take.f k l0 l1 a2 = some r) :
    Does Tryz.prog 102 [.c (.own 0), .c (.d (L67 l1)), .c (.d (.int .u64 a2))] [(0, some (O67 .win l0))] (.c (.d (.bool r.1))) none [(0, some (O67 .win r.2))] := by
  refine does_fn Tryz.func102 (by kernel_rfl) rfl rfl ?_
  unfold nat_take.f at h
  have ih := nat_take.w k
  exact Til.mid Tryz.func102 3 [] (fun _ f => f) (by kernel_rfl) (ih _ _ _ _ _ _ _ _ _ h)

def nat_give.l0E (x0 : List Int) (x1 : List Int) (x4 : Int) (x7 : Int) (x8 : Int) : Env := [(0, .c (.own 0)), (1, .c (.d (L67 x1))), (4, .c (.d (.int .u64 x4))), (7, .c (.d (.int .i64 x7))), (8, .c (.d (.int .i64 x8)))]
def nat_give.l0B (x0 : List Int) (x1 : List Int) (x4 : Int) (x7 : Int) (x8 : Int) : Obs := [(0, some (O67 .win x0))]
theorem nat_give.w (k : Nat) : (∀ (l0 : List Int) (x0 : List Int) (x1 : List Int) (x4 : Int) (x7 : Int) (x8 : Int) (r : List Int), nat_give.l0 k x0 x1 x4 x7 x8 = some r → Til Tryz.prog 103 [(0, some (O67 .win l0))] (.tup []) none [(0, some (O67 .win r))] (at_ Tryz.f103 2) (nat_give.l0E x0 x1 x4 x7 x8) (nat_give.l0B x0 x1 x4 x7 x8)) := by
  induction k with
  | zero =>
    exact fun _ _ _ _ _ _ _ h => (by cases h)
  | succ k ih =>
    intro l0 x0 x1 x4 x7 x8 r h
    rw [nat_give.l0] at h
    by_cases h0 : x8 < x7
    · rw [if_pos h0] at h
      obtain ⟨h1, h⟩ := ifp h
      obtain ⟨h2, h⟩ := ifp h
      obtain ⟨v10, h3, h⟩ := bnd h
      exact Til.mid Tryz.func103 2 [(0, .b true), (10, ca (.c (.d (.int .u64 v10)))), (19, Z67 (x0.set ((x8 : Int).toNat) (Go.bits .and .u64 (IntKind.u64.wrap (x4 + (IntKind.u64.wrap ((rd x0 x8) + v10)))) 4294967295)))] (fun _ f => o (decide_eq_true h0) (o (o h1 h2) (o (nat_limb.does h3) (o (o h1 h2) (o (set_ok c67 0 (fun _ _ => rfl) x0 ((x8 : Int).toNat) (Go.bits .and .u64 (IntKind.u64.wrap (x4 + (IntKind.u64.wrap ((rd x0 x8) + v10)))) 4294967295) (lt_ok h1 h2)) (o (nn 32) f)))))) (by kernel_rfl) (ih _ _ _ _ _ _ _ h)
    · rw [if_neg h0] at h
      obtain rfl := Option.some.inj h
      exact Til.fin Tryz.func103 [(0, .b false)] (fun _ f => o (decide_eq_false h0) f) (by kernel_rfl)
theorem nat_give.does {k : Nat} {l0 : List Int} {l1 : List Int} {r : List Int} (h : nat_give.f k l0 l1 = some r) :
    Does Tryz.prog 103 [.c (.own 0), .c (.d (L67 l1))] [(0, some (O67 .win l0))] (.tup []) none [(0, some (O67 .win r))] := by
  refine does_fn Tryz.func103 (by kernel_rfl) rfl rfl ?_
  unfold nat_give.f at h
  have ih := nat_give.w k
  exact Til.mid Tryz.func103 2 [] (fun _ f => f) (by kernel_rfl) (ih _ _ _ _ _ _ _ h)

def nat_digit.l0E (x0 : List Int) (x1 : List Int) (x5 : Int) (x7 : Int) (x8 : Int) : Env := [(0, .c (.own 0)), (1, .c (.d (L67 x1))), (5, .c (.d (.int .i64 x5))), (7, .c (.d (.int .u64 x7))), (8, .c (.d (.int .u64 x8)))]
def nat_digit.l0B (x0 : List Int) (x1 : List Int) (x5 : Int) (x7 : Int) (x8 : Int) : Obs := [(0, some (O67 .win x0))]
theorem nat_digit.w (k : Nat) : (∀ (l0 : List Int) (x0 : List Int) (x1 : List Int) (x5 : Int) (x7 : Int) (x8 : Int) (r : Int × List Int), nat_digit.l0 k x0 x1 x5 x7 x8 = some r → Til Tryz.prog 91 [(0, some (O67 .win l0))] (.c (.d (.int .u64 r.1))) none [(0, some (O67 .win r.2))] (at_ Tryz.f91 4) (nat_digit.l0E x0 x1 x5 x7 x8) (nat_digit.l0B x0 x1 x5 x7 x8)) := by
  induction k with
  | zero =>
    exact fun _ _ _ _ _ _ _ h => (by cases h)
  | succ k ih =>
    intro l0 x0 x1 x5 x7 x8 r h
    rw [nat_digit.l0] at h
    by_cases h0 : x7 ≥ 4294967296
    · rw [if_pos h0] at h
      obtain ⟨h1, h⟩ := ifp h
      obtain ⟨h2, h⟩ := ifp h
      by_cases h3 : (IntKind.u64.wrap (x8 + (rd x1 (wrap64 (x5 - 1))))) ≥ 4294967296
      · rw [if_pos h3] at h
        obtain ⟨⟨v36_0, v36_1⟩, h4, h⟩ := bnd h
        dsimp only at h
        obtain ⟨h5, h⟩ := ifp h
        cases v36_0
        · rw [if_neg (by decide)] at h
          obtain ⟨h6, h⟩ := ifp h
          obtain rfl := Option.some.inj h
          exact Til.fin Tryz.func91 [(1, .b true), (32, .b true), (36, .call [] [0] (.c (.d (.bool false))) none [(0, some (O67 .win v36_1))] [])] (fun _ f => o (decide_eq_true h0) (o (o h1 h2) (o (decide_eq_true h3) (o (nat_take.does h4) (o (o (rfl : (1 : Nat) = 1) h6) f))))) (by kernel_rfl)
        · rw [if_pos rfl] at h
          obtain ⟨h6, h⟩ := ifp h
          obtain ⟨v42, h7, h⟩ := bnd h
          obtain ⟨h8, h⟩ := ifp h
          obtain rfl := Option.some.inj h
          exact Til.fin Tryz.func91 [(1, .b true), (32, .b true), (36, .call [] [0] (.c (.d (.bool true))) none [(0, some (O67 .win v36_1))] []), (42, .call [] [0] (.tup []) none [(0, some (O67 .win v42))] [])] (fun _ f => o (decide_eq_true h0) (o (o h1 h2) (o (decide_eq_true h3) (o (nat_take.does h4) (o (o (rfl : (1 : Nat) = 1) h6) (o (nat_give.does h7) (o (o (rfl : (1 : Nat) = 1) h8) f))))))) (by kernel_rfl)
      · rw [if_neg h3] at h
        exact Til.mid Tryz.func91 4 [(1, .b true), (32, .b false)] (fun _ f => o (decide_eq_true h0) (o (o h1 h2) (o (decide_eq_false h3) f))) (by kernel_rfl) (ih _ _ _ _ _ _ _ h)
    · rw [if_neg h0] at h
      obtain ⟨h1, h⟩ := ifp h
      obtain ⟨h2, h⟩ := ifp h
      obtain ⟨h3, h⟩ := ifp h
      by_cases h4 : (IntKind.u64.wrap (x7 * (rd x1 (wrap64 (x5 - 2))))) > (Go.bits .or .u64 (IntKind.u64.wrap (x8 * 4294967296)) (rd x0 (wrap64 (x5 - 2))))
      · rw [if_pos h4] at h
        obtain ⟨h5, h⟩ := ifp h
        obtain ⟨h6, h⟩ := ifp h
        by_cases h7 : (IntKind.u64.wrap (x8 + (rd x1 (wrap64 (x5 - 1))))) ≥ 4294967296
        · rw [if_pos h7] at h
          obtain ⟨⟨v36_0, v36_1⟩, h8, h⟩ := bnd h
          dsimp only at h
          obtain ⟨h9, h⟩ := ifp h
          cases v36_0
          · rw [if_neg (by decide)] at h
            obtain ⟨h10, h⟩ := ifp h
            obtain rfl := Option.some.inj h
            exact Til.fin Tryz.func91 [(1, .b false), (18, .b true), (32, .b true), (36, .call [] [0] (.c (.d (.bool false))) none [(0, some (O67 .win v36_1))] [])] (fun _ f => o (decide_eq_false h0) (o (o h1 h2) (o (nn 32) (o (o h1 h3) (o (decide_eq_true h4) (o (o h5 h6) (o (decide_eq_true h7) (o (nat_take.does h8) (o (o (rfl : (1 : Nat) = 1) h10) f))))))))) (by kernel_rfl)
          · rw [if_pos rfl] at h
            obtain ⟨h10, h⟩ := ifp h
            obtain ⟨v42, h11, h⟩ := bnd h
            obtain ⟨h12, h⟩ := ifp h
            obtain rfl := Option.some.inj h
            exact Til.fin Tryz.func91 [(1, .b false), (18, .b true), (32, .b true), (36, .call [] [0] (.c (.d (.bool true))) none [(0, some (O67 .win v36_1))] []), (42, .call [] [0] (.tup []) none [(0, some (O67 .win v42))] [])] (fun _ f => o (decide_eq_false h0) (o (o h1 h2) (o (nn 32) (o (o h1 h3) (o (decide_eq_true h4) (o (o h5 h6) (o (decide_eq_true h7) (o (nat_take.does h8) (o (o (rfl : (1 : Nat) = 1) h10) (o (nat_give.does h11) (o (o (rfl : (1 : Nat) = 1) h12) f))))))))))) (by kernel_rfl)
        · rw [if_neg h7] at h
          exact Til.mid Tryz.func91 4 [(1, .b false), (18, .b true), (32, .b false)] (fun _ f => o (decide_eq_false h0) (o (o h1 h2) (o (nn 32) (o (o h1 h3) (o (decide_eq_true h4) (o (o h5 h6) (o (decide_eq_false h7) f))))))) (by kernel_rfl) (ih _ _ _ _ _ _ _ h)
      · rw [if_neg h4] at h
        obtain ⟨⟨v23_0, v23_1⟩, h5, h⟩ := bnd h
        dsimp only at h
        obtain ⟨h6, h⟩ := ifp h
        cases v23_0
        · rw [if_neg (by decide)] at h
          obtain ⟨h7, h⟩ := ifp h
          obtain rfl := Option.some.inj h
          exact Til.fin Tryz.func91 [(1, .b false), (18, .b false), (23, .call [] [0] (.c (.d (.bool false))) none [(0, some (O67 .win v23_1))] [])] (fun _ f => o (decide_eq_false h0) (o (o h1 h2) (o (nn 32) (o (o h1 h3) (o (decide_eq_false h4) (o (nat_take.does h5) (o (o (rfl : (1 : Nat) = 1) h7) f))))))) (by kernel_rfl)
        · rw [if_pos rfl] at h
          obtain ⟨h7, h⟩ := ifp h
          obtain ⟨v29, h8, h⟩ := bnd h
          obtain ⟨h9, h⟩ := ifp h
          obtain rfl := Option.some.inj h
          exact Til.fin Tryz.func91 [(1, .b false), (18, .b false), (23, .call [] [0] (.c (.d (.bool true))) none [(0, some (O67 .win v23_1))] []), (29, .call [] [0] (.tup []) none [(0, some (O67 .win v29))] [])] (fun _ f => o (decide_eq_false h0) (o (o h1 h2) (o (nn 32) (o (o h1 h3) (o (decide_eq_false h4) (o (nat_take.does h5) (o (o (rfl : (1 : Nat) = 1) h7) (o (nat_give.does h8) (o (o (rfl : (1 : Nat) = 1) h9) f))))))))) (by kernel_rfl)
theorem nat_digit.does {k : Nat} {l0 : List Int} {l1 : List Int} {r : Int × List Int} (h : nat_digit.f k l0 l1 = some r) :
    Does Tryz.prog 91 [.c (.own 0), .c (.d (L67 l1))] [(0, some (O67 .win l0))] (.c (.d (.int .u64 r.1))) none [(0, some (O67 .win r.2))] := by
  refine does_fn Tryz.func91 (by kernel_rfl) rfl rfl ?_
  unfold nat_digit.f at h
  have ih := nat_digit.w k
  obtain ⟨h0, h⟩ := ifp h
  obtain ⟨h1, h⟩ := ifp h
  obtain ⟨h2, h⟩ := ifp h
  obtain ⟨h3, h⟩ := ifp h
  obtain ⟨h4, h⟩ := ifn h
  exact Til.mid Tryz.func91 4 [] (fun _ f => o (o (Int.natCast_nonneg l1.length) h0) (o (nn 32) (o (o h1 h2) (o (o h1 h3) (o h4 (o (o h1 h3) (o h4 f))))))) (by kernel_rfl) (ih _ _ _ _ _ _ _ h)

def nat_long.l0E (x6 : Int) (x7 : List Int) (x8 : List Int) (x9 : Int) (x10 : List Int) (x11 : Int) : Env := [(6, .c (.d (.int .i64 x6))), (7, .c (.d (L67 x7))), (8, .c (.own 8)), (9, .c (.d (.int .i64 x9))), (10, .c (.own 10)), (11, .c (.d (.int .i64 x11)))]
def nat_long.l0B (x6 : Int) (x7 : List Int) (x8 : List Int) (x9 : Int) (x10 : List Int) (x11 : Int) : Obs := [(8, some (O67 .own x8)), (10, some (O67 .own x10))]
theorem nat_long.w (k : Nat) : (∀  (x6 : Int) (x7 : List Int) (x8 : List Int) (x9 : Int) (x10 : List Int) (x11 : Int) (r : List Int × List Int), nat_long.l0 k x6 x7 x8 x9 x10 x11 = some r → Til Tryz.prog 77 [] (.tup [.c (.d (L67 r.1)), .c (.d (L67 r.2))]) none [] (at_ Tryz.f77 7) (nat_long.l0E x6 x7 x8 x9 x10 x11) (nat_long.l0B x6 x7 x8 x9 x10 x11)) := by
  induction k with
  | zero =>
    exact fun _ _ _ _ _ _ _ h => (by cases h)
  | succ k ih =>
    intro x6 x7 x8 x9 x10 x11 r h
    rw [nat_long.l0] at h
    by_cases h0 : x11 ≥ 0
    · rw [if_pos h0] at h
      obtain ⟨h1, h⟩ := ifp h
      obtain ⟨h2, h⟩ := ifp h
      obtain ⟨v12, h3, h⟩ := bnd h
      obtain ⟨h4, h⟩ := ifp h
      obtain ⟨h5, h⟩ := ifp h
      exact Til.mid Tryz.func77 7 [(1, .b true), (12, .call [] [0] (.c (.d (.int .u64 v12.1))) none [(0, some (O67 .win v12.2))] [(0, (x8.take ((x11 : Int).toNat) ++ v12.2 ++ x8.drop (((wrap64 ((wrap64 (x11 + x9)) + 1)) : Int).toNat)).length, enc c67 0 (x8.take ((x11 : Int).toNat) ++ v12.2 ++ x8.drop (((wrap64 ((wrap64 (x11 + x9)) + 1)) : Int).toNat))), (1000000, ((x8.drop ((x11 : Int).toNat)).take (((wrap64 ((wrap64 (x11 + x9)) + 1)) : Int).toNat - (x11 : Int).toNat)).length, enc c67 0 ((x8.drop ((x11 : Int).toNat)).take (((wrap64 ((wrap64 (x11 + x9)) + 1)) : Int).toNat - (x11 : Int).toNat)))]), (14, Z67 (x10.set ((x11 : Int).toNat) v12.1))] (fun _ f => o (decide_eq_true h0) (o (o h0 (o h1 h2)) (o (nat_digit.does h3) (o (backw_ok c67 0 1 x8 v12.2 h0 (Int.le_of_lt h1) h2 h4) (o (part_ok c67 0 x8 h0 (Int.le_of_lt h1) h2).2.2.2 (o (o h0 h5) (o (set_ok c67 0 (fun _ _ => rfl) x10 ((x11 : Int).toNat) v12.1 (lt_ok h0 h5)) f))))))) (by kernel_rfl) (ih _ _ _ _ _ _ _ h)
    · rw [if_neg h0] at h
      obtain ⟨v3, h1, h⟩ := bnd h
      obtain ⟨v5, h2, h⟩ := bnd h
      obtain ⟨v7, h3, h⟩ := bnd h
      obtain rfl := Option.some.inj h
      exact Til.fin Tryz.func77 [(1, .b false), (3, ca (.c (.d (L67 v3)))), (5, ca (.c (.d (L67 v5)))), (7, ca (.c (.d (L67 v7))))] (fun _ f => o (decide_eq_false h0) (o (nat_trim.does h1) (o (nat_trim.does h2) (o (nat_shr.does h3) f)))) (by kernel_rfl)
theorem nat_long.does {k : Nat} {l0 : List Int} {l1 : List Int} {r : List Int × List Int} (h : nat_long.f k l0 l1 = some r) :
    Does Tryz.prog 77 [.c (.d (L67 l0)), .c (.d (L67 l1))] [] (.tup [.c (.d (L67 r.1)), .c (.d (L67 r.2))]) none [] := by
  refine does_fn Tryz.func77 (by kernel_rfl) rfl rfl ?_
  unfold nat_long.f at h
  have ih := nat_long.w k
  obtain ⟨h0, h⟩ := ifp h
  obtain ⟨h1, h⟩ := ifp h
  obtain ⟨v9, h2, h⟩ := bnd h
  obtain ⟨v13, h3, h⟩ := bnd h
  obtain ⟨v17, h4, h⟩ := bnd h
  obtain ⟨h5, h⟩ := ifp h
  obtain ⟨h6, h⟩ := ifp h
  obtain ⟨h7, h⟩ := ifp h
  obtain ⟨h8, h⟩ := ifp h
  obtain ⟨h9, h⟩ := ifp h
  exact Til.mid Tryz.func77 7 [(9, ca (.c (.d (.int .i64 v9)))), (13, .call [] [] (.c (.own 0)) (some (O67 .own v13)) [] []), (17, .call [] [] (.c (.own 0)) (some (O67 .own v17)) [] []), (18, Z67 ([0, 0] : List Int)), (19, Z67 (v17 ++ ([0, 0] : List Int))), (23, Z67 ((v17 ++ ([0, 0] : List Int)).take (((wrap64 ((l0.length : Int) + 1)) : Int).toNat))), (32, Z67 (List.replicate (((wrap64 ((((v17 ++ ([0, 0] : List Int)).take (((wrap64 ((l0.length : Int) + 1)) : Int).toNat)).length : Int) - (v13.length : Int))) : Int).toNat) 0 : List Int))] (fun _ f => o (o h0 h1) (o (bits_LeadingZeros32.does h2) (o (nat_shl.does h3) (o (nat_shl.does h4) (o (lit_ok c67 0 ([0, 0] : List Int)) (o (app c67 0 v17 ([0, 0] : List Int) 8 17592186044416 (by decide) h5) (o (take_ok c67 0 (v17 ++ ([0, 0] : List Int)) h6 h7) (o (make_ok c67 0 [.int .u64 0] ⟨.refl _, trivial⟩ (wrap64 ((((v17 ++ ([0, 0] : List Int)).take (((wrap64 ((l0.length : Int) + 1)) : Int).toNat)).length : Int) - (v13.length : Int))) 8 35184372088832 (by decide) h8 h9) f)))))))) (by kernel_rfl) (ih _ _ _ _ _ _ _ h)

theorem nat_DivMod.does {k : Nat} {l0 : List Int} {l1 : List Int} {r : List Int × List Int × Int} (h : nat_DivMod.f k l0 l1 = some r) :
    Does Tryz.prog 61 [.c (.d (L67 l0)), .c (.d (L67 l1))] [] (.tup [.c (.d (L67 r.1)), .c (.d (L67 r.2.1)), .c (.d (.int .i64 r.2.2))]) none [] := by
  refine does_fn Tryz.func61 (by kernel_rfl) rfl rfl ?_
  unfold nat_DivMod.f at h
  obtain ⟨v4, h0, h⟩ := bnd h
  obtain ⟨v6, h1, h⟩ := bnd h
  by_cases h2 : (v6.length : Int) = 0
  · rw [if_pos h2] at h
    obtain rfl := Option.some.inj h
    exact Til.fin Tryz.func61 [(4, ca (.c (.d (L67 v4)))), (6, ca (.c (.d (L67 v6)))), (11, .b true)] (fun _ f => o (nat_Clean.does h0) (o (nat_Clean.does h1) (o (beq_iff_eq.2 h2) f))) (by kernel_rfl)
  · rw [if_neg h2] at h
    obtain ⟨v15, h3, h⟩ := bnd h
    by_cases h4 : v15 < 0
    · rw [if_pos h4] at h
      obtain rfl := Option.some.inj h
      exact Til.fin Tryz.func61 [(4, ca (.c (.d (L67 v4)))), (6, ca (.c (.d (L67 v6)))), (11, .b false), (15, ca (.c (.d (.int .i64 v15)))), (16, .b true)] (fun _ f => o (nat_Clean.does h0) (o (nat_Clean.does h1) (o (beq_false_of_ne h2) (o (nat_order.does h3) (o (decide_eq_true h4) f))))) (by kernel_rfl)
    · rw [if_neg h4] at h
      by_cases h5 : (v6.length : Int) = 1
      · rw [if_pos h5] at h
        obtain ⟨h6, h⟩ := ifp h
        obtain ⟨v26, h7, h⟩ := bnd h
        obtain ⟨v34, h8, h⟩ := bnd h
        obtain rfl := Option.some.inj h
        exact Til.fin Tryz.func61 [(4, ca (.c (.d (L67 v4)))), (6, ca (.c (.d (L67 v6)))), (11, .b false), (15, ca (.c (.d (.int .i64 v15)))), (16, .b false), (20, .b true), (26, ca (.tup [.c (.d (L67 v26.1)), .c (.d (.int .u64 v26.2))])), (34, ca (.c (.d (L67 v34))))] (fun _ f => o (nat_Clean.does h0) (o (nat_Clean.does h1) (o (beq_false_of_ne h2) (o (nat_order.does h3) (o (decide_eq_false h4) (o (beq_iff_eq.2 h5) (o (o (nn 0) h6) (o (nat_small.does h7) (o (nat_Of.does h8) f))))))))) (by kernel_rfl)
      · rw [if_neg h5] at h
        obtain ⟨v24, h6, h⟩ := bnd h
        obtain rfl := Option.some.inj h
        exact Til.fin Tryz.func61 [(4, ca (.c (.d (L67 v4)))), (6, ca (.c (.d (L67 v6)))), (11, .b false), (15, ca (.c (.d (.int .i64 v15)))), (16, .b false), (20, .b false), (24, ca (.tup [.c (.d (L67 v24.1)), .c (.d (L67 v24.2))]))] (fun _ f => o (nat_Clean.does h0) (o (nat_Clean.does h1) (o (beq_false_of_ne h2) (o (nat_order.does h3) (o (decide_eq_false h4) (o (beq_false_of_ne h5) (o (nat_long.does h6) f))))))) (by kernel_rfl)

theorem nat_rest.does {k : Nat} {l0 : List Int} {l1 : List Int} {r : List Int × List Int} (h : nat_rest.f k l0 l1 = some r) :
    Does Tryz.prog 75 [.c (.d (L67 l0)), .c (.d (L67 l1))] [] (.tup [.c (.d (L67 r.1)), .c (.d (L67 r.2))]) none [] := by
  refine does_fn Tryz.func75 (by kernel_rfl) rfl rfl ?_
  unfold nat_rest.f at h
  obtain ⟨v4, h0, h⟩ := bnd h
  obtain rfl := Option.some.inj h
  exact Til.fin Tryz.func75 [(4, ca (.tup [.c (.d (L67 v4.1)), .c (.d (L67 v4.2.1)), .c (.d (.int .i64 v4.2.2))]))] (fun _ f => o (nat_DivMod.does h0) f) (by kernel_rfl)

def nat_minus.l0E (x0 : List Int) (x1 : List Int) (x5 : List Int) (x6 : Int) (x13 : Int) (x14 : Int) : Env := [(0, .c (.d (L67 x0))), (1, .c (.d (L67 x1))), (5, .c (.own 5)), (6, .c (.d (.int .u64 x6))), (13, .c (.d (.int .i64 x13))), (14, .c (.d (.int .i64 x14)))]
def nat_minus.l0B (x0 : List Int) (x1 : List Int) (x5 : List Int) (x6 : Int) (x13 : Int) (x14 : Int) : Obs := [(5, some (O67 .own x5))]
theorem nat_minus.w (k : Nat) : (∀  (x0 : List Int) (x1 : List Int) (x5 : List Int) (x6 : Int) (x13 : Int) (x14 : Int) (r : List Int), nat_minus.l0 k x0 x1 x5 x6 x13 x14 = some r → Til Tryz.prog 76 [] (.c (.d (L67 r))) none [] (at_ Tryz.f76 4) (nat_minus.l0E x0 x1 x5 x6 x13 x14) (nat_minus.l0B x0 x1 x5 x6 x13 x14)) := by
  induction k with
  | zero =>
    exact fun _ _ _ _ _ _ _ h => (by cases h)
  | succ k ih =>
    intro x0 x1 x5 x6 x13 x14 r h
    rw [nat_minus.l0] at h
    by_cases h0 : x14 < x13
    · rw [if_pos h0] at h
      obtain ⟨h1, h⟩ := ifp h
      obtain ⟨h2, h⟩ := ifp h
      obtain ⟨v10, h3, h⟩ := bnd h
      obtain ⟨h4, h⟩ := ifp h
      exact Til.mid Tryz.func76 4 [(0, .b true), (10, ca (.c (.d (.int .u64 v10)))), (20, Z67 (x5.set ((x14 : Int).toNat) (Go.bits .and .u64 (IntKind.u64.wrap ((IntKind.u64.wrap ((IntKind.u64.wrap (4294967296 + (rd x0 x14))) - v10)) - x6)) 4294967295)))] (fun _ f => o (decide_eq_true h0) (o (o h1 h2) (o (nat_limb.does h3) (o (o h1 h4) (o (set_ok c67 0 (fun _ _ => rfl) x5 ((x14 : Int).toNat) (Go.bits .and .u64 (IntKind.u64.wrap ((IntKind.u64.wrap ((IntKind.u64.wrap (4294967296 + (rd x0 x14))) - v10)) - x6)) 4294967295) (lt_ok h1 h4)) (o (nn 32) f)))))) (by kernel_rfl) (ih _ _ _ _ _ _ _ h)
    · rw [if_neg h0] at h
      obtain ⟨v2, h1, h⟩ := bnd h
      obtain rfl := Option.some.inj h
      exact Til.fin Tryz.func76 [(0, .b false), (2, ca (.c (.d (L67 v2))))] (fun _ f => o (decide_eq_false h0) (o (nat_trim.does h1) f)) (by kernel_rfl)
theorem nat_minus.does {k : Nat} {l0 : List Int} {l1 : List Int} {r : List Int} (h : nat_minus.f k l0 l1 = some r) :
    Does Tryz.prog 76 [.c (.d (L67 l0)), .c (.d (L67 l1))] [] (.c (.d (L67 r))) none [] := by
  refine does_fn Tryz.func76 (by kernel_rfl) rfl rfl ?_
  unfold nat_minus.f at h
  have ih := nat_minus.w k
  obtain ⟨h0, h⟩ := ifp h
  exact Til.mid Tryz.func76 4 [(3, Z67 (List.replicate (((l0.length : Int) : Int).toNat) 0 : List Int))] (fun _ f => o (make_ok c67 0 [.int .u64 0] ⟨.refl _, trivial⟩ (l0.length : Int) 8 35184372088832 (by decide) (Int.natCast_nonneg l0.length) h0) f) (by kernel_rfl) (ih _ _ _ _ _ _ _ h)

def nat_Gcd.l0E (x0 : List Int) (x1 : List Int) (x5 : Int) (x6 : Int) : Env := [(0, .c (.d (L67 x0))), (1, .c (.d (L67 x1))), (5, .c (.d (.int .i64 x5))), (6, .c (.d (.int .i64 x6)))]
theorem nat_Gcd.w (k : Nat) : (∀  (x0 : List Int) (x1 : List Int) (x5 : Int) (x6 : Int) (r : List Int), nat_Gcd.l0 k x0 x1 x5 x6 = some r → Til Tryz.prog 60 [] (.c (.d (L67 r))) none [] (at_ Tryz.f60 10) (nat_Gcd.l0E x0 x1 x5 x6) []) := by
  induction k with
  | zero =>
    exact fun _ _ _ _ _ h => (by cases h)
  | succ k ih =>
    intro x0 x1 x5 x6 r h
    rw [nat_Gcd.l0] at h
    obtain ⟨v2, h0, h⟩ := bnd h
    by_cases h1 : v2 = 0
    · rw [if_pos h1] at h
      obtain ⟨v11, h2, h⟩ := bnd h
      obtain rfl := Option.some.inj h
      exact Til.fin Tryz.func60 [(2, ca (.c (.d (.int .i64 v2)))), (5, .b true), (11, .call [] [] (.c (.own 0)) (some (O67 .own v11)) [] [])] (fun _ f => o (nat_order.does h0) (o (beq_iff_eq.2 h1) (o (nat_shl.does h2) f))) (by kernel_rfl)
    · rw [if_neg h1] at h
      by_cases h2 : v2 < 0
      · rw [if_pos h2] at h
        by_cases h3 : (x1.length : Int) > (wrap64 ((x0.length : Int) + 1))
        · rw [if_pos h3] at h
          obtain ⟨v22, h4, h⟩ := bnd h
          by_cases h5 : (v22.2.length : Int) = 0
          · rw [if_pos h5] at h
            obtain ⟨v34, h6, h⟩ := bnd h
            obtain rfl := Option.some.inj h
            exact Til.fin Tryz.func60 [(2, ca (.c (.d (.int .i64 v2)))), (5, .b false), (8, .b true), (19, .b true), (22, ca (.tup [.c (.d (L67 v22.1)), .c (.d (L67 v22.2))])), (29, .b true), (34, .call [] [] (.c (.own 0)) (some (O67 .own v34)) [] [])] (fun _ f => o (nat_order.does h0) (o (beq_false_of_ne h1) (o (decide_eq_true h2) (o (decide_eq_true h3) (o (nat_rest.does h4) (o (beq_iff_eq.2 h5) (o (nat_shl.does h6) f))))))) (by kernel_rfl)
          · rw [if_neg h5] at h
            obtain ⟨v32, h6, h⟩ := bnd h
            obtain ⟨v33, h7, h⟩ := bnd h
            exact Til.mid Tryz.func60 10 [(2, ca (.c (.d (.int .i64 v2)))), (5, .b false), (8, .b true), (19, .b true), (22, ca (.tup [.c (.d (L67 v22.1)), .c (.d (L67 v22.2))])), (29, .b false), (32, ca (.c (.d (.int .i64 v32)))), (33, ca (.c (.d (L67 v33))))] (fun _ f => o (nat_order.does h0) (o (beq_false_of_ne h1) (o (decide_eq_true h2) (o (decide_eq_true h3) (o (nat_rest.does h4) (o (beq_false_of_ne h5) (o (nat_zeros.does h6) (o (nat_shr.does h7) f)))))))) (by kernel_rfl) (ih _ _ _ _ _ h)
        · rw [if_neg h3] at h
          obtain ⟨v22, h4, h⟩ := bnd h
          obtain ⟨v26, h5, h⟩ := bnd h
          obtain ⟨v27, h6, h⟩ := bnd h
          exact Til.mid Tryz.func60 10 [(2, ca (.c (.d (.int .i64 v2)))), (5, .b false), (8, .b true), (19, .b false), (22, ca (.c (.d (L67 v22)))), (26, ca (.c (.d (.int .i64 v26)))), (27, ca (.c (.d (L67 v27))))] (fun _ f => o (nat_order.does h0) (o (beq_false_of_ne h1) (o (decide_eq_true h2) (o (decide_eq_false h3) (o (nat_minus.does h4) (o (nat_zeros.does h5) (o (nat_shr.does h6) f))))))) (by kernel_rfl) (ih _ _ _ _ _ h)
      · rw [if_neg h2] at h
        by_cases h3 : (x0.length : Int) > (wrap64 ((x1.length : Int) + 1))
        · rw [if_pos h3] at h
          obtain ⟨v18, h4, h⟩ := bnd h
          by_cases h5 : (v18.2.length : Int) = 0
          · rw [if_pos h5] at h
            obtain ⟨v30, h6, h⟩ := bnd h
            obtain rfl := Option.some.inj h
            exact Til.fin Tryz.func60 [(2, ca (.c (.d (.int .i64 v2)))), (5, .b false), (8, .b false), (15, .b true), (18, ca (.tup [.c (.d (L67 v18.1)), .c (.d (L67 v18.2))])), (25, .b true), (30, .call [] [] (.c (.own 0)) (some (O67 .own v30)) [] [])] (fun _ f => o (nat_order.does h0) (o (beq_false_of_ne h1) (o (decide_eq_false h2) (o (decide_eq_true h3) (o (nat_rest.does h4) (o (beq_iff_eq.2 h5) (o (nat_shl.does h6) f))))))) (by kernel_rfl)
          · rw [if_neg h5] at h
            obtain ⟨v28, h6, h⟩ := bnd h
            obtain ⟨v29, h7, h⟩ := bnd h
            exact Til.mid Tryz.func60 10 [(2, ca (.c (.d (.int .i64 v2)))), (5, .b false), (8, .b false), (15, .b true), (18, ca (.tup [.c (.d (L67 v18.1)), .c (.d (L67 v18.2))])), (25, .b false), (28, ca (.c (.d (.int .i64 v28)))), (29, ca (.c (.d (L67 v29))))] (fun _ f => o (nat_order.does h0) (o (beq_false_of_ne h1) (o (decide_eq_false h2) (o (decide_eq_true h3) (o (nat_rest.does h4) (o (beq_false_of_ne h5) (o (nat_zeros.does h6) (o (nat_shr.does h7) f)))))))) (by kernel_rfl) (ih _ _ _ _ _ h)
        · rw [if_neg h3] at h
          obtain ⟨v18, h4, h⟩ := bnd h
          obtain ⟨v22, h5, h⟩ := bnd h
          obtain ⟨v23, h6, h⟩ := bnd h
          exact Til.mid Tryz.func60 10 [(2, ca (.c (.d (.int .i64 v2)))), (5, .b false), (8, .b false), (15, .b false), (18, ca (.c (.d (L67 v18)))), (22, ca (.c (.d (.int .i64 v22)))), (23, ca (.c (.d (L67 v23))))] (fun _ f => o (nat_order.does h0) (o (beq_false_of_ne h1) (o (decide_eq_false h2) (o (decide_eq_false h3) (o (nat_minus.does h4) (o (nat_zeros.does h5) (o (nat_shr.does h6) f))))))) (by kernel_rfl) (ih _ _ _ _ _ h)
theorem nat_Gcd.does {k : Nat} {l0 : List Int} {l1 : List Int} {r : List Int} (h : nat_Gcd.f k l0 l1 = some r) :
    Does Tryz.prog 60 [.c (.d (L67 l0)), .c (.d (L67 l1))] [] (.c (.d (L67 r))) none [] := by
  refine does_fn Tryz.func60 (by kernel_rfl) rfl rfl ?_
  unfold nat_Gcd.f at h
  have ih := nat_Gcd.w k
  obtain ⟨v2, h0, h⟩ := bnd h
  obtain ⟨v4, h1, h⟩ := bnd h
  by_cases h2 : (v2.length : Int) = 0
  · rw [if_pos h2] at h
    obtain rfl := Option.some.inj h
    exact Til.fin Tryz.func60 [(2, ca (.c (.d (L67 v2)))), (4, ca (.c (.d (L67 v4)))), (9, .b true)] (fun _ f => o (nat_Clean.does h0) (o (nat_Clean.does h1) (o (beq_iff_eq.2 h2) f))) (by kernel_rfl)
  · rw [if_neg h2] at h
    by_cases h3 : (v4.length : Int) = 0
    · rw [if_pos h3] at h
      obtain rfl := Option.some.inj h
      exact Til.fin Tryz.func60 [(2, ca (.c (.d (L67 v2)))), (4, ca (.c (.d (L67 v4)))), (9, .b false), (13, .b true)] (fun _ f => o (nat_Clean.does h0) (o (nat_Clean.does h1) (o (beq_false_of_ne h2) (o (beq_iff_eq.2 h3) f)))) (by kernel_rfl)
    · rw [if_neg h3] at h
      by_cases h4 : (v2.length : Int) ≤ 2
      · rw [if_pos h4] at h
        by_cases h5 : (v4.length : Int) ≤ 2
        · rw [if_pos h5] at h
          obtain ⟨v25, h6, h⟩ := bnd h
          obtain rfl := Option.some.inj h
          exact Til.fin Tryz.func60 [(2, ca (.c (.d (L67 v2)))), (4, ca (.c (.d (L67 v4)))), (9, .b false), (13, .b false), (17, .b true), (21, .b true), (25, ca (.c (.d (L67 v25))))] (fun _ f => o (nat_Clean.does h0) (o (nat_Clean.does h1) (o (beq_false_of_ne h2) (o (beq_false_of_ne h3) (o (decide_eq_true h4) (o (decide_eq_true h5) (o (nat_euclid.does h6) f))))))) (by kernel_rfl)
        · rw [if_neg h5] at h
          obtain ⟨v24, h6, h⟩ := bnd h
          obtain ⟨v26, h7, h⟩ := bnd h
          obtain ⟨v31, h8, h⟩ := bnd h
          obtain ⟨v34, h9, h⟩ := bnd h
          exact Til.mid Tryz.func60 10 [(2, ca (.c (.d (L67 v2)))), (4, ca (.c (.d (L67 v4)))), (9, .b false), (13, .b false), (17, .b true), (21, .b false), (24, ca (.c (.d (.int .i64 v24)))), (26, ca (.c (.d (.int .i64 v26)))), (31, ca (.c (.d (L67 v31)))), (34, ca (.c (.d (L67 v34))))] (fun _ f => o (nat_Clean.does h0) (o (nat_Clean.does h1) (o (beq_false_of_ne h2) (o (beq_false_of_ne h3) (o (decide_eq_true h4) (o (decide_eq_false h5) (o (nat_zeros.does h6) (o (nat_zeros.does h7) (o (nat_shr.does h8) (o (nat_shr.does h9) f)))))))))) (by kernel_rfl) (ih _ _ _ _ _ h)
      · rw [if_neg h4] at h
        obtain ⟨v24, h5, h⟩ := bnd h
        obtain ⟨v26, h6, h⟩ := bnd h
        obtain ⟨v31, h7, h⟩ := bnd h
        obtain ⟨v34, h8, h⟩ := bnd h
        exact Til.mid Tryz.func60 10 [(2, ca (.c (.d (L67 v2)))), (4, ca (.c (.d (L67 v4)))), (9, .b false), (13, .b false), (17, .b false), (24, ca (.c (.d (.int .i64 v24)))), (26, ca (.c (.d (.int .i64 v26)))), (31, ca (.c (.d (L67 v31)))), (34, ca (.c (.d (L67 v34))))] (fun _ f => o (nat_Clean.does h0) (o (nat_Clean.does h1) (o (beq_false_of_ne h2) (o (beq_false_of_ne h3) (o (decide_eq_false h4) (o (nat_zeros.does h5) (o (nat_zeros.does h6) (o (nat_shr.does h7) (o (nat_shr.does h8) f))))))))) (by kernel_rfl) (ih _ _ _ _ _ h)

theorem ratio_form.does {k : Nat} {a0_0 : Bool} {l0_1 : List Int} {l1 : List Int} {r : Bool × List Int × List Int} (h : ratio_form.f k a0_0 l0_1 l1 = some r) :
    Does Tryz.prog 48 [.agg [.d (.bool a0_0), .d (L67 l0_1)], .c (.d (L67 l1))] [] (.agg [.d (.bool r.1), .d (L67 r.2.1), .d (L67 r.2.2)]) none [] := by
  refine does_fn Tryz.func48 (by kernel_rfl) rfl rfl ?_
  unfold ratio_form.f at h
  by_cases h0 : (l0_1.length : Int) = 0
  · rw [if_pos h0] at h
    obtain ⟨v6, h1, h⟩ := bnd h
    obtain rfl := Option.some.inj h
    exact Til.fin Tryz.func48 [(5, .b true), (6, ca (.c (.d (L67 v6))))] (fun _ f => o (beq_iff_eq.2 h0) (o (nat_Of.does h1) f)) (by kernel_rfl)
  · rw [if_neg h0] at h
    obtain ⟨v9, h1, h⟩ := bnd h
    by_cases h2 : (v9.length : Int) = 1
    · rw [if_pos h2] at h
      obtain ⟨h3, h⟩ := ifp h
      by_cases h4 : (rd v9 0) = 1
      · rw [if_pos h4] at h
        obtain rfl := Option.some.inj h
        exact Til.fin Tryz.func48 [(5, .b false), (9, ca (.c (.d (L67 v9)))), (13, .b true), (18, .b true)] (fun _ f => o (beq_false_of_ne h0) (o (nat_Gcd.does h1) (o (beq_iff_eq.2 h2) (o (o (nn 0) h3) (o (beq_iff_eq.2 h4) f))))) (by kernel_rfl)
      · rw [if_neg h4] at h
        obtain ⟨v23, h5, h⟩ := bnd h
        obtain ⟨v33, h6, h⟩ := bnd h
        obtain rfl := Option.some.inj h
        exact Til.fin Tryz.func48 [(5, .b false), (9, ca (.c (.d (L67 v9)))), (13, .b true), (18, .b false), (23, ca (.tup [.c (.d (L67 v23.1)), .c (.d (L67 v23.2.1)), .c (.d (.int .i64 v23.2.2))])), (33, ca (.tup [.c (.d (L67 v33.1)), .c (.d (L67 v33.2.1)), .c (.d (.int .i64 v33.2.2))]))] (fun _ f => o (beq_false_of_ne h0) (o (nat_Gcd.does h1) (o (beq_iff_eq.2 h2) (o (o (nn 0) h3) (o (beq_false_of_ne h4) (o (nat_DivMod.does h5) (o (nat_DivMod.does h6) f))))))) (by kernel_rfl)
    · rw [if_neg h2] at h
      obtain ⟨v23, h3, h⟩ := bnd h
      obtain ⟨v33, h4, h⟩ := bnd h
      obtain rfl := Option.some.inj h
      exact Til.fin Tryz.func48 [(5, .b false), (9, ca (.c (.d (L67 v9)))), (13, .b false), (23, ca (.tup [.c (.d (L67 v23.1)), .c (.d (L67 v23.2.1)), .c (.d (.int .i64 v23.2.2))])), (33, ca (.tup [.c (.d (L67 v33.1)), .c (.d (L67 v33.2.1)), .c (.d (.int .i64 v33.2.2))]))] (fun _ f => o (beq_false_of_ne h0) (o (nat_Gcd.does h1) (o (beq_false_of_ne h2) (o (nat_DivMod.does h3) (o (nat_DivMod.does h4) f))))) (by kernel_rfl)

theorem whole_sign.does {a0 : Bool} {l1 : List Int} {r : Bool × List Int} (h : whole_sign.f a0 l1 = some r) :
    Does Tryz.prog 54 [.c (.d (.bool a0)), .c (.d (L67 l1))] [] (.agg [.d (.bool r.1), .d (L67 r.2)]) none [] := by
  refine does_fn Tryz.func54 (by kernel_rfl) rfl rfl ?_
  unfold whole_sign.f at h
  by_cases h0 : a0 = true
  · rw [if_pos h0] at h
    obtain rfl := Option.some.inj h
    exact Til.fin Tryz.func54 [(1, .b true)] (fun _ f => o h0 f) (by kernel_rfl)
  · rw [if_neg h0] at h
    obtain rfl := Option.some.inj h
    exact Til.fin Tryz.func54 [(1, .b false)] (fun _ f => o (Bool.eq_false_iff.2 h0) f) (by kernel_rfl)

theorem whole_Clean.does {k : Nat} {a0_0 : Bool} {l0_1 : List Int} {r : Bool × List Int} (h : whole_Clean.f k a0_0 l0_1 = some r) :
    Does Tryz.prog 49 [.agg [.d (.bool a0_0), .d (L67 l0_1)]] [] (.agg [.d (.bool r.1), .d (L67 r.2)]) none [] := by
  refine does_fn Tryz.func49 (by kernel_rfl) rfl rfl ?_
  unfold whole_Clean.f at h
  obtain ⟨v6, h0, h⟩ := bnd h
  obtain ⟨v7, h1, h⟩ := bnd h
  obtain rfl := Option.some.inj h
  exact Til.fin Tryz.func49 [(6, ca (.c (.d (L67 v6)))), (7, ca (.agg [.d (.bool v7.1), .d (L67 v7.2)]))] (fun _ f => o (nat_Clean.does h0) (o (whole_sign.does h1) f)) (by kernel_rfl)

theorem ratio_Clean.does {k : Nat} {a0_0 : Bool} {l0_1 : List Int} {l0_2 : List Int} {r : Bool × List Int × List Int} (h : ratio_Clean.f k a0_0 l0_1 l0_2 = some r) :
    Does Tryz.prog 29 [.agg [.d (.bool a0_0), .d (L67 l0_1), .d (L67 l0_2)]] [] (.agg [.d (.bool r.1), .d (L67 r.2.1), .d (L67 r.2.2)]) none [] := by
  refine does_fn Tryz.func29 (by kernel_rfl) rfl rfl ?_
  unfold ratio_Clean.f at h
  obtain ⟨v4, h0, h⟩ := bnd h
  by_cases h1 : (v4.length : Int) = 0
  · rw [if_pos h1] at h
    obtain ⟨v9, h2, h⟩ := bnd h
    obtain rfl := Option.some.inj h
    exact Til.fin Tryz.func29 [(4, ca (.c (.d (L67 v4)))), (8, .b true), (9, ca (.agg [.d (.bool v9.1), .d (L67 v9.2.1), .d (L67 v9.2.2)]))] (fun _ f => o (nat_Clean.does h0) (o (beq_iff_eq.2 h1) (o (ratio_Zero.does h2) f))) (by kernel_rfl)
  · rw [if_neg h1] at h
    obtain ⟨v11, h2, h⟩ := bnd h
    obtain ⟨v13, h3, h⟩ := bnd h
    obtain rfl := Option.some.inj h
    exact Til.fin Tryz.func29 [(4, ca (.c (.d (L67 v4)))), (8, .b false), (11, ca (.agg [.d (.bool v11.1), .d (L67 v11.2)])), (13, ca (.agg [.d (.bool v13.1), .d (L67 v13.2.1), .d (L67 v13.2.2)]))] (fun _ f => o (nat_Clean.does h0) (o (beq_false_of_ne h1) (o (whole_Clean.does h2) (o (ratio_form.does h3) f)))) (by kernel_rfl)

def c5 (x : Int) : List Dat := [.int .u8 x]
def L5 (xs : List Int) : Dat := fr 1 c5 0 xs
def Z5 (xs : List Int) : Sup := .r xs.length (enc c5 0 xs)
def O5 (k : RK) (xs : List Int) : Ob := .row k 5 1 xs.length (enc c5 0 xs)

def nat_nine.l0E (x0 : Int) (x3 : List Int) (x4 : Int) : Env := [(0, .c (.d (.int .u64 x0))), (3, .c (.own 3)), (4, .c (.d (.int .i64 x4)))]
def nat_nine.l0B (x0 : Int) (x3 : List Int) (x4 : Int) : Obs := [(3, some (O5 .own x3))]
theorem nat_nine.w (k : Nat) : (∀  (x0 : Int) (x3 : List Int) (x4 : Int) (r : List Int), nat_nine.l0 k x0 x3 x4 = some r → Til Tryz.prog 53 [] (.c (.d (L5 r))) none [] (at_ Tryz.f53 3) (nat_nine.l0E x0 x3 x4) (nat_nine.l0B x0 x3 x4)) := by
  induction k with
  | zero =>
    exact fun _ _ _ _ h => (by cases h)
  | succ k ih =>
    intro x0 x3 x4 r h
    rw [nat_nine.l0] at h
    by_cases h0 : x4 ≥ 0
    · rw [if_pos h0] at h
      obtain ⟨h1, h⟩ := ifp h
      exact Til.mid Tryz.func53 3 [(1, .b true), (9, Z5 (x3.set ((x4 : Int).toNat) (IntKind.u8.wrap ((IntKind.u64.wrap (48 + (Int.tmod x0 10)))))))] (fun _ f => o (decide_eq_true h0) (o (by decide : ¬ (10 : Int) = 0) (o (o h0 h1) (o (set_ok c5 0 (fun _ _ => rfl) x3 ((x4 : Int).toNat) (IntKind.u8.wrap ((IntKind.u64.wrap (48 + (Int.tmod x0 10))))) (lt_ok h0 h1)) (o (by decide : ¬ (10 : Int) = 0) f))))) (by kernel_rfl) (ih _ _ _ _ h)
    · rw [if_neg h0] at h
      obtain rfl := Option.some.inj h
      exact Til.fin Tryz.func53 [(1, .b false)] (fun _ f => o (decide_eq_false h0) f) (by kernel_rfl)
theorem nat_nine.does {k : Nat} {a0 : Int} {r : List Int} (h : nat_nine.f k a0 = some r) :
    Does Tryz.prog 53 [.c (.d (.int .u64 a0))] [] (.c (.d (L5 r))) none [] := by
  refine does_fn Tryz.func53 (by kernel_rfl) rfl rfl ?_
  unfold nat_nine.f at h
  have ih := nat_nine.w k
  exact Til.mid Tryz.func53 3 [(1, Z5 (List.replicate 9 0 : List Int))] (fun _ f => o (make_ok c5 0 [.int .u8 0] ⟨.refl _, trivial⟩ 9 1 281474976710656 (by decide) (nn 9) (by decide)) f) (by kernel_rfl) (ih _ _ _ _ h)

def nat_Print.l0E (x0 : List Int) (x3 : List Int) : Env := [(0, .c (.d (L67 x0))), (3, .c (.own 3))]
def nat_Print.l0B (x0 : List Int) (x3 : List Int) : Obs := [(3, some (O67 .own x3))]
def nat_Print.l1E (x3 : List Int) (x5 : List Int) (x6 : Int) : Env := [(3, .c (.own 3)), (5, .c (.own 5)), (6, .c (.d (.int .i64 x6)))]
def nat_Print.l1B (x3 : List Int) (x5 : List Int) (x6 : Int) : Obs := [(3, some (O67 .own x3)), (5, some (O5 .own x5))]
def nat_Print.l2E (x5 : List Int) (x7 : Int) : Env := [(5, .c (.own 5)), (7, .c (.d (.int .i64 x7)))]
def nat_Print.l2B (x5 : List Int) (x7 : Int) : Obs := [(5, some (O5 .own x5))]
theorem nat_Print.w (k : Nat) : (∀  (x0 : List Int) (x3 : List Int) (r : ByteArray), nat_Print.l0 k x0 x3 = some r → Til Tryz.prog 33 [] (.c (.d (.str r))) none [] (at_ Tryz.f33 5) (nat_Print.l0E x0 x3) (nat_Print.l0B x0 x3)) ∧
    (∀  (x3 : List Int) (x5 : List Int) (x6 : Int) (r : ByteArray), nat_Print.l1 k x3 x5 x6 = some r → Til Tryz.prog 33 [] (.c (.d (.str r))) none [] (at_ Tryz.f33 11) (nat_Print.l1E x3 x5 x6) (nat_Print.l1B x3 x5 x6)) ∧
    (∀  (x5 : List Int) (x7 : Int) (r : ByteArray), nat_Print.l2 k x5 x7 = some r → Til Tryz.prog 33 [] (.c (.d (.str r))) none [] (at_ Tryz.f33 15) (nat_Print.l2E x5 x7) (nat_Print.l2B x5 x7)) := by
  induction k with
  | zero =>
    exact ⟨fun _ _ _ h => (by cases h), fun _ _ _ _ h => (by cases h), fun _ _ _ h => (by cases h)⟩
  | succ k ih =>
    refine ⟨?_, ?_, ?_⟩
    · intro x0 x3 r h
      rw [nat_Print.l0] at h
      by_cases h0 : (x0.length : Int) > 0
      · rw [if_pos h0] at h
        obtain ⟨v5, h1, h⟩ := bnd h
        obtain ⟨h2, h⟩ := ifp h
        exact Til.mid Tryz.func33 5 [(2, .b true), (5, ca (.tup [.c (.d (L67 v5.1)), .c (.d (.int .u64 v5.2))])), (13, Z67 ([v5.2] : List Int)), (14, Z67 (x3 ++ [v5.2]))] (fun _ f => o (decide_eq_true h0) (o (nat_small.does h1) (o (lit_ok c67 0 ([v5.2] : List Int)) (o (app1 c67 0 x3 v5.2 8 17592186044416 (by decide) h2) f)))) (by kernel_rfl) (ih.1 _ _ _ h)
      · rw [if_neg h0] at h
        exact Til.mid Tryz.func33 11 [(2, .b false)] (fun _ f => o (decide_eq_false h0) f) (by kernel_rfl) (ih.2.1 _ _ _ _ h)
    · intro x3 x5 x6 r h
      rw [nat_Print.l1] at h
      by_cases h0 : x6 ≥ 0
      · rw [if_pos h0] at h
        obtain ⟨h1, h⟩ := ifp h
        obtain ⟨v7, h2, h⟩ := bnd h
        obtain ⟨h3, h⟩ := ifp h
        exact Til.mid Tryz.func33 11 [(1, .b true), (7, ca (.c (.d (L5 v7)))), (8, Z5 (x5 ++ v7))] (fun _ f => o (decide_eq_true h0) (o (o h0 h1) (o (nat_nine.does h2) (o (app c5 0 x5 v7 1 140737488355328 (by decide) h3) f)))) (by kernel_rfl) (ih.2.1 _ _ _ _ h)
      · rw [if_neg h0] at h
        exact Til.mid Tryz.func33 15 [(1, .b false)] (fun _ f => o (decide_eq_false h0) f) (by kernel_rfl) (ih.2.2 _ _ _ h)
    · intro x5 x7 r h
      rw [nat_Print.l2] at h
      obtain ⟨h0, h⟩ := ifp h
      obtain ⟨h1, h⟩ := ifp h
      by_cases h2 : (rd x5 x7) = 48
      · rw [if_pos h2] at h
        exact Til.mid Tryz.func33 15 [(4, .b true)] (fun _ f => o (o h0 h1) (o (beq_iff_eq.2 h2) f)) (by kernel_rfl) (ih.2.2 _ _ _ h)
      · rw [if_neg h2] at h
        obtain ⟨h3, h⟩ := ifp h
        obtain rfl := Option.some.inj h
        exact Til.fin Tryz.func33 [(4, .b false), (8, .v (.c (.d (.str (ofBytes (x5.drop ((x7 : Int).toNat)))))))] (fun _ f => o (o h0 h1) (o (beq_false_of_ne h2) (o (o h0 h1) (o (strd_ok c5 x5 (fun _ => rfl) x7 h0 h1 h3) (o (Eq.refl (TV.c (.d (.str (ofBytes (x5.drop ((x7 : Int).toNat))))))) f))))) (by kernel_rfl)
theorem nat_Print.does {k : Nat} {l0 : List Int} {r : ByteArray} (h : nat_Print.f k l0 = some r) :
    Does Tryz.prog 33 [.c (.d (L67 l0))] [] (.c (.d (.str r))) none [] := by
  refine does_fn Tryz.func33 (by kernel_rfl) rfl rfl ?_
  unfold nat_Print.f at h
  have ih := nat_Print.w k
  obtain ⟨v2, h0, h⟩ := bnd h
  by_cases h1 : (v2.length : Int) = 0
  · rw [if_pos h1] at h
    obtain rfl := Option.some.inj h
    exact Til.fin Tryz.func33 [(2, ca (.c (.d (L67 v2)))), (6, .b true)] (fun _ f => o (nat_Clean.does h0) (o (beq_iff_eq.2 h1) f)) (by kernel_rfl)
  · rw [if_neg h1] at h
    exact Til.mid Tryz.func33 5 [(2, ca (.c (.d (L67 v2)))), (6, .b false)] (fun _ f => o (nat_Clean.does h0) (o (beq_false_of_ne h1) f)) (by kernel_rfl) (ih.1 _ _ _ h)

theorem whole_Print.does {k : Nat} {a0_0 : Bool} {l0_1 : List Int} {r : ByteArray} (h : whole_Print.f k a0_0 l0_1 = some r) :
    Does Tryz.prog 30 [.agg [.d (.bool a0_0), .d (L67 l0_1)]] [] (.c (.d (.str r))) none [] := by
  refine does_fn Tryz.func30 (by kernel_rfl) rfl rfl ?_
  unfold whole_Print.f at h
  obtain ⟨v3, h0, h⟩ := bnd h
  by_cases h1 : v3.1 = true
  · rw [if_pos h1] at h
    obtain ⟨v9, h2, h⟩ := bnd h
    obtain ⟨h3, h⟩ := ifp h
    obtain rfl := Option.some.inj h
    exact Til.fin Tryz.func30 [(3, ca (.agg [.d (.bool v3.1), .d (L67 v3.2)])), (6, .b true), (9, ca (.c (.d (.str v9))))] (fun _ f => o (whole_Clean.does h0) (o h1 (o (nat_Print.does h2) (o h3 f)))) (by kernel_rfl)
  · rw [if_neg h1] at h
    obtain ⟨v9, h2, h⟩ := bnd h
    obtain rfl := Option.some.inj h
    exact Til.fin Tryz.func30 [(3, ca (.agg [.d (.bool v3.1), .d (L67 v3.2)])), (6, .b false), (9, ca (.c (.d (.str v9))))] (fun _ f => o (whole_Clean.does h0) (o (Bool.eq_false_iff.2 h1) (o (nat_Print.does h2) f))) (by kernel_rfl)

theorem nat_Cmp.does {k : Nat} {l0 : List Int} {l1 : List Int} {r : Int} (h : nat_Cmp.f k l0 l1 = some r) :
    Does Tryz.prog 31 [.c (.d (L67 l0)), .c (.d (L67 l1))] [] (.c (.d (.int .i64 r))) none [] := by
  refine does_fn Tryz.func31 (by kernel_rfl) rfl rfl ?_
  unfold nat_Cmp.f at h
  obtain ⟨v2, h0, h⟩ := bnd h
  obtain ⟨v4, h1, h⟩ := bnd h
  obtain ⟨v5, h2, h⟩ := bnd h
  obtain rfl := Option.some.inj h
  exact Til.fin Tryz.func31 [(2, ca (.c (.d (L67 v2)))), (4, ca (.c (.d (L67 v4)))), (5, ca (.c (.d (.int .i64 v5))))] (fun _ f => o (nat_Clean.does h0) (o (nat_Clean.does h1) (o (nat_order.does h2) f))) (by kernel_rfl)

theorem ratio_Print.does {k : Nat} {a0_0 : Bool} {l0_1 : List Int} {l0_2 : List Int} {r : ByteArray} (h : ratio_Print.f k a0_0 l0_1 l0_2 = some r) :
    Does Tryz.prog 15 [.agg [.d (.bool a0_0), .d (L67 l0_1), .d (L67 l0_2)]] [] (.c (.d (.str r))) none [] := by
  refine does_fn Tryz.func15 (by kernel_rfl) rfl rfl ?_
  unfold ratio_Print.f at h
  obtain ⟨v3, h0, h⟩ := bnd h
  obtain ⟨v7, h1, h⟩ := bnd h
  obtain ⟨v11, h2, h⟩ := bnd h
  obtain ⟨v12, h3, h⟩ := bnd h
  by_cases h4 : v12 = 0
  · rw [if_pos h4] at h
    obtain rfl := Option.some.inj h
    exact Til.fin Tryz.func15 [(3, ca (.agg [.d (.bool v3.1), .d (L67 v3.2.1), .d (L67 v3.2.2)])), (7, ca (.c (.d (.str v7)))), (11, ca (.c (.d (L67 v11)))), (12, ca (.c (.d (.int .i64 v12)))), (13, .b true)] (fun _ f => o (ratio_Clean.does h0) (o (whole_Print.does h1) (o (nat_Of.does h2) (o (nat_Cmp.does h3) (o (beq_iff_eq.2 h4) f))))) (by kernel_rfl)
  · rw [if_neg h4] at h
    obtain ⟨h5, h⟩ := ifp h
    obtain ⟨v18, h6, h⟩ := bnd h
    obtain ⟨h7, h⟩ := ifp h
    obtain rfl := Option.some.inj h
    exact Til.fin Tryz.func15 [(3, ca (.agg [.d (.bool v3.1), .d (L67 v3.2.1), .d (L67 v3.2.2)])), (7, ca (.c (.d (.str v7)))), (11, ca (.c (.d (L67 v11)))), (12, ca (.c (.d (.int .i64 v12)))), (13, .b false), (18, ca (.c (.d (.str v18))))] (fun _ f => o (ratio_Clean.does h0) (o (whole_Print.does h1) (o (nat_Of.does h2) (o (nat_Cmp.does h3) (o (beq_false_of_ne h4) (o h5 (o (nat_Print.does h6) (o h7 f)))))))) (by kernel_rfl)

theorem rows_Print.does {k : Nat} {a0_0 : Bool} {a0_1 : Bool} {l0_2 : List Int} {l0_3 : List Int} {r : ByteArray} (h : rows_Print.f k a0_0 a0_1 l0_2 l0_3 = some r) :
    Does Tryz.prog 35 [.agg [.d (.bool a0_0), .d (.bool a0_1), .d (L67 l0_2), .d (L67 l0_3)]] [] (.c (.d (.str r))) none [] := by
  refine does_fn Tryz.func35 (by kernel_rfl) rfl rfl ?_
  unfold rows_Print.f at h
  by_cases h0 : a0_0 = true
  · rw [if_pos h0] at h
    obtain rfl := Option.some.inj h
    exact Til.fin Tryz.func35 [(3, .b true)] (fun _ f => o h0 f) (by kernel_rfl)
  · rw [if_neg h0] at h
    obtain ⟨v6, h1, h⟩ := bnd h
    obtain rfl := Option.some.inj h
    exact Til.fin Tryz.func35 [(3, .b false), (6, ca (.c (.d (.str v6))))] (fun _ f => o (Bool.eq_false_iff.2 h0) (o (ratio_Print.does h1) f)) (by kernel_rfl)

def c53 (x : Bool × Bool × List Int × List Int) : List Dat := [.bool x.1, .bool x.2.1, L67 x.2.2.1, L67 x.2.2.2]
def L53 (xs : List (Bool × Bool × List Int × List Int)) : Dat := fr 4 c53 (false, false, [], []) xs
def Z53 (xs : List (Bool × Bool × List Int × List Int)) : Sup := .r xs.length (enc c53 (false, false, [], []) xs)
def O53 (k : RK) (xs : List (Bool × Bool × List Int × List Int)) : Ob := .row k 53 4 xs.length (enc c53 (false, false, [], []) xs)

def c9 (x : ByteArray) : List Dat := [.str x]
def L9 (xs : List ByteArray) : Dat := fr 1 c9 ByteArray.empty xs
def Z9 (xs : List ByteArray) : Sup := .r xs.length (enc c9 ByteArray.empty xs)
def O9 (k : RK) (xs : List ByteArray) : Ob := .row k 9 1 xs.length (enc c9 ByteArray.empty xs)

def rows_Write.l0E (x3 : List ByteArray) (x6 : List (Bool × Bool × List Int × List Int)) (x7 : Int) (x8 : Int) : Env := [(3, .c (.own 3)), (6, .c (.d (L53 x6))), (7, .c (.d (.int .i64 x7))), (8, .c (.d (.int .i64 x8)))]
def rows_Write.l0B (x3 : List ByteArray) (x6 : List (Bool × Bool × List Int × List Int)) (x7 : Int) (x8 : Int) : Obs := [(3, some (O9 .own x3))]
theorem rows_Write.w (k : Nat) : (∀  (x3 : List ByteArray) (x6 : List (Bool × Bool × List Int × List Int)) (x7 : Int) (x8 : Int) (r : ByteArray), rows_Write.l0 k x3 x6 x7 x8 = some r → Til Tryz.prog 18 [] (.c (.d (.str r))) none [] (at_ Tryz.f18 3) (rows_Write.l0E x3 x6 x7 x8) (rows_Write.l0B x3 x6 x7 x8)) := by
  induction k with
  | zero =>
    exact fun _ _ _ _ _ h => (by cases h)
  | succ k ih =>
    intro x3 x6 x7 x8 r h
    rw [rows_Write.l0] at h
    by_cases h0 : x8 < x7
    · rw [if_pos h0] at h
      obtain ⟨h1, h⟩ := ifp h
      obtain ⟨h2, h⟩ := ifp h
      obtain ⟨v7, h3, h⟩ := bnd h
      obtain ⟨h4, h⟩ := ifp h
      exact Til.mid Tryz.func18 3 [(0, .b true), (7, ca (.c (.d (.str v7)))), (8, Z9 ([v7] : List ByteArray)), (9, Z9 (x3 ++ [v7]))] (fun _ f => o (decide_eq_true h0) (o (o h1 h2) (o (rows_Print.does h3) (o (lit_ok c9 ByteArray.empty ([v7] : List ByteArray)) (o (app1 c9 ByteArray.empty x3 v7 16 8796093022208 (by decide) h4) f))))) (by kernel_rfl) (ih _ _ _ _ _ h)
    · rw [if_neg h0] at h
      obtain ⟨v2, h1, h⟩ := bnd h
      obtain rfl := Option.some.inj h
      exact Til.fin Tryz.func18 [(0, .b false), (2, ca (.c (.d (.str v2))))] (fun _ f => o (decide_eq_false h0) (o (strings_Join.does h1) f)) (by kernel_rfl)
theorem rows_Write.does {k : Nat} {l0 : List (Bool × Bool × List Int × List Int)} {r : ByteArray} (h : rows_Write.f k l0 = some r) :
    Does Tryz.prog 18 [.c (.d (L53 l0))] [] (.c (.d (.str r))) none [] := by
  refine does_fn Tryz.func18 (by kernel_rfl) rfl rfl ?_
  unfold rows_Write.f at h
  have ih := rows_Write.w k
  exact Til.mid Tryz.func18 3 [] (fun _ f => f) (by kernel_rfl) (ih _ _ _ _ _ h)

theorem whole_Of.does {k : Nat} {a0 : Int} {r : Bool × List Int} (h : whole_Of.f k a0 = some r) :
    Does Tryz.prog 34 [.c (.d (.int .i64 a0))] [] (.agg [.d (.bool r.1), .d (L67 r.2)]) none [] := by
  refine does_fn Tryz.func34 (by kernel_rfl) rfl rfl ?_
  unfold whole_Of.f at h
  by_cases h0 : a0 < 0
  · rw [if_pos h0] at h
    obtain ⟨v6, h1, h⟩ := bnd h
    obtain ⟨v7, h2, h⟩ := bnd h
    obtain rfl := Option.some.inj h
    exact Til.fin Tryz.func34 [(2, .b true), (6, ca (.c (.d (L67 v6)))), (7, ca (.agg [.d (.bool v7.1), .d (L67 v7.2)]))] (fun _ f => o (decide_eq_true h0) (o (nat_Of.does h1) (o (whole_sign.does h2) f))) (by kernel_rfl)
  · rw [if_neg h0] at h
    obtain ⟨v5, h1, h⟩ := bnd h
    obtain ⟨v6, h2, h⟩ := bnd h
    obtain rfl := Option.some.inj h
    exact Til.fin Tryz.func34 [(2, .b false), (5, ca (.c (.d (L67 v5)))), (6, ca (.agg [.d (.bool v6.1), .d (L67 v6.2)]))] (fun _ f => o (decide_eq_false h0) (o (nat_Of.does h1) (o (whole_sign.does h2) f))) (by kernel_rfl)

theorem ratio_Of.does {k : Nat} {a0 : Int} {r : Bool × List Int × List Int} (h : ratio_Of.f k a0 = some r) :
    Does Tryz.prog 16 [.c (.d (.int .i64 a0))] [] (.agg [.d (.bool r.1), .d (L67 r.2.1), .d (L67 r.2.2)]) none [] := by
  refine does_fn Tryz.func16 (by kernel_rfl) rfl rfl ?_
  unfold ratio_Of.f at h
  obtain ⟨v2, h0, h⟩ := bnd h
  obtain ⟨v3, h1, h⟩ := bnd h
  obtain rfl := Option.some.inj h
  exact Til.fin Tryz.func16 [(2, ca (.agg [.d (.bool v2.1), .d (L67 v2.2)])), (3, ca (.c (.d (L67 v3))))] (fun _ f => o (whole_Of.does h0) (o (nat_Of.does h1) f)) (by kernel_rfl)

def c22 (x : List (Bool × Bool × List Int × List Int)) : List Dat := [L53 x]
def L22 (xs : List (List (Bool × Bool × List Int × List Int))) : Dat := fr 1 c22 [] xs
def Z22 (xs : List (List (Bool × Bool × List Int × List Int))) : Sup := .r xs.length (enc c22 [] xs)
def O22 (k : RK) (xs : List (List (Bool × Bool × List Int × List Int))) : Ob := .row k 22 1 xs.length (enc c22 [] xs)

theorem ask_Write.does {k : Nat} {a0_0 : Int} {a0_1 : Int} {l0_2 : List (Bool × Bool × List Int × List Int)} {l0_3 : List (List (Bool × Bool × List Int × List Int))} {l0_4 : List (Bool × Bool × List Int × List Int)} {r : ByteArray × Int} (h : ask_Write.f k a0_0 a0_1 l0_2 l0_3 l0_4 = some r) :
    Does Tryz.prog 6 [.agg [.d (.int .i64 a0_0), .d (.int .i64 a0_1), .d (L53 l0_2), .d (L22 l0_3), .d (L53 l0_4)]] [] (.tup [.c (.d (.str r.1)), .c (.d (.int .i64 r.2))]) none [] :=
  write_of k (fun h => ask_form.does h) (fun h => ask_word.does h) (fun h => rows_Write.does h) (fun h => ratio_Of.does h) (fun h => ratio_Print.does h) h

theorem lex_blank.does {a0 : Int} {r : Bool} (h : lex_blank.f a0 = some r) :
    Does Tryz.prog 39 [.c (.d (.int .u8 a0))] [] (.c (.d (.bool r))) none [] := by
  refine does_fn Tryz.func39 (by kernel_rfl) rfl rfl ?_
  unfold lex_blank.f at h
  by_cases h0 : a0 = 32
  · rw [if_pos h0] at h
    obtain rfl := Option.some.inj h
    exact Til.fin Tryz.func39 [(2, .b true)] (fun _ f => o (beq_iff_eq.2 h0) f) (by kernel_rfl)
  · rw [if_neg h0] at h
    by_cases h1 : a0 = 9
    · rw [if_pos h1] at h
      obtain rfl := Option.some.inj h
      exact Til.fin Tryz.func39 [(2, .b false), (5, .b true)] (fun _ f => o (beq_false_of_ne h0) (o (beq_iff_eq.2 h1) f)) (by kernel_rfl)
    · rw [if_neg h1] at h
      obtain rfl := Option.some.inj h
      exact Til.fin Tryz.func39 [(2, .b false), (5, .b false)] (fun _ f => o (beq_false_of_ne h0) (o (beq_false_of_ne h1) f)) (by kernel_rfl)

theorem lex_plain.does {a0 : Int} {r : Bool} (h : lex_plain.f a0 = some r) :
    Does Tryz.prog 40 [.c (.d (.int .u8 a0))] [] (.c (.d (.bool r))) none [] := by
  refine does_fn Tryz.func40 (by kernel_rfl) rfl rfl ?_
  unfold lex_plain.f at h
  by_cases h0 : a0 > 32
  · rw [if_pos h0] at h
    obtain rfl := Option.some.inj h
    exact Til.fin Tryz.func40 [(2, .b true)] (fun _ f => o (decide_eq_true h0) f) (by kernel_rfl)
  · rw [if_neg h0] at h
    obtain rfl := Option.some.inj h
    exact Til.fin Tryz.func40 [(2, .b false)] (fun _ f => o (decide_eq_false h0) f) (by kernel_rfl)

def c59 (x : Int × Int × ByteArray) : List Dat := [.int .i64 x.1, .int .i64 x.2.1, .str x.2.2]
def L59 (xs : List (Int × Int × ByteArray)) : Dat := fr 3 c59 (0, 0, ByteArray.empty) xs
def Z59 (xs : List (Int × Int × ByteArray)) : Sup := .r xs.length (enc c59 (0, 0, ByteArray.empty) xs)
def O59 (k : RK) (xs : List (Int × Int × ByteArray)) : Ob := .row k 59 3 xs.length (enc c59 (0, 0, ByteArray.empty) xs)

def lex_Words.l0E (x0 : ByteArray) (x5 : List (Int × Int × ByteArray)) (x6 : Int) : Env := [(0, .c (.d (.str x0))), (5, .c (.own 5)), (6, .c (.d (.int .i64 x6)))]
def lex_Words.l0B (x0 : ByteArray) (x5 : List (Int × Int × ByteArray)) (x6 : Int) : Obs := [(5, some (O59 .own x5))]
def lex_Words.l1E (x0 : ByteArray) (x5 : List (Int × Int × ByteArray)) (x6 : Int) (x8 : Int) : Env := [(0, .c (.d (.str x0))), (5, .c (.own 5)), (6, .c (.d (.int .i64 x6))), (8, .c (.d (.int .i64 x8)))]
def lex_Words.l1B (x0 : ByteArray) (x5 : List (Int × Int × ByteArray)) (x6 : Int) (x8 : Int) : Obs := [(5, some (O59 .own x5))]
theorem lex_Words.w (k : Nat) : (∀  (x0 : ByteArray) (x5 : List (Int × Int × ByteArray)) (x6 : Int) (r : List (Int × Int × ByteArray) × Int × Int), lex_Words.l0 k x0 x5 x6 = some r → Til Tryz.prog 20 [] (.tup [.c (.d (L59 r.1)), .c (.d (.int .i64 r.2.1)), .c (.d (.int .i64 r.2.2))]) none [] (at_ Tryz.f20 3) (lex_Words.l0E x0 x5 x6) (lex_Words.l0B x0 x5 x6)) ∧
    (∀  (x0 : ByteArray) (x5 : List (Int × Int × ByteArray)) (x6 : Int) (x8 : Int) (r : List (Int × Int × ByteArray) × Int × Int), lex_Words.l1 k x0 x5 x6 x8 = some r → Til Tryz.prog 20 [] (.tup [.c (.d (L59 r.1)), .c (.d (.int .i64 r.2.1)), .c (.d (.int .i64 r.2.2))]) none [] (at_ Tryz.f20 13) (lex_Words.l1E x0 x5 x6 x8) (lex_Words.l1B x0 x5 x6 x8)) := by
  induction k with
  | zero =>
    exact ⟨fun _ _ _ _ h => (by cases h), fun _ _ _ _ _ h => (by cases h)⟩
  | succ k ih =>
    refine ⟨?_, ?_⟩
    · intro x0 x5 x6 r h
      rw [lex_Words.l0] at h
      by_cases h0 : x6 < (x0.size : Int)
      · rw [if_pos h0] at h
        obtain ⟨h1, h⟩ := ifp h
        obtain ⟨v9, h2, h⟩ := bnd h
        cases v9
        · rw [if_neg (by decide)] at h
          by_cases h4 : (bt x0 x6) = 35
          · rw [if_pos h4] at h
            obtain rfl := Option.some.inj h
            exact Til.fin Tryz.func20 [(3, .b true), (9, ca (.c (.d (.bool false)))), (12, .b true)] (fun _ f => o (decide_eq_true h0) (o (o h1 h0) (o (lex_blank.does h2) (o (beq_iff_eq.2 h4) f)))) (by kernel_rfl)
          · rw [if_neg h4] at h
            obtain ⟨v15, h5, h⟩ := bnd h
            cases v15
            · rw [if_neg (by decide)] at h
              obtain rfl := Option.some.inj h
              exact Til.fin Tryz.func20 [(3, .b true), (9, ca (.c (.d (.bool false)))), (12, .b false), (15, ca (.c (.d (.bool false))))] (fun _ f => o (decide_eq_true h0) (o (o h1 h0) (o (lex_blank.does h2) (o (beq_false_of_ne h4) (o (lex_plain.does h5) f))))) (by kernel_rfl)
            · rw [if_pos rfl] at h
              by_cases h7 : (x5.length : Int) ≥ 4096
              · rw [if_pos h7] at h
                obtain rfl := Option.some.inj h
                exact Til.fin Tryz.func20 [(3, .b true), (9, ca (.c (.d (.bool false)))), (12, .b false), (15, ca (.c (.d (.bool true)))), (20, .b true)] (fun _ f => o (decide_eq_true h0) (o (o h1 h0) (o (lex_blank.does h2) (o (beq_false_of_ne h4) (o (lex_plain.does h5) (o (decide_eq_true h7) f)))))) (by kernel_rfl)
              · rw [if_neg h7] at h
                exact Til.mid Tryz.func20 13 [(3, .b true), (9, ca (.c (.d (.bool false)))), (12, .b false), (15, ca (.c (.d (.bool true)))), (20, .b false)] (fun _ f => o (decide_eq_true h0) (o (o h1 h0) (o (lex_blank.does h2) (o (beq_false_of_ne h4) (o (lex_plain.does h5) (o (decide_eq_false h7) f)))))) (by kernel_rfl) (ih.2 _ _ _ _ _ h)
        · rw [if_pos rfl] at h
          exact Til.mid Tryz.func20 3 [(3, .b true), (9, ca (.c (.d (.bool true))))] (fun _ f => o (decide_eq_true h0) (o (o h1 h0) (o (lex_blank.does h2) f))) (by kernel_rfl) (ih.1 _ _ _ _ h)
      · rw [if_neg h0] at h
        obtain rfl := Option.some.inj h
        exact Til.fin Tryz.func20 [(3, .b false)] (fun _ f => o (decide_eq_false h0) f) (by kernel_rfl)
    · intro x0 x5 x6 x8 r h
      rw [lex_Words.l1] at h
      by_cases h0 : x8 < (x0.size : Int)
      · rw [if_pos h0] at h
        obtain ⟨h1, h⟩ := ifp h
        obtain ⟨v8, h2, h⟩ := bnd h
        cases v8
        · rw [if_neg (by decide)] at h
          obtain ⟨h4, h⟩ := ifp h
          obtain ⟨h5, h⟩ := ifp h
          obtain ⟨h6, h⟩ := ifp h
          obtain ⟨h7, h⟩ := ifp h
          exact Til.mid Tryz.func20 3 [(3, .b true), (8, ca (.c (.d (.bool false)))), (23, Z59 ([(x6, 0, (x0.extract ((x6 : Int).toNat) ((x8 : Int).toNat)))] : List (Int × Int × ByteArray))), (24, Z59 (x5 ++ [(x6, 0, (x0.extract ((x6 : Int).toNat) ((x8 : Int).toNat)))]))] (fun _ f => o (decide_eq_true h0) (o (o h1 h0) (o (lex_plain.does h2) (o (o h4 (o h5 h6)) (o (lit_ok c59 (0, 0, ByteArray.empty) ([(x6, 0, (x0.extract ((x6 : Int).toNat) ((x8 : Int).toNat)))] : List (Int × Int × ByteArray))) (o (app1 c59 (0, 0, ByteArray.empty) x5 (x6, 0, (x0.extract ((x6 : Int).toNat) ((x8 : Int).toNat))) 32 4398046511104 (by decide) h7) f)))))) (by kernel_rfl) (ih.1 _ _ _ _ h)
        · rw [if_pos rfl] at h
          by_cases h4 : (bt x0 x8) ≠ 35
          · rw [if_pos h4] at h
            exact Til.mid Tryz.func20 13 [(3, .b true), (8, ca (.c (.d (.bool true)))), (14, .b true)] (fun _ f => o (decide_eq_true h0) (o (o h1 h0) (o (lex_plain.does h2) (o (o h1 h0) (o (bne_iff_ne.2 h4) f))))) (by kernel_rfl) (ih.2 _ _ _ _ _ h)
          · rw [if_neg h4] at h
            obtain ⟨h5, h⟩ := ifp h
            obtain ⟨h6, h⟩ := ifp h
            obtain ⟨h7, h⟩ := ifp h
            obtain ⟨h8, h⟩ := ifp h
            exact Til.mid Tryz.func20 3 [(3, .b true), (8, ca (.c (.d (.bool true)))), (14, .b false), (23, Z59 ([(x6, 0, (x0.extract ((x6 : Int).toNat) ((x8 : Int).toNat)))] : List (Int × Int × ByteArray))), (24, Z59 (x5 ++ [(x6, 0, (x0.extract ((x6 : Int).toNat) ((x8 : Int).toNat)))]))] (fun _ f => o (decide_eq_true h0) (o (o h1 h0) (o (lex_plain.does h2) (o (o h1 h0) (o (ne_f h4) (o (o h5 (o h6 h7)) (o (lit_ok c59 (0, 0, ByteArray.empty) ([(x6, 0, (x0.extract ((x6 : Int).toNat) ((x8 : Int).toNat)))] : List (Int × Int × ByteArray))) (o (app1 c59 (0, 0, ByteArray.empty) x5 (x6, 0, (x0.extract ((x6 : Int).toNat) ((x8 : Int).toNat))) 32 4398046511104 (by decide) h8) f)))))))) (by kernel_rfl) (ih.1 _ _ _ _ h)
      · rw [if_neg h0] at h
        obtain ⟨h1, h⟩ := ifp h
        obtain ⟨h2, h⟩ := ifp h
        obtain ⟨h3, h⟩ := ifp h
        obtain ⟨h4, h⟩ := ifp h
        exact Til.mid Tryz.func20 3 [(3, .b false), (23, Z59 ([(x6, 0, (x0.extract ((x6 : Int).toNat) ((x8 : Int).toNat)))] : List (Int × Int × ByteArray))), (24, Z59 (x5 ++ [(x6, 0, (x0.extract ((x6 : Int).toNat) ((x8 : Int).toNat)))]))] (fun _ f => o (decide_eq_false h0) (o (o h1 (o h2 h3)) (o (lit_ok c59 (0, 0, ByteArray.empty) ([(x6, 0, (x0.extract ((x6 : Int).toNat) ((x8 : Int).toNat)))] : List (Int × Int × ByteArray))) (o (app1 c59 (0, 0, ByteArray.empty) x5 (x6, 0, (x0.extract ((x6 : Int).toNat) ((x8 : Int).toNat))) 32 4398046511104 (by decide) h4) f)))) (by kernel_rfl) (ih.1 _ _ _ _ h)
theorem lex_Words.does {k : Nat} {a0 : ByteArray} {r : List (Int × Int × ByteArray) × Int × Int} (h : lex_Words.f k a0 = some r) :
    Does Tryz.prog 20 [.c (.d (.str a0))] [] (.tup [.c (.d (L59 r.1)), .c (.d (.int .i64 r.2.1)), .c (.d (.int .i64 r.2.2))]) none [] := by
  refine does_fn Tryz.func20 (by kernel_rfl) rfl rfl ?_
  unfold lex_Words.f at h
  have ih := lex_Words.w k
  exact Til.mid Tryz.func20 3 [] (fun _ f => f) (by kernel_rfl) (ih.1 _ _ _ _ h)

theorem ask_Kind.does {a0 : ByteArray} {r : Int} (h : ask_Kind.f a0 = some r) :
    Does Tryz.prog 21 [.c (.d (.str a0))] [] (.c (.d (.int .i64 r))) none [] := by
  obtain rfl := Option.some.inj h
  exact kind_of (fun k h1 h2 => ask_word.does (wd_word k h1 h2)) a0

def ask_number.l0E (x4 : Int) (x20 : List Int) (x21 : Int) (x22 : Int) : Env := [(4, .c (.d (.int .i64 x4))), (20, .c (.d (L5 x20))), (21, .c (.d (.int .i64 x21))), (22, .c (.d (.int .i64 x22)))]
theorem ask_number.w (k : Nat) : (∀  (x4 : Int) (x20 : List Int) (x21 : Int) (x22 : Int) (r : Int × Int), ask_number.l0 k x4 x20 x21 x22 = some r → Til Tryz.prog 41 [] (.tup [.c (.d (.int .i64 r.1)), .c (.d (.int .i64 r.2))]) none [] (at_ Tryz.f41 5) (ask_number.l0E x4 x20 x21 x22) []) := by
  induction k with
  | zero =>
    exact fun _ _ _ _ _ h => (by cases h)
  | succ k ih =>
    intro x4 x20 x21 x22 r h
    rw [ask_number.l0] at h
    by_cases h0 : x22 < x21
    · rw [if_pos h0] at h
      obtain ⟨h1, h⟩ := ifp h
      obtain ⟨h2, h⟩ := ifp h
      by_cases h3 : (rd x20 x22) < 48
      · rw [if_pos h3] at h
        obtain rfl := Option.some.inj h
        exact Til.fin Tryz.func41 [(0, .b true), (5, .b true)] (fun _ f => o (decide_eq_true h0) (o (o h1 h2) (o (decide_eq_true h3) f))) (by kernel_rfl)
      · rw [if_neg h3] at h
        by_cases h4 : (rd x20 x22) > 57
        · rw [if_pos h4] at h
          obtain rfl := Option.some.inj h
          exact Til.fin Tryz.func41 [(0, .b true), (5, .b false), (8, .b true)] (fun _ f => o (decide_eq_true h0) (o (o h1 h2) (o (decide_eq_false h3) (o (decide_eq_true h4) f)))) (by kernel_rfl)
        · rw [if_neg h4] at h
          exact Til.mid Tryz.func41 5 [(0, .b true), (5, .b false), (8, .b false)] (fun _ f => o (decide_eq_true h0) (o (o h1 h2) (o (decide_eq_false h3) (o (decide_eq_false h4) f)))) (by kernel_rfl) (ih _ _ _ _ _ h)
    · rw [if_neg h0] at h
      by_cases h1 : x4 > 999
      · rw [if_pos h1] at h
        obtain rfl := Option.some.inj h
        exact Til.fin Tryz.func41 [(0, .b false), (2, .b true)] (fun _ f => o (decide_eq_false h0) (o (decide_eq_true h1) f)) (by kernel_rfl)
      · rw [if_neg h1] at h
        obtain rfl := Option.some.inj h
        exact Til.fin Tryz.func41 [(0, .b false), (2, .b false)] (fun _ f => o (decide_eq_false h0) (o (decide_eq_false h1) f)) (by kernel_rfl)
theorem ask_number.does {k : Nat} {a0 : ByteArray} {r : Int × Int} (h : ask_number.f k a0 = some r) :
    Does Tryz.prog 41 [.c (.d (.str a0))] [] (.tup [.c (.d (.int .i64 r.1)), .c (.d (.int .i64 r.2))]) none [] := by
  refine does_fn Tryz.func41 (by kernel_rfl) rfl rfl ?_
  unfold ask_number.f at h
  have ih := ask_number.w k
  by_cases h0 : a0 = ByteArray.empty
  · rw [if_pos h0] at h
    obtain rfl := Option.some.inj h
    exact Til.fin Tryz.func41 [(3, .b true)] (fun _ f => o (str_t h0) f) (by kernel_rfl)
  · rw [if_neg h0] at h
    by_cases h1 : (a0.size : Int) > 1
    · rw [if_pos h1] at h
      obtain ⟨h2, h⟩ := ifp h
      by_cases h3 : (bt a0 0) = 48
      · rw [if_pos h3] at h
        obtain rfl := Option.some.inj h
        exact Til.fin Tryz.func41 [(3, .b false), (7, .b true), (11, .b true)] (fun _ f => o (str_f h0) (o (decide_eq_true h1) (o (o (nn 0) h2) (o (beq_iff_eq.2 h3) f)))) (by kernel_rfl)
      · rw [if_neg h3] at h
        obtain ⟨h4, h⟩ := ifp h
        exact Til.mid Tryz.func41 5 [(3, .b false), (7, .b true), (11, .b false), (16, Z5 (toBytes a0))] (fun _ f => o (str_f h0) (o (decide_eq_true h1) (o (o (nn 0) h2) (o (beq_false_of_ne h3) (o (bytes_ok c5 a0 (fun _ => rfl) h4) f))))) (by kernel_rfl) (ih _ _ _ _ _ h)
    · rw [if_neg h1] at h
      obtain ⟨h2, h⟩ := ifp h
      exact Til.mid Tryz.func41 5 [(3, .b false), (7, .b false), (16, Z5 (toBytes a0))] (fun _ f => o (str_f h0) (o (decide_eq_false h1) (o (bytes_ok c5 a0 (fun _ => rfl) h2) f))) (by kernel_rfl) (ih _ _ _ _ _ h)

theorem stringslite_HasPrefix.does {a0 : ByteArray} {a1 : ByteArray} {r : Bool} (h : stringslite_HasPrefix.f a0 a1 = some r) :
    Does Tryz.prog 92 [.c (.d (.str a0)), .c (.d (.str a1))] [] (.c (.d (.bool r))) none [] := by
  refine does_fn Tryz.func92 (by kernel_rfl) rfl rfl ?_
  unfold stringslite_HasPrefix.f at h
  by_cases h0 : (a0.size : Int) ≥ (a1.size : Int)
  · rw [if_pos h0] at h
    obtain ⟨h1, h⟩ := ifp h
    obtain rfl := Option.some.inj h
    exact Til.fin Tryz.func92 [(5, .b true)] (fun _ f => o (decide_eq_true h0) (o (o h1 h0) f)) (by kernel_rfl)
  · rw [if_neg h0] at h
    obtain rfl := Option.some.inj h
    exact Til.fin Tryz.func92 [(5, .b false)] (fun _ f => o (decide_eq_false h0) f) (by kernel_rfl)

theorem strings_HasPrefix.does {a0 : ByteArray} {a1 : ByteArray} {r : Bool} (h : strings_HasPrefix.f a0 a1 = some r) :
    Does Tryz.prog 78 [.c (.d (.str a0)), .c (.d (.str a1))] [] (.c (.d (.bool r))) none [] := by
  refine does_fn Tryz.func78 (by kernel_rfl) rfl rfl ?_
  unfold strings_HasPrefix.f at h
  obtain ⟨v3, h0, h⟩ := bnd h
  obtain rfl := Option.some.inj h
  exact Til.fin Tryz.func78 [(3, ca (.c (.d (.bool v3))))] (fun _ f => o (stringslite_HasPrefix.does h0) f) (by kernel_rfl)

theorem bytealg_Cutover.does {a0 : Int} {r : Int} (h : bytealg_Cutover.f a0 = some r) :
    Does Tryz.prog 109 [.c (.d (.int .i64 a0))] [] (.c (.d (.int .i64 r))) none [] := by
  refine does_fn Tryz.func109 (by kernel_rfl) rfl rfl ?_
  unfold bytealg_Cutover.f at h
  obtain rfl := Option.some.inj h
  exact Til.fin Tryz.func109 [] (fun _ f => o (by decide : ¬ (8 : Int) = 0) f) (by kernel_rfl)

def bytealg_hashStr_string_.l0E (x0 : ByteArray) (x4 : Int) (x5 : Int) : Env := [(0, .c (.d (.str x0))), (4, .c (.d (.int .u32 x4))), (5, .c (.d (.int .i64 x5)))]
def bytealg_hashStr_string_.l1E (x4 : Int) (x6 : Int) (x7 : Int) (x8 : Int) : Env := [(4, .c (.d (.int .u32 x4))), (6, .c (.d (.int .u32 x6))), (7, .c (.d (.int .u32 x7))), (8, .c (.d (.int .i64 x8)))]
theorem bytealg_hashStr_string_.w (k : Nat) : (∀  (x0 : ByteArray) (x4 : Int) (x5 : Int) (r : Int × Int), bytealg_hashStr_string_.l0 k x0 x4 x5 = some r → Til Tryz.prog 112 [] (.tup [.c (.d (.int .u32 r.1)), .c (.d (.int .u32 r.2))]) none [] (at_ Tryz.f112 3) (bytealg_hashStr_string_.l0E x0 x4 x5) []) ∧
    (∀  (x4 : Int) (x6 : Int) (x7 : Int) (x8 : Int) (r : Int × Int), bytealg_hashStr_string_.l1 k x4 x6 x7 x8 = some r → Til Tryz.prog 112 [] (.tup [.c (.d (.int .u32 r.1)), .c (.d (.int .u32 r.2))]) none [] (at_ Tryz.f112 8) (bytealg_hashStr_string_.l1E x4 x6 x7 x8) []) := by
  induction k with
  | zero =>
    exact ⟨fun _ _ _ _ h => (by cases h), fun _ _ _ _ _ h => (by cases h)⟩
  | succ k ih =>
    refine ⟨?_, ?_⟩
    · intro x0 x4 x5 r h
      rw [bytealg_hashStr_string_.l0] at h
      by_cases h0 : x5 < (x0.size : Int)
      · rw [if_pos h0] at h
        obtain ⟨h1, h⟩ := ifp h
        exact Til.mid Tryz.func112 3 [(3, .b true)] (fun _ f => o (decide_eq_true h0) (o (o h1 h0) f)) (by kernel_rfl) (ih.1 _ _ _ _ h)
      · rw [if_neg h0] at h
        exact Til.mid Tryz.func112 8 [(3, .b false)] (fun _ f => o (decide_eq_false h0) f) (by kernel_rfl) (ih.2 _ _ _ _ _ h)
    · intro x4 x6 x7 x8 r h
      rw [bytealg_hashStr_string_.l1] at h
      by_cases h0 : x8 > 0
      · rw [if_pos h0] at h
        by_cases h1 : (Go.bits .and .i64 x8 1) ≠ 0
        · rw [if_pos h1] at h
          exact Til.mid Tryz.func112 8 [(1, .b true), (4, .b true)] (fun _ f => o (decide_eq_true h0) (o (bne_iff_ne.2 h1) (o (nn 1) f))) (by kernel_rfl) (ih.2 _ _ _ _ _ h)
        · rw [if_neg h1] at h
          exact Til.mid Tryz.func112 8 [(1, .b true), (4, .b false)] (fun _ f => o (decide_eq_true h0) (o (ne_f h1) (o (nn 1) f))) (by kernel_rfl) (ih.2 _ _ _ _ _ h)
      · rw [if_neg h0] at h
        obtain rfl := Option.some.inj h
        exact Til.fin Tryz.func112 [(1, .b false)] (fun _ f => o (decide_eq_false h0) f) (by kernel_rfl)
theorem bytealg_hashStr_string_.does {k : Nat} {a0 : ByteArray} {r : Int × Int} (h : bytealg_hashStr_string_.f k a0 = some r) :
    Does Tryz.prog 112 [.c (.d (.str a0))] [] (.tup [.c (.d (.int .u32 r.1)), .c (.d (.int .u32 r.2))]) none [] := by
  refine does_fn Tryz.func112 (by kernel_rfl) rfl rfl ?_
  unfold bytealg_hashStr_string_.f at h
  have ih := bytealg_hashStr_string_.w k
  exact Til.mid Tryz.func112 3 [] (fun _ f => f) (by kernel_rfl) (ih.1 _ _ _ _ h)

def bytealg_IndexRabinKarp_string_.l0E (x0 : ByteArray) (x1 : ByteArray) (x5 : Int) (x6 : Int) (x7 : Int) (x8 : Int) (x9 : Int) : Env := [(0, .c (.d (.str x0))), (1, .c (.d (.str x1))), (5, .c (.d (.int .u32 x5))), (6, .c (.d (.int .u32 x6))), (7, .c (.d (.int .i64 x7))), (8, .c (.d (.int .u32 x8))), (9, .c (.d (.int .i64 x9)))]
def bytealg_IndexRabinKarp_string_.l1E (x0 : ByteArray) (x1 : ByteArray) (x5 : Int) (x6 : Int) (x7 : Int) (x8 : Int) (x10 : Int) : Env := [(0, .c (.d (.str x0))), (1, .c (.d (.str x1))), (5, .c (.d (.int .u32 x5))), (6, .c (.d (.int .u32 x6))), (7, .c (.d (.int .i64 x7))), (8, .c (.d (.int .u32 x8))), (10, .c (.d (.int .i64 x10)))]
theorem bytealg_IndexRabinKarp_string_.w (k : Nat) : (∀  (x0 : ByteArray) (x1 : ByteArray) (x5 : Int) (x6 : Int) (x7 : Int) (x8 : Int) (x9 : Int) (r : Int), bytealg_IndexRabinKarp_string_.l0 k x0 x1 x5 x6 x7 x8 x9 = some r → Til Tryz.prog 110 [] (.c (.d (.int .i64 r))) none [] (at_ Tryz.f110 5) (bytealg_IndexRabinKarp_string_.l0E x0 x1 x5 x6 x7 x8 x9) []) ∧
    (∀  (x0 : ByteArray) (x1 : ByteArray) (x5 : Int) (x6 : Int) (x7 : Int) (x8 : Int) (x10 : Int) (r : Int), bytealg_IndexRabinKarp_string_.l1 k x0 x1 x5 x6 x7 x8 x10 = some r → Til Tryz.prog 110 [] (.c (.d (.int .i64 r))) none [] (at_ Tryz.f110 11) (bytealg_IndexRabinKarp_string_.l1E x0 x1 x5 x6 x7 x8 x10) []) := by
  induction k with
  | zero =>
    exact ⟨fun _ _ _ _ _ _ _ _ h => (by cases h), fun _ _ _ _ _ _ _ _ h => (by cases h)⟩
  | succ k ih =>
    refine ⟨?_, ?_⟩
    · intro x0 x1 x5 x6 x7 x8 x9 r h
      rw [bytealg_IndexRabinKarp_string_.l0] at h
      by_cases h0 : x9 < x7
      · rw [if_pos h0] at h
        obtain ⟨h1, h⟩ := ifp h
        obtain ⟨h2, h⟩ := ifp h
        exact Til.mid Tryz.func110 5 [(2, .b true)] (fun _ f => o (decide_eq_true h0) (o (o h1 h2) f)) (by kernel_rfl) (ih.1 _ _ _ _ _ _ _ _ h)
      · rw [if_neg h0] at h
        by_cases h1 : x8 = x5
        · rw [if_pos h1] at h
          obtain ⟨h2, h⟩ := ifp h
          obtain ⟨h3, h⟩ := ifp h
          by_cases h4 : (x0.extract 0 ((x7 : Int).toNat)) = x1
          · rw [if_pos h4] at h
            obtain rfl := Option.some.inj h
            exact Til.fin Tryz.func110 [(2, .b false), (5, .b true), (11, .b true)] (fun _ f => o (decide_eq_false h0) (o (beq_iff_eq.2 h1) (o (o h2 h3) (o (str_t h4) f)))) (by kernel_rfl)
          · rw [if_neg h4] at h
            exact Til.mid Tryz.func110 11 [(2, .b false), (5, .b true), (11, .b false)] (fun _ f => o (decide_eq_false h0) (o (beq_iff_eq.2 h1) (o (o h2 h3) (o (str_f h4) f)))) (by kernel_rfl) (ih.2 _ _ _ _ _ _ _ _ h)
        · rw [if_neg h1] at h
          exact Til.mid Tryz.func110 11 [(2, .b false), (5, .b false)] (fun _ f => o (decide_eq_false h0) (o (beq_false_of_ne h1) f)) (by kernel_rfl) (ih.2 _ _ _ _ _ _ _ _ h)
    · intro x0 x1 x5 x6 x7 x8 x10 r h
      rw [bytealg_IndexRabinKarp_string_.l1] at h
      by_cases h0 : x10 < (x0.size : Int)
      · rw [if_pos h0] at h
        obtain ⟨h1, h⟩ := ifp h
        obtain ⟨h2, h⟩ := ifp h
        obtain ⟨h3, h⟩ := ifp h
        by_cases h4 : (IntKind.u32.wrap ((IntKind.u32.wrap ((IntKind.u32.wrap (x8 * 16777619)) + (IntKind.u32.wrap ((bt x0 x10))))) - (IntKind.u32.wrap (x6 * (IntKind.u32.wrap ((bt x0 (wrap64 (x10 - x7))))))))) = x5
        · rw [if_pos h4] at h
          obtain ⟨h5, h⟩ := ifp h
          obtain ⟨h6, h⟩ := ifp h
          obtain ⟨h7, h⟩ := ifp h
          by_cases h8 : (x0.extract (((wrap64 ((wrap64 (x10 + 1)) - x7)) : Int).toNat) (((wrap64 (x10 + 1)) : Int).toNat)) = x1
          · rw [if_pos h8] at h
            obtain rfl := Option.some.inj h
            exact Til.fin Tryz.func110 [(3, .b true), (30, .b true), (39, .b true)] (fun _ f => o (decide_eq_true h0) (o (o h1 h0) (o (o h2 h3) (o (beq_iff_eq.2 h4) (o (o h5 (o h6 h7)) (o (str_t h8) f)))))) (by kernel_rfl)
          · rw [if_neg h8] at h
            exact Til.mid Tryz.func110 11 [(3, .b true), (30, .b true), (39, .b false)] (fun _ f => o (decide_eq_true h0) (o (o h1 h0) (o (o h2 h3) (o (beq_iff_eq.2 h4) (o (o h5 (o h6 h7)) (o (str_f h8) f)))))) (by kernel_rfl) (ih.2 _ _ _ _ _ _ _ _ h)
        · rw [if_neg h4] at h
          exact Til.mid Tryz.func110 11 [(3, .b true), (30, .b false)] (fun _ f => o (decide_eq_true h0) (o (o h1 h0) (o (o h2 h3) (o (beq_false_of_ne h4) f)))) (by kernel_rfl) (ih.2 _ _ _ _ _ _ _ _ h)
      · rw [if_neg h0] at h
        obtain rfl := Option.some.inj h
        exact Til.fin Tryz.func110 [(3, .b false)] (fun _ f => o (decide_eq_false h0) f) (by kernel_rfl)
theorem bytealg_IndexRabinKarp_string_.does {k : Nat} {a0 : ByteArray} {a1 : ByteArray} {r : Int} (h : bytealg_IndexRabinKarp_string_.f k a0 a1 = some r) :
    Does Tryz.prog 110 [.c (.d (.str a0)), .c (.d (.str a1))] [] (.c (.d (.int .i64 r))) none [] := by
  refine does_fn Tryz.func110 (by kernel_rfl) rfl rfl ?_
  unfold bytealg_IndexRabinKarp_string_.f at h
  have ih := bytealg_IndexRabinKarp_string_.w k
  obtain ⟨v2, h0, h⟩ := bnd h
  exact Til.mid Tryz.func110 5 [(2, ca (.tup [.c (.d (.int .u32 v2.1)), .c (.d (.int .u32 v2.2))]))] (fun _ f => o (bytealg_hashStr_string_.does h0) f) (by kernel_rfl) (ih.1 _ _ _ _ _ _ _ _ h)

theorem stringslite_Index.does {k : Nat} {a0 : ByteArray} {a1 : ByteArray} {r : Int} (h : stringslite_Index.f k a0 a1 = some r) :
    Does Tryz.prog 106 [.c (.d (.str a0)), .c (.d (.str a1))] [] (.c (.d (.int .i64 r))) none [] := by
  refine does_fn Tryz.func106 (by kernel_rfl) rfl rfl ?_
  unfold stringslite_Index.f at h
  by_cases h0 : (a1.size : Int) = 0
  · rw [if_pos h0] at h
    obtain rfl := Option.some.inj h
    exact Til.fin Tryz.func106 [(5, .b true)] (fun _ f => o (beq_iff_eq.2 h0) f) (by kernel_rfl)
  · rw [if_neg h0] at h
    by_cases h1 : a1 = a0
    · rw [if_pos h1] at h
      obtain rfl := Option.some.inj h
      exact Til.fin Tryz.func106 [(5, .b false), (9, .b true)] (fun _ f => o (beq_false_of_ne h0) (o (str_t h1) f)) (by kernel_rfl)
    · rw [if_neg h1] at h
      by_cases h2 : (a1.size : Int) = 1
      · rw [if_pos h2] at h
        obtain ⟨h3, h⟩ := ifp h
        obtain ⟨v18, h4, h⟩ := bnd h
        obtain rfl := Option.some.inj h
        exact Til.fin Tryz.func106 [(5, .b false), (9, .b false), (13, .b true), (18, ca (.c (.d (.int .i64 v18))))] (fun _ f => o (beq_false_of_ne h0) (o (str_f h1) (o (beq_iff_eq.2 h2) (o (o (nn 0) h3) (o (stringslite_IndexByte.does h4) f))))) (by kernel_rfl)
      · rw [if_neg h2] at h
        by_cases h3 : (a1.size : Int) ≥ (a0.size : Int)
        · rw [if_pos h3] at h
          obtain rfl := Option.some.inj h
          exact Til.fin Tryz.func106 [(5, .b false), (9, .b false), (13, .b false), (18, .b true)] (fun _ f => o (beq_false_of_ne h0) (o (str_f h1) (o (beq_false_of_ne h2) (o (decide_eq_true h3) f)))) (by kernel_rfl)
        · rw [if_neg h3] at h
          cases h

theorem stringslite_Cut.does {k : Nat} {a0 : ByteArray} {a1 : ByteArray} {r : ByteArray × ByteArray × Bool} (h : stringslite_Cut.f k a0 a1 = some r) :
    Does Tryz.prog 104 [.c (.d (.str a0)), .c (.d (.str a1))] [] (.tup [.c (.d (.str r.1)), .c (.d (.str r.2.1)), .c (.d (.bool r.2.2))]) none [] := by
  refine does_fn Tryz.func104 (by kernel_rfl) rfl rfl ?_
  unfold stringslite_Cut.f at h
  obtain ⟨v5, h0, h⟩ := bnd h
  by_cases h1 : v5 ≥ 0
  · rw [if_pos h1] at h
    obtain ⟨h2, h⟩ := ifp h
    obtain ⟨h3, h⟩ := ifp h
    obtain ⟨h4, h⟩ := ifp h
    obtain rfl := Option.some.inj h
    exact Til.fin Tryz.func104 [(5, ca (.c (.d (.int .i64 v5)))), (8, .b true)] (fun _ f => o (stringslite_Index.does h0) (o (decide_eq_true h1) (o (o h1 h2) (o (o h3 h4) f)))) (by kernel_rfl)
  · rw [if_neg h1] at h
    obtain rfl := Option.some.inj h
    exact Til.fin Tryz.func104 [(5, ca (.c (.d (.int .i64 v5)))), (8, .b false)] (fun _ f => o (stringslite_Index.does h0) (o (decide_eq_false h1) f)) (by kernel_rfl)

theorem strings_Cut.does {k : Nat} {a0 : ByteArray} {a1 : ByteArray} {r : ByteArray × ByteArray × Bool} (h : strings_Cut.f k a0 a1 = some r) :
    Does Tryz.prog 93 [.c (.d (.str a0)), .c (.d (.str a1))] [] (.tup [.c (.d (.str r.1)), .c (.d (.str r.2.1)), .c (.d (.bool r.2.2))]) none [] := by
  refine does_fn Tryz.func93 (by kernel_rfl) rfl rfl ?_
  unfold strings_Cut.f at h
  obtain ⟨v5, h0, h⟩ := bnd h
  obtain rfl := Option.some.inj h
  exact Til.fin Tryz.func93 [(5, ca (.tup [.c (.d (.str v5.1)), .c (.d (.str v5.2.1)), .c (.d (.bool v5.2.2))]))] (fun _ f => o (stringslite_Cut.does h0) f) (by kernel_rfl)

def nat_plus.l0E (x0 : List Int) (x1 : Int) (x5 : List Int) (x12 : Int) (x13 : Int) : Env := [(0, .c (.d (L67 x0))), (1, .c (.d (.int .u64 x1))), (5, .c (.own 5)), (12, .c (.d (.int .i64 x12))), (13, .c (.d (.int .i64 x13)))]
def nat_plus.l0B (x0 : List Int) (x1 : Int) (x5 : List Int) (x12 : Int) (x13 : Int) : Obs := [(5, some (O67 .own x5))]
theorem nat_plus.w (k : Nat) : (∀  (x0 : List Int) (x1 : Int) (x5 : List Int) (x12 : Int) (x13 : Int) (r : List Int), nat_plus.l0 k x0 x1 x5 x12 x13 = some r → Til Tryz.prog 105 [] (.c (.d (L67 r))) none [] (at_ Tryz.f105 3) (nat_plus.l0E x0 x1 x5 x12 x13) (nat_plus.l0B x0 x1 x5 x12 x13)) := by
  induction k with
  | zero =>
    exact fun _ _ _ _ _ _ h => (by cases h)
  | succ k ih =>
    intro x0 x1 x5 x12 x13 r h
    rw [nat_plus.l0] at h
    by_cases h0 : x13 < x12
    · rw [if_pos h0] at h
      obtain ⟨v6, h1, h⟩ := bnd h
      obtain ⟨h2, h⟩ := ifp h
      obtain ⟨h3, h⟩ := ifp h
      exact Til.mid Tryz.func105 3 [(0, .b true), (6, ca (.c (.d (.int .u64 v6)))), (15, Z67 (x5.set ((x13 : Int).toNat) (Go.bits .and .u64 (IntKind.u64.wrap (x1 + (IntKind.u64.wrap (v6 * 1000000000)))) 4294967295)))] (fun _ f => o (decide_eq_true h0) (o (nat_limb.does h1) (o (o h2 h3) (o (set_ok c67 0 (fun _ _ => rfl) x5 ((x13 : Int).toNat) (Go.bits .and .u64 (IntKind.u64.wrap (x1 + (IntKind.u64.wrap (v6 * 1000000000)))) 4294967295) (lt_ok h2 h3)) (o (nn 32) f))))) (by kernel_rfl) (ih _ _ _ _ _ _ h)
    · rw [if_neg h0] at h
      obtain ⟨v2, h1, h⟩ := bnd h
      obtain rfl := Option.some.inj h
      exact Til.fin Tryz.func105 [(0, .b false), (2, ca (.c (.d (L67 v2))))] (fun _ f => o (decide_eq_false h0) (o (nat_trim.does h1) f)) (by kernel_rfl)
theorem nat_plus.does {k : Nat} {l0 : List Int} {a1 : Int} {r : List Int} (h : nat_plus.f k l0 a1 = some r) :
    Does Tryz.prog 105 [.c (.d (L67 l0)), .c (.d (.int .u64 a1))] [] (.c (.d (L67 r))) none [] := by
  refine does_fn Tryz.func105 (by kernel_rfl) rfl rfl ?_
  unfold nat_plus.f at h
  have ih := nat_plus.w k
  obtain ⟨h0, h⟩ := ifp h
  obtain ⟨h1, h⟩ := ifp h
  exact Til.mid Tryz.func105 3 [(4, Z67 (List.replicate (((wrap64 ((l0.length : Int) + 1)) : Int).toNat) 0 : List Int))] (fun _ f => o (make_ok c67 0 [.int .u64 0] ⟨.refl _, trivial⟩ (wrap64 ((l0.length : Int) + 1)) 8 35184372088832 (by decide) h0 h1) f) (by kernel_rfl) (ih _ _ _ _ _ _ h)

def nat_Parse.l0E (x0 : ByteArray) (b14_s : ByteArray) (b14_p : Nat) : Env := [(0, .c (.d (.str x0))), (14, .c (.ptr 14 0))]
def nat_Parse.l0B (x0 : ByteArray) (b14_s : ByteArray) (b14_p : Nat) : Obs := [(14, some (.iter b14_s b14_p))]
def nat_Parse.l1E (x0 : ByteArray) (x6 : List Int) : Env := [(0, .c (.d (.str x0))), (6, .c (.d (L67 x6)))]
def nat_Parse.l2E (x0 : ByteArray) (x6 : List Int) (x7 : Int) (x8 : Int) (x38 : List Int) (x39 : Int) (x40 : Int) : Env := [(0, .c (.d (.str x0))), (6, .c (.d (L67 x6))), (7, .c (.d (.int .i64 x7))), (8, .c (.d (.int .u64 x8))), (38, .c (.d (L5 x38))), (39, .c (.d (.int .i64 x39))), (40, .c (.d (.int .i64 x40)))]
theorem nat_Parse.w (k : Nat) : (∀  (x0 : ByteArray) (b14_s : ByteArray) (b14_p : Nat) (r : List Int × Int), nat_Parse.l0 k x0 b14_s b14_p = some r → Til Tryz.prog 94 [] (.tup [.c (.d (L67 r.1)), .c (.d (.int .i64 r.2))]) none [] (at_ Tryz.f94 4) (nat_Parse.l0E x0 b14_s b14_p) (nat_Parse.l0B x0 b14_s b14_p)) ∧
    (∀  (x0 : ByteArray) (x6 : List Int) (r : List Int × Int), nat_Parse.l1 k x0 x6 = some r → Til Tryz.prog 94 [] (.tup [.c (.d (L67 r.1)), .c (.d (.int .i64 r.2))]) none [] (at_ Tryz.f94 11) (nat_Parse.l1E x0 x6) []) ∧
    (∀  (x0 : ByteArray) (x6 : List Int) (x7 : Int) (x8 : Int) (x38 : List Int) (x39 : Int) (x40 : Int) (r : List Int × Int), nat_Parse.l2 k x0 x6 x7 x8 x38 x39 x40 = some r → Til Tryz.prog 94 [] (.tup [.c (.d (L67 r.1)), .c (.d (.int .i64 r.2))]) none [] (at_ Tryz.f94 17) (nat_Parse.l2E x0 x6 x7 x8 x38 x39 x40) []) := by
  induction k with
  | zero =>
    exact ⟨fun _ _ _ _ h => (by cases h), fun _ _ _ h => (by cases h), fun _ _ _ _ _ _ _ _ h => (by cases h)⟩
  | succ k ih =>
    refine ⟨?_, ?_, ?_⟩
    · intro x0 b14_s b14_p r h
      rw [nat_Parse.l0] at h
      by_cases h0 : b14_p < b14_s.size
      · rw [if_pos h0] at h
        by_cases h1 : ((Utf8.decode b14_s b14_p).1 : Int) < 48
        · rw [if_pos h1] at h
          obtain rfl := Option.some.inj h
          exact Til.fin Tryz.func94 [(0, .b true), (5, .b true)] (fun _ f => o h0 (o (decide_eq_true h1) f)) (by kernel_rfl)
        · rw [if_neg h1] at h
          by_cases h2 : ((Utf8.decode b14_s b14_p).1 : Int) > 57
          · rw [if_pos h2] at h
            obtain rfl := Option.some.inj h
            exact Til.fin Tryz.func94 [(0, .b true), (5, .b false), (8, .b true)] (fun _ f => o h0 (o (decide_eq_false h1) (o (decide_eq_true h2) f))) (by kernel_rfl)
          · rw [if_neg h2] at h
            exact Til.mid Tryz.func94 4 [(0, .b true), (5, .b false), (8, .b false)] (fun _ f => o h0 (o (decide_eq_false h1) (o (decide_eq_false h2) f))) (by kernel_rfl) (ih.1 _ _ _ _ h)
      · rw [if_neg h0] at h
        by_cases h1 : (x0.size : Int) > 10000
        · rw [if_pos h1] at h
          obtain rfl := Option.some.inj h
          exact Til.fin Tryz.func94 [(0, .b false), (4, .b true)] (fun _ f => o h0 (o (decide_eq_true h1) f)) (by kernel_rfl)
        · rw [if_neg h1] at h
          exact Til.mid Tryz.func94 11 [(0, .b false), (4, .b false)] (fun _ f => o h0 (o (decide_eq_false h1) f)) (by kernel_rfl) (ih.2.1 _ _ _ h)
    · intro x0 x6 r h
      rw [nat_Parse.l1] at h
      by_cases h0 : (x0.size : Int) > 0
      · rw [if_pos h0] at h
        by_cases h1 : (Int.tmod (x0.size : Int) 9) = 0
        · rw [if_pos h1] at h
          obtain ⟨h2, h⟩ := ifp h
          obtain ⟨h3, h⟩ := ifp h
          exact Til.mid Tryz.func94 17 [(2, .b true), (8, .b true), (14, Z5 (toBytes (x0.extract 0 9)))] (fun _ f => o (decide_eq_true h0) (o (by decide : ¬ (9 : Int) = 0) (o (beq_iff_eq.2 h1) (o (o (nn 9) h2) (o (bytes_ok c5 (x0.extract 0 9) (fun _ => rfl) h3) f))))) (by kernel_rfl) (ih.2.2 _ _ _ _ _ _ _ _ h)
        · rw [if_neg h1] at h
          obtain ⟨h2, h⟩ := ifp h
          obtain ⟨h3, h⟩ := ifp h
          obtain ⟨h4, h⟩ := ifp h
          exact Til.mid Tryz.func94 17 [(2, .b true), (8, .b false), (13, Z5 (toBytes (x0.extract 0 (((Int.tmod (x0.size : Int) 9) : Int).toNat))))] (fun _ f => o (decide_eq_true h0) (o (by decide : ¬ (9 : Int) = 0) (o (beq_false_of_ne h1) (o (o h2 h3) (o (bytes_ok c5 (x0.extract 0 (((Int.tmod (x0.size : Int) 9) : Int).toNat)) (fun _ => rfl) h4) f))))) (by kernel_rfl) (ih.2.2 _ _ _ _ _ _ _ _ h)
      · rw [if_neg h0] at h
        obtain rfl := Option.some.inj h
        exact Til.fin Tryz.func94 [(2, .b false)] (fun _ f => o (decide_eq_false h0) f) (by kernel_rfl)
    · intro x0 x6 x7 x8 x38 x39 x40 r h
      rw [nat_Parse.l2] at h
      by_cases h0 : x40 < x39
      · rw [if_pos h0] at h
        obtain ⟨h1, h⟩ := ifp h
        obtain ⟨h2, h⟩ := ifp h
        exact Til.mid Tryz.func94 17 [(0, .b true)] (fun _ f => o (decide_eq_true h0) (o (o h1 h2) f)) (by kernel_rfl) (ih.2.2 _ _ _ _ _ _ _ _ h)
      · rw [if_neg h0] at h
        obtain ⟨v3, h1, h⟩ := bnd h
        obtain ⟨h2, h⟩ := ifp h
        obtain ⟨h3, h⟩ := ifp h
        exact Til.mid Tryz.func94 11 [(0, .b false), (3, ca (.c (.d (L67 v3))))] (fun _ f => o (decide_eq_false h0) (o (nat_plus.does h1) (o (o h2 h3) f))) (by kernel_rfl) (ih.2.1 _ _ _ h)
theorem nat_Parse.does {k : Nat} {a0 : ByteArray} {r : List Int × Int} (h : nat_Parse.f k a0 = some r) :
    Does Tryz.prog 94 [.c (.d (.str a0))] [] (.tup [.c (.d (L67 r.1)), .c (.d (.int .i64 r.2))]) none [] := by
  refine does_fn Tryz.func94 (by kernel_rfl) rfl rfl ?_
  unfold nat_Parse.f at h
  have ih := nat_Parse.w k
  by_cases h0 : a0 = ByteArray.empty
  · rw [if_pos h0] at h
    obtain rfl := Option.some.inj h
    exact Til.fin Tryz.func94 [(3, .b true)] (fun _ f => o (str_t h0) f) (by kernel_rfl)
  · rw [if_neg h0] at h
    exact Til.mid Tryz.func94 4 [(3, .b false)] (fun _ f => o (str_f h0) f) (by kernel_rfl) (ih.1 _ _ _ _ h)

def nat_Mul.l0E (x1 : List Int) (x5 : List Int) (x21 : List Int) (x22 : Int) (x23 : Int) : Env := [(1, .c (.d (L67 x1))), (5, .c (.own 5)), (21, .c (.d (L67 x21))), (22, .c (.d (.int .i64 x22))), (23, .c (.d (.int .i64 x23)))]
def nat_Mul.l0B (x1 : List Int) (x5 : List Int) (x21 : List Int) (x22 : Int) (x23 : Int) : Obs := [(5, some (O67 .own x5))]
def nat_Mul.l1E (x1 : List Int) (x5 : List Int) (x6 : Int) (x7 : Int) (x8 : Int) (x21 : List Int) (x22 : Int) (x23 : Int) (x28 : List Int) (x29 : Int) (x30 : Int) : Env := [(1, .c (.d (L67 x1))), (5, .c (.own 5)), (6, .c (.d (.int .i64 x6))), (7, .c (.d (.int .u64 x7))), (8, .c (.d (.int .u64 x8))), (21, .c (.d (L67 x21))), (22, .c (.d (.int .i64 x22))), (23, .c (.d (.int .i64 x23))), (28, .c (.d (L67 x28))), (29, .c (.d (.int .i64 x29))), (30, .c (.d (.int .i64 x30)))]
def nat_Mul.l1B (x1 : List Int) (x5 : List Int) (x6 : Int) (x7 : Int) (x8 : Int) (x21 : List Int) (x22 : Int) (x23 : Int) (x28 : List Int) (x29 : Int) (x30 : Int) : Obs := [(5, some (O67 .own x5))]
theorem nat_Mul.w (k : Nat) : (∀  (x1 : List Int) (x5 : List Int) (x21 : List Int) (x22 : Int) (x23 : Int) (r : List Int), nat_Mul.l0 k x1 x5 x21 x22 x23 = some r → Til Tryz.prog 97 [] (.c (.d (L67 r))) none [] (at_ Tryz.f97 4) (nat_Mul.l0E x1 x5 x21 x22 x23) (nat_Mul.l0B x1 x5 x21 x22 x23)) ∧
    (∀  (x1 : List Int) (x5 : List Int) (x6 : Int) (x7 : Int) (x8 : Int) (x21 : List Int) (x22 : Int) (x23 : Int) (x28 : List Int) (x29 : Int) (x30 : Int) (r : List Int), nat_Mul.l1 k x1 x5 x6 x7 x8 x21 x22 x23 x28 x29 x30 = some r → Til Tryz.prog 97 [] (.c (.d (L67 r))) none [] (at_ Tryz.f97 8) (nat_Mul.l1E x1 x5 x6 x7 x8 x21 x22 x23 x28 x29 x30) (nat_Mul.l1B x1 x5 x6 x7 x8 x21 x22 x23 x28 x29 x30)) := by
  induction k with
  | zero =>
    exact ⟨fun _ _ _ _ _ _ h => (by cases h), fun _ _ _ _ _ _ _ _ _ _ _ _ h => (by cases h)⟩
  | succ k ih =>
    refine ⟨?_, ?_⟩
    · intro x1 x5 x21 x22 x23 r h
      rw [nat_Mul.l0] at h
      by_cases h0 : x23 < x22
      · rw [if_pos h0] at h
        obtain ⟨h1, h⟩ := ifp h
        obtain ⟨h2, h⟩ := ifp h
        exact Til.mid Tryz.func97 8 [(0, .b true)] (fun _ f => o (decide_eq_true h0) (o (o h1 h2) f)) (by kernel_rfl) (ih.2 _ _ _ _ _ _ _ _ _ _ _ _ h)
      · rw [if_neg h0] at h
        obtain ⟨v2, h1, h⟩ := bnd h
        obtain rfl := Option.some.inj h
        exact Til.fin Tryz.func97 [(0, .b false), (2, ca (.c (.d (L67 v2))))] (fun _ f => o (decide_eq_false h0) (o (nat_trim.does h1) f)) (by kernel_rfl)
    · intro x1 x5 x6 x7 x8 x21 x22 x23 x28 x29 x30 r h
      rw [nat_Mul.l1] at h
      by_cases h0 : x30 < x29
      · rw [if_pos h0] at h
        obtain ⟨h1, h⟩ := ifp h
        obtain ⟨h2, h⟩ := ifp h
        obtain ⟨h3, h⟩ := ifp h
        obtain ⟨h4, h⟩ := ifp h
        exact Til.mid Tryz.func97 8 [(0, .b true), (26, Z67 (x5.set (((wrap64 (x6 + x30)) : Int).toNat) (Go.bits .and .u64 (IntKind.u64.wrap (x8 + (IntKind.u64.wrap ((rd x5 (wrap64 (x6 + x30))) + (IntKind.u64.wrap (x7 * (rd x28 x30))))))) 4294967295)))] (fun _ f => o (decide_eq_true h0) (o (o h1 h2) (o (o h3 h4) (o (o h3 h4) (o (set_ok c67 0 (fun _ _ => rfl) x5 (((wrap64 (x6 + x30)) : Int).toNat) (Go.bits .and .u64 (IntKind.u64.wrap (x8 + (IntKind.u64.wrap ((rd x5 (wrap64 (x6 + x30))) + (IntKind.u64.wrap (x7 * (rd x28 x30))))))) 4294967295) (lt_ok h3 h4)) (o (nn 32) f)))))) (by kernel_rfl) (ih.2 _ _ _ _ _ _ _ _ _ _ _ _ h)
      · rw [if_neg h0] at h
        obtain ⟨h1, h⟩ := ifp h
        obtain ⟨h2, h⟩ := ifp h
        exact Til.mid Tryz.func97 4 [(0, .b false), (8, Z67 (x5.set (((wrap64 (x6 + (x1.length : Int))) : Int).toNat) x8))] (fun _ f => o (decide_eq_false h0) (o (o h1 h2) (o (set_ok c67 0 (fun _ _ => rfl) x5 (((wrap64 (x6 + (x1.length : Int))) : Int).toNat) x8 (lt_ok h1 h2)) f))) (by kernel_rfl) (ih.1 _ _ _ _ _ _ h)
theorem nat_Mul.does {k : Nat} {l0 : List Int} {l1 : List Int} {r : List Int} (h : nat_Mul.f k l0 l1 = some r) :
    Does Tryz.prog 97 [.c (.d (L67 l0)), .c (.d (L67 l1))] [] (.c (.d (L67 r))) none [] := by
  refine does_fn Tryz.func97 (by kernel_rfl) rfl rfl ?_
  unfold nat_Mul.f at h
  have ih := nat_Mul.w k
  obtain ⟨v2, h0, h⟩ := bnd h
  obtain ⟨v4, h1, h⟩ := bnd h
  obtain ⟨h2, h⟩ := ifp h
  obtain ⟨h3, h⟩ := ifp h
  exact Til.mid Tryz.func97 4 [(2, ca (.c (.d (L67 v2)))), (4, ca (.c (.d (L67 v4)))), (12, Z67 (List.replicate (((wrap64 ((v2.length : Int) + (v4.length : Int))) : Int).toNat) 0 : List Int))] (fun _ f => o (nat_Clean.does h0) (o (nat_Clean.does h1) (o (make_ok c67 0 [.int .u64 0] ⟨.refl _, trivial⟩ (wrap64 ((v2.length : Int) + (v4.length : Int))) 8 35184372088832 (by decide) h2 h3) f))) (by kernel_rfl) (ih.1 _ _ _ _ _ _ h)

def ratio_ten.l0E (x3 : List Int) (x5 : Int) (x6 : Int) : Env := [(3, .c (.d (L67 x3))), (5, .c (.d (.int .i64 x5))), (6, .c (.d (.int .i64 x6)))]
theorem ratio_ten.w (k : Nat) : (∀  (x3 : List Int) (x5 : Int) (x6 : Int) (r : List Int), ratio_ten.l0 k x3 x5 x6 = some r → Til Tryz.prog 95 [] (.c (.d (L67 r))) none [] (at_ Tryz.f95 3) (ratio_ten.l0E x3 x5 x6) []) := by
  induction k with
  | zero =>
    exact fun _ _ _ _ h => (by cases h)
  | succ k ih =>
    intro x3 x5 x6 r h
    rw [ratio_ten.l0] at h
    by_cases h0 : x6 < x5
    · rw [if_pos h0] at h
      obtain ⟨v2, h1, h⟩ := bnd h
      obtain ⟨v3, h2, h⟩ := bnd h
      exact Til.mid Tryz.func95 3 [(0, .b true), (2, ca (.c (.d (L67 v2)))), (3, ca (.c (.d (L67 v3))))] (fun _ f => o (decide_eq_true h0) (o (nat_Of.does h1) (o (nat_Mul.does h2) f))) (by kernel_rfl) (ih _ _ _ _ h)
    · rw [if_neg h0] at h
      obtain rfl := Option.some.inj h
      exact Til.fin Tryz.func95 [(0, .b false)] (fun _ f => o (decide_eq_false h0) f) (by kernel_rfl)
theorem ratio_ten.does {k : Nat} {a0 : Int} {r : List Int} (h : ratio_ten.f k a0 = some r) :
    Does Tryz.prog 95 [.c (.d (.int .i64 a0))] [] (.c (.d (L67 r))) none [] := by
  refine does_fn Tryz.func95 (by kernel_rfl) rfl rfl ?_
  unfold ratio_ten.f at h
  have ih := ratio_ten.w k
  obtain ⟨v1, h0, h⟩ := bnd h
  exact Til.mid Tryz.func95 3 [(1, ca (.c (.d (L67 v1))))] (fun _ f => o (nat_Of.does h0) f) (by kernel_rfl) (ih _ _ _ _ h)

def nat_Add.l0E (x0 : List Int) (x1 : List Int) (x5 : List Int) (x6 : Int) (x20 : Int) (x21 : Int) : Env := [(0, .c (.d (L67 x0))), (1, .c (.d (L67 x1))), (5, .c (.own 5)), (6, .c (.d (.int .u64 x6))), (20, .c (.d (.int .i64 x20))), (21, .c (.d (.int .i64 x21)))]
def nat_Add.l0B (x0 : List Int) (x1 : List Int) (x5 : List Int) (x6 : Int) (x20 : Int) (x21 : Int) : Obs := [(5, some (O67 .own x5))]
theorem nat_Add.w (k : Nat) : (∀  (x0 : List Int) (x1 : List Int) (x5 : List Int) (x6 : Int) (x20 : Int) (x21 : Int) (r : List Int), nat_Add.l0 k x0 x1 x5 x6 x20 x21 = some r → Til Tryz.prog 96 [] (.c (.d (L67 r))) none [] (at_ Tryz.f96 5) (nat_Add.l0E x0 x1 x5 x6 x20 x21) (nat_Add.l0B x0 x1 x5 x6 x20 x21)) := by
  induction k with
  | zero =>
    exact fun _ _ _ _ _ _ _ h => (by cases h)
  | succ k ih =>
    intro x0 x1 x5 x6 x20 x21 r h
    rw [nat_Add.l0] at h
    by_cases h0 : x21 < x20
    · rw [if_pos h0] at h
      obtain ⟨v6, h1, h⟩ := bnd h
      obtain ⟨v9, h2, h⟩ := bnd h
      obtain ⟨h3, h⟩ := ifp h
      obtain ⟨h4, h⟩ := ifp h
      exact Til.mid Tryz.func96 5 [(0, .b true), (6, ca (.c (.d (.int .u64 v6)))), (9, ca (.c (.d (.int .u64 v9)))), (18, Z67 (x5.set ((x21 : Int).toNat) (Go.bits .and .u64 (IntKind.u64.wrap (x6 + (IntKind.u64.wrap (v6 + v9)))) 4294967295)))] (fun _ f => o (decide_eq_true h0) (o (nat_limb.does h1) (o (nat_limb.does h2) (o (o h3 h4) (o (set_ok c67 0 (fun _ _ => rfl) x5 ((x21 : Int).toNat) (Go.bits .and .u64 (IntKind.u64.wrap (x6 + (IntKind.u64.wrap (v6 + v9)))) 4294967295) (lt_ok h3 h4)) (o (nn 32) f)))))) (by kernel_rfl) (ih _ _ _ _ _ _ _ h)
    · rw [if_neg h0] at h
      obtain ⟨v2, h1, h⟩ := bnd h
      obtain rfl := Option.some.inj h
      exact Til.fin Tryz.func96 [(0, .b false), (2, ca (.c (.d (L67 v2))))] (fun _ f => o (decide_eq_false h0) (o (nat_trim.does h1) f)) (by kernel_rfl)
theorem nat_Add.does {k : Nat} {l0 : List Int} {l1 : List Int} {r : List Int} (h : nat_Add.f k l0 l1 = some r) :
    Does Tryz.prog 96 [.c (.d (L67 l0)), .c (.d (L67 l1))] [] (.c (.d (L67 r))) none [] := by
  refine does_fn Tryz.func96 (by kernel_rfl) rfl rfl ?_
  unfold nat_Add.f at h
  have ih := nat_Add.w k
  obtain ⟨v2, h0, h⟩ := bnd h
  obtain ⟨v4, h1, h⟩ := bnd h
  obtain ⟨h2, h⟩ := ifp h
  obtain ⟨h3, h⟩ := ifp h
  exact Til.mid Tryz.func96 5 [(2, ca (.c (.d (L67 v2)))), (4, ca (.c (.d (L67 v4)))), (13, Z67 (List.replicate (((wrap64 ((mx (v2.length : Int) (v4.length : Int)) + 1)) : Int).toNat) 0 : List Int))] (fun _ f => o (nat_Clean.does h0) (o (nat_Clean.does h1) (o (make_ok c67 0 [.int .u64 0] ⟨.refl _, trivial⟩ (wrap64 ((mx (v2.length : Int) (v4.length : Int)) + 1)) 8 35184372088832 (by decide) h2 h3) f))) (by kernel_rfl) (ih _ _ _ _ _ _ _ h)

theorem ratio_plain.does {k : Nat} {a0 : ByteArray} {r : Bool × List Int × List Int × Int} (h : ratio_plain.f k a0 = some r) :
    Does Tryz.prog 79 [.c (.d (.str a0))] [] (.tup [.agg [.d (.bool r.1), .d (L67 r.2.1), .d (L67 r.2.2.1)], .c (.d (.int .i64 r.2.2.2))]) none [] := by
  refine does_fn Tryz.func79 (by kernel_rfl) rfl rfl ?_
  unfold ratio_plain.f at h
  obtain ⟨v3, h0, h⟩ := bnd h
  by_cases h1 : v3.2.2 = true
  · rw [if_pos h1] at h
    obtain ⟨v13, h2, h⟩ := bnd h
    by_cases h3 : v13.2 ≠ 0
    · rw [if_pos h3] at h
      obtain rfl := Option.some.inj h
      exact Til.fin Tryz.func79 [(3, ca (.tup [.c (.d (.str v3.1)), .c (.d (.str v3.2.1)), .c (.d (.bool v3.2.2))])), (7, .b true), (13, ca (.tup [.c (.d (L67 v13.1)), .c (.d (.int .i64 v13.2))])), (20, .b true)] (fun _ f => o (strings_Cut.does h0) (o h1 (o (nat_Parse.does h2) (o (bne_iff_ne.2 h3) f)))) (by kernel_rfl)
    · rw [if_neg h3] at h
      obtain ⟨v22, h4, h⟩ := bnd h
      by_cases h5 : v22.2 ≠ 0
      · rw [if_pos h5] at h
        obtain rfl := Option.some.inj h
        exact Til.fin Tryz.func79 [(3, ca (.tup [.c (.d (.str v3.1)), .c (.d (.str v3.2.1)), .c (.d (.bool v3.2.2))])), (7, .b true), (13, ca (.tup [.c (.d (L67 v13.1)), .c (.d (.int .i64 v13.2))])), (20, .b false), (22, ca (.tup [.c (.d (L67 v22.1)), .c (.d (.int .i64 v22.2))])), (29, .b true)] (fun _ f => o (strings_Cut.does h0) (o h1 (o (nat_Parse.does h2) (o (ne_f h3) (o (nat_Parse.does h4) (o (bne_iff_ne.2 h5) f)))))) (by kernel_rfl)
      · rw [if_neg h5] at h
        by_cases h6 : (v22.1.length : Int) = 0
        · rw [if_pos h6] at h
          obtain rfl := Option.some.inj h
          exact Til.fin Tryz.func79 [(3, ca (.tup [.c (.d (.str v3.1)), .c (.d (.str v3.2.1)), .c (.d (.bool v3.2.2))])), (7, .b true), (13, ca (.tup [.c (.d (L67 v13.1)), .c (.d (.int .i64 v13.2))])), (20, .b false), (22, ca (.tup [.c (.d (L67 v22.1)), .c (.d (.int .i64 v22.2))])), (29, .b false), (32, .b true)] (fun _ f => o (strings_Cut.does h0) (o h1 (o (nat_Parse.does h2) (o (ne_f h3) (o (nat_Parse.does h4) (o (ne_f h5) (o (beq_iff_eq.2 h6) f))))))) (by kernel_rfl)
        · rw [if_neg h6] at h
          obtain ⟨v36, h7, h⟩ := bnd h
          obtain rfl := Option.some.inj h
          exact Til.fin Tryz.func79 [(3, ca (.tup [.c (.d (.str v3.1)), .c (.d (.str v3.2.1)), .c (.d (.bool v3.2.2))])), (7, .b true), (13, ca (.tup [.c (.d (L67 v13.1)), .c (.d (.int .i64 v13.2))])), (20, .b false), (22, ca (.tup [.c (.d (L67 v22.1)), .c (.d (.int .i64 v22.2))])), (29, .b false), (32, .b false), (36, ca (.agg [.d (.bool v36.1), .d (L67 v36.2.1), .d (L67 v36.2.2)]))] (fun _ f => o (strings_Cut.does h0) (o h1 (o (nat_Parse.does h2) (o (ne_f h3) (o (nat_Parse.does h4) (o (ne_f h5) (o (beq_false_of_ne h6) (o (ratio_form.does h7) f)))))))) (by kernel_rfl)
  · rw [if_neg h1] at h
    obtain ⟨v13, h2, h⟩ := bnd h
    by_cases h3 : v13.2.2 = true
    · rw [if_pos h3] at h
      obtain ⟨v22, h4, h⟩ := bnd h
      by_cases h5 : v22.2 ≠ 0
      · rw [if_pos h5] at h
        obtain rfl := Option.some.inj h
        exact Til.fin Tryz.func79 [(3, ca (.tup [.c (.d (.str v3.1)), .c (.d (.str v3.2.1)), .c (.d (.bool v3.2.2))])), (7, .b false), (13, ca (.tup [.c (.d (.str v13.1)), .c (.d (.str v13.2.1)), .c (.d (.bool v13.2.2))])), (17, .b true), (22, ca (.tup [.c (.d (L67 v22.1)), .c (.d (.int .i64 v22.2))])), (29, .b true)] (fun _ f => o (strings_Cut.does h0) (o (Bool.eq_false_iff.2 h1) (o (strings_Cut.does h2) (o h3 (o (nat_Parse.does h4) (o (bne_iff_ne.2 h5) f)))))) (by kernel_rfl)
      · rw [if_neg h5] at h
        obtain ⟨v33, h6, h⟩ := bnd h
        by_cases h7 : v33.2 ≠ 0
        · rw [if_pos h7] at h
          obtain rfl := Option.some.inj h
          exact Til.fin Tryz.func79 [(3, ca (.tup [.c (.d (.str v3.1)), .c (.d (.str v3.2.1)), .c (.d (.bool v3.2.2))])), (7, .b false), (13, ca (.tup [.c (.d (.str v13.1)), .c (.d (.str v13.2.1)), .c (.d (.bool v13.2.2))])), (17, .b true), (22, ca (.tup [.c (.d (L67 v22.1)), .c (.d (.int .i64 v22.2))])), (29, .b false), (33, ca (.tup [.c (.d (L67 v33.1)), .c (.d (.int .i64 v33.2))])), (40, .b true)] (fun _ f => o (strings_Cut.does h0) (o (Bool.eq_false_iff.2 h1) (o (strings_Cut.does h2) (o h3 (o (nat_Parse.does h4) (o (ne_f h5) (o (nat_Parse.does h6) (o (bne_iff_ne.2 h7) f)))))))) (by kernel_rfl)
        · rw [if_neg h7] at h
          obtain ⟨v43, h8, h⟩ := bnd h
          obtain ⟨v47, h9, h⟩ := bnd h
          obtain ⟨v49, h10, h⟩ := bnd h
          obtain ⟨v52, h11, h⟩ := bnd h
          obtain rfl := Option.some.inj h
          exact Til.fin Tryz.func79 [(3, ca (.tup [.c (.d (.str v3.1)), .c (.d (.str v3.2.1)), .c (.d (.bool v3.2.2))])), (7, .b false), (13, ca (.tup [.c (.d (.str v13.1)), .c (.d (.str v13.2.1)), .c (.d (.bool v13.2.2))])), (17, .b true), (22, ca (.tup [.c (.d (L67 v22.1)), .c (.d (.int .i64 v22.2))])), (29, .b false), (33, ca (.tup [.c (.d (L67 v33.1)), .c (.d (.int .i64 v33.2))])), (40, .b false), (43, ca (.c (.d (L67 v43)))), (47, ca (.c (.d (L67 v47)))), (49, ca (.c (.d (L67 v49)))), (52, ca (.agg [.d (.bool v52.1), .d (L67 v52.2.1), .d (L67 v52.2.2)]))] (fun _ f => o (strings_Cut.does h0) (o (Bool.eq_false_iff.2 h1) (o (strings_Cut.does h2) (o h3 (o (nat_Parse.does h4) (o (ne_f h5) (o (nat_Parse.does h6) (o (ne_f h7) (o (ratio_ten.does h8) (o (nat_Mul.does h9) (o (nat_Add.does h10) (o (ratio_form.does h11) f)))))))))))) (by kernel_rfl)
    · rw [if_neg h3] at h
      obtain ⟨v22, h4, h⟩ := bnd h
      by_cases h5 : v22.2 ≠ 0
      · rw [if_pos h5] at h
        obtain rfl := Option.some.inj h
        exact Til.fin Tryz.func79 [(3, ca (.tup [.c (.d (.str v3.1)), .c (.d (.str v3.2.1)), .c (.d (.bool v3.2.2))])), (7, .b false), (13, ca (.tup [.c (.d (.str v13.1)), .c (.d (.str v13.2.1)), .c (.d (.bool v13.2.2))])), (17, .b false), (22, ca (.tup [.c (.d (L67 v22.1)), .c (.d (.int .i64 v22.2))])), (29, .b true)] (fun _ f => o (strings_Cut.does h0) (o (Bool.eq_false_iff.2 h1) (o (strings_Cut.does h2) (o (Bool.eq_false_iff.2 h3) (o (nat_Parse.does h4) (o (bne_iff_ne.2 h5) f)))))) (by kernel_rfl)
      · rw [if_neg h5] at h
        obtain ⟨v34, h6, h⟩ := bnd h
        obtain ⟨v35, h7, h⟩ := bnd h
        obtain rfl := Option.some.inj h
        exact Til.fin Tryz.func79 [(3, ca (.tup [.c (.d (.str v3.1)), .c (.d (.str v3.2.1)), .c (.d (.bool v3.2.2))])), (7, .b false), (13, ca (.tup [.c (.d (.str v13.1)), .c (.d (.str v13.2.1)), .c (.d (.bool v13.2.2))])), (17, .b false), (22, ca (.tup [.c (.d (L67 v22.1)), .c (.d (.int .i64 v22.2))])), (29, .b false), (34, ca (.c (.d (L67 v34)))), (35, ca (.agg [.d (.bool v35.1), .d (L67 v35.2.1), .d (L67 v35.2.2)]))] (fun _ f => o (strings_Cut.does h0) (o (Bool.eq_false_iff.2 h1) (o (strings_Cut.does h2) (o (Bool.eq_false_iff.2 h3) (o (nat_Parse.does h4) (o (ne_f h5) (o (nat_Of.does h6) (o (ratio_form.does h7) f)))))))) (by kernel_rfl)

theorem whole_Neg.does {k : Nat} {a0_0 : Bool} {l0_1 : List Int} {r : Bool × List Int} (h : whole_Neg.f k a0_0 l0_1 = some r) :
    Does Tryz.prog 98 [.agg [.d (.bool a0_0), .d (L67 l0_1)]] [] (.agg [.d (.bool r.1), .d (L67 r.2)]) none [] := by
  refine does_fn Tryz.func98 (by kernel_rfl) rfl rfl ?_
  unfold whole_Neg.f at h
  obtain ⟨v3, h0, h⟩ := bnd h
  obtain ⟨v10, h1, h⟩ := bnd h
  obtain rfl := Option.some.inj h
  exact Til.fin Tryz.func98 [(3, ca (.agg [.d (.bool v3.1), .d (L67 v3.2)])), (10, ca (.agg [.d (.bool v10.1), .d (L67 v10.2)]))] (fun _ f => o (whole_Clean.does h0) (o (whole_sign.does h1) f)) (by kernel_rfl)

theorem ratio_Neg.does {k : Nat} {a0_0 : Bool} {l0_1 : List Int} {l0_2 : List Int} {r : Bool × List Int × List Int} (h : ratio_Neg.f k a0_0 l0_1 l0_2 = some r) :
    Does Tryz.prog 80 [.agg [.d (.bool a0_0), .d (L67 l0_1), .d (L67 l0_2)]] [] (.agg [.d (.bool r.1), .d (L67 r.2.1), .d (L67 r.2.2)]) none [] := by
  refine does_fn Tryz.func80 (by kernel_rfl) rfl rfl ?_
  unfold ratio_Neg.f at h
  obtain ⟨v3, h0, h⟩ := bnd h
  obtain ⟨v7, h1, h⟩ := bnd h
  obtain rfl := Option.some.inj h
  exact Til.fin Tryz.func80 [(3, ca (.agg [.d (.bool v3.1), .d (L67 v3.2.1), .d (L67 v3.2.2)])), (7, ca (.agg [.d (.bool v7.1), .d (L67 v7.2)]))] (fun _ f => o (ratio_Clean.does h0) (o (whole_Neg.does h1) f)) (by kernel_rfl)

theorem ratio_Parse.does {k : Nat} {a0 : ByteArray} {r : Bool × List Int × List Int × Int} (h : ratio_Parse.f k a0 = some r) :
    Does Tryz.prog 64 [.c (.d (.str a0))] [] (.tup [.agg [.d (.bool r.1), .d (L67 r.2.1), .d (L67 r.2.2.1)], .c (.d (.int .i64 r.2.2.2))]) none [] := by
  refine does_fn Tryz.func64 (by kernel_rfl) rfl rfl ?_
  unfold ratio_Parse.f at h
  obtain ⟨v3, h0, h⟩ := bnd h
  cases v3
  · rw [if_neg (by decide)] at h
    obtain ⟨v7, h2, h⟩ := bnd h
    by_cases h3 : v7.2.2.2 ≠ 0
    · rw [if_pos h3] at h
      obtain rfl := Option.some.inj h
      exact Til.fin Tryz.func64 [(3, ca (.c (.d (.bool false)))), (7, ca (.tup [.agg [.d (.bool v7.1), .d (L67 v7.2.1), .d (L67 v7.2.2.1)], .c (.d (.int .i64 v7.2.2.2))])), (15, .b true)] (fun _ f => o (strings_HasPrefix.does h0) (o (ratio_plain.does h2) (o (bne_iff_ne.2 h3) f))) (by kernel_rfl)
    · rw [if_neg h3] at h
      obtain rfl := Option.some.inj h
      exact Til.fin Tryz.func64 [(3, ca (.c (.d (.bool false)))), (7, ca (.tup [.agg [.d (.bool v7.1), .d (L67 v7.2.1), .d (L67 v7.2.2.1)], .c (.d (.int .i64 v7.2.2.2))])), (15, .b false)] (fun _ f => o (strings_HasPrefix.does h0) (o (ratio_plain.does h2) (o (ne_f h3) f))) (by kernel_rfl)
  · rw [if_pos rfl] at h
    obtain ⟨h2, h⟩ := ifp h
    obtain ⟨v10, h3, h⟩ := bnd h
    by_cases h4 : v10.2.2.2 ≠ 0
    · rw [if_pos h4] at h
      obtain rfl := Option.some.inj h
      exact Til.fin Tryz.func64 [(3, ca (.c (.d (.bool true)))), (10, ca (.tup [.agg [.d (.bool v10.1), .d (L67 v10.2.1), .d (L67 v10.2.2.1)], .c (.d (.int .i64 v10.2.2.2))])), (18, .b true)] (fun _ f => o (strings_HasPrefix.does h0) (o (o (nn 1) h2) (o (ratio_plain.does h3) (o (bne_iff_ne.2 h4) f)))) (by kernel_rfl)
    · rw [if_neg h4] at h
      obtain ⟨v21, h5, h⟩ := bnd h
      obtain rfl := Option.some.inj h
      exact Til.fin Tryz.func64 [(3, ca (.c (.d (.bool true)))), (10, ca (.tup [.agg [.d (.bool v10.1), .d (L67 v10.2.1), .d (L67 v10.2.2.1)], .c (.d (.int .i64 v10.2.2.2))])), (18, .b false), (21, ca (.agg [.d (.bool v21.1), .d (L67 v21.2.1), .d (L67 v21.2.2)]))] (fun _ f => o (strings_HasPrefix.does h0) (o (o (nn 1) h2) (o (ratio_plain.does h3) (o (ne_f h4) (o (ratio_Neg.does h5) f))))) (by kernel_rfl)

theorem rows_Cell.does {k : Nat} {a0 : ByteArray} {r : Bool × Bool × List Int × List Int × Int} (h : rows_Cell.f k a0 = some r) :
    Does Tryz.prog 57 [.c (.d (.str a0))] [] (.tup [.agg [.d (.bool r.1), .d (.bool r.2.1), .d (L67 r.2.2.1), .d (L67 r.2.2.2.1)], .c (.d (.int .i64 r.2.2.2.2))]) none [] := by
  refine does_fn Tryz.func57 (by kernel_rfl) rfl rfl ?_
  unfold rows_Cell.f at h
  by_cases h0 : a0 = (⟨#[63]⟩ : ByteArray)
  · rw [if_pos h0] at h
    obtain rfl := Option.some.inj h
    exact Til.fin Tryz.func57 [(3, .b true)] (fun _ f => o (str_t h0) f) (by kernel_rfl)
  · rw [if_neg h0] at h
    obtain ⟨v5, h1, h⟩ := bnd h
    by_cases h2 : v5.2.2.2 ≠ 0
    · rw [if_pos h2] at h
      obtain rfl := Option.some.inj h
      exact Til.fin Tryz.func57 [(3, .b false), (5, ca (.tup [.agg [.d (.bool v5.1), .d (L67 v5.2.1), .d (L67 v5.2.2.1)], .c (.d (.int .i64 v5.2.2.2))])), (13, .b true)] (fun _ f => o (str_f h0) (o (ratio_Parse.does h1) (o (bne_iff_ne.2 h2) f))) (by kernel_rfl)
    · rw [if_neg h2] at h
      obtain rfl := Option.some.inj h
      exact Til.fin Tryz.func57 [(3, .b false), (5, ca (.tup [.agg [.d (.bool v5.1), .d (L67 v5.2.1), .d (L67 v5.2.2.1)], .c (.d (.int .i64 v5.2.2.2))])), (13, .b false)] (fun _ f => o (str_f h0) (o (ratio_Parse.does h1) (o (ne_f h2) f))) (by kernel_rfl)

def rows_Words.l0E (x5 : List (Bool × Bool × List Int × List Int)) (x10 : List (Int × Int × ByteArray)) (x11 : Int) (x12 : Int) : Env := [(5, .c (.own 5)), (10, .c (.d (L59 x10))), (11, .c (.d (.int .i64 x11))), (12, .c (.d (.int .i64 x12)))]
def rows_Words.l0B (x5 : List (Bool × Bool × List Int × List Int)) (x10 : List (Int × Int × ByteArray)) (x11 : Int) (x12 : Int) : Obs := [(5, some (O53 .own x5))]
theorem rows_Words.w (k : Nat) : (∀  (x5 : List (Bool × Bool × List Int × List Int)) (x10 : List (Int × Int × ByteArray)) (x11 : Int) (x12 : Int) (r : List (Bool × Bool × List Int × List Int) × Int × Int), rows_Words.l0 k x5 x10 x11 x12 = some r → Til Tryz.prog 43 [] (.tup [.c (.d (L53 r.1)), .c (.d (.int .i64 r.2.1)), .c (.d (.int .i64 r.2.2))]) none [] (at_ Tryz.f43 3) (rows_Words.l0E x5 x10 x11 x12) (rows_Words.l0B x5 x10 x11 x12)) := by
  induction k with
  | zero =>
    exact fun _ _ _ _ _ h => (by cases h)
  | succ k ih =>
    intro x5 x10 x11 x12 r h
    rw [rows_Words.l0] at h
    by_cases h0 : x12 < x11
    · rw [if_pos h0] at h
      obtain ⟨h1, h⟩ := ifp h
      obtain ⟨h2, h⟩ := ifp h
      obtain ⟨v7, h3, h⟩ := bnd h
      by_cases h4 : v7.2.2.2.2 ≠ 0
      · rw [if_pos h4] at h
        obtain rfl := Option.some.inj h
        exact Til.fin Tryz.func43 [(0, .b true), (7, ca (.tup [.agg [.d (.bool v7.1), .d (.bool v7.2.1), .d (L67 v7.2.2.1), .d (L67 v7.2.2.2.1)], .c (.d (.int .i64 v7.2.2.2.2))])), (15, .b true)] (fun _ f => o (decide_eq_true h0) (o (o h1 h2) (o (rows_Cell.does h3) (o (bne_iff_ne.2 h4) f)))) (by kernel_rfl)
      · rw [if_neg h4] at h
        obtain ⟨h5, h⟩ := ifp h
        exact Til.mid Tryz.func43 3 [(0, .b true), (7, ca (.tup [.agg [.d (.bool v7.1), .d (.bool v7.2.1), .d (L67 v7.2.2.1), .d (L67 v7.2.2.2.1)], .c (.d (.int .i64 v7.2.2.2.2))])), (15, .b false), (18, Z53 ([(v7.1, v7.2.1, v7.2.2.1, v7.2.2.2.1)] : List (Bool × Bool × List Int × List Int))), (19, Z53 (x5 ++ [(v7.1, v7.2.1, v7.2.2.1, v7.2.2.2.1)]))] (fun _ f => o (decide_eq_true h0) (o (o h1 h2) (o (rows_Cell.does h3) (o (ne_f h4) (o (lit_ok c53 (false, false, [], []) ([(v7.1, v7.2.1, v7.2.2.1, v7.2.2.2.1)] : List (Bool × Bool × List Int × List Int))) (o (app1 c53 (false, false, [], []) x5 (v7.1, v7.2.1, v7.2.2.1, v7.2.2.2.1) 64 2199023255552 (by decide) h5) f)))))) (by kernel_rfl) (ih _ _ _ _ _ h)
    · rw [if_neg h0] at h
      obtain rfl := Option.some.inj h
      exact Til.fin Tryz.func43 [(0, .b false)] (fun _ f => o (decide_eq_false h0) f) (by kernel_rfl)
theorem rows_Words.does {k : Nat} {l0 : List (Int × Int × ByteArray)} {r : List (Bool × Bool × List Int × List Int) × Int × Int} (h : rows_Words.f k l0 = some r) :
    Does Tryz.prog 43 [.c (.d (L59 l0))] [] (.tup [.c (.d (L53 r.1)), .c (.d (.int .i64 r.2.1)), .c (.d (.int .i64 r.2.2))]) none [] := by
  refine does_fn Tryz.func43 (by kernel_rfl) rfl rfl ?_
  unfold rows_Words.f at h
  have ih := rows_Words.w k
  exact Til.mid Tryz.func43 3 [] (fun _ f => f) (by kernel_rfl) (ih _ _ _ _ _ h)

def ask_extra.l0E (x1 : Bool) (x7 : List (Int × Int × ByteArray)) (x8 : Int) (x9 : Int) : Env := [(1, .c (.d (.bool x1))), (7, .c (.d (L59 x7))), (8, .c (.d (.int .i64 x8))), (9, .c (.d (.int .i64 x9)))]
theorem ask_extra.w (k : Nat) : (∀  (x1 : Bool) (x7 : List (Int × Int × ByteArray)) (x8 : Int) (x9 : Int) (r : Int), ask_extra.l0 k x1 x7 x8 x9 = some r → Til Tryz.prog 44 [] (.c (.d (.int .i64 r))) none [] (at_ Tryz.f44 2) (ask_extra.l0E x1 x7 x8 x9) []) := by
  induction k with
  | zero =>
    exact fun _ _ _ _ _ h => (by cases h)
  | succ k ih =>
    intro x1 x7 x8 x9 r h
    rw [ask_extra.l0] at h
    by_cases h0 : x9 < x8
    · rw [if_pos h0] at h
      obtain ⟨h1, h⟩ := ifp h
      obtain ⟨h2, h⟩ := ifp h
      by_cases h3 : x1 = true
      · rw [if_pos h3] at h
        by_cases h4 : (gt (0, 0, ByteArray.empty) x7 x9).2.2 = (⟨#[124]⟩ : ByteArray)
        · rw [if_pos h4] at h
          obtain rfl := Option.some.inj h
          exact Til.fin Tryz.func44 [(0, .b true), (5, .b true), (10, .b true)] (fun _ f => o (decide_eq_true h0) (o (o h1 h2) (o h3 (o (str_t h4) f)))) (by kernel_rfl)
        · rw [if_neg h4] at h
          exact Til.mid Tryz.func44 2 [(0, .b true), (5, .b true), (10, .b false)] (fun _ f => o (decide_eq_true h0) (o (o h1 h2) (o h3 (o (str_f h4) f)))) (by kernel_rfl) (ih _ _ _ _ _ h)
      · rw [if_neg h3] at h
        obtain rfl := Option.some.inj h
        exact Til.fin Tryz.func44 [(0, .b true), (5, .b false)] (fun _ f => o (decide_eq_true h0) (o (o h1 h2) (o (Bool.eq_false_iff.2 h3) f))) (by kernel_rfl)
    · rw [if_neg h0] at h
      obtain rfl := Option.some.inj h
      exact Til.fin Tryz.func44 [(0, .b false)] (fun _ f => o (decide_eq_false h0) f) (by kernel_rfl)
theorem ask_extra.does {k : Nat} {l0 : List (Int × Int × ByteArray)} {a1 : Bool} {r : Int} (h : ask_extra.f k l0 a1 = some r) :
    Does Tryz.prog 44 [.c (.d (L59 l0)), .c (.d (.bool a1))] [] (.c (.d (.int .i64 r))) none [] := by
  refine does_fn Tryz.func44 (by kernel_rfl) rfl rfl ?_
  unfold ask_extra.f at h
  have ih := ask_extra.w k
  exact Til.mid Tryz.func44 2 [] (fun _ f => f) (by kernel_rfl) (ih _ _ _ _ _ h)

def c54 (x : List (Int × Int × ByteArray)) : List Dat := [L59 x]
def L54 (xs : List (List (Int × Int × ByteArray))) : Dat := fr 1 c54 [] xs
def Z54 (xs : List (List (Int × Int × ByteArray))) : Sup := .r xs.length (enc c54 [] xs)
def O54 (k : RK) (xs : List (List (Int × Int × ByteArray))) : Ob := .row k 54 1 xs.length (enc c54 [] xs)

def ask_rest.l0E (x98 : List (List (Int × Int × ByteArray))) (x99 : Int) (x100 : Int) (b3_0 : Int) (b3_1 : Int) (b3_2 : List (Bool × Bool × List Int × List Int)) (b3_3 : List (List (Bool × Bool × List Int × List Int))) (b3_4 : List (Bool × Bool × List Int × List Int)) (b6_0 : Int) (b6_1 : Int) : Env := [(3, .c (.ptr 3 0)), (6, .c (.ptr 6 0)), (98, .c (.d (L54 x98))), (99, .c (.d (.int .i64 x99))), (100, .c (.d (.int .i64 x100)))]
def ask_rest.l0B (x98 : List (List (Int × Int × ByteArray))) (x99 : Int) (x100 : Int) (b3_0 : Int) (b3_1 : Int) (b3_2 : List (Bool × Bool × List Int × List Int)) (b3_3 : List (List (Bool × Bool × List Int × List Int))) (b3_4 : List (Bool × Bool × List Int × List Int)) (b6_0 : Int) (b6_1 : Int) : Obs := [(3, some (.box [.d (.int .i64 b3_0), .d (.int .i64 b3_1), .d (L53 b3_2), .own 1004003, .d (L53 b3_4)])), (6, some (.box [.d (.int .i64 b6_0), .d (.int .i64 b6_1), .nils, .nils, .nils])), (1004003, some (O22 .own b3_3))]
theorem ask_rest.w (k : Nat) : (∀  (x98 : List (List (Int × Int × ByteArray))) (x99 : Int) (x100 : Int) (b3_0 : Int) (b3_1 : Int) (b3_2 : List (Bool × Bool × List Int × List Int)) (b3_3 : List (List (Bool × Bool × List Int × List Int))) (b3_4 : List (Bool × Bool × List Int × List Int)) (b6_0 : Int) (b6_1 : Int) (r : Int × Int × List (Bool × Bool × List Int × List Int) × List (List (Bool × Bool × List Int × List Int)) × List (Bool × Bool × List Int × List Int) × Int × Int), ask_rest.l0 k x98 x99 x100 b3_0 b3_1 b3_2 b3_3 b3_4 b6_0 b6_1 = some r → Til Tryz.prog 22 [] (.tup [.agg [.d (.int .i64 r.1), .d (.int .i64 r.2.1), .d (L53 r.2.2.1), .d (L22 r.2.2.2.1), .d (L53 r.2.2.2.2.1)], .c (.d (.int .i64 r.2.2.2.2.2.1)), .c (.d (.int .i64 r.2.2.2.2.2.2))]) none [] (at_ Tryz.f22 23) (ask_rest.l0E x98 x99 x100 b3_0 b3_1 b3_2 b3_3 b3_4 b6_0 b6_1) (ask_rest.l0B x98 x99 x100 b3_0 b3_1 b3_2 b3_3 b3_4 b6_0 b6_1)) := by
  induction k with
  | zero =>
    exact fun _ _ _ _ _ _ _ _ _ _ _ h => (by cases h)
  | succ k ih =>
    intro x98 x99 x100 b3_0 b3_1 b3_2 b3_3 b3_4 b6_0 b6_1 r h
    rw [ask_rest.l0] at h
    by_cases h0 : x100 < x99
    · rw [if_pos h0] at h
      obtain ⟨h1, h⟩ := ifp h
      obtain ⟨h2, h⟩ := ifp h
      obtain ⟨v5, h3, h⟩ := bnd h
      by_cases h4 : v5.2.2 ≠ 0
      · rw [if_pos h4] at h
        obtain rfl := Option.some.inj h
        exact Til.fin Tryz.func22 [(0, .b true), (5, ca (.tup [.c (.d (L53 v5.1)), .c (.d (.int .i64 v5.2.1)), .c (.d (.int .i64 v5.2.2))])), (14, .b true)] (fun _ f => o (decide_eq_true h0) (o (o h1 h2) (o (rows_Words.does h3) (o (bne_iff_ne.2 h4) f)))) (by kernel_rfl)
      · rw [if_neg h4] at h
        obtain ⟨h5, h⟩ := ifp h
        exact Til.mid Tryz.func22 23 [(0, .b true), (5, ca (.tup [.c (.d (L53 v5.1)), .c (.d (.int .i64 v5.2.1)), .c (.d (.int .i64 v5.2.2))])), (14, .b false), (18, Z22 ([v5.1] : List (List (Bool × Bool × List Int × List Int)))), (19, Z22 (b3_3 ++ [v5.1]))] (fun _ f => o (decide_eq_true h0) (o (o h1 h2) (o (rows_Words.does h3) (o (ne_f h4) (o (lit_ok c22 [] ([v5.1] : List (List (Bool × Bool × List Int × List Int)))) (o (app1 c22 [] b3_3 v5.1 24 5864062014805 (by decide) h5) f)))))) (by kernel_rfl) (ih _ _ _ _ _ _ _ _ _ _ _ h)
    · rw [if_neg h0] at h
      obtain rfl := Option.some.inj h
      exact Til.fin Tryz.func22 [(0, .b false)] (fun _ f => o (decide_eq_false h0) f) (by kernel_rfl)
theorem ask_rest.does {k : Nat} {a0_0 : Int} {a0_1 : Int} {l0_2 : List (Bool × Bool × List Int × List Int)} {l0_4 : List (Bool × Bool × List Int × List Int)} {l1 : List (Int × Int × ByteArray)} {a2 : Int} {r : Int × Int × List (Bool × Bool × List Int × List Int) × List (List (Bool × Bool × List Int × List Int)) × List (Bool × Bool × List Int × List Int) × Int × Int} (h : ask_rest.f k a0_0 a0_1 l0_2 l0_4 l1 a2 = some r) :
    Does Tryz.prog 22 [.agg [.d (.int .i64 a0_0), .d (.int .i64 a0_1), .d (L53 l0_2), .nils, .d (L53 l0_4)], .c (.d (L59 l1)), .c (.d (.int .i64 a2))] [] (.tup [.agg [.d (.int .i64 r.1), .d (.int .i64 r.2.1), .d (L53 r.2.2.1), .d (L22 r.2.2.2.1), .d (L53 r.2.2.2.2.1)], .c (.d (.int .i64 r.2.2.2.2.2.1)), .c (.d (.int .i64 r.2.2.2.2.2.2))]) none [] := by
  refine does_fn Tryz.func22 (by kernel_rfl) rfl rfl ?_
  unfold ask_rest.f at h
  have ih := ask_rest.w k
  obtain ⟨v6, h0, h⟩ := bnd h
  by_cases h1 : (Go.bits .and .i64 v6 1) ≠ 0
  · rw [if_pos h1] at h
    by_cases h2 : (l1.length : Int) = 0
    · rw [if_pos h2] at h
      obtain rfl := Option.some.inj h
      exact Til.fin Tryz.func22 [(6, ca (.c (.d (.int .i64 v6)))), (10, .b true), (13, .b true)] (fun _ f => o (ask_form.does h0) (o (bne_iff_ne.2 h1) (o (beq_iff_eq.2 h2) f))) (by kernel_rfl)
    · rw [if_neg h2] at h
      obtain ⟨h3, h⟩ := ifp h
      obtain ⟨v18, h4, h⟩ := bnd h
      by_cases h5 : v18.2 ≠ 0
      · rw [if_pos h5] at h
        obtain rfl := Option.some.inj h
        exact Til.fin Tryz.func22 [(6, ca (.c (.d (.int .i64 v6)))), (10, .b true), (13, .b false), (18, ca (.tup [.c (.d (.int .i64 v18.1)), .c (.d (.int .i64 v18.2))])), (25, .b true)] (fun _ f => o (ask_form.does h0) (o (bne_iff_ne.2 h1) (o (beq_false_of_ne h2) (o (o (nn 0) h3) (o (ask_number.does h4) (o (bne_iff_ne.2 h5) (o (o (nn 0) h3) f))))))) (by kernel_rfl)
      · rw [if_neg h5] at h
        obtain ⟨h6, h⟩ := ifp h
        obtain ⟨v33, h7, h⟩ := bnd h
        by_cases h8 : (Go.bits .and .i64 v6 6) ≠ 0
        · rw [if_pos h8] at h
          by_cases h9 : (v33.length : Int) > 0
          · rw [if_pos h9] at h
            obtain ⟨h10, h⟩ := ifp h
            obtain ⟨v50, h11, h⟩ := bnd h
            by_cases h12 : v50.2.2 ≠ 0
            · rw [if_pos h12] at h
              obtain rfl := Option.some.inj h
              exact Til.fin Tryz.func22 [(6, ca (.c (.d (.int .i64 v6)))), (10, .b true), (13, .b false), (18, ca (.tup [.c (.d (.int .i64 v18.1)), .c (.d (.int .i64 v18.2))])), (25, .b false), (28, Z59 (l1.drop 1)), (33, ca (.c (.d (L54 v33)))), (37, .b true), (41, .b true), (46, Z54 (v33.drop 1)), (50, ca (.tup [.c (.d (L53 v50.1)), .c (.d (.int .i64 v50.2.1)), .c (.d (.int .i64 v50.2.2))])), (59, .b true)] (fun _ f => o (ask_form.does h0) (o (bne_iff_ne.2 h1) (o (beq_false_of_ne h2) (o (o (nn 0) h3) (o (ask_number.does h4) (o (ne_f h5) (o (drop_ok c59 (0, 0, ByteArray.empty) l1 (nn 1) h6) (o (rows_Split.does h7) (o (bne_iff_ne.2 h8) (o (decide_eq_true h9) (o (o (nn 0) h9) (o (drop_ok c54 [] v33 (nn 1) h10) (o (rows_Words.does h11) (o (bne_iff_ne.2 h12) f)))))))))))))) (by kernel_rfl)
            · rw [if_neg h12] at h
              by_cases h13 : (Go.bits .and .i64 v6 2) ≠ 0
              · rw [if_pos h13] at h
                by_cases h14 : (Go.bits .and .i64 v6 8) = 0
                · rw [if_pos h14] at h
                  by_cases h15 : ((v33.drop 1).length : Int) > 0
                  · rw [if_pos h15] at h
                    obtain ⟨v79, h16, h⟩ := bnd h
                    obtain rfl := Option.some.inj h
                    exact Til.fin Tryz.func22 [(6, ca (.c (.d (.int .i64 v6)))), (10, .b true), (13, .b false), (18, ca (.tup [.c (.d (.int .i64 v18.1)), .c (.d (.int .i64 v18.2))])), (25, .b false), (28, Z59 (l1.drop 1)), (33, ca (.c (.d (L54 v33)))), (37, .b true), (41, .b true), (46, Z54 (v33.drop 1)), (50, ca (.tup [.c (.d (L53 v50.1)), .c (.d (.int .i64 v50.2.1)), .c (.d (.int .i64 v50.2.2))])), (59, .b false), (62, .b true), (68, .b true), (72, .b true), (79, ca (.c (.d (.int .i64 v79))))] (fun _ f => o (ask_form.does h0) (o (bne_iff_ne.2 h1) (o (beq_false_of_ne h2) (o (o (nn 0) h3) (o (ask_number.does h4) (o (ne_f h5) (o (drop_ok c59 (0, 0, ByteArray.empty) l1 (nn 1) h6) (o (rows_Split.does h7) (o (bne_iff_ne.2 h8) (o (decide_eq_true h9) (o (o (nn 0) h9) (o (drop_ok c54 [] v33 (nn 1) h10) (o (rows_Words.does h11) (o (ne_f h12) (o (bne_iff_ne.2 h13) (o (beq_iff_eq.2 h14) (o (decide_eq_true h15) (o (ask_extra.does h16) f)))))))))))))))))) (by kernel_rfl)
                  · rw [if_neg h15] at h
                    exact Til.mid Tryz.func22 23 [(6, ca (.c (.d (.int .i64 v6)))), (10, .b true), (13, .b false), (18, ca (.tup [.c (.d (.int .i64 v18.1)), .c (.d (.int .i64 v18.2))])), (25, .b false), (28, Z59 (l1.drop 1)), (33, ca (.c (.d (L54 v33)))), (37, .b true), (41, .b true), (46, Z54 (v33.drop 1)), (50, ca (.tup [.c (.d (L53 v50.1)), .c (.d (.int .i64 v50.2.1)), .c (.d (.int .i64 v50.2.2))])), (59, .b false), (62, .b true), (68, .b true), (72, .b false)] (fun _ f => o (ask_form.does h0) (o (bne_iff_ne.2 h1) (o (beq_false_of_ne h2) (o (o (nn 0) h3) (o (ask_number.does h4) (o (ne_f h5) (o (drop_ok c59 (0, 0, ByteArray.empty) l1 (nn 1) h6) (o (rows_Split.does h7) (o (bne_iff_ne.2 h8) (o (decide_eq_true h9) (o (o (nn 0) h9) (o (drop_ok c54 [] v33 (nn 1) h10) (o (rows_Words.does h11) (o (ne_f h12) (o (bne_iff_ne.2 h13) (o (beq_iff_eq.2 h14) (o (decide_eq_false h15) f))))))))))))))))) (by kernel_rfl) (ih _ _ _ _ _ _ _ _ _ _ _ h)
                · rw [if_neg h14] at h
                  exact Til.mid Tryz.func22 23 [(6, ca (.c (.d (.int .i64 v6)))), (10, .b true), (13, .b false), (18, ca (.tup [.c (.d (.int .i64 v18.1)), .c (.d (.int .i64 v18.2))])), (25, .b false), (28, Z59 (l1.drop 1)), (33, ca (.c (.d (L54 v33)))), (37, .b true), (41, .b true), (46, Z54 (v33.drop 1)), (50, ca (.tup [.c (.d (L53 v50.1)), .c (.d (.int .i64 v50.2.1)), .c (.d (.int .i64 v50.2.2))])), (59, .b false), (62, .b true), (68, .b false)] (fun _ f => o (ask_form.does h0) (o (bne_iff_ne.2 h1) (o (beq_false_of_ne h2) (o (o (nn 0) h3) (o (ask_number.does h4) (o (ne_f h5) (o (drop_ok c59 (0, 0, ByteArray.empty) l1 (nn 1) h6) (o (rows_Split.does h7) (o (bne_iff_ne.2 h8) (o (decide_eq_true h9) (o (o (nn 0) h9) (o (drop_ok c54 [] v33 (nn 1) h10) (o (rows_Words.does h11) (o (ne_f h12) (o (bne_iff_ne.2 h13) (o (beq_false_of_ne h14) f)))))))))))))))) (by kernel_rfl) (ih _ _ _ _ _ _ _ _ _ _ _ h)
              · rw [if_neg h13] at h
                by_cases h14 : (Go.bits .and .i64 v6 8) = 0
                · rw [if_pos h14] at h
                  by_cases h15 : ((v33.drop 1).length : Int) > 0
                  · rw [if_pos h15] at h
                    obtain ⟨v79, h16, h⟩ := bnd h
                    obtain rfl := Option.some.inj h
                    exact Til.fin Tryz.func22 [(6, ca (.c (.d (.int .i64 v6)))), (10, .b true), (13, .b false), (18, ca (.tup [.c (.d (.int .i64 v18.1)), .c (.d (.int .i64 v18.2))])), (25, .b false), (28, Z59 (l1.drop 1)), (33, ca (.c (.d (L54 v33)))), (37, .b true), (41, .b true), (46, Z54 (v33.drop 1)), (50, ca (.tup [.c (.d (L53 v50.1)), .c (.d (.int .i64 v50.2.1)), .c (.d (.int .i64 v50.2.2))])), (59, .b false), (62, .b false), (68, .b true), (72, .b true), (79, ca (.c (.d (.int .i64 v79))))] (fun _ f => o (ask_form.does h0) (o (bne_iff_ne.2 h1) (o (beq_false_of_ne h2) (o (o (nn 0) h3) (o (ask_number.does h4) (o (ne_f h5) (o (drop_ok c59 (0, 0, ByteArray.empty) l1 (nn 1) h6) (o (rows_Split.does h7) (o (bne_iff_ne.2 h8) (o (decide_eq_true h9) (o (o (nn 0) h9) (o (drop_ok c54 [] v33 (nn 1) h10) (o (rows_Words.does h11) (o (ne_f h12) (o (ne_f h13) (o (beq_iff_eq.2 h14) (o (decide_eq_true h15) (o (ask_extra.does h16) f)))))))))))))))))) (by kernel_rfl)
                  · rw [if_neg h15] at h
                    exact Til.mid Tryz.func22 23 [(6, ca (.c (.d (.int .i64 v6)))), (10, .b true), (13, .b false), (18, ca (.tup [.c (.d (.int .i64 v18.1)), .c (.d (.int .i64 v18.2))])), (25, .b false), (28, Z59 (l1.drop 1)), (33, ca (.c (.d (L54 v33)))), (37, .b true), (41, .b true), (46, Z54 (v33.drop 1)), (50, ca (.tup [.c (.d (L53 v50.1)), .c (.d (.int .i64 v50.2.1)), .c (.d (.int .i64 v50.2.2))])), (59, .b false), (62, .b false), (68, .b true), (72, .b false)] (fun _ f => o (ask_form.does h0) (o (bne_iff_ne.2 h1) (o (beq_false_of_ne h2) (o (o (nn 0) h3) (o (ask_number.does h4) (o (ne_f h5) (o (drop_ok c59 (0, 0, ByteArray.empty) l1 (nn 1) h6) (o (rows_Split.does h7) (o (bne_iff_ne.2 h8) (o (decide_eq_true h9) (o (o (nn 0) h9) (o (drop_ok c54 [] v33 (nn 1) h10) (o (rows_Words.does h11) (o (ne_f h12) (o (ne_f h13) (o (beq_iff_eq.2 h14) (o (decide_eq_false h15) f))))))))))))))))) (by kernel_rfl) (ih _ _ _ _ _ _ _ _ _ _ _ h)
                · rw [if_neg h14] at h
                  exact Til.mid Tryz.func22 23 [(6, ca (.c (.d (.int .i64 v6)))), (10, .b true), (13, .b false), (18, ca (.tup [.c (.d (.int .i64 v18.1)), .c (.d (.int .i64 v18.2))])), (25, .b false), (28, Z59 (l1.drop 1)), (33, ca (.c (.d (L54 v33)))), (37, .b true), (41, .b true), (46, Z54 (v33.drop 1)), (50, ca (.tup [.c (.d (L53 v50.1)), .c (.d (.int .i64 v50.2.1)), .c (.d (.int .i64 v50.2.2))])), (59, .b false), (62, .b false), (68, .b false)] (fun _ f => o (ask_form.does h0) (o (bne_iff_ne.2 h1) (o (beq_false_of_ne h2) (o (o (nn 0) h3) (o (ask_number.does h4) (o (ne_f h5) (o (drop_ok c59 (0, 0, ByteArray.empty) l1 (nn 1) h6) (o (rows_Split.does h7) (o (bne_iff_ne.2 h8) (o (decide_eq_true h9) (o (o (nn 0) h9) (o (drop_ok c54 [] v33 (nn 1) h10) (o (rows_Words.does h11) (o (ne_f h12) (o (ne_f h13) (o (beq_false_of_ne h14) f)))))))))))))))) (by kernel_rfl) (ih _ _ _ _ _ _ _ _ _ _ _ h)
          · rw [if_neg h9] at h
            obtain ⟨v43, h10, h⟩ := bnd h
            by_cases h11 : v43.2.2 ≠ 0
            · rw [if_pos h11] at h
              obtain rfl := Option.some.inj h
              exact Til.fin Tryz.func22 [(6, ca (.c (.d (.int .i64 v6)))), (10, .b true), (13, .b false), (18, ca (.tup [.c (.d (.int .i64 v18.1)), .c (.d (.int .i64 v18.2))])), (25, .b false), (28, Z59 (l1.drop 1)), (33, ca (.c (.d (L54 v33)))), (37, .b true), (41, .b false), (43, .call [(0, .c (.d (L59 ([] : List (Int × Int × ByteArray)))))] [] (.tup [.c (.d (L53 v43.1)), .c (.d (.int .i64 v43.2.1)), .c (.d (.int .i64 v43.2.2))]) none [] []), (52, .b true)] (fun _ f => o (ask_form.does h0) (o (bne_iff_ne.2 h1) (o (beq_false_of_ne h2) (o (o (nn 0) h3) (o (ask_number.does h4) (o (ne_f h5) (o (drop_ok c59 (0, 0, ByteArray.empty) l1 (nn 1) h6) (o (rows_Split.does h7) (o (bne_iff_ne.2 h8) (o (decide_eq_false h9) (o (rows_Words.does h10) (o (bne_iff_ne.2 h11) f)))))))))))) (by kernel_rfl)
            · rw [if_neg h11] at h
              by_cases h12 : (Go.bits .and .i64 v6 2) ≠ 0
              · rw [if_pos h12] at h
                by_cases h13 : (Go.bits .and .i64 v6 8) = 0
                · rw [if_pos h13] at h
                  by_cases h14 : (v33.length : Int) > 0
                  · rw [if_pos h14] at h
                    obtain ⟨v72, h15, h⟩ := bnd h
                    obtain rfl := Option.some.inj h
                    exact Til.fin Tryz.func22 [(6, ca (.c (.d (.int .i64 v6)))), (10, .b true), (13, .b false), (18, ca (.tup [.c (.d (.int .i64 v18.1)), .c (.d (.int .i64 v18.2))])), (25, .b false), (28, Z59 (l1.drop 1)), (33, ca (.c (.d (L54 v33)))), (37, .b true), (41, .b false), (43, .call [(0, .c (.d (L59 ([] : List (Int × Int × ByteArray)))))] [] (.tup [.c (.d (L53 v43.1)), .c (.d (.int .i64 v43.2.1)), .c (.d (.int .i64 v43.2.2))]) none [] []), (52, .b false), (55, .b true), (61, .b true), (65, .b true), (72, ca (.c (.d (.int .i64 v72))))] (fun _ f => o (ask_form.does h0) (o (bne_iff_ne.2 h1) (o (beq_false_of_ne h2) (o (o (nn 0) h3) (o (ask_number.does h4) (o (ne_f h5) (o (drop_ok c59 (0, 0, ByteArray.empty) l1 (nn 1) h6) (o (rows_Split.does h7) (o (bne_iff_ne.2 h8) (o (decide_eq_false h9) (o (rows_Words.does h10) (o (ne_f h11) (o (bne_iff_ne.2 h12) (o (beq_iff_eq.2 h13) (o (decide_eq_true h14) (o (ask_extra.does h15) f)))))))))))))))) (by kernel_rfl)
                  · rw [if_neg h14] at h
                    exact Til.mid Tryz.func22 23 [(6, ca (.c (.d (.int .i64 v6)))), (10, .b true), (13, .b false), (18, ca (.tup [.c (.d (.int .i64 v18.1)), .c (.d (.int .i64 v18.2))])), (25, .b false), (28, Z59 (l1.drop 1)), (33, ca (.c (.d (L54 v33)))), (37, .b true), (41, .b false), (43, .call [(0, .c (.d (L59 ([] : List (Int × Int × ByteArray)))))] [] (.tup [.c (.d (L53 v43.1)), .c (.d (.int .i64 v43.2.1)), .c (.d (.int .i64 v43.2.2))]) none [] []), (52, .b false), (55, .b true), (61, .b true), (65, .b false)] (fun _ f => o (ask_form.does h0) (o (bne_iff_ne.2 h1) (o (beq_false_of_ne h2) (o (o (nn 0) h3) (o (ask_number.does h4) (o (ne_f h5) (o (drop_ok c59 (0, 0, ByteArray.empty) l1 (nn 1) h6) (o (rows_Split.does h7) (o (bne_iff_ne.2 h8) (o (decide_eq_false h9) (o (rows_Words.does h10) (o (ne_f h11) (o (bne_iff_ne.2 h12) (o (beq_iff_eq.2 h13) (o (decide_eq_false h14) f))))))))))))))) (by kernel_rfl) (ih _ _ _ _ _ _ _ _ _ _ _ h)
                · rw [if_neg h13] at h
                  exact Til.mid Tryz.func22 23 [(6, ca (.c (.d (.int .i64 v6)))), (10, .b true), (13, .b false), (18, ca (.tup [.c (.d (.int .i64 v18.1)), .c (.d (.int .i64 v18.2))])), (25, .b false), (28, Z59 (l1.drop 1)), (33, ca (.c (.d (L54 v33)))), (37, .b true), (41, .b false), (43, .call [(0, .c (.d (L59 ([] : List (Int × Int × ByteArray)))))] [] (.tup [.c (.d (L53 v43.1)), .c (.d (.int .i64 v43.2.1)), .c (.d (.int .i64 v43.2.2))]) none [] []), (52, .b false), (55, .b true), (61, .b false)] (fun _ f => o (ask_form.does h0) (o (bne_iff_ne.2 h1) (o (beq_false_of_ne h2) (o (o (nn 0) h3) (o (ask_number.does h4) (o (ne_f h5) (o (drop_ok c59 (0, 0, ByteArray.empty) l1 (nn 1) h6) (o (rows_Split.does h7) (o (bne_iff_ne.2 h8) (o (decide_eq_false h9) (o (rows_Words.does h10) (o (ne_f h11) (o (bne_iff_ne.2 h12) (o (beq_false_of_ne h13) f)))))))))))))) (by kernel_rfl) (ih _ _ _ _ _ _ _ _ _ _ _ h)
              · rw [if_neg h12] at h
                by_cases h13 : (Go.bits .and .i64 v6 8) = 0
                · rw [if_pos h13] at h
                  by_cases h14 : (v33.length : Int) > 0
                  · rw [if_pos h14] at h
                    obtain ⟨v72, h15, h⟩ := bnd h
                    obtain rfl := Option.some.inj h
                    exact Til.fin Tryz.func22 [(6, ca (.c (.d (.int .i64 v6)))), (10, .b true), (13, .b false), (18, ca (.tup [.c (.d (.int .i64 v18.1)), .c (.d (.int .i64 v18.2))])), (25, .b false), (28, Z59 (l1.drop 1)), (33, ca (.c (.d (L54 v33)))), (37, .b true), (41, .b false), (43, .call [(0, .c (.d (L59 ([] : List (Int × Int × ByteArray)))))] [] (.tup [.c (.d (L53 v43.1)), .c (.d (.int .i64 v43.2.1)), .c (.d (.int .i64 v43.2.2))]) none [] []), (52, .b false), (55, .b false), (61, .b true), (65, .b true), (72, ca (.c (.d (.int .i64 v72))))] (fun _ f => o (ask_form.does h0) (o (bne_iff_ne.2 h1) (o (beq_false_of_ne h2) (o (o (nn 0) h3) (o (ask_number.does h4) (o (ne_f h5) (o (drop_ok c59 (0, 0, ByteArray.empty) l1 (nn 1) h6) (o (rows_Split.does h7) (o (bne_iff_ne.2 h8) (o (decide_eq_false h9) (o (rows_Words.does h10) (o (ne_f h11) (o (ne_f h12) (o (beq_iff_eq.2 h13) (o (decide_eq_true h14) (o (ask_extra.does h15) f)))))))))))))))) (by kernel_rfl)
                  · rw [if_neg h14] at h
                    exact Til.mid Tryz.func22 23 [(6, ca (.c (.d (.int .i64 v6)))), (10, .b true), (13, .b false), (18, ca (.tup [.c (.d (.int .i64 v18.1)), .c (.d (.int .i64 v18.2))])), (25, .b false), (28, Z59 (l1.drop 1)), (33, ca (.c (.d (L54 v33)))), (37, .b true), (41, .b false), (43, .call [(0, .c (.d (L59 ([] : List (Int × Int × ByteArray)))))] [] (.tup [.c (.d (L53 v43.1)), .c (.d (.int .i64 v43.2.1)), .c (.d (.int .i64 v43.2.2))]) none [] []), (52, .b false), (55, .b false), (61, .b true), (65, .b false)] (fun _ f => o (ask_form.does h0) (o (bne_iff_ne.2 h1) (o (beq_false_of_ne h2) (o (o (nn 0) h3) (o (ask_number.does h4) (o (ne_f h5) (o (drop_ok c59 (0, 0, ByteArray.empty) l1 (nn 1) h6) (o (rows_Split.does h7) (o (bne_iff_ne.2 h8) (o (decide_eq_false h9) (o (rows_Words.does h10) (o (ne_f h11) (o (ne_f h12) (o (beq_iff_eq.2 h13) (o (decide_eq_false h14) f))))))))))))))) (by kernel_rfl) (ih _ _ _ _ _ _ _ _ _ _ _ h)
                · rw [if_neg h13] at h
                  exact Til.mid Tryz.func22 23 [(6, ca (.c (.d (.int .i64 v6)))), (10, .b true), (13, .b false), (18, ca (.tup [.c (.d (.int .i64 v18.1)), .c (.d (.int .i64 v18.2))])), (25, .b false), (28, Z59 (l1.drop 1)), (33, ca (.c (.d (L54 v33)))), (37, .b true), (41, .b false), (43, .call [(0, .c (.d (L59 ([] : List (Int × Int × ByteArray)))))] [] (.tup [.c (.d (L53 v43.1)), .c (.d (.int .i64 v43.2.1)), .c (.d (.int .i64 v43.2.2))]) none [] []), (52, .b false), (55, .b false), (61, .b false)] (fun _ f => o (ask_form.does h0) (o (bne_iff_ne.2 h1) (o (beq_false_of_ne h2) (o (o (nn 0) h3) (o (ask_number.does h4) (o (ne_f h5) (o (drop_ok c59 (0, 0, ByteArray.empty) l1 (nn 1) h6) (o (rows_Split.does h7) (o (bne_iff_ne.2 h8) (o (decide_eq_false h9) (o (rows_Words.does h10) (o (ne_f h11) (o (ne_f h12) (o (beq_false_of_ne h13) f)))))))))))))) (by kernel_rfl) (ih _ _ _ _ _ _ _ _ _ _ _ h)
        · rw [if_neg h8] at h
          by_cases h9 : (Go.bits .and .i64 v6 8) = 0
          · rw [if_pos h9] at h
            by_cases h10 : (v33.length : Int) > 0
            · rw [if_pos h10] at h
              obtain ⟨v51, h11, h⟩ := bnd h
              obtain rfl := Option.some.inj h
              exact Til.fin Tryz.func22 [(6, ca (.c (.d (.int .i64 v6)))), (10, .b true), (13, .b false), (18, ca (.tup [.c (.d (.int .i64 v18.1)), .c (.d (.int .i64 v18.2))])), (25, .b false), (28, Z59 (l1.drop 1)), (33, ca (.c (.d (L54 v33)))), (37, .b false), (40, .b true), (44, .b true), (51, ca (.c (.d (.int .i64 v51))))] (fun _ f => o (ask_form.does h0) (o (bne_iff_ne.2 h1) (o (beq_false_of_ne h2) (o (o (nn 0) h3) (o (ask_number.does h4) (o (ne_f h5) (o (drop_ok c59 (0, 0, ByteArray.empty) l1 (nn 1) h6) (o (rows_Split.does h7) (o (ne_f h8) (o (beq_iff_eq.2 h9) (o (decide_eq_true h10) (o (ask_extra.does h11) f)))))))))))) (by kernel_rfl)
            · rw [if_neg h10] at h
              exact Til.mid Tryz.func22 23 [(6, ca (.c (.d (.int .i64 v6)))), (10, .b true), (13, .b false), (18, ca (.tup [.c (.d (.int .i64 v18.1)), .c (.d (.int .i64 v18.2))])), (25, .b false), (28, Z59 (l1.drop 1)), (33, ca (.c (.d (L54 v33)))), (37, .b false), (40, .b true), (44, .b false)] (fun _ f => o (ask_form.does h0) (o (bne_iff_ne.2 h1) (o (beq_false_of_ne h2) (o (o (nn 0) h3) (o (ask_number.does h4) (o (ne_f h5) (o (drop_ok c59 (0, 0, ByteArray.empty) l1 (nn 1) h6) (o (rows_Split.does h7) (o (ne_f h8) (o (beq_iff_eq.2 h9) (o (decide_eq_false h10) f))))))))))) (by kernel_rfl) (ih _ _ _ _ _ _ _ _ _ _ _ h)
          · rw [if_neg h9] at h
            exact Til.mid Tryz.func22 23 [(6, ca (.c (.d (.int .i64 v6)))), (10, .b true), (13, .b false), (18, ca (.tup [.c (.d (.int .i64 v18.1)), .c (.d (.int .i64 v18.2))])), (25, .b false), (28, Z59 (l1.drop 1)), (33, ca (.c (.d (L54 v33)))), (37, .b false), (40, .b false)] (fun _ f => o (ask_form.does h0) (o (bne_iff_ne.2 h1) (o (beq_false_of_ne h2) (o (o (nn 0) h3) (o (ask_number.does h4) (o (ne_f h5) (o (drop_ok c59 (0, 0, ByteArray.empty) l1 (nn 1) h6) (o (rows_Split.does h7) (o (ne_f h8) (o (beq_false_of_ne h9) f)))))))))) (by kernel_rfl) (ih _ _ _ _ _ _ _ _ _ _ _ h)
  · rw [if_neg h1] at h
    obtain ⟨v12, h2, h⟩ := bnd h
    by_cases h3 : (Go.bits .and .i64 v6 6) ≠ 0
    · rw [if_pos h3] at h
      by_cases h4 : (v12.length : Int) > 0
      · rw [if_pos h4] at h
        obtain ⟨h5, h⟩ := ifp h
        obtain ⟨v29, h6, h⟩ := bnd h
        by_cases h7 : v29.2.2 ≠ 0
        · rw [if_pos h7] at h
          obtain rfl := Option.some.inj h
          exact Til.fin Tryz.func22 [(6, ca (.c (.d (.int .i64 v6)))), (10, .b false), (12, ca (.c (.d (L54 v12)))), (16, .b true), (20, .b true), (25, Z54 (v12.drop 1)), (29, ca (.tup [.c (.d (L53 v29.1)), .c (.d (.int .i64 v29.2.1)), .c (.d (.int .i64 v29.2.2))])), (38, .b true)] (fun _ f => o (ask_form.does h0) (o (ne_f h1) (o (rows_Split.does h2) (o (bne_iff_ne.2 h3) (o (decide_eq_true h4) (o (o (nn 0) h4) (o (drop_ok c54 [] v12 (nn 1) h5) (o (rows_Words.does h6) (o (bne_iff_ne.2 h7) f))))))))) (by kernel_rfl)
        · rw [if_neg h7] at h
          by_cases h8 : (Go.bits .and .i64 v6 2) ≠ 0
          · rw [if_pos h8] at h
            by_cases h9 : (Go.bits .and .i64 v6 8) = 0
            · rw [if_pos h9] at h
              by_cases h10 : ((v12.drop 1).length : Int) > 0
              · rw [if_pos h10] at h
                obtain ⟨v58, h11, h⟩ := bnd h
                obtain rfl := Option.some.inj h
                exact Til.fin Tryz.func22 [(6, ca (.c (.d (.int .i64 v6)))), (10, .b false), (12, ca (.c (.d (L54 v12)))), (16, .b true), (20, .b true), (25, Z54 (v12.drop 1)), (29, ca (.tup [.c (.d (L53 v29.1)), .c (.d (.int .i64 v29.2.1)), .c (.d (.int .i64 v29.2.2))])), (38, .b false), (41, .b true), (47, .b true), (51, .b true), (58, ca (.c (.d (.int .i64 v58))))] (fun _ f => o (ask_form.does h0) (o (ne_f h1) (o (rows_Split.does h2) (o (bne_iff_ne.2 h3) (o (decide_eq_true h4) (o (o (nn 0) h4) (o (drop_ok c54 [] v12 (nn 1) h5) (o (rows_Words.does h6) (o (ne_f h7) (o (bne_iff_ne.2 h8) (o (beq_iff_eq.2 h9) (o (decide_eq_true h10) (o (ask_extra.does h11) f))))))))))))) (by kernel_rfl)
              · rw [if_neg h10] at h
                exact Til.mid Tryz.func22 23 [(6, ca (.c (.d (.int .i64 v6)))), (10, .b false), (12, ca (.c (.d (L54 v12)))), (16, .b true), (20, .b true), (25, Z54 (v12.drop 1)), (29, ca (.tup [.c (.d (L53 v29.1)), .c (.d (.int .i64 v29.2.1)), .c (.d (.int .i64 v29.2.2))])), (38, .b false), (41, .b true), (47, .b true), (51, .b false)] (fun _ f => o (ask_form.does h0) (o (ne_f h1) (o (rows_Split.does h2) (o (bne_iff_ne.2 h3) (o (decide_eq_true h4) (o (o (nn 0) h4) (o (drop_ok c54 [] v12 (nn 1) h5) (o (rows_Words.does h6) (o (ne_f h7) (o (bne_iff_ne.2 h8) (o (beq_iff_eq.2 h9) (o (decide_eq_false h10) f)))))))))))) (by kernel_rfl) (ih _ _ _ _ _ _ _ _ _ _ _ h)
            · rw [if_neg h9] at h
              exact Til.mid Tryz.func22 23 [(6, ca (.c (.d (.int .i64 v6)))), (10, .b false), (12, ca (.c (.d (L54 v12)))), (16, .b true), (20, .b true), (25, Z54 (v12.drop 1)), (29, ca (.tup [.c (.d (L53 v29.1)), .c (.d (.int .i64 v29.2.1)), .c (.d (.int .i64 v29.2.2))])), (38, .b false), (41, .b true), (47, .b false)] (fun _ f => o (ask_form.does h0) (o (ne_f h1) (o (rows_Split.does h2) (o (bne_iff_ne.2 h3) (o (decide_eq_true h4) (o (o (nn 0) h4) (o (drop_ok c54 [] v12 (nn 1) h5) (o (rows_Words.does h6) (o (ne_f h7) (o (bne_iff_ne.2 h8) (o (beq_false_of_ne h9) f))))))))))) (by kernel_rfl) (ih _ _ _ _ _ _ _ _ _ _ _ h)
          · rw [if_neg h8] at h
            by_cases h9 : (Go.bits .and .i64 v6 8) = 0
            · rw [if_pos h9] at h
              by_cases h10 : ((v12.drop 1).length : Int) > 0
              · rw [if_pos h10] at h
                obtain ⟨v58, h11, h⟩ := bnd h
                obtain rfl := Option.some.inj h
                exact Til.fin Tryz.func22 [(6, ca (.c (.d (.int .i64 v6)))), (10, .b false), (12, ca (.c (.d (L54 v12)))), (16, .b true), (20, .b true), (25, Z54 (v12.drop 1)), (29, ca (.tup [.c (.d (L53 v29.1)), .c (.d (.int .i64 v29.2.1)), .c (.d (.int .i64 v29.2.2))])), (38, .b false), (41, .b false), (47, .b true), (51, .b true), (58, ca (.c (.d (.int .i64 v58))))] (fun _ f => o (ask_form.does h0) (o (ne_f h1) (o (rows_Split.does h2) (o (bne_iff_ne.2 h3) (o (decide_eq_true h4) (o (o (nn 0) h4) (o (drop_ok c54 [] v12 (nn 1) h5) (o (rows_Words.does h6) (o (ne_f h7) (o (ne_f h8) (o (beq_iff_eq.2 h9) (o (decide_eq_true h10) (o (ask_extra.does h11) f))))))))))))) (by kernel_rfl)
              · rw [if_neg h10] at h
                exact Til.mid Tryz.func22 23 [(6, ca (.c (.d (.int .i64 v6)))), (10, .b false), (12, ca (.c (.d (L54 v12)))), (16, .b true), (20, .b true), (25, Z54 (v12.drop 1)), (29, ca (.tup [.c (.d (L53 v29.1)), .c (.d (.int .i64 v29.2.1)), .c (.d (.int .i64 v29.2.2))])), (38, .b false), (41, .b false), (47, .b true), (51, .b false)] (fun _ f => o (ask_form.does h0) (o (ne_f h1) (o (rows_Split.does h2) (o (bne_iff_ne.2 h3) (o (decide_eq_true h4) (o (o (nn 0) h4) (o (drop_ok c54 [] v12 (nn 1) h5) (o (rows_Words.does h6) (o (ne_f h7) (o (ne_f h8) (o (beq_iff_eq.2 h9) (o (decide_eq_false h10) f)))))))))))) (by kernel_rfl) (ih _ _ _ _ _ _ _ _ _ _ _ h)
            · rw [if_neg h9] at h
              exact Til.mid Tryz.func22 23 [(6, ca (.c (.d (.int .i64 v6)))), (10, .b false), (12, ca (.c (.d (L54 v12)))), (16, .b true), (20, .b true), (25, Z54 (v12.drop 1)), (29, ca (.tup [.c (.d (L53 v29.1)), .c (.d (.int .i64 v29.2.1)), .c (.d (.int .i64 v29.2.2))])), (38, .b false), (41, .b false), (47, .b false)] (fun _ f => o (ask_form.does h0) (o (ne_f h1) (o (rows_Split.does h2) (o (bne_iff_ne.2 h3) (o (decide_eq_true h4) (o (o (nn 0) h4) (o (drop_ok c54 [] v12 (nn 1) h5) (o (rows_Words.does h6) (o (ne_f h7) (o (ne_f h8) (o (beq_false_of_ne h9) f))))))))))) (by kernel_rfl) (ih _ _ _ _ _ _ _ _ _ _ _ h)
      · rw [if_neg h4] at h
        obtain ⟨v22, h5, h⟩ := bnd h
        by_cases h6 : v22.2.2 ≠ 0
        · rw [if_pos h6] at h
          obtain rfl := Option.some.inj h
          exact Til.fin Tryz.func22 [(6, ca (.c (.d (.int .i64 v6)))), (10, .b false), (12, ca (.c (.d (L54 v12)))), (16, .b true), (20, .b false), (22, .call [(0, .c (.d (L59 ([] : List (Int × Int × ByteArray)))))] [] (.tup [.c (.d (L53 v22.1)), .c (.d (.int .i64 v22.2.1)), .c (.d (.int .i64 v22.2.2))]) none [] []), (31, .b true)] (fun _ f => o (ask_form.does h0) (o (ne_f h1) (o (rows_Split.does h2) (o (bne_iff_ne.2 h3) (o (decide_eq_false h4) (o (rows_Words.does h5) (o (bne_iff_ne.2 h6) f))))))) (by kernel_rfl)
        · rw [if_neg h6] at h
          by_cases h7 : (Go.bits .and .i64 v6 2) ≠ 0
          · rw [if_pos h7] at h
            by_cases h8 : (Go.bits .and .i64 v6 8) = 0
            · rw [if_pos h8] at h
              by_cases h9 : (v12.length : Int) > 0
              · rw [if_pos h9] at h
                obtain ⟨v51, h10, h⟩ := bnd h
                obtain rfl := Option.some.inj h
                exact Til.fin Tryz.func22 [(6, ca (.c (.d (.int .i64 v6)))), (10, .b false), (12, ca (.c (.d (L54 v12)))), (16, .b true), (20, .b false), (22, .call [(0, .c (.d (L59 ([] : List (Int × Int × ByteArray)))))] [] (.tup [.c (.d (L53 v22.1)), .c (.d (.int .i64 v22.2.1)), .c (.d (.int .i64 v22.2.2))]) none [] []), (31, .b false), (34, .b true), (40, .b true), (44, .b true), (51, ca (.c (.d (.int .i64 v51))))] (fun _ f => o (ask_form.does h0) (o (ne_f h1) (o (rows_Split.does h2) (o (bne_iff_ne.2 h3) (o (decide_eq_false h4) (o (rows_Words.does h5) (o (ne_f h6) (o (bne_iff_ne.2 h7) (o (beq_iff_eq.2 h8) (o (decide_eq_true h9) (o (ask_extra.does h10) f))))))))))) (by kernel_rfl)
              · rw [if_neg h9] at h
                exact Til.mid Tryz.func22 23 [(6, ca (.c (.d (.int .i64 v6)))), (10, .b false), (12, ca (.c (.d (L54 v12)))), (16, .b true), (20, .b false), (22, .call [(0, .c (.d (L59 ([] : List (Int × Int × ByteArray)))))] [] (.tup [.c (.d (L53 v22.1)), .c (.d (.int .i64 v22.2.1)), .c (.d (.int .i64 v22.2.2))]) none [] []), (31, .b false), (34, .b true), (40, .b true), (44, .b false)] (fun _ f => o (ask_form.does h0) (o (ne_f h1) (o (rows_Split.does h2) (o (bne_iff_ne.2 h3) (o (decide_eq_false h4) (o (rows_Words.does h5) (o (ne_f h6) (o (bne_iff_ne.2 h7) (o (beq_iff_eq.2 h8) (o (decide_eq_false h9) f)))))))))) (by kernel_rfl) (ih _ _ _ _ _ _ _ _ _ _ _ h)
            · rw [if_neg h8] at h
              exact Til.mid Tryz.func22 23 [(6, ca (.c (.d (.int .i64 v6)))), (10, .b false), (12, ca (.c (.d (L54 v12)))), (16, .b true), (20, .b false), (22, .call [(0, .c (.d (L59 ([] : List (Int × Int × ByteArray)))))] [] (.tup [.c (.d (L53 v22.1)), .c (.d (.int .i64 v22.2.1)), .c (.d (.int .i64 v22.2.2))]) none [] []), (31, .b false), (34, .b true), (40, .b false)] (fun _ f => o (ask_form.does h0) (o (ne_f h1) (o (rows_Split.does h2) (o (bne_iff_ne.2 h3) (o (decide_eq_false h4) (o (rows_Words.does h5) (o (ne_f h6) (o (bne_iff_ne.2 h7) (o (beq_false_of_ne h8) f))))))))) (by kernel_rfl) (ih _ _ _ _ _ _ _ _ _ _ _ h)
          · rw [if_neg h7] at h
            by_cases h8 : (Go.bits .and .i64 v6 8) = 0
            · rw [if_pos h8] at h
              by_cases h9 : (v12.length : Int) > 0
              · rw [if_pos h9] at h
                obtain ⟨v51, h10, h⟩ := bnd h
                obtain rfl := Option.some.inj h
                exact Til.fin Tryz.func22 [(6, ca (.c (.d (.int .i64 v6)))), (10, .b false), (12, ca (.c (.d (L54 v12)))), (16, .b true), (20, .b false), (22, .call [(0, .c (.d (L59 ([] : List (Int × Int × ByteArray)))))] [] (.tup [.c (.d (L53 v22.1)), .c (.d (.int .i64 v22.2.1)), .c (.d (.int .i64 v22.2.2))]) none [] []), (31, .b false), (34, .b false), (40, .b true), (44, .b true), (51, ca (.c (.d (.int .i64 v51))))] (fun _ f => o (ask_form.does h0) (o (ne_f h1) (o (rows_Split.does h2) (o (bne_iff_ne.2 h3) (o (decide_eq_false h4) (o (rows_Words.does h5) (o (ne_f h6) (o (ne_f h7) (o (beq_iff_eq.2 h8) (o (decide_eq_true h9) (o (ask_extra.does h10) f))))))))))) (by kernel_rfl)
              · rw [if_neg h9] at h
                exact Til.mid Tryz.func22 23 [(6, ca (.c (.d (.int .i64 v6)))), (10, .b false), (12, ca (.c (.d (L54 v12)))), (16, .b true), (20, .b false), (22, .call [(0, .c (.d (L59 ([] : List (Int × Int × ByteArray)))))] [] (.tup [.c (.d (L53 v22.1)), .c (.d (.int .i64 v22.2.1)), .c (.d (.int .i64 v22.2.2))]) none [] []), (31, .b false), (34, .b false), (40, .b true), (44, .b false)] (fun _ f => o (ask_form.does h0) (o (ne_f h1) (o (rows_Split.does h2) (o (bne_iff_ne.2 h3) (o (decide_eq_false h4) (o (rows_Words.does h5) (o (ne_f h6) (o (ne_f h7) (o (beq_iff_eq.2 h8) (o (decide_eq_false h9) f)))))))))) (by kernel_rfl) (ih _ _ _ _ _ _ _ _ _ _ _ h)
            · rw [if_neg h8] at h
              exact Til.mid Tryz.func22 23 [(6, ca (.c (.d (.int .i64 v6)))), (10, .b false), (12, ca (.c (.d (L54 v12)))), (16, .b true), (20, .b false), (22, .call [(0, .c (.d (L59 ([] : List (Int × Int × ByteArray)))))] [] (.tup [.c (.d (L53 v22.1)), .c (.d (.int .i64 v22.2.1)), .c (.d (.int .i64 v22.2.2))]) none [] []), (31, .b false), (34, .b false), (40, .b false)] (fun _ f => o (ask_form.does h0) (o (ne_f h1) (o (rows_Split.does h2) (o (bne_iff_ne.2 h3) (o (decide_eq_false h4) (o (rows_Words.does h5) (o (ne_f h6) (o (ne_f h7) (o (beq_false_of_ne h8) f))))))))) (by kernel_rfl) (ih _ _ _ _ _ _ _ _ _ _ _ h)
    · rw [if_neg h3] at h
      by_cases h4 : (Go.bits .and .i64 v6 8) = 0
      · rw [if_pos h4] at h
        by_cases h5 : (v12.length : Int) > 0
        · rw [if_pos h5] at h
          obtain ⟨v30, h6, h⟩ := bnd h
          obtain rfl := Option.some.inj h
          exact Til.fin Tryz.func22 [(6, ca (.c (.d (.int .i64 v6)))), (10, .b false), (12, ca (.c (.d (L54 v12)))), (16, .b false), (19, .b true), (23, .b true), (30, ca (.c (.d (.int .i64 v30))))] (fun _ f => o (ask_form.does h0) (o (ne_f h1) (o (rows_Split.does h2) (o (ne_f h3) (o (beq_iff_eq.2 h4) (o (decide_eq_true h5) (o (ask_extra.does h6) f))))))) (by kernel_rfl)
        · rw [if_neg h5] at h
          exact Til.mid Tryz.func22 23 [(6, ca (.c (.d (.int .i64 v6)))), (10, .b false), (12, ca (.c (.d (L54 v12)))), (16, .b false), (19, .b true), (23, .b false)] (fun _ f => o (ask_form.does h0) (o (ne_f h1) (o (rows_Split.does h2) (o (ne_f h3) (o (beq_iff_eq.2 h4) (o (decide_eq_false h5) f)))))) (by kernel_rfl) (ih _ _ _ _ _ _ _ _ _ _ _ h)
      · rw [if_neg h4] at h
        exact Til.mid Tryz.func22 23 [(6, ca (.c (.d (.int .i64 v6)))), (10, .b false), (12, ca (.c (.d (L54 v12)))), (16, .b false), (19, .b false)] (fun _ f => o (ask_form.does h0) (o (ne_f h1) (o (rows_Split.does h2) (o (ne_f h3) (o (beq_false_of_ne h4) f))))) (by kernel_rfl) (ih _ _ _ _ _ _ _ _ _ _ _ h)

theorem ask_Parse.does {k : Nat} {a0 : ByteArray} {r : Int × Int × List (Bool × Bool × List Int × List Int) × List (List (Bool × Bool × List Int × List Int)) × List (Bool × Bool × List Int × List Int) × Int × Int} (h : ask_Parse.f k a0 = some r) :
    Does Tryz.prog 8 [.c (.d (.str a0))] [] (.tup [.agg [.d (.int .i64 r.1), .d (.int .i64 r.2.1), .d (L53 r.2.2.1), .d (L22 r.2.2.2.1), .d (L53 r.2.2.2.2.1)], .c (.d (.int .i64 r.2.2.2.2.2.1)), .c (.d (.int .i64 r.2.2.2.2.2.2))]) none [] := by
  refine does_fn Tryz.func8 (by kernel_rfl) rfl rfl ?_
  unfold ask_Parse.f at h
  obtain ⟨v4, h0, h⟩ := bnd h
  by_cases h1 : v4.2.2 ≠ 0
  · rw [if_pos h1] at h
    obtain rfl := Option.some.inj h
    exact Til.fin Tryz.func8 [(4, ca (.tup [.c (.d (L59 v4.1)), .c (.d (.int .i64 v4.2.1)), .c (.d (.int .i64 v4.2.2))])), (13, .b true)] (fun _ f => o (lex_Words.does h0) (o (bne_iff_ne.2 h1) f)) (by kernel_rfl)
  · rw [if_neg h1] at h
    by_cases h2 : (v4.1.length : Int) = 0
    · rw [if_pos h2] at h
      obtain rfl := Option.some.inj h
      exact Til.fin Tryz.func8 [(4, ca (.tup [.c (.d (L59 v4.1)), .c (.d (.int .i64 v4.2.1)), .c (.d (.int .i64 v4.2.2))])), (13, .b false), (16, .b true)] (fun _ f => o (lex_Words.does h0) (o (ne_f h1) (o (beq_iff_eq.2 h2) f))) (by kernel_rfl)
    · rw [if_neg h2] at h
      obtain ⟨h3, h⟩ := ifp h
      obtain ⟨v21, h4, h⟩ := bnd h
      by_cases h5 : v21 = 0
      · rw [if_pos h5] at h
        obtain rfl := Option.some.inj h
        exact Til.fin Tryz.func8 [(4, ca (.tup [.c (.d (L59 v4.1)), .c (.d (.int .i64 v4.2.1)), .c (.d (.int .i64 v4.2.2))])), (13, .b false), (16, .b false), (21, ca (.c (.d (.int .i64 v21)))), (27, .b true)] (fun _ f => o (lex_Words.does h0) (o (ne_f h1) (o (beq_false_of_ne h2) (o (o (nn 0) h3) (o (ask_Kind.does h4) (o (beq_iff_eq.2 h5) (o (o (nn 0) h3) f))))))) (by kernel_rfl)
      · rw [if_neg h5] at h
        obtain ⟨h6, h⟩ := ifp h
        obtain ⟨v33, h7, h⟩ := bnd h
        obtain rfl := Option.some.inj h
        exact Til.fin Tryz.func8 [(4, ca (.tup [.c (.d (L59 v4.1)), .c (.d (.int .i64 v4.2.1)), .c (.d (.int .i64 v4.2.2))])), (13, .b false), (16, .b false), (21, ca (.c (.d (.int .i64 v21)))), (27, .b false), (30, Z59 (v4.1.drop 1)), (33, .call [(0, .agg [.u, .u, .d (L53 ([] : List (Bool × Bool × List Int × List Int))), .nils, .d (L53 ([] : List (Bool × Bool × List Int × List Int)))])] [] (.tup [.agg [.d (.int .i64 v33.1), .d (.int .i64 v33.2.1), .d (L53 v33.2.2.1), .d (L22 v33.2.2.2.1), .d (L53 v33.2.2.2.2.1)], .c (.d (.int .i64 v33.2.2.2.2.2.1)), .c (.d (.int .i64 v33.2.2.2.2.2.2))]) none [] [])] (fun _ f => o (lex_Words.does h0) (o (ne_f h1) (o (beq_false_of_ne h2) (o (o (nn 0) h3) (o (ask_Kind.does h4) (o (beq_false_of_ne h5) (o (drop_ok c59 (0, 0, ByteArray.empty) v4.1 (nn 1) h6) (o (ask_rest.does h7) f)))))))) (by kernel_rfl)

theorem dendronlaw28_awake.does {k : Nat}  {r : Bool} (h : dendronlaw28_awake.f k = some r) :
    Does Tryz.prog 7 [] [] (.c (.d (.bool r))) none [] := by
  refine does_fn Tryz.func7 (by kernel_rfl) rfl rfl ?_
  unfold dendronlaw28_awake.f at h
  obtain ⟨v1, h0, h⟩ := bnd h
  by_cases h1 : v1.2.2.2.2.2.2 = 0
  · rw [if_pos h1] at h
    by_cases h2 : v1.1 = 4
    · rw [if_pos h2] at h
      by_cases h3 : (v1.2.2.1.length : Int) = 2
      · rw [if_pos h3] at h
        obtain ⟨h4, h⟩ := ifp h
        by_cases h5 : ((gt (false, false, [], []) v1.2.2.1 1).1) = true
        · rw [if_pos h5] at h
          by_cases h6 : (v1.2.2.2.1.length : Int) = 1
          · rw [if_pos h6] at h
            obtain ⟨h7, h⟩ := ifp h
            obtain rfl := Option.some.inj h
            exact Til.fin Tryz.func7 [(1, ca (.tup [.agg [.d (.int .i64 v1.1), .d (.int .i64 v1.2.1), .d (L53 v1.2.2.1), .d (L22 v1.2.2.2.1), .d (L53 v1.2.2.2.2.1)], .c (.d (.int .i64 v1.2.2.2.2.2.1)), .c (.d (.int .i64 v1.2.2.2.2.2.2))])), (11, .b true), (15, .b true), (21, .b true), (28, .b true), (34, .b true)] (fun _ f => o (ask_Parse.does h0) (o (beq_iff_eq.2 h1) (o (beq_iff_eq.2 h2) (o (beq_iff_eq.2 h3) (o (o (nn 1) h4) (o h5 (o (beq_iff_eq.2 h6) (o (o (nn 0) h7) f)))))))) (by kernel_rfl)
          · rw [if_neg h6] at h
            obtain rfl := Option.some.inj h
            exact Til.fin Tryz.func7 [(1, ca (.tup [.agg [.d (.int .i64 v1.1), .d (.int .i64 v1.2.1), .d (L53 v1.2.2.1), .d (L22 v1.2.2.2.1), .d (L53 v1.2.2.2.2.1)], .c (.d (.int .i64 v1.2.2.2.2.2.1)), .c (.d (.int .i64 v1.2.2.2.2.2.2))])), (11, .b true), (15, .b true), (21, .b true), (28, .b true), (34, .b false)] (fun _ f => o (ask_Parse.does h0) (o (beq_iff_eq.2 h1) (o (beq_iff_eq.2 h2) (o (beq_iff_eq.2 h3) (o (o (nn 1) h4) (o h5 (o (beq_false_of_ne h6) f))))))) (by kernel_rfl)
        · rw [if_neg h5] at h
          obtain rfl := Option.some.inj h
          exact Til.fin Tryz.func7 [(1, ca (.tup [.agg [.d (.int .i64 v1.1), .d (.int .i64 v1.2.1), .d (L53 v1.2.2.1), .d (L22 v1.2.2.2.1), .d (L53 v1.2.2.2.2.1)], .c (.d (.int .i64 v1.2.2.2.2.2.1)), .c (.d (.int .i64 v1.2.2.2.2.2.2))])), (11, .b true), (15, .b true), (21, .b true), (28, .b false)] (fun _ f => o (ask_Parse.does h0) (o (beq_iff_eq.2 h1) (o (beq_iff_eq.2 h2) (o (beq_iff_eq.2 h3) (o (o (nn 1) h4) (o (Bool.eq_false_iff.2 h5) f)))))) (by kernel_rfl)
      · rw [if_neg h3] at h
        obtain rfl := Option.some.inj h
        exact Til.fin Tryz.func7 [(1, ca (.tup [.agg [.d (.int .i64 v1.1), .d (.int .i64 v1.2.1), .d (L53 v1.2.2.1), .d (L22 v1.2.2.2.1), .d (L53 v1.2.2.2.2.1)], .c (.d (.int .i64 v1.2.2.2.2.2.1)), .c (.d (.int .i64 v1.2.2.2.2.2.2))])), (11, .b true), (15, .b true), (21, .b false)] (fun _ f => o (ask_Parse.does h0) (o (beq_iff_eq.2 h1) (o (beq_iff_eq.2 h2) (o (beq_false_of_ne h3) f)))) (by kernel_rfl)
    · rw [if_neg h2] at h
      obtain rfl := Option.some.inj h
      exact Til.fin Tryz.func7 [(1, ca (.tup [.agg [.d (.int .i64 v1.1), .d (.int .i64 v1.2.1), .d (L53 v1.2.2.1), .d (L22 v1.2.2.2.1), .d (L53 v1.2.2.2.2.1)], .c (.d (.int .i64 v1.2.2.2.2.2.1)), .c (.d (.int .i64 v1.2.2.2.2.2.2))])), (11, .b true), (15, .b false)] (fun _ f => o (ask_Parse.does h0) (o (beq_iff_eq.2 h1) (o (beq_false_of_ne h2) f))) (by kernel_rfl)
  · rw [if_neg h1] at h
    obtain rfl := Option.some.inj h
    exact Til.fin Tryz.func7 [(1, ca (.tup [.agg [.d (.int .i64 v1.1), .d (.int .i64 v1.2.1), .d (L53 v1.2.2.1), .d (L22 v1.2.2.2.1), .d (L53 v1.2.2.2.2.1)], .c (.d (.int .i64 v1.2.2.2.2.2.1)), .c (.d (.int .i64 v1.2.2.2.2.2.2))])), (11, .b false)] (fun _ f => o (ask_Parse.does h0) (o (beq_false_of_ne h1) f)) (by kernel_rfl)

def c3 (x : Int) : List Dat := [.int .i64 x]
def L3 (xs : List Int) : Dat := fr 1 c3 0 xs
def Z3 (xs : List Int) : Sup := .r xs.length (enc c3 0 xs)
def O3 (k : RK) (xs : List Int) : Ob := .row k 3 1 xs.length (enc c3 0 xs)

def dendronref01_Order.l0E (x0 : List Int) (x1 : List Int) (x5 : Int) : Env := [(0, .c (.d (L3 x0))), (1, .c (.d (L3 x1))), (5, .c (.d (.int .i64 x5)))]
theorem dendronref01_Order.w (k : Nat) : (∀  (x0 : List Int) (x1 : List Int) (x5 : Int) (r : Int), dendronref01_Order.l0 k x0 x1 x5 = some r → Til Tryz.prog 81 [] (.c (.d (.int .i64 r))) none [] (at_ Tryz.f81 6) (dendronref01_Order.l0E x0 x1 x5) []) := by
  induction k with
  | zero =>
    exact fun _ _ _ _ h => (by cases h)
  | succ k ih =>
    intro x0 x1 x5 r h
    rw [dendronref01_Order.l0] at h
    by_cases h0 : x5 ≥ 0
    · rw [if_pos h0] at h
      obtain ⟨h1, h⟩ := ifp h
      obtain ⟨h2, h⟩ := ifp h
      by_cases h3 : (rd x0 x5) < (rd x1 x5)
      · rw [if_pos h3] at h
        obtain rfl := Option.some.inj h
        exact Til.fin Tryz.func81 [(1, .b true), (10, .b true)] (fun _ f => o (decide_eq_true h0) (o (o h0 h1) (o (o h0 h2) (o (decide_eq_true h3) f)))) (by kernel_rfl)
      · rw [if_neg h3] at h
        by_cases h4 : (rd x0 x5) > (rd x1 x5)
        · rw [if_pos h4] at h
          obtain rfl := Option.some.inj h
          exact Til.fin Tryz.func81 [(1, .b true), (10, .b false), (19, .b true)] (fun _ f => o (decide_eq_true h0) (o (o h0 h1) (o (o h0 h2) (o (decide_eq_false h3) (o (o h0 h1) (o (o h0 h2) (o (decide_eq_true h4) f))))))) (by kernel_rfl)
        · rw [if_neg h4] at h
          exact Til.mid Tryz.func81 6 [(1, .b true), (10, .b false), (19, .b false)] (fun _ f => o (decide_eq_true h0) (o (o h0 h1) (o (o h0 h2) (o (decide_eq_false h3) (o (o h0 h1) (o (o h0 h2) (o (decide_eq_false h4) f))))))) (by kernel_rfl) (ih _ _ _ _ h)
    · rw [if_neg h0] at h
      obtain rfl := Option.some.inj h
      exact Til.fin Tryz.func81 [(1, .b false)] (fun _ f => o (decide_eq_false h0) f) (by kernel_rfl)
theorem dendronref01_Order.does {k : Nat} {l0 : List Int} {l1 : List Int} {r : Int} (h : dendronref01_Order.f k l0 l1 = some r) :
    Does Tryz.prog 81 [.c (.d (L3 l0)), .c (.d (L3 l1))] [] (.c (.d (.int .i64 r))) none [] := by
  refine does_fn Tryz.func81 (by kernel_rfl) rfl rfl ?_
  unfold dendronref01_Order.f at h
  have ih := dendronref01_Order.w k
  by_cases h0 : (l0.length : Int) ≠ (l1.length : Int)
  · rw [if_pos h0] at h
    by_cases h1 : (l0.length : Int) < (l1.length : Int)
    · rw [if_pos h1] at h
      obtain rfl := Option.some.inj h
      exact Til.fin Tryz.func81 [(5, .b true), (10, .b true)] (fun _ f => o (bne_iff_ne.2 h0) (o (decide_eq_true h1) f)) (by kernel_rfl)
    · rw [if_neg h1] at h
      obtain rfl := Option.some.inj h
      exact Til.fin Tryz.func81 [(5, .b true), (10, .b false)] (fun _ f => o (bne_iff_ne.2 h0) (o (decide_eq_false h1) f)) (by kernel_rfl)
  · rw [if_neg h0] at h
    exact Til.mid Tryz.func81 6 [(5, .b false)] (fun _ f => o (ne_f h0) f) (by kernel_rfl) (ih _ _ _ _ h)

theorem dendronref02_Order.does {k : Nat} {a0_0 : Bool} {l0_1 : List Int} {a1_0 : Bool} {l1_1 : List Int} {r : Int} (h : dendronref02_Order.f k a0_0 l0_1 a1_0 l1_1 = some r) :
    Does Tryz.prog 65 [.agg [.d (.bool a0_0), .d (L3 l0_1)], .agg [.d (.bool a1_0), .d (L3 l1_1)]] [] (.c (.d (.int .i64 r))) none [] := by
  refine does_fn Tryz.func65 (by kernel_rfl) rfl rfl ?_
  unfold dendronref02_Order.f at h
  by_cases h0 : a0_0 = true
  · rw [if_pos h0] at h
    by_cases h1 : a1_0 = true
    · rw [if_pos h1] at h
      by_cases h2 : a0_0 = true
      · rw [if_pos h2] at h
        by_cases h3 : a0_0 = true
        · rw [if_pos h3] at h
          obtain ⟨v23, h4, h⟩ := bnd h
          obtain rfl := Option.some.inj h
          exact Til.fin Tryz.func65 [(4, .b true), (7, .b true), (11, .b true), (18, .b true), (23, ca (.c (.d (.int .i64 v23))))] (fun _ f => o h0 (o h1 (o h2 (o h3 (o (dendronref01_Order.does h4) f))))) (by kernel_rfl)
        · rw [if_neg h3] at h
          obtain ⟨v23, h4, h⟩ := bnd h
          obtain rfl := Option.some.inj h
          exact Til.fin Tryz.func65 [(4, .b true), (7, .b true), (11, .b true), (18, .b false), (23, ca (.c (.d (.int .i64 v23))))] (fun _ f => o h0 (o h1 (o h2 (o (Bool.eq_false_iff.2 h3) (o (dendronref01_Order.does h4) f))))) (by kernel_rfl)
      · rw [if_neg h2] at h
        by_cases h3 : a1_0 = true
        · rw [if_pos h3] at h
          obtain rfl := Option.some.inj h
          exact Til.fin Tryz.func65 [(4, .b true), (7, .b true), (11, .b false), (15, .b true)] (fun _ f => o h0 (o h1 (o (Bool.eq_false_iff.2 h2) (o h3 f)))) (by kernel_rfl)
        · rw [if_neg h3] at h
          by_cases h4 : a0_0 = true
          · rw [if_pos h4] at h
            obtain ⟨v23, h5, h⟩ := bnd h
            obtain rfl := Option.some.inj h
            exact Til.fin Tryz.func65 [(4, .b true), (7, .b true), (11, .b false), (15, .b false), (18, .b true), (23, ca (.c (.d (.int .i64 v23))))] (fun _ f => o h0 (o h1 (o (Bool.eq_false_iff.2 h2) (o (Bool.eq_false_iff.2 h3) (o h4 (o (dendronref01_Order.does h5) f)))))) (by kernel_rfl)
          · rw [if_neg h4] at h
            obtain ⟨v23, h5, h⟩ := bnd h
            obtain rfl := Option.some.inj h
            exact Til.fin Tryz.func65 [(4, .b true), (7, .b true), (11, .b false), (15, .b false), (18, .b false), (23, ca (.c (.d (.int .i64 v23))))] (fun _ f => o h0 (o h1 (o (Bool.eq_false_iff.2 h2) (o (Bool.eq_false_iff.2 h3) (o (Bool.eq_false_iff.2 h4) (o (dendronref01_Order.does h5) f)))))) (by kernel_rfl)
    · rw [if_neg h1] at h
      obtain rfl := Option.some.inj h
      exact Til.fin Tryz.func65 [(4, .b true), (7, .b false)] (fun _ f => o h0 (o (Bool.eq_false_iff.2 h1) f)) (by kernel_rfl)
  · rw [if_neg h0] at h
    by_cases h1 : a0_0 = true
    · rw [if_pos h1] at h
      by_cases h2 : a0_0 = true
      · rw [if_pos h2] at h
        obtain ⟨v23, h3, h⟩ := bnd h
        obtain rfl := Option.some.inj h
        exact Til.fin Tryz.func65 [(4, .b false), (11, .b true), (18, .b true), (23, ca (.c (.d (.int .i64 v23))))] (fun _ f => o (Bool.eq_false_iff.2 h0) (o h1 (o h2 (o (dendronref01_Order.does h3) f)))) (by kernel_rfl)
      · rw [if_neg h2] at h
        obtain ⟨v23, h3, h⟩ := bnd h
        obtain rfl := Option.some.inj h
        exact Til.fin Tryz.func65 [(4, .b false), (11, .b true), (18, .b false), (23, ca (.c (.d (.int .i64 v23))))] (fun _ f => o (Bool.eq_false_iff.2 h0) (o h1 (o (Bool.eq_false_iff.2 h2) (o (dendronref01_Order.does h3) f)))) (by kernel_rfl)
    · rw [if_neg h1] at h
      by_cases h2 : a1_0 = true
      · rw [if_pos h2] at h
        obtain rfl := Option.some.inj h
        exact Til.fin Tryz.func65 [(4, .b false), (11, .b false), (15, .b true)] (fun _ f => o (Bool.eq_false_iff.2 h0) (o (Bool.eq_false_iff.2 h1) (o h2 f))) (by kernel_rfl)
      · rw [if_neg h2] at h
        by_cases h3 : a0_0 = true
        · rw [if_pos h3] at h
          obtain ⟨v23, h4, h⟩ := bnd h
          obtain rfl := Option.some.inj h
          exact Til.fin Tryz.func65 [(4, .b false), (11, .b false), (15, .b false), (18, .b true), (23, ca (.c (.d (.int .i64 v23))))] (fun _ f => o (Bool.eq_false_iff.2 h0) (o (Bool.eq_false_iff.2 h1) (o (Bool.eq_false_iff.2 h2) (o h3 (o (dendronref01_Order.does h4) f))))) (by kernel_rfl)
        · rw [if_neg h3] at h
          obtain ⟨v23, h4, h⟩ := bnd h
          obtain rfl := Option.some.inj h
          exact Til.fin Tryz.func65 [(4, .b false), (11, .b false), (15, .b false), (18, .b false), (23, ca (.c (.d (.int .i64 v23))))] (fun _ f => o (Bool.eq_false_iff.2 h0) (o (Bool.eq_false_iff.2 h1) (o (Bool.eq_false_iff.2 h2) (o (Bool.eq_false_iff.2 h3) (o (dendronref01_Order.does h4) f))))) (by kernel_rfl)

theorem dendronref02_Make.does {a0 : Bool} {l1 : List Int} {r : Bool × List Int} (h : dendronref02_Make.f a0 l1 = some r) :
    Does Tryz.prog 82 [.c (.d (.bool a0)), .c (.d (L3 l1))] [] (.agg [.d (.bool r.1), .d (L3 r.2)]) none [] := by
  refine does_fn Tryz.func82 (by kernel_rfl) rfl rfl ?_
  unfold dendronref02_Make.f at h
  by_cases h0 : a0 = true
  · rw [if_pos h0] at h
    obtain rfl := Option.some.inj h
    exact Til.fin Tryz.func82 [(1, .b true)] (fun _ f => o h0 f) (by kernel_rfl)
  · rw [if_neg h0] at h
    obtain rfl := Option.some.inj h
    exact Til.fin Tryz.func82 [(1, .b false)] (fun _ f => o (Bool.eq_false_iff.2 h0) f) (by kernel_rfl)

def dendronref01_Trim.l0E (x0 : List Int) (x3 : Int) : Env := [(0, .c (.d (L3 x0))), (3, .c (.d (.int .i64 x3)))]
theorem dendronref01_Trim.w (k : Nat) : (∀  (x0 : List Int) (x3 : Int) (r : List Int), dendronref01_Trim.l0 k x0 x3 = some r → Til Tryz.prog 99 [] (.c (.d (L3 r))) none [] (at_ Tryz.f99 2) (dendronref01_Trim.l0E x0 x3) []) := by
  induction k with
  | zero =>
    exact fun _ _ _ h => (by cases h)
  | succ k ih =>
    intro x0 x3 r h
    rw [dendronref01_Trim.l0] at h
    by_cases h0 : x3 > 0
    · rw [if_pos h0] at h
      obtain ⟨h1, h⟩ := ifp h
      obtain ⟨h2, h⟩ := ifp h
      by_cases h3 : (rd x0 (wrap64 (x3 - 1))) = 0
      · rw [if_pos h3] at h
        exact Til.mid Tryz.func99 2 [(1, .b true), (8, .b true)] (fun _ f => o (decide_eq_true h0) (o (o h1 h2) (o (beq_iff_eq.2 h3) f))) (by kernel_rfl) (ih _ _ _ h)
      · rw [if_neg h3] at h
        obtain ⟨h4, h⟩ := ifp h
        obtain ⟨h5, h⟩ := ifp h
        obtain rfl := Option.some.inj h
        exact Til.fin Tryz.func99 [(1, .b true), (8, .b false), (12, Z3 (x0.take ((x3 : Int).toNat)))] (fun _ f => o (decide_eq_true h0) (o (o h1 h2) (o (beq_false_of_ne h3) (o (take_ok c3 0 x0 h4 h5) f)))) (by kernel_rfl)
    · rw [if_neg h0] at h
      obtain ⟨h1, h⟩ := ifp h
      obtain ⟨h2, h⟩ := ifp h
      obtain rfl := Option.some.inj h
      exact Til.fin Tryz.func99 [(1, .b false), (12, Z3 (x0.take ((x3 : Int).toNat)))] (fun _ f => o (decide_eq_false h0) (o (take_ok c3 0 x0 h1 h2) f)) (by kernel_rfl)
theorem dendronref01_Trim.does {k : Nat} {l0 : List Int} {r : List Int} (h : dendronref01_Trim.f k l0 = some r) :
    Does Tryz.prog 99 [.c (.d (L3 l0))] [] (.c (.d (L3 r))) none [] := by
  refine does_fn Tryz.func99 (by kernel_rfl) rfl rfl ?_
  unfold dendronref01_Trim.f at h
  have ih := dendronref01_Trim.w k
  exact Til.mid Tryz.func99 2 [] (fun _ f => f) (by kernel_rfl) (ih _ _ _ h)

def dendronref01_Times.l0E (x0 : List Int) (x1 : List Int) (x5 : List Int) (x6 : Int) : Env := [(0, .c (.d (L3 x0))), (1, .c (.d (L3 x1))), (5, .c (.own 5)), (6, .c (.d (.int .i64 x6)))]
def dendronref01_Times.l0B (x0 : List Int) (x1 : List Int) (x5 : List Int) (x6 : Int) : Obs := [(5, some (O3 .own x5))]
def dendronref01_Times.l1E (x0 : List Int) (x1 : List Int) (x5 : List Int) (x6 : Int) (x7 : Int) (x8 : Int) : Env := [(0, .c (.d (L3 x0))), (1, .c (.d (L3 x1))), (5, .c (.own 5)), (6, .c (.d (.int .i64 x6))), (7, .c (.d (.int .i64 x7))), (8, .c (.d (.int .i64 x8)))]
def dendronref01_Times.l1B (x0 : List Int) (x1 : List Int) (x5 : List Int) (x6 : Int) (x7 : Int) (x8 : Int) : Obs := [(5, some (O3 .own x5))]
theorem dendronref01_Times.w (k : Nat) : (∀  (x0 : List Int) (x1 : List Int) (x5 : List Int) (x6 : Int) (r : List Int), dendronref01_Times.l0 k x0 x1 x5 x6 = some r → Til Tryz.prog 83 [] (.c (.d (L3 r))) none [] (at_ Tryz.f83 3) (dendronref01_Times.l0E x0 x1 x5 x6) (dendronref01_Times.l0B x0 x1 x5 x6)) ∧
    (∀  (x0 : List Int) (x1 : List Int) (x5 : List Int) (x6 : Int) (x7 : Int) (x8 : Int) (r : List Int), dendronref01_Times.l1 k x0 x1 x5 x6 x7 x8 = some r → Til Tryz.prog 83 [] (.c (.d (L3 r))) none [] (at_ Tryz.f83 7) (dendronref01_Times.l1E x0 x1 x5 x6 x7 x8) (dendronref01_Times.l1B x0 x1 x5 x6 x7 x8)) := by
  induction k with
  | zero =>
    exact ⟨fun _ _ _ _ _ h => (by cases h), fun _ _ _ _ _ _ _ h => (by cases h)⟩
  | succ k ih =>
    refine ⟨?_, ?_⟩
    · intro x0 x1 x5 x6 r h
      rw [dendronref01_Times.l0] at h
      by_cases h0 : x6 < (x0.length : Int)
      · rw [if_pos h0] at h
        exact Til.mid Tryz.func83 7 [(3, .b true)] (fun _ f => o (decide_eq_true h0) f) (by kernel_rfl) (ih.2 _ _ _ _ _ _ _ h)
      · rw [if_neg h0] at h
        obtain ⟨v5, h1, h⟩ := bnd h
        obtain rfl := Option.some.inj h
        exact Til.fin Tryz.func83 [(3, .b false), (5, ca (.c (.d (L3 v5))))] (fun _ f => o (decide_eq_false h0) (o (dendronref01_Trim.does h1) f)) (by kernel_rfl)
    · intro x0 x1 x5 x6 x7 x8 r h
      rw [dendronref01_Times.l1] at h
      by_cases h0 : x8 < (x1.length : Int)
      · rw [if_pos h0] at h
        obtain ⟨h1, h⟩ := ifp h
        obtain ⟨h2, h⟩ := ifp h
        obtain ⟨h3, h⟩ := ifp h
        obtain ⟨h4, h⟩ := ifp h
        obtain ⟨h5, h⟩ := ifp h
        exact Til.mid Tryz.func83 7 [(3, .b true), (30, Z3 (x5.set (((wrap64 (x6 + x8)) : Int).toNat) (Int.tmod (wrap64 ((wrap64 (x7 + (rd x5 (wrap64 (x6 + x8))))) + (wrap64 ((rd x0 x6) * (rd x1 x8))))) 10000)))] (fun _ f => o (decide_eq_true h0) (o (o h1 h2) (o (o h3 h4) (o (o h5 h0) (o (by decide : ¬ (10000 : Int) = 0) (o (o h1 h2) (o (set_ok c3 0 (fun _ _ => rfl) x5 (((wrap64 (x6 + x8)) : Int).toNat) (Int.tmod (wrap64 ((wrap64 (x7 + (rd x5 (wrap64 (x6 + x8))))) + (wrap64 ((rd x0 x6) * (rd x1 x8))))) 10000) (lt_ok h1 h2)) (o (by decide : ¬ (10000 : Int) = 0) f)))))))) (by kernel_rfl) (ih.2 _ _ _ _ _ _ _ h)
      · rw [if_neg h0] at h
        obtain ⟨h1, h⟩ := ifp h
        obtain ⟨h2, h⟩ := ifp h
        exact Til.mid Tryz.func83 3 [(3, .b false), (11, Z3 (x5.set (((wrap64 (x6 + (x1.length : Int))) : Int).toNat) x7))] (fun _ f => o (decide_eq_false h0) (o (o h1 h2) (o (set_ok c3 0 (fun _ _ => rfl) x5 (((wrap64 (x6 + (x1.length : Int))) : Int).toNat) x7 (lt_ok h1 h2)) f))) (by kernel_rfl) (ih.1 _ _ _ _ _ h)
theorem dendronref01_Times.does {k : Nat} {l0 : List Int} {l1 : List Int} {r : List Int} (h : dendronref01_Times.f k l0 l1 = some r) :
    Does Tryz.prog 83 [.c (.d (L3 l0)), .c (.d (L3 l1))] [] (.c (.d (L3 r))) none [] := by
  refine does_fn Tryz.func83 (by kernel_rfl) rfl rfl ?_
  unfold dendronref01_Times.f at h
  have ih := dendronref01_Times.w k
  obtain ⟨h0, h⟩ := ifp h
  obtain ⟨h1, h⟩ := ifp h
  exact Til.mid Tryz.func83 3 [(6, Z3 (List.replicate (((wrap64 ((l0.length : Int) + (l1.length : Int))) : Int).toNat) 0 : List Int))] (fun _ f => o (make_ok c3 0 [.int .i64 0] ⟨.refl _, trivial⟩ (wrap64 ((l0.length : Int) + (l1.length : Int))) 8 35184372088832 (by decide) h0 h1) f) (by kernel_rfl) (ih.1 _ _ _ _ _ h)

theorem dendronref02_Times.does {k : Nat} {a0_0 : Bool} {l0_1 : List Int} {a1_0 : Bool} {l1_1 : List Int} {r : Bool × List Int} (h : dendronref02_Times.f k a0_0 l0_1 a1_0 l1_1 = some r) :
    Does Tryz.prog 66 [.agg [.d (.bool a0_0), .d (L3 l0_1)], .agg [.d (.bool a1_0), .d (L3 l1_1)]] [] (.agg [.d (.bool r.1), .d (L3 r.2)]) none [] := by
  refine does_fn Tryz.func66 (by kernel_rfl) rfl rfl ?_
  unfold dendronref02_Times.f at h
  obtain ⟨v12, h0, h⟩ := bnd h
  obtain ⟨v13, h1, h⟩ := bnd h
  obtain rfl := Option.some.inj h
  exact Til.fin Tryz.func66 [(12, ca (.c (.d (L3 v12)))), (13, ca (.agg [.d (.bool v13.1), .d (L3 v13.2)]))] (fun _ f => o (dendronref01_Times.does h0) (o (dendronref02_Make.does h1) f)) (by kernel_rfl)

theorem dendronref03_den.does {a0_0 : Bool} {l0_1 : List Int} {l0_2 : List Int} {r : Bool × List Int} (h : dendronref03_den.f a0_0 l0_1 l0_2 = some r) :
    Does Tryz.prog 67 [.agg [.d (.bool a0_0), .d (L3 l0_1), .d (L3 l0_2)]] [] (.agg [.d (.bool r.1), .d (L3 r.2)]) none [] := by
  refine does_fn Tryz.func67 (by kernel_rfl) rfl rfl ?_
  unfold dendronref03_den.f at h
  obtain ⟨v4, h0, h⟩ := bnd h
  obtain rfl := Option.some.inj h
  exact Til.fin Tryz.func67 [(4, ca (.agg [.d (.bool v4.1), .d (L3 v4.2)]))] (fun _ f => o (dendronref02_Make.does h0) f) (by kernel_rfl)

theorem dendronref03_Order.does {k : Nat} {a0_0 : Bool} {l0_1 : List Int} {l0_2 : List Int} {a1_0 : Bool} {l1_1 : List Int} {l1_2 : List Int} {r : Int} (h : dendronref03_Order.f k a0_0 l0_1 l0_2 a1_0 l1_1 l1_2 = some r) :
    Does Tryz.prog 58 [.agg [.d (.bool a0_0), .d (L3 l0_1), .d (L3 l0_2)], .agg [.d (.bool a1_0), .d (L3 l1_1), .d (L3 l1_2)]] [] (.c (.d (.int .i64 r))) none [] := by
  refine does_fn Tryz.func58 (by kernel_rfl) rfl rfl ?_
  unfold dendronref03_Order.f at h
  obtain ⟨v6, h0, h⟩ := bnd h
  obtain ⟨v7, h1, h⟩ := bnd h
  obtain ⟨v11, h2, h⟩ := bnd h
  obtain ⟨v12, h3, h⟩ := bnd h
  obtain ⟨v13, h4, h⟩ := bnd h
  obtain rfl := Option.some.inj h
  exact Til.fin Tryz.func58 [(6, ca (.agg [.d (.bool v6.1), .d (L3 v6.2)])), (7, ca (.agg [.d (.bool v7.1), .d (L3 v7.2)])), (11, ca (.agg [.d (.bool v11.1), .d (L3 v11.2)])), (12, ca (.agg [.d (.bool v12.1), .d (L3 v12.2)])), (13, ca (.c (.d (.int .i64 v13))))] (fun _ f => o (dendronref03_den.does h0) (o (dendronref02_Times.does h1) (o (dendronref03_den.does h2) (o (dendronref02_Times.does h3) (o (dendronref02_Order.does h4) f))))) (by kernel_rfl)

def dendronref01_Small.l0E (x0 : Int) (x3 : List Int) : Env := [(0, .c (.d (.int .i64 x0))), (3, .c (.own 3))]
def dendronref01_Small.l0B (x0 : Int) (x3 : List Int) : Obs := [(3, some (O3 .own x3))]
theorem dendronref01_Small.w (k : Nat) : (∀  (x0 : Int) (x3 : List Int) (r : List Int), dendronref01_Small.l0 k x0 x3 = some r → Til Tryz.prog 84 [] (.c (.d (L3 r))) none [] (at_ Tryz.f84 2) (dendronref01_Small.l0E x0 x3) (dendronref01_Small.l0B x0 x3)) := by
  induction k with
  | zero =>
    exact fun _ _ _ h => (by cases h)
  | succ k ih =>
    intro x0 x3 r h
    rw [dendronref01_Small.l0] at h
    by_cases h0 : x0 > 0
    · rw [if_pos h0] at h
      obtain ⟨h1, h⟩ := ifp h
      exact Til.mid Tryz.func84 2 [(1, .b true), (5, Z3 ([(Int.tmod x0 10000)] : List Int)), (6, Z3 (x3 ++ [(Int.tmod x0 10000)]))] (fun _ f => o (decide_eq_true h0) (o (by decide : ¬ (10000 : Int) = 0) (o (lit_ok c3 0 ([(Int.tmod x0 10000)] : List Int)) (o (app1 c3 0 x3 (Int.tmod x0 10000) 8 17592186044416 (by decide) h1) (o (by decide : ¬ (10000 : Int) = 0) f))))) (by kernel_rfl) (ih _ _ _ h)
    · rw [if_neg h0] at h
      obtain rfl := Option.some.inj h
      exact Til.fin Tryz.func84 [(1, .b false)] (fun _ f => o (decide_eq_false h0) f) (by kernel_rfl)
theorem dendronref01_Small.does {k : Nat} {a0 : Int} {r : List Int} (h : dendronref01_Small.f k a0 = some r) :
    Does Tryz.prog 84 [.c (.d (.int .i64 a0))] [] (.c (.d (L3 r))) none [] := by
  refine does_fn Tryz.func84 (by kernel_rfl) rfl rfl ?_
  unfold dendronref01_Small.f at h
  have ih := dendronref01_Small.w k
  exact Til.mid Tryz.func84 2 [] (fun _ f => f) (by kernel_rfl) (ih _ _ _ h)

theorem dendronref01_digit.does {l0 : List Int} {a1 : Int} {r : Int} (h : dendronref01_digit.f l0 a1 = some r) :
    Does Tryz.prog 100 [.c (.d (L3 l0)), .c (.d (.int .i64 a1))] [] (.c (.d (.int .i64 r))) none [] := by
  refine does_fn Tryz.func100 (by kernel_rfl) rfl rfl ?_
  unfold dendronref01_digit.f at h
  by_cases h0 : a1 < (l0.length : Int)
  · rw [if_pos h0] at h
    obtain ⟨h1, h⟩ := ifp h
    obtain rfl := Option.some.inj h
    exact Til.fin Tryz.func100 [(4, .b true)] (fun _ f => o (decide_eq_true h0) (o (o h1 h0) f)) (by kernel_rfl)
  · rw [if_neg h0] at h
    obtain rfl := Option.some.inj h
    exact Til.fin Tryz.func100 [(4, .b false)] (fun _ f => o (decide_eq_false h0) f) (by kernel_rfl)

def dendronref01_Plus.l0E (x0 : List Int) (x1 : List Int) (x5 : List Int) (x6 : Int) (x7 : Int) : Env := [(0, .c (.d (L3 x0))), (1, .c (.d (L3 x1))), (5, .c (.own 5)), (6, .c (.d (.int .i64 x6))), (7, .c (.d (.int .i64 x7)))]
def dendronref01_Plus.l0B (x0 : List Int) (x1 : List Int) (x5 : List Int) (x6 : Int) (x7 : Int) : Obs := [(5, some (O3 .own x5))]
theorem dendronref01_Plus.w (k : Nat) : (∀  (x0 : List Int) (x1 : List Int) (x5 : List Int) (x6 : Int) (x7 : Int) (r : List Int), dendronref01_Plus.l0 k x0 x1 x5 x6 x7 = some r → Til Tryz.prog 85 [] (.c (.d (L3 r))) none [] (at_ Tryz.f85 4) (dendronref01_Plus.l0E x0 x1 x5 x6 x7) (dendronref01_Plus.l0B x0 x1 x5 x6 x7)) := by
  induction k with
  | zero =>
    exact fun _ _ _ _ _ _ h => (by cases h)
  | succ k ih =>
    intro x0 x1 x5 x6 x7 r h
    rw [dendronref01_Plus.l0] at h
    by_cases h0 : x7 < (x0.length : Int)
    · rw [if_pos h0] at h
      obtain ⟨v17, h1, h⟩ := bnd h
      obtain ⟨v21, h2, h⟩ := bnd h
      obtain ⟨h3, h⟩ := ifp h
      exact Til.mid Tryz.func85 4 [(3, .b true), (17, ca (.c (.d (.int .i64 v17)))), (21, ca (.c (.d (.int .i64 v21)))), (27, Z3 ([(Int.tmod (wrap64 ((wrap64 (x6 + v17)) + v21)) 10000)] : List Int)), (28, Z3 (x5 ++ [(Int.tmod (wrap64 ((wrap64 (x6 + v17)) + v21)) 10000)]))] (fun _ f => o (decide_eq_true h0) (o (dendronref01_digit.does h1) (o (dendronref01_digit.does h2) (o (by decide : ¬ (10000 : Int) = 0) (o (lit_ok c3 0 ([(Int.tmod (wrap64 ((wrap64 (x6 + v17)) + v21)) 10000)] : List Int)) (o (app1 c3 0 x5 (Int.tmod (wrap64 ((wrap64 (x6 + v17)) + v21)) 10000) 8 17592186044416 (by decide) h3) (o (by decide : ¬ (10000 : Int) = 0) f))))))) (by kernel_rfl) (ih _ _ _ _ _ _ h)
    · rw [if_neg h0] at h
      by_cases h1 : x7 < (x1.length : Int)
      · rw [if_pos h1] at h
        obtain ⟨v17, h2, h⟩ := bnd h
        obtain ⟨v21, h3, h⟩ := bnd h
        obtain ⟨h4, h⟩ := ifp h
        exact Til.mid Tryz.func85 4 [(3, .b false), (8, .b true), (17, ca (.c (.d (.int .i64 v17)))), (21, ca (.c (.d (.int .i64 v21)))), (27, Z3 ([(Int.tmod (wrap64 ((wrap64 (x6 + v17)) + v21)) 10000)] : List Int)), (28, Z3 (x5 ++ [(Int.tmod (wrap64 ((wrap64 (x6 + v17)) + v21)) 10000)]))] (fun _ f => o (decide_eq_false h0) (o (decide_eq_true h1) (o (dendronref01_digit.does h2) (o (dendronref01_digit.does h3) (o (by decide : ¬ (10000 : Int) = 0) (o (lit_ok c3 0 ([(Int.tmod (wrap64 ((wrap64 (x6 + v17)) + v21)) 10000)] : List Int)) (o (app1 c3 0 x5 (Int.tmod (wrap64 ((wrap64 (x6 + v17)) + v21)) 10000) 8 17592186044416 (by decide) h4) (o (by decide : ¬ (10000 : Int) = 0) f)))))))) (by kernel_rfl) (ih _ _ _ _ _ _ h)
      · rw [if_neg h1] at h
        by_cases h2 : x6 > 0
        · rw [if_pos h2] at h
          obtain ⟨v17, h3, h⟩ := bnd h
          obtain ⟨v21, h4, h⟩ := bnd h
          obtain ⟨h5, h⟩ := ifp h
          exact Til.mid Tryz.func85 4 [(3, .b false), (8, .b false), (12, .b true), (17, ca (.c (.d (.int .i64 v17)))), (21, ca (.c (.d (.int .i64 v21)))), (27, Z3 ([(Int.tmod (wrap64 ((wrap64 (x6 + v17)) + v21)) 10000)] : List Int)), (28, Z3 (x5 ++ [(Int.tmod (wrap64 ((wrap64 (x6 + v17)) + v21)) 10000)]))] (fun _ f => o (decide_eq_false h0) (o (decide_eq_false h1) (o (decide_eq_true h2) (o (dendronref01_digit.does h3) (o (dendronref01_digit.does h4) (o (by decide : ¬ (10000 : Int) = 0) (o (lit_ok c3 0 ([(Int.tmod (wrap64 ((wrap64 (x6 + v17)) + v21)) 10000)] : List Int)) (o (app1 c3 0 x5 (Int.tmod (wrap64 ((wrap64 (x6 + v17)) + v21)) 10000) 8 17592186044416 (by decide) h5) (o (by decide : ¬ (10000 : Int) = 0) f))))))))) (by kernel_rfl) (ih _ _ _ _ _ _ h)
        · rw [if_neg h2] at h
          obtain rfl := Option.some.inj h
          exact Til.fin Tryz.func85 [(3, .b false), (8, .b false), (12, .b false)] (fun _ f => o (decide_eq_false h0) (o (decide_eq_false h1) (o (decide_eq_false h2) f))) (by kernel_rfl)
theorem dendronref01_Plus.does {k : Nat} {l0 : List Int} {l1 : List Int} {r : List Int} (h : dendronref01_Plus.f k l0 l1 = some r) :
    Does Tryz.prog 85 [.c (.d (L3 l0)), .c (.d (L3 l1))] [] (.c (.d (L3 r))) none [] := by
  refine does_fn Tryz.func85 (by kernel_rfl) rfl rfl ?_
  unfold dendronref01_Plus.f at h
  have ih := dendronref01_Plus.w k
  exact Til.mid Tryz.func85 4 [] (fun _ f => f) (by kernel_rfl) (ih _ _ _ _ _ _ h)

def dendronref01_From.l0E (x0 : List Int) (x3 : List Int) (x4 : List Int) (x5 : Int) : Env := [(0, .c (.d (L67 x0))), (3, .c (.d (L3 x3))), (4, .c (.d (L3 x4))), (5, .c (.d (.int .i64 x5)))]
theorem dendronref01_From.w (k : Nat) : (∀  (x0 : List Int) (x3 : List Int) (x4 : List Int) (x5 : Int) (r : List Int), dendronref01_From.l0 k x0 x3 x4 x5 = some r → Til Tryz.prog 68 [] (.c (.d (L3 r))) none [] (at_ Tryz.f68 4) (dendronref01_From.l0E x0 x3 x4 x5) []) := by
  induction k with
  | zero =>
    exact fun _ _ _ _ _ h => (by cases h)
  | succ k ih =>
    intro x0 x3 x4 x5 r h
    rw [dendronref01_From.l0] at h
    by_cases h0 : x5 ≥ 0
    · rw [if_pos h0] at h
      obtain ⟨v4, h1, h⟩ := bnd h
      obtain ⟨h2, h⟩ := ifp h
      obtain ⟨v11, h3, h⟩ := bnd h
      obtain ⟨v12, h4, h⟩ := bnd h
      exact Til.mid Tryz.func68 4 [(1, .b true), (4, ca (.c (.d (L3 v4)))), (11, ca (.c (.d (L3 v11)))), (12, ca (.c (.d (L3 v12))))] (fun _ f => o (decide_eq_true h0) (o (dendronref01_Times.does h1) (o (o h0 h2) (o (dendronref01_Small.does h3) (o (dendronref01_Plus.does h4) f))))) (by kernel_rfl) (ih _ _ _ _ _ h)
    · rw [if_neg h0] at h
      obtain rfl := Option.some.inj h
      exact Til.fin Tryz.func68 [(1, .b false)] (fun _ f => o (decide_eq_false h0) f) (by kernel_rfl)
theorem dendronref01_From.does {k : Nat} {l0 : List Int} {r : List Int} (h : dendronref01_From.f k l0 = some r) :
    Does Tryz.prog 68 [.c (.d (L67 l0))] [] (.c (.d (L3 r))) none [] := by
  refine does_fn Tryz.func68 (by kernel_rfl) rfl rfl ?_
  unfold dendronref01_From.f at h
  have ih := dendronref01_From.w k
  obtain ⟨v2, h0, h⟩ := bnd h
  exact Til.mid Tryz.func68 4 [(2, ca (.c (.d (L3 v2))))] (fun _ f => o (dendronref01_Small.does h0) f) (by kernel_rfl) (ih _ _ _ _ _ h)

theorem dendronref02_Small.does {k : Nat} {a0 : Int} {r : Bool × List Int} (h : dendronref02_Small.f k a0 = some r) :
    Does Tryz.prog 86 [.c (.d (.int .i64 a0))] [] (.agg [.d (.bool r.1), .d (L3 r.2)]) none [] := by
  refine does_fn Tryz.func86 (by kernel_rfl) rfl rfl ?_
  unfold dendronref02_Small.f at h
  by_cases h0 : a0 < 0
  · rw [if_pos h0] at h
    obtain ⟨v6, h1, h⟩ := bnd h
    obtain ⟨v7, h2, h⟩ := bnd h
    obtain ⟨v8, h3, h⟩ := bnd h
    obtain ⟨v9, h4, h⟩ := bnd h
    obtain rfl := Option.some.inj h
    exact Til.fin Tryz.func86 [(2, .b true), (6, ca (.c (.d (L3 v6)))), (7, ca (.c (.d (L3 v7)))), (8, ca (.c (.d (L3 v8)))), (9, ca (.agg [.d (.bool v9.1), .d (L3 v9.2)]))] (fun _ f => o (decide_eq_true h0) (o (dendronref01_Small.does h1) (o (dendronref01_Small.does h2) (o (dendronref01_Plus.does h3) (o (dendronref02_Make.does h4) f))))) (by kernel_rfl)
  · rw [if_neg h0] at h
    obtain ⟨v4, h1, h⟩ := bnd h
    obtain ⟨v5, h2, h⟩ := bnd h
    obtain rfl := Option.some.inj h
    exact Til.fin Tryz.func86 [(2, .b false), (4, ca (.c (.d (L3 v4)))), (5, ca (.agg [.d (.bool v5.1), .d (L3 v5.2)]))] (fun _ f => o (decide_eq_false h0) (o (dendronref01_Small.does h1) (o (dendronref02_Make.does h2) f))) (by kernel_rfl)

theorem dendronref03_Small.does {k : Nat} {a0 : Int} {a1 : Int} {r : Bool × List Int × List Int} (h : dendronref03_Small.f k a0 a1 = some r) :
    Does Tryz.prog 69 [.c (.d (.int .i64 a0)), .c (.d (.int .i64 a1))] [] (.agg [.d (.bool r.1), .d (L3 r.2.1), .d (L3 r.2.2)]) none [] := by
  refine does_fn Tryz.func69 (by kernel_rfl) rfl rfl ?_
  unfold dendronref03_Small.f at h
  obtain ⟨v2, h0, h⟩ := bnd h
  obtain ⟨v4, h1, h⟩ := bnd h
  obtain rfl := Option.some.inj h
  exact Til.fin Tryz.func69 [(2, ca (.agg [.d (.bool v2.1), .d (L3 v2.2)])), (4, ca (.c (.d (L3 v4))))] (fun _ f => o (dendronref02_Small.does h0) (o (dendronref01_Small.does h1) f)) (by kernel_rfl)

theorem dendronref02_From.does {k : Nat} {a0_0 : Bool} {l0_1 : List Int} {r : Bool × List Int} (h : dendronref02_From.f k a0_0 l0_1 = some r) :
    Does Tryz.prog 70 [.agg [.d (.bool a0_0), .d (L67 l0_1)]] [] (.agg [.d (.bool r.1), .d (L3 r.2)]) none [] := by
  refine does_fn Tryz.func70 (by kernel_rfl) rfl rfl ?_
  unfold dendronref02_From.f at h
  obtain ⟨v6, h0, h⟩ := bnd h
  obtain ⟨v7, h1, h⟩ := bnd h
  obtain rfl := Option.some.inj h
  exact Til.fin Tryz.func70 [(6, ca (.c (.d (L3 v6)))), (7, ca (.agg [.d (.bool v7.1), .d (L3 v7.2)]))] (fun _ f => o (dendronref01_From.does h0) (o (dendronref02_Make.does h1) f)) (by kernel_rfl)

theorem dendronref03_From.does {k : Nat} {a0_0 : Bool} {l0_1 : List Int} {l0_2 : List Int} {r : Bool × List Int × List Int} (h : dendronref03_From.f k a0_0 l0_1 l0_2 = some r) :
    Does Tryz.prog 59 [.agg [.d (.bool a0_0), .d (L67 l0_1), .d (L67 l0_2)]] [] (.agg [.d (.bool r.1), .d (L3 r.2.1), .d (L3 r.2.2)]) none [] := by
  refine does_fn Tryz.func59 (by kernel_rfl) rfl rfl ?_
  unfold dendronref03_From.f at h
  obtain ⟨v4, h0, h⟩ := bnd h
  by_cases h1 : (v4.length : Int) = 0
  · rw [if_pos h1] at h
    obtain ⟨v9, h2, h⟩ := bnd h
    obtain rfl := Option.some.inj h
    exact Til.fin Tryz.func59 [(4, ca (.c (.d (L3 v4)))), (8, .b true), (9, ca (.agg [.d (.bool v9.1), .d (L3 v9.2.1), .d (L3 v9.2.2)]))] (fun _ f => o (dendronref01_From.does h0) (o (beq_iff_eq.2 h1) (o (dendronref03_Small.does h2) f))) (by kernel_rfl)
  · rw [if_neg h1] at h
    obtain ⟨v11, h2, h⟩ := bnd h
    obtain rfl := Option.some.inj h
    exact Til.fin Tryz.func59 [(4, ca (.c (.d (L3 v4)))), (8, .b false), (11, ca (.agg [.d (.bool v11.1), .d (L3 v11.2)]))] (fun _ f => o (dendronref01_From.does h0) (o (beq_false_of_ne h1) (o (dendronref02_From.does h2) f))) (by kernel_rfl)

theorem dendronref09_Same.does {k : Nat} {a0_0 : Bool} {a0_1 : Bool} {l0_2 : List Int} {l0_3 : List Int} {a1_0 : Bool} {a1_1 : Bool} {l1_2 : List Int} {l1_3 : List Int} {r : Bool} (h : dendronref09_Same.f k a0_0 a0_1 l0_2 l0_3 a1_0 a1_1 l1_2 l1_3 = some r) :
    Does Tryz.prog 45 [.agg [.d (.bool a0_0), .d (.bool a0_1), .d (L67 l0_2), .d (L67 l0_3)], .agg [.d (.bool a1_0), .d (.bool a1_1), .d (L67 l1_2), .d (L67 l1_3)]] [] (.c (.d (.bool r))) none [] := by
  refine does_fn Tryz.func45 (by kernel_rfl) rfl rfl ?_
  unfold dendronref09_Same.f at h
  by_cases h0 : a0_0 = true
  · rw [if_pos h0] at h
    by_cases h1 : a0_0 = true
    · rw [if_pos h1] at h
      obtain rfl := Option.some.inj h
      exact Til.fin Tryz.func45 [(4, .b true), (10, .b true)] (fun _ f => o h0 (o h1 f)) (by kernel_rfl)
    · rw [if_neg h1] at h
      obtain rfl := Option.some.inj h
      exact Til.fin Tryz.func45 [(4, .b true), (10, .b false)] (fun _ f => o h0 (o (Bool.eq_false_iff.2 h1) f)) (by kernel_rfl)
  · rw [if_neg h0] at h
    by_cases h1 : a1_0 = true
    · rw [if_pos h1] at h
      by_cases h2 : a0_0 = true
      · rw [if_pos h2] at h
        obtain rfl := Option.some.inj h
        exact Til.fin Tryz.func45 [(4, .b false), (7, .b true), (10, .b true)] (fun _ f => o (Bool.eq_false_iff.2 h0) (o h1 (o h2 f))) (by kernel_rfl)
      · rw [if_neg h2] at h
        obtain rfl := Option.some.inj h
        exact Til.fin Tryz.func45 [(4, .b false), (7, .b true), (10, .b false)] (fun _ f => o (Bool.eq_false_iff.2 h0) (o h1 (o (Bool.eq_false_iff.2 h2) f))) (by kernel_rfl)
    · rw [if_neg h1] at h
      obtain ⟨v11, h2, h⟩ := bnd h
      obtain ⟨v14, h3, h⟩ := bnd h
      obtain ⟨v15, h4, h⟩ := bnd h
      obtain rfl := Option.some.inj h
      exact Til.fin Tryz.func45 [(4, .b false), (7, .b false), (11, ca (.agg [.d (.bool v11.1), .d (L3 v11.2.1), .d (L3 v11.2.2)])), (14, ca (.agg [.d (.bool v14.1), .d (L3 v14.2.1), .d (L3 v14.2.2)])), (15, ca (.c (.d (.int .i64 v15))))] (fun _ f => o (Bool.eq_false_iff.2 h0) (o (Bool.eq_false_iff.2 h1) (o (dendronref03_From.does h2) (o (dendronref03_From.does h3) (o (dendronref03_Order.does h4) f))))) (by kernel_rfl)

def dendronref09_Equal.l0E (x0 : List (Bool × Bool × List Int × List Int)) (x1 : List (Bool × Bool × List Int × List Int)) (x5 : Int) : Env := [(0, .c (.d (L53 x0))), (1, .c (.d (L53 x1))), (5, .c (.d (.int .i64 x5)))]
theorem dendronref09_Equal.w (k : Nat) : (∀  (x0 : List (Bool × Bool × List Int × List Int)) (x1 : List (Bool × Bool × List Int × List Int)) (x5 : Int) (r : Bool), dendronref09_Equal.l0 k x0 x1 x5 = some r → Til Tryz.prog 23 [] (.c (.d (.bool r))) none [] (at_ Tryz.f23 4) (dendronref09_Equal.l0E x0 x1 x5) []) := by
  induction k with
  | zero =>
    exact fun _ _ _ _ h => (by cases h)
  | succ k ih =>
    intro x0 x1 x5 r h
    rw [dendronref09_Equal.l0] at h
    by_cases h0 : x5 < (x0.length : Int)
    · rw [if_pos h0] at h
      obtain ⟨h1, h⟩ := ifp h
      obtain ⟨h2, h⟩ := ifp h
      obtain ⟨v12, h3, h⟩ := bnd h
      cases v12
      · rw [if_neg (by decide)] at h
        obtain rfl := Option.some.inj h
        exact Til.fin Tryz.func23 [(3, .b true), (12, ca (.c (.d (.bool false))))] (fun _ f => o (decide_eq_true h0) (o (o h1 h0) (o (o h1 h2) (o (dendronref09_Same.does h3) f)))) (by kernel_rfl)
      · rw [if_pos rfl] at h
        exact Til.mid Tryz.func23 4 [(3, .b true), (12, ca (.c (.d (.bool true))))] (fun _ f => o (decide_eq_true h0) (o (o h1 h0) (o (o h1 h2) (o (dendronref09_Same.does h3) f)))) (by kernel_rfl) (ih _ _ _ _ h)
    · rw [if_neg h0] at h
      obtain rfl := Option.some.inj h
      exact Til.fin Tryz.func23 [(3, .b false)] (fun _ f => o (decide_eq_false h0) f) (by kernel_rfl)
theorem dendronref09_Equal.does {k : Nat} {l0 : List (Bool × Bool × List Int × List Int)} {l1 : List (Bool × Bool × List Int × List Int)} {r : Bool} (h : dendronref09_Equal.f k l0 l1 = some r) :
    Does Tryz.prog 23 [.c (.d (L53 l0)), .c (.d (L53 l1))] [] (.c (.d (.bool r))) none [] := by
  refine does_fn Tryz.func23 (by kernel_rfl) rfl rfl ?_
  unfold dendronref09_Equal.f at h
  have ih := dendronref09_Equal.w k
  by_cases h0 : (l0.length : Int) ≠ (l1.length : Int)
  · rw [if_pos h0] at h
    obtain rfl := Option.some.inj h
    exact Til.fin Tryz.func23 [(5, .b true)] (fun _ f => o (bne_iff_ne.2 h0) f) (by kernel_rfl)
  · rw [if_neg h0] at h
    exact Til.mid Tryz.func23 4 [(5, .b false)] (fun _ f => o (ne_f h0) f) (by kernel_rfl) (ih _ _ _ _ h)

def dendronref28_Same.l0E (x5 : Int) (b2_0 : Int) (b2_1 : Int) (b2_2 : List (Bool × Bool × List Int × List Int)) (b2_3 : List (List (Bool × Bool × List Int × List Int))) (b2_4 : List (Bool × Bool × List Int × List Int)) (b3_0 : Int) (b3_1 : Int) (b3_2 : List (Bool × Bool × List Int × List Int)) (b3_3 : List (List (Bool × Bool × List Int × List Int))) (b3_4 : List (Bool × Bool × List Int × List Int)) : Env := [(2, .c (.ptr 2 0)), (3, .c (.ptr 3 0)), (5, .c (.d (.int .i64 x5)))]
def dendronref28_Same.l0B (x5 : Int) (b2_0 : Int) (b2_1 : Int) (b2_2 : List (Bool × Bool × List Int × List Int)) (b2_3 : List (List (Bool × Bool × List Int × List Int))) (b2_4 : List (Bool × Bool × List Int × List Int)) (b3_0 : Int) (b3_1 : Int) (b3_2 : List (Bool × Bool × List Int × List Int)) (b3_3 : List (List (Bool × Bool × List Int × List Int))) (b3_4 : List (Bool × Bool × List Int × List Int)) : Obs := [(2, some (.box [.d (.int .i64 b2_0), .d (.int .i64 b2_1), .d (L53 b2_2), .d (L22 b2_3), .d (L53 b2_4)])), (3, some (.box [.d (.int .i64 b3_0), .d (.int .i64 b3_1), .d (L53 b3_2), .d (L22 b3_3), .d (L53 b3_4)]))]
theorem dendronref28_Same.w (k : Nat) : (∀  (x5 : Int) (b2_0 : Int) (b2_1 : Int) (b2_2 : List (Bool × Bool × List Int × List Int)) (b2_3 : List (List (Bool × Bool × List Int × List Int))) (b2_4 : List (Bool × Bool × List Int × List Int)) (b3_0 : Int) (b3_1 : Int) (b3_2 : List (Bool × Bool × List Int × List Int)) (b3_3 : List (List (Bool × Bool × List Int × List Int))) (b3_4 : List (Bool × Bool × List Int × List Int)) (r : Bool), dendronref28_Same.l0 k x5 b2_0 b2_1 b2_2 b2_3 b2_4 b3_0 b3_1 b3_2 b3_3 b3_4 = some r → Til Tryz.prog 9 [] (.c (.d (.bool r))) none [] (at_ Tryz.f9 4) (dendronref28_Same.l0E x5 b2_0 b2_1 b2_2 b2_3 b2_4 b3_0 b3_1 b3_2 b3_3 b3_4) (dendronref28_Same.l0B x5 b2_0 b2_1 b2_2 b2_3 b2_4 b3_0 b3_1 b3_2 b3_3 b3_4)) := by
  induction k with
  | zero =>
    exact fun _ _ _ _ _ _ _ _ _ _ _ _ h => (by cases h)
  | succ k ih =>
    intro x5 b2_0 b2_1 b2_2 b2_3 b2_4 b3_0 b3_1 b3_2 b3_3 b3_4 r h
    rw [dendronref28_Same.l0] at h
    by_cases h0 : x5 < (b2_3.length : Int)
    · rw [if_pos h0] at h
      obtain ⟨h1, h⟩ := ifp h
      obtain ⟨h2, h⟩ := ifp h
      obtain ⟨v15, h3, h⟩ := bnd h
      cases v15
      · rw [if_neg (by decide)] at h
        obtain rfl := Option.some.inj h
        exact Til.fin Tryz.func9 [(4, .b true), (15, ca (.c (.d (.bool false))))] (fun _ f => o (decide_eq_true h0) (o (o h1 h0) (o (o h1 h2) (o (dendronref09_Equal.does h3) f)))) (by kernel_rfl)
      · rw [if_pos rfl] at h
        exact Til.mid Tryz.func9 4 [(4, .b true), (15, ca (.c (.d (.bool true))))] (fun _ f => o (decide_eq_true h0) (o (o h1 h0) (o (o h1 h2) (o (dendronref09_Equal.does h3) f)))) (by kernel_rfl) (ih _ _ _ _ _ _ _ _ _ _ _ _ h)
    · rw [if_neg h0] at h
      obtain rfl := Option.some.inj h
      exact Til.fin Tryz.func9 [(4, .b false)] (fun _ f => o (decide_eq_false h0) f) (by kernel_rfl)
theorem dendronref28_Same.does {k : Nat} {a0_0 : Int} {a0_1 : Int} {l0_2 : List (Bool × Bool × List Int × List Int)} {l0_3 : List (List (Bool × Bool × List Int × List Int))} {l0_4 : List (Bool × Bool × List Int × List Int)} {a1_0 : Int} {a1_1 : Int} {l1_2 : List (Bool × Bool × List Int × List Int)} {l1_3 : List (List (Bool × Bool × List Int × List Int))} {l1_4 : List (Bool × Bool × List Int × List Int)} {r : Bool} (h : dendronref28_Same.f k a0_0 a0_1 l0_2 l0_3 l0_4 a1_0 a1_1 l1_2 l1_3 l1_4 = some r) :
    Does Tryz.prog 9 [.agg [.d (.int .i64 a0_0), .d (.int .i64 a0_1), .d (L53 l0_2), .d (L22 l0_3), .d (L53 l0_4)], .agg [.d (.int .i64 a1_0), .d (.int .i64 a1_1), .d (L53 l1_2), .d (L22 l1_3), .d (L53 l1_4)]] [] (.c (.d (.bool r))) none [] := by
  refine does_fn Tryz.func9 (by kernel_rfl) rfl rfl ?_
  unfold dendronref28_Same.f at h
  have ih := dendronref28_Same.w k
  by_cases h0 : a0_0 ≠ a1_0
  · rw [if_pos h0] at h
    obtain rfl := Option.some.inj h
    exact Til.fin Tryz.func9 [(7, .b true)] (fun _ f => o (bne_iff_ne.2 h0) f) (by kernel_rfl)
  · rw [if_neg h0] at h
    by_cases h1 : a0_1 ≠ a1_1
    · rw [if_pos h1] at h
      obtain rfl := Option.some.inj h
      exact Til.fin Tryz.func9 [(7, .b false), (13, .b true)] (fun _ f => o (ne_f h0) (o (bne_iff_ne.2 h1) f)) (by kernel_rfl)
    · rw [if_neg h1] at h
      obtain ⟨v20, h2, h⟩ := bnd h
      cases v20
      · rw [if_neg (by decide)] at h
        obtain rfl := Option.some.inj h
        exact Til.fin Tryz.func9 [(7, .b false), (13, .b false), (20, ca (.c (.d (.bool false))))] (fun _ f => o (ne_f h0) (o (ne_f h1) (o (dendronref09_Equal.does h2) f))) (by kernel_rfl)
      · rw [if_pos rfl] at h
        obtain ⟨v28, h4, h⟩ := bnd h
        cases v28
        · rw [if_neg (by decide)] at h
          obtain rfl := Option.some.inj h
          exact Til.fin Tryz.func9 [(7, .b false), (13, .b false), (20, ca (.c (.d (.bool true)))), (28, ca (.c (.d (.bool false))))] (fun _ f => o (ne_f h0) (o (ne_f h1) (o (dendronref09_Equal.does h2) (o (dendronref09_Equal.does h4) f)))) (by kernel_rfl)
        · rw [if_pos rfl] at h
          by_cases h6 : (l0_3.length : Int) ≠ (l1_3.length : Int)
          · rw [if_pos h6] at h
            obtain rfl := Option.some.inj h
            exact Til.fin Tryz.func9 [(7, .b false), (13, .b false), (20, ca (.c (.d (.bool true)))), (28, ca (.c (.d (.bool true)))), (38, .b true)] (fun _ f => o (ne_f h0) (o (ne_f h1) (o (dendronref09_Equal.does h2) (o (dendronref09_Equal.does h4) (o (bne_iff_ne.2 h6) f))))) (by kernel_rfl)
          · rw [if_neg h6] at h
            exact Til.mid Tryz.func9 4 [(7, .b false), (13, .b false), (20, ca (.c (.d (.bool true)))), (28, ca (.c (.d (.bool true)))), (38, .b false)] (fun _ f => o (ne_f h0) (o (ne_f h1) (o (dendronref09_Equal.does h2) (o (dendronref09_Equal.does h4) (o (ne_f h6) f))))) (by kernel_rfl) (ih _ _ _ _ _ _ _ _ _ _ _ _ h)

theorem dendronlaw28_AskAgain.does {k : Nat} {a0 : ByteArray} {r : Bool} (h : dendronlaw28_AskAgain.f k a0 = some r) :
    Does Tryz.prog 4 [.c (.d (.str a0))] [] (.c (.d (.bool r))) none [] := by
  refine does_fn Tryz.func4 (by kernel_rfl) rfl rfl ?_
  unfold dendronlaw28_AskAgain.f at h
  by_cases h0 : (a0.size : Int) > 600
  · rw [if_pos h0] at h
    obtain ⟨h1, h⟩ := ifp h
    obtain ⟨v8, h2, h⟩ := bnd h
    by_cases h3 : v8.2.2.2.2.2.2 ≠ 0
    · rw [if_pos h3] at h
      obtain ⟨v21, h4, h⟩ := bnd h
      cases v21
      · rw [if_neg (by decide)] at h
        obtain rfl := Option.some.inj h
        exact Til.fin Tryz.func4 [(3, .b true), (8, ca (.tup [.agg [.d (.int .i64 v8.1), .d (.int .i64 v8.2.1), .d (L53 v8.2.2.1), .d (L22 v8.2.2.2.1), .d (L53 v8.2.2.2.2.1)], .c (.d (.int .i64 v8.2.2.2.2.2.1)), .c (.d (.int .i64 v8.2.2.2.2.2.2))])), (18, .b true), (21, .call [(1, .agg [.u, .u, .d (L53 ([] : List (Bool × Bool × List Int × List Int))), .d (L22 ([] : List (List (Bool × Bool × List Int × List Int)))), .d (L53 ([] : List (Bool × Bool × List Int × List Int)))])] [] (.c (.d (.bool false))) none [] [])] (fun _ f => o (decide_eq_true h0) (o (o (nn 600) h1) (o (ask_Parse.does h2) (o (bne_iff_ne.2 h3) (o (dendronref28_Same.does h4) f))))) (by kernel_rfl)
      · rw [if_pos rfl] at h
        by_cases h6 : v8.2.2.2.2.2.1 ≥ 0
        · rw [if_pos h6] at h
          by_cases h7 : v8.2.2.2.2.2.1 ≤ ((a0.extract 0 600).size : Int)
          · rw [if_pos h7] at h
            obtain ⟨v33, h8, h⟩ := bnd h
            obtain rfl := Option.some.inj h
            exact Til.fin Tryz.func4 [(3, .b true), (8, ca (.tup [.agg [.d (.int .i64 v8.1), .d (.int .i64 v8.2.1), .d (L53 v8.2.2.1), .d (L22 v8.2.2.2.1), .d (L53 v8.2.2.2.2.1)], .c (.d (.int .i64 v8.2.2.2.2.2.1)), .c (.d (.int .i64 v8.2.2.2.2.2.2))])), (18, .b true), (21, .call [(1, .agg [.u, .u, .d (L53 ([] : List (Bool × Bool × List Int × List Int))), .d (L22 ([] : List (List (Bool × Bool × List Int × List Int)))), .d (L53 ([] : List (Bool × Bool × List Int × List Int)))])] [] (.c (.d (.bool true))) none [] []), (24, .b true), (30, .b true), (33, ca (.c (.d (.bool v33))))] (fun _ f => o (decide_eq_true h0) (o (o (nn 600) h1) (o (ask_Parse.does h2) (o (bne_iff_ne.2 h3) (o (dendronref28_Same.does h4) (o (decide_eq_true h6) (o (decide_eq_true h7) (o (dendronlaw28_awake.does h8) f)))))))) (by kernel_rfl)
          · rw [if_neg h7] at h
            obtain rfl := Option.some.inj h
            exact Til.fin Tryz.func4 [(3, .b true), (8, ca (.tup [.agg [.d (.int .i64 v8.1), .d (.int .i64 v8.2.1), .d (L53 v8.2.2.1), .d (L22 v8.2.2.2.1), .d (L53 v8.2.2.2.2.1)], .c (.d (.int .i64 v8.2.2.2.2.2.1)), .c (.d (.int .i64 v8.2.2.2.2.2.2))])), (18, .b true), (21, .call [(1, .agg [.u, .u, .d (L53 ([] : List (Bool × Bool × List Int × List Int))), .d (L22 ([] : List (List (Bool × Bool × List Int × List Int)))), .d (L53 ([] : List (Bool × Bool × List Int × List Int)))])] [] (.c (.d (.bool true))) none [] []), (24, .b true), (30, .b false)] (fun _ f => o (decide_eq_true h0) (o (o (nn 600) h1) (o (ask_Parse.does h2) (o (bne_iff_ne.2 h3) (o (dendronref28_Same.does h4) (o (decide_eq_true h6) (o (decide_eq_false h7) f))))))) (by kernel_rfl)
        · rw [if_neg h6] at h
          obtain rfl := Option.some.inj h
          exact Til.fin Tryz.func4 [(3, .b true), (8, ca (.tup [.agg [.d (.int .i64 v8.1), .d (.int .i64 v8.2.1), .d (L53 v8.2.2.1), .d (L22 v8.2.2.2.1), .d (L53 v8.2.2.2.2.1)], .c (.d (.int .i64 v8.2.2.2.2.2.1)), .c (.d (.int .i64 v8.2.2.2.2.2.2))])), (18, .b true), (21, .call [(1, .agg [.u, .u, .d (L53 ([] : List (Bool × Bool × List Int × List Int))), .d (L22 ([] : List (List (Bool × Bool × List Int × List Int)))), .d (L53 ([] : List (Bool × Bool × List Int × List Int)))])] [] (.c (.d (.bool true))) none [] []), (24, .b false)] (fun _ f => o (decide_eq_true h0) (o (o (nn 600) h1) (o (ask_Parse.does h2) (o (bne_iff_ne.2 h3) (o (dendronref28_Same.does h4) (o (decide_eq_false h6) f)))))) (by kernel_rfl)
    · rw [if_neg h3] at h
      obtain ⟨v20, h4, h⟩ := bnd h
      obtain ⟨v27, h5, h⟩ := bnd h
      obtain ⟨v37, h6, h⟩ := bnd h
      by_cases h7 : v20.2 = 0
      · rw [if_pos h7] at h
        by_cases h8 : v27.2.2.2.2.2.2 = 0
        · rw [if_pos h8] at h
          obtain ⟨v52, h9, h⟩ := bnd h
          cases v52
          · rw [if_neg (by decide)] at h
            obtain rfl := Option.some.inj h
            exact Til.fin Tryz.func4 [(3, .b true), (8, ca (.tup [.agg [.d (.int .i64 v8.1), .d (.int .i64 v8.2.1), .d (L53 v8.2.2.1), .d (L22 v8.2.2.2.1), .d (L53 v8.2.2.2.2.1)], .c (.d (.int .i64 v8.2.2.2.2.2.1)), .c (.d (.int .i64 v8.2.2.2.2.2.2))])), (18, .b false), (20, ca (.tup [.c (.d (.str v20.1)), .c (.d (.int .i64 v20.2))])), (27, ca (.tup [.agg [.d (.int .i64 v27.1), .d (.int .i64 v27.2.1), .d (L53 v27.2.2.1), .d (L22 v27.2.2.2.1), .d (L53 v27.2.2.2.2.1)], .c (.d (.int .i64 v27.2.2.2.2.2.1)), .c (.d (.int .i64 v27.2.2.2.2.2.2))])), (37, ca (.tup [.c (.d (.str v37.1)), .c (.d (.int .i64 v37.2))])), (44, .b true), (47, .b true), (52, ca (.c (.d (.bool false))))] (fun _ f => o (decide_eq_true h0) (o (o (nn 600) h1) (o (ask_Parse.does h2) (o (ne_f h3) (o (ask_Write.does h4) (o (ask_Parse.does h5) (o (ask_Write.does h6) (o (beq_iff_eq.2 h7) (o (beq_iff_eq.2 h8) (o (dendronref28_Same.does h9) f)))))))))) (by kernel_rfl)
          · rw [if_pos rfl] at h
            by_cases h11 : v37.2 = 0
            · rw [if_pos h11] at h
              by_cases h12 : v37.1 = v20.1
              · rw [if_pos h12] at h
                obtain ⟨v64, h13, h⟩ := bnd h
                obtain rfl := Option.some.inj h
                exact Til.fin Tryz.func4 [(3, .b true), (8, ca (.tup [.agg [.d (.int .i64 v8.1), .d (.int .i64 v8.2.1), .d (L53 v8.2.2.1), .d (L22 v8.2.2.2.1), .d (L53 v8.2.2.2.2.1)], .c (.d (.int .i64 v8.2.2.2.2.2.1)), .c (.d (.int .i64 v8.2.2.2.2.2.2))])), (18, .b false), (20, ca (.tup [.c (.d (.str v20.1)), .c (.d (.int .i64 v20.2))])), (27, ca (.tup [.agg [.d (.int .i64 v27.1), .d (.int .i64 v27.2.1), .d (L53 v27.2.2.1), .d (L22 v27.2.2.2.1), .d (L53 v27.2.2.2.2.1)], .c (.d (.int .i64 v27.2.2.2.2.2.1)), .c (.d (.int .i64 v27.2.2.2.2.2.2))])), (37, ca (.tup [.c (.d (.str v37.1)), .c (.d (.int .i64 v37.2))])), (44, .b true), (47, .b true), (52, ca (.c (.d (.bool true)))), (56, .b true), (61, .b true), (64, ca (.c (.d (.bool v64))))] (fun _ f => o (decide_eq_true h0) (o (o (nn 600) h1) (o (ask_Parse.does h2) (o (ne_f h3) (o (ask_Write.does h4) (o (ask_Parse.does h5) (o (ask_Write.does h6) (o (beq_iff_eq.2 h7) (o (beq_iff_eq.2 h8) (o (dendronref28_Same.does h9) (o (beq_iff_eq.2 h11) (o (str_t h12) (o (dendronlaw28_awake.does h13) f))))))))))))) (by kernel_rfl)
              · rw [if_neg h12] at h
                obtain rfl := Option.some.inj h
                exact Til.fin Tryz.func4 [(3, .b true), (8, ca (.tup [.agg [.d (.int .i64 v8.1), .d (.int .i64 v8.2.1), .d (L53 v8.2.2.1), .d (L22 v8.2.2.2.1), .d (L53 v8.2.2.2.2.1)], .c (.d (.int .i64 v8.2.2.2.2.2.1)), .c (.d (.int .i64 v8.2.2.2.2.2.2))])), (18, .b false), (20, ca (.tup [.c (.d (.str v20.1)), .c (.d (.int .i64 v20.2))])), (27, ca (.tup [.agg [.d (.int .i64 v27.1), .d (.int .i64 v27.2.1), .d (L53 v27.2.2.1), .d (L22 v27.2.2.2.1), .d (L53 v27.2.2.2.2.1)], .c (.d (.int .i64 v27.2.2.2.2.2.1)), .c (.d (.int .i64 v27.2.2.2.2.2.2))])), (37, ca (.tup [.c (.d (.str v37.1)), .c (.d (.int .i64 v37.2))])), (44, .b true), (47, .b true), (52, ca (.c (.d (.bool true)))), (56, .b true), (61, .b false)] (fun _ f => o (decide_eq_true h0) (o (o (nn 600) h1) (o (ask_Parse.does h2) (o (ne_f h3) (o (ask_Write.does h4) (o (ask_Parse.does h5) (o (ask_Write.does h6) (o (beq_iff_eq.2 h7) (o (beq_iff_eq.2 h8) (o (dendronref28_Same.does h9) (o (beq_iff_eq.2 h11) (o (str_f h12) f)))))))))))) (by kernel_rfl)
            · rw [if_neg h11] at h
              obtain rfl := Option.some.inj h
              exact Til.fin Tryz.func4 [(3, .b true), (8, ca (.tup [.agg [.d (.int .i64 v8.1), .d (.int .i64 v8.2.1), .d (L53 v8.2.2.1), .d (L22 v8.2.2.2.1), .d (L53 v8.2.2.2.2.1)], .c (.d (.int .i64 v8.2.2.2.2.2.1)), .c (.d (.int .i64 v8.2.2.2.2.2.2))])), (18, .b false), (20, ca (.tup [.c (.d (.str v20.1)), .c (.d (.int .i64 v20.2))])), (27, ca (.tup [.agg [.d (.int .i64 v27.1), .d (.int .i64 v27.2.1), .d (L53 v27.2.2.1), .d (L22 v27.2.2.2.1), .d (L53 v27.2.2.2.2.1)], .c (.d (.int .i64 v27.2.2.2.2.2.1)), .c (.d (.int .i64 v27.2.2.2.2.2.2))])), (37, ca (.tup [.c (.d (.str v37.1)), .c (.d (.int .i64 v37.2))])), (44, .b true), (47, .b true), (52, ca (.c (.d (.bool true)))), (56, .b false)] (fun _ f => o (decide_eq_true h0) (o (o (nn 600) h1) (o (ask_Parse.does h2) (o (ne_f h3) (o (ask_Write.does h4) (o (ask_Parse.does h5) (o (ask_Write.does h6) (o (beq_iff_eq.2 h7) (o (beq_iff_eq.2 h8) (o (dendronref28_Same.does h9) (o (beq_false_of_ne h11) f))))))))))) (by kernel_rfl)
        · rw [if_neg h8] at h
          obtain rfl := Option.some.inj h
          exact Til.fin Tryz.func4 [(3, .b true), (8, ca (.tup [.agg [.d (.int .i64 v8.1), .d (.int .i64 v8.2.1), .d (L53 v8.2.2.1), .d (L22 v8.2.2.2.1), .d (L53 v8.2.2.2.2.1)], .c (.d (.int .i64 v8.2.2.2.2.2.1)), .c (.d (.int .i64 v8.2.2.2.2.2.2))])), (18, .b false), (20, ca (.tup [.c (.d (.str v20.1)), .c (.d (.int .i64 v20.2))])), (27, ca (.tup [.agg [.d (.int .i64 v27.1), .d (.int .i64 v27.2.1), .d (L53 v27.2.2.1), .d (L22 v27.2.2.2.1), .d (L53 v27.2.2.2.2.1)], .c (.d (.int .i64 v27.2.2.2.2.2.1)), .c (.d (.int .i64 v27.2.2.2.2.2.2))])), (37, ca (.tup [.c (.d (.str v37.1)), .c (.d (.int .i64 v37.2))])), (44, .b true), (47, .b false)] (fun _ f => o (decide_eq_true h0) (o (o (nn 600) h1) (o (ask_Parse.does h2) (o (ne_f h3) (o (ask_Write.does h4) (o (ask_Parse.does h5) (o (ask_Write.does h6) (o (beq_iff_eq.2 h7) (o (beq_false_of_ne h8) f))))))))) (by kernel_rfl)
      · rw [if_neg h7] at h
        obtain rfl := Option.some.inj h
        exact Til.fin Tryz.func4 [(3, .b true), (8, ca (.tup [.agg [.d (.int .i64 v8.1), .d (.int .i64 v8.2.1), .d (L53 v8.2.2.1), .d (L22 v8.2.2.2.1), .d (L53 v8.2.2.2.2.1)], .c (.d (.int .i64 v8.2.2.2.2.2.1)), .c (.d (.int .i64 v8.2.2.2.2.2.2))])), (18, .b false), (20, ca (.tup [.c (.d (.str v20.1)), .c (.d (.int .i64 v20.2))])), (27, ca (.tup [.agg [.d (.int .i64 v27.1), .d (.int .i64 v27.2.1), .d (L53 v27.2.2.1), .d (L22 v27.2.2.2.1), .d (L53 v27.2.2.2.2.1)], .c (.d (.int .i64 v27.2.2.2.2.2.1)), .c (.d (.int .i64 v27.2.2.2.2.2.2))])), (37, ca (.tup [.c (.d (.str v37.1)), .c (.d (.int .i64 v37.2))])), (44, .b false)] (fun _ f => o (decide_eq_true h0) (o (o (nn 600) h1) (o (ask_Parse.does h2) (o (ne_f h3) (o (ask_Write.does h4) (o (ask_Parse.does h5) (o (ask_Write.does h6) (o (beq_false_of_ne h7) f)))))))) (by kernel_rfl)
  · rw [if_neg h0] at h
    obtain ⟨v5, h1, h⟩ := bnd h
    by_cases h2 : v5.2.2.2.2.2.2 ≠ 0
    · rw [if_pos h2] at h
      obtain ⟨v18, h3, h⟩ := bnd h
      cases v18
      · rw [if_neg (by decide)] at h
        obtain rfl := Option.some.inj h
        exact Til.fin Tryz.func4 [(3, .b false), (5, ca (.tup [.agg [.d (.int .i64 v5.1), .d (.int .i64 v5.2.1), .d (L53 v5.2.2.1), .d (L22 v5.2.2.2.1), .d (L53 v5.2.2.2.2.1)], .c (.d (.int .i64 v5.2.2.2.2.2.1)), .c (.d (.int .i64 v5.2.2.2.2.2.2))])), (15, .b true), (18, .call [(1, .agg [.u, .u, .d (L53 ([] : List (Bool × Bool × List Int × List Int))), .d (L22 ([] : List (List (Bool × Bool × List Int × List Int)))), .d (L53 ([] : List (Bool × Bool × List Int × List Int)))])] [] (.c (.d (.bool false))) none [] [])] (fun _ f => o (decide_eq_false h0) (o (ask_Parse.does h1) (o (bne_iff_ne.2 h2) (o (dendronref28_Same.does h3) f)))) (by kernel_rfl)
      · rw [if_pos rfl] at h
        by_cases h5 : v5.2.2.2.2.2.1 ≥ 0
        · rw [if_pos h5] at h
          by_cases h6 : v5.2.2.2.2.2.1 ≤ (a0.size : Int)
          · rw [if_pos h6] at h
            obtain ⟨v30, h7, h⟩ := bnd h
            obtain rfl := Option.some.inj h
            exact Til.fin Tryz.func4 [(3, .b false), (5, ca (.tup [.agg [.d (.int .i64 v5.1), .d (.int .i64 v5.2.1), .d (L53 v5.2.2.1), .d (L22 v5.2.2.2.1), .d (L53 v5.2.2.2.2.1)], .c (.d (.int .i64 v5.2.2.2.2.2.1)), .c (.d (.int .i64 v5.2.2.2.2.2.2))])), (15, .b true), (18, .call [(1, .agg [.u, .u, .d (L53 ([] : List (Bool × Bool × List Int × List Int))), .d (L22 ([] : List (List (Bool × Bool × List Int × List Int)))), .d (L53 ([] : List (Bool × Bool × List Int × List Int)))])] [] (.c (.d (.bool true))) none [] []), (21, .b true), (27, .b true), (30, ca (.c (.d (.bool v30))))] (fun _ f => o (decide_eq_false h0) (o (ask_Parse.does h1) (o (bne_iff_ne.2 h2) (o (dendronref28_Same.does h3) (o (decide_eq_true h5) (o (decide_eq_true h6) (o (dendronlaw28_awake.does h7) f))))))) (by kernel_rfl)
          · rw [if_neg h6] at h
            obtain rfl := Option.some.inj h
            exact Til.fin Tryz.func4 [(3, .b false), (5, ca (.tup [.agg [.d (.int .i64 v5.1), .d (.int .i64 v5.2.1), .d (L53 v5.2.2.1), .d (L22 v5.2.2.2.1), .d (L53 v5.2.2.2.2.1)], .c (.d (.int .i64 v5.2.2.2.2.2.1)), .c (.d (.int .i64 v5.2.2.2.2.2.2))])), (15, .b true), (18, .call [(1, .agg [.u, .u, .d (L53 ([] : List (Bool × Bool × List Int × List Int))), .d (L22 ([] : List (List (Bool × Bool × List Int × List Int)))), .d (L53 ([] : List (Bool × Bool × List Int × List Int)))])] [] (.c (.d (.bool true))) none [] []), (21, .b true), (27, .b false)] (fun _ f => o (decide_eq_false h0) (o (ask_Parse.does h1) (o (bne_iff_ne.2 h2) (o (dendronref28_Same.does h3) (o (decide_eq_true h5) (o (decide_eq_false h6) f)))))) (by kernel_rfl)
        · rw [if_neg h5] at h
          obtain rfl := Option.some.inj h
          exact Til.fin Tryz.func4 [(3, .b false), (5, ca (.tup [.agg [.d (.int .i64 v5.1), .d (.int .i64 v5.2.1), .d (L53 v5.2.2.1), .d (L22 v5.2.2.2.1), .d (L53 v5.2.2.2.2.1)], .c (.d (.int .i64 v5.2.2.2.2.2.1)), .c (.d (.int .i64 v5.2.2.2.2.2.2))])), (15, .b true), (18, .call [(1, .agg [.u, .u, .d (L53 ([] : List (Bool × Bool × List Int × List Int))), .d (L22 ([] : List (List (Bool × Bool × List Int × List Int)))), .d (L53 ([] : List (Bool × Bool × List Int × List Int)))])] [] (.c (.d (.bool true))) none [] []), (21, .b false)] (fun _ f => o (decide_eq_false h0) (o (ask_Parse.does h1) (o (bne_iff_ne.2 h2) (o (dendronref28_Same.does h3) (o (decide_eq_false h5) f))))) (by kernel_rfl)
    · rw [if_neg h2] at h
      obtain ⟨v17, h3, h⟩ := bnd h
      obtain ⟨v24, h4, h⟩ := bnd h
      obtain ⟨v34, h5, h⟩ := bnd h
      by_cases h6 : v17.2 = 0
      · rw [if_pos h6] at h
        by_cases h7 : v24.2.2.2.2.2.2 = 0
        · rw [if_pos h7] at h
          obtain ⟨v49, h8, h⟩ := bnd h
          cases v49
          · rw [if_neg (by decide)] at h
            obtain rfl := Option.some.inj h
            exact Til.fin Tryz.func4 [(3, .b false), (5, ca (.tup [.agg [.d (.int .i64 v5.1), .d (.int .i64 v5.2.1), .d (L53 v5.2.2.1), .d (L22 v5.2.2.2.1), .d (L53 v5.2.2.2.2.1)], .c (.d (.int .i64 v5.2.2.2.2.2.1)), .c (.d (.int .i64 v5.2.2.2.2.2.2))])), (15, .b false), (17, ca (.tup [.c (.d (.str v17.1)), .c (.d (.int .i64 v17.2))])), (24, ca (.tup [.agg [.d (.int .i64 v24.1), .d (.int .i64 v24.2.1), .d (L53 v24.2.2.1), .d (L22 v24.2.2.2.1), .d (L53 v24.2.2.2.2.1)], .c (.d (.int .i64 v24.2.2.2.2.2.1)), .c (.d (.int .i64 v24.2.2.2.2.2.2))])), (34, ca (.tup [.c (.d (.str v34.1)), .c (.d (.int .i64 v34.2))])), (41, .b true), (44, .b true), (49, ca (.c (.d (.bool false))))] (fun _ f => o (decide_eq_false h0) (o (ask_Parse.does h1) (o (ne_f h2) (o (ask_Write.does h3) (o (ask_Parse.does h4) (o (ask_Write.does h5) (o (beq_iff_eq.2 h6) (o (beq_iff_eq.2 h7) (o (dendronref28_Same.does h8) f))))))))) (by kernel_rfl)
          · rw [if_pos rfl] at h
            by_cases h10 : v34.2 = 0
            · rw [if_pos h10] at h
              by_cases h11 : v34.1 = v17.1
              · rw [if_pos h11] at h
                obtain ⟨v61, h12, h⟩ := bnd h
                obtain rfl := Option.some.inj h
                exact Til.fin Tryz.func4 [(3, .b false), (5, ca (.tup [.agg [.d (.int .i64 v5.1), .d (.int .i64 v5.2.1), .d (L53 v5.2.2.1), .d (L22 v5.2.2.2.1), .d (L53 v5.2.2.2.2.1)], .c (.d (.int .i64 v5.2.2.2.2.2.1)), .c (.d (.int .i64 v5.2.2.2.2.2.2))])), (15, .b false), (17, ca (.tup [.c (.d (.str v17.1)), .c (.d (.int .i64 v17.2))])), (24, ca (.tup [.agg [.d (.int .i64 v24.1), .d (.int .i64 v24.2.1), .d (L53 v24.2.2.1), .d (L22 v24.2.2.2.1), .d (L53 v24.2.2.2.2.1)], .c (.d (.int .i64 v24.2.2.2.2.2.1)), .c (.d (.int .i64 v24.2.2.2.2.2.2))])), (34, ca (.tup [.c (.d (.str v34.1)), .c (.d (.int .i64 v34.2))])), (41, .b true), (44, .b true), (49, ca (.c (.d (.bool true)))), (53, .b true), (58, .b true), (61, ca (.c (.d (.bool v61))))] (fun _ f => o (decide_eq_false h0) (o (ask_Parse.does h1) (o (ne_f h2) (o (ask_Write.does h3) (o (ask_Parse.does h4) (o (ask_Write.does h5) (o (beq_iff_eq.2 h6) (o (beq_iff_eq.2 h7) (o (dendronref28_Same.does h8) (o (beq_iff_eq.2 h10) (o (str_t h11) (o (dendronlaw28_awake.does h12) f)))))))))))) (by kernel_rfl)
              · rw [if_neg h11] at h
                obtain rfl := Option.some.inj h
                exact Til.fin Tryz.func4 [(3, .b false), (5, ca (.tup [.agg [.d (.int .i64 v5.1), .d (.int .i64 v5.2.1), .d (L53 v5.2.2.1), .d (L22 v5.2.2.2.1), .d (L53 v5.2.2.2.2.1)], .c (.d (.int .i64 v5.2.2.2.2.2.1)), .c (.d (.int .i64 v5.2.2.2.2.2.2))])), (15, .b false), (17, ca (.tup [.c (.d (.str v17.1)), .c (.d (.int .i64 v17.2))])), (24, ca (.tup [.agg [.d (.int .i64 v24.1), .d (.int .i64 v24.2.1), .d (L53 v24.2.2.1), .d (L22 v24.2.2.2.1), .d (L53 v24.2.2.2.2.1)], .c (.d (.int .i64 v24.2.2.2.2.2.1)), .c (.d (.int .i64 v24.2.2.2.2.2.2))])), (34, ca (.tup [.c (.d (.str v34.1)), .c (.d (.int .i64 v34.2))])), (41, .b true), (44, .b true), (49, ca (.c (.d (.bool true)))), (53, .b true), (58, .b false)] (fun _ f => o (decide_eq_false h0) (o (ask_Parse.does h1) (o (ne_f h2) (o (ask_Write.does h3) (o (ask_Parse.does h4) (o (ask_Write.does h5) (o (beq_iff_eq.2 h6) (o (beq_iff_eq.2 h7) (o (dendronref28_Same.does h8) (o (beq_iff_eq.2 h10) (o (str_f h11) f))))))))))) (by kernel_rfl)
            · rw [if_neg h10] at h
              obtain rfl := Option.some.inj h
              exact Til.fin Tryz.func4 [(3, .b false), (5, ca (.tup [.agg [.d (.int .i64 v5.1), .d (.int .i64 v5.2.1), .d (L53 v5.2.2.1), .d (L22 v5.2.2.2.1), .d (L53 v5.2.2.2.2.1)], .c (.d (.int .i64 v5.2.2.2.2.2.1)), .c (.d (.int .i64 v5.2.2.2.2.2.2))])), (15, .b false), (17, ca (.tup [.c (.d (.str v17.1)), .c (.d (.int .i64 v17.2))])), (24, ca (.tup [.agg [.d (.int .i64 v24.1), .d (.int .i64 v24.2.1), .d (L53 v24.2.2.1), .d (L22 v24.2.2.2.1), .d (L53 v24.2.2.2.2.1)], .c (.d (.int .i64 v24.2.2.2.2.2.1)), .c (.d (.int .i64 v24.2.2.2.2.2.2))])), (34, ca (.tup [.c (.d (.str v34.1)), .c (.d (.int .i64 v34.2))])), (41, .b true), (44, .b true), (49, ca (.c (.d (.bool true)))), (53, .b false)] (fun _ f => o (decide_eq_false h0) (o (ask_Parse.does h1) (o (ne_f h2) (o (ask_Write.does h3) (o (ask_Parse.does h4) (o (ask_Write.does h5) (o (beq_iff_eq.2 h6) (o (beq_iff_eq.2 h7) (o (dendronref28_Same.does h8) (o (beq_false_of_ne h10) f)))))))))) (by kernel_rfl)
        · rw [if_neg h7] at h
          obtain rfl := Option.some.inj h
          exact Til.fin Tryz.func4 [(3, .b false), (5, ca (.tup [.agg [.d (.int .i64 v5.1), .d (.int .i64 v5.2.1), .d (L53 v5.2.2.1), .d (L22 v5.2.2.2.1), .d (L53 v5.2.2.2.2.1)], .c (.d (.int .i64 v5.2.2.2.2.2.1)), .c (.d (.int .i64 v5.2.2.2.2.2.2))])), (15, .b false), (17, ca (.tup [.c (.d (.str v17.1)), .c (.d (.int .i64 v17.2))])), (24, ca (.tup [.agg [.d (.int .i64 v24.1), .d (.int .i64 v24.2.1), .d (L53 v24.2.2.1), .d (L22 v24.2.2.2.1), .d (L53 v24.2.2.2.2.1)], .c (.d (.int .i64 v24.2.2.2.2.2.1)), .c (.d (.int .i64 v24.2.2.2.2.2.2))])), (34, ca (.tup [.c (.d (.str v34.1)), .c (.d (.int .i64 v34.2))])), (41, .b true), (44, .b false)] (fun _ f => o (decide_eq_false h0) (o (ask_Parse.does h1) (o (ne_f h2) (o (ask_Write.does h3) (o (ask_Parse.does h4) (o (ask_Write.does h5) (o (beq_iff_eq.2 h6) (o (beq_false_of_ne h7) f)))))))) (by kernel_rfl)
      · rw [if_neg h6] at h
        obtain rfl := Option.some.inj h
        exact Til.fin Tryz.func4 [(3, .b false), (5, ca (.tup [.agg [.d (.int .i64 v5.1), .d (.int .i64 v5.2.1), .d (L53 v5.2.2.1), .d (L22 v5.2.2.2.1), .d (L53 v5.2.2.2.2.1)], .c (.d (.int .i64 v5.2.2.2.2.2.1)), .c (.d (.int .i64 v5.2.2.2.2.2.2))])), (15, .b false), (17, ca (.tup [.c (.d (.str v17.1)), .c (.d (.int .i64 v17.2))])), (24, ca (.tup [.agg [.d (.int .i64 v24.1), .d (.int .i64 v24.2.1), .d (L53 v24.2.2.1), .d (L22 v24.2.2.2.1), .d (L53 v24.2.2.2.2.1)], .c (.d (.int .i64 v24.2.2.2.2.2.1)), .c (.d (.int .i64 v24.2.2.2.2.2.2))])), (34, ca (.tup [.c (.d (.str v34.1)), .c (.d (.int .i64 v34.2))])), (41, .b false)] (fun _ f => o (decide_eq_false h0) (o (ask_Parse.does h1) (o (ne_f h2) (o (ask_Write.does h3) (o (ask_Parse.does h4) (o (ask_Write.does h5) (o (beq_false_of_ne h6) f))))))) (by kernel_rfl)

end Go.DI
