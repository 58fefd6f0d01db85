/- The code of the functions does what is told of it, part 1. No condition. -/
import Derived.Test.YtcecjcpbehnihaaGreatDoorBRatioBetweens
set_option linter.all false
namespace Go.DI
open Go Go.RowKit Go.Proofs
set_option linter.unusedVariables false
set_option maxRecDepth 20000
def c3 (x : Int) : List Dat := [.int .i64 x]
def L3 (xs : List Int) : Dat := fr 1 c3 0 xs
def Z3 (xs : List Int) : Sup := .r xs.length (enc c3 0 xs)
def O3 (k : RK) (xs : List Int) : Ob := .row k 3 1 xs.length (enc c3 0 xs)

def dendronref01_Small.l0E (x0 : Int) (x3 : List Int) : Env := [(0, .c (.d (.int .i64 x0))), (3, .c (.own 3))]
def dendronref01_Small.l0B (x0 : Int) (x3 : List Int) : Obs := [(3, some (O3 .own x3))]
theorem dendronref01_Small.w (k : Nat) : (∀  (x0 : Int) (x3 : List Int) (r : List Int), dendronref01_Small.l0 k x0 x3 = some r → Til Tryz.prog 50 [] (.c (.d (L3 r))) none [] (at_ Tryz.f50 2) (dendronref01_Small.l0E x0 x3) (dendronref01_Small.l0B x0 x3)) := by
  induction k with
  | zero =>
    exact fun _ _ _ h => (by cases h)
  | succ k ih =>
    intro x0 x3 r h
    rw [dendronref01_Small.l0] at h
    by_cases h0 : x0 > 0
    · rw [if_pos h0] at h
      obtain ⟨h1, h⟩ := ifp h
      exact Til.mid Tryz.func50 2 [(1, .b true), (5, Z3 ([(Int.tmod x0 10000)] : List Int)), (6, Z3 (x3 ++ [(Int.tmod x0 10000)]))] (fun _ f => o (decide_eq_true h0) (o (by decide : ¬ (10000 : Int) = 0) (o (lit_ok c3 0 ([(Int.tmod x0 10000)] : List Int)) (o (app1 c3 0 x3 (Int.tmod x0 10000) 8 17592186044416 (by decide) h1) (o (by decide : ¬ (10000 : Int) = 0) f))))) (by kernel_rfl) (ih _ _ _ h)
    · rw [if_neg h0] at h
      obtain rfl := Option.some.inj h
      exact Til.fin Tryz.func50 [(1, .b false)] (fun _ f => o (decide_eq_false h0) f) (by kernel_rfl)
theorem dendronref01_Small.does {k : Nat} {a0 : Int} {r : List Int} (h : dendronref01_Small.f k a0 = some r) :
    Does Tryz.prog 50 [.c (.d (.int .i64 a0))] [] (.c (.d (L3 r))) none [] := by
  refine does_fn Tryz.func50 (by kernel_rfl) rfl rfl ?_
  unfold dendronref01_Small.f at h
  have ih := dendronref01_Small.w k
  exact Til.mid Tryz.func50 2 [] (fun _ f => f) (by kernel_rfl) (ih _ _ _ h)

theorem dendronref02_Make.does {a0 : Bool} {l1 : List Int} {r : Bool × List Int} (h : dendronref02_Make.f a0 l1 = some r) :
    Does Tryz.prog 57 [.c (.d (.bool a0)), .c (.d (L3 l1))] [] (.agg [.d (.bool r.1), .d (L3 r.2)]) none [] := by
  refine does_fn Tryz.func57 (by kernel_rfl) rfl rfl ?_
  unfold dendronref02_Make.f at h
  by_cases h0 : a0 = true
  · rw [if_pos h0] at h
    obtain rfl := Option.some.inj h
    exact Til.fin Tryz.func57 [(1, .b true)] (fun _ f => o h0 f) (by kernel_rfl)
  · rw [if_neg h0] at h
    obtain rfl := Option.some.inj h
    exact Til.fin Tryz.func57 [(1, .b false)] (fun _ f => o (Bool.eq_false_iff.2 h0) f) (by kernel_rfl)

theorem dendronref01_digit.does {l0 : List Int} {a1 : Int} {r : Int} (h : dendronref01_digit.f l0 a1 = some r) :
    Does Tryz.prog 133 [.c (.d (L3 l0)), .c (.d (.int .i64 a1))] [] (.c (.d (.int .i64 r))) none [] := by
  refine does_fn Tryz.func133 (by kernel_rfl) rfl rfl ?_
  unfold dendronref01_digit.f at h
  by_cases h0 : a1 < (l0.length : Int)
  · rw [if_pos h0] at h
    obtain ⟨h1, h⟩ := ifp h
    obtain rfl := Option.some.inj h
    exact Til.fin Tryz.func133 [(4, .b true)] (fun _ f => o (decide_eq_true h0) (o (o h1 h0) f)) (by kernel_rfl)
  · rw [if_neg h0] at h
    obtain rfl := Option.some.inj h
    exact Til.fin Tryz.func133 [(4, .b false)] (fun _ f => o (decide_eq_false h0) f) (by kernel_rfl)

def dendronref01_Plus.l0E (x0 : List Int) (x1 : List Int) (x5 : List Int) (x6 : Int) (x7 : Int) : Env := [(0, .c (.d (L3 x0))), (1, .c (.d (L3 x1))), (5, .c (.own 5)), (6, .c (.d (.int .i64 x6))), (7, .c (.d (.int .i64 x7)))]
def dendronref01_Plus.l0B (x0 : List Int) (x1 : List Int) (x5 : List Int) (x6 : Int) (x7 : Int) : Obs := [(5, some (O3 .own x5))]
theorem dendronref01_Plus.w (k : Nat) : (∀  (x0 : List Int) (x1 : List Int) (x5 : List Int) (x6 : Int) (x7 : Int) (r : List Int), dendronref01_Plus.l0 k x0 x1 x5 x6 x7 = some r → Til Tryz.prog 96 [] (.c (.d (L3 r))) none [] (at_ Tryz.f96 4) (dendronref01_Plus.l0E x0 x1 x5 x6 x7) (dendronref01_Plus.l0B x0 x1 x5 x6 x7)) := by
  induction k with
  | zero =>
    exact fun _ _ _ _ _ _ h => (by cases h)
  | succ k ih =>
    intro x0 x1 x5 x6 x7 r h
    rw [dendronref01_Plus.l0] at h
    by_cases h0 : x7 < (x0.length : Int)
    · rw [if_pos h0] at h
      obtain ⟨v17, h1, h⟩ := bnd h
      obtain ⟨v21, h2, h⟩ := bnd h
      obtain ⟨h3, h⟩ := ifp h
      exact Til.mid Tryz.func96 4 [(3, .b true), (17, ca (.c (.d (.int .i64 v17)))), (21, ca (.c (.d (.int .i64 v21)))), (27, Z3 ([(Int.tmod (wrap64 ((wrap64 (x6 + v17)) + v21)) 10000)] : List Int)), (28, Z3 (x5 ++ [(Int.tmod (wrap64 ((wrap64 (x6 + v17)) + v21)) 10000)]))] (fun _ f => o (decide_eq_true h0) (o (dendronref01_digit.does h1) (o (dendronref01_digit.does h2) (o (by decide : ¬ (10000 : Int) = 0) (o (lit_ok c3 0 ([(Int.tmod (wrap64 ((wrap64 (x6 + v17)) + v21)) 10000)] : List Int)) (o (app1 c3 0 x5 (Int.tmod (wrap64 ((wrap64 (x6 + v17)) + v21)) 10000) 8 17592186044416 (by decide) h3) (o (by decide : ¬ (10000 : Int) = 0) f))))))) (by kernel_rfl) (ih _ _ _ _ _ _ h)
    · rw [if_neg h0] at h
      by_cases h1 : x7 < (x1.length : Int)
      · rw [if_pos h1] at h
        obtain ⟨v17, h2, h⟩ := bnd h
        obtain ⟨v21, h3, h⟩ := bnd h
        obtain ⟨h4, h⟩ := ifp h
        exact Til.mid Tryz.func96 4 [(3, .b false), (8, .b true), (17, ca (.c (.d (.int .i64 v17)))), (21, ca (.c (.d (.int .i64 v21)))), (27, Z3 ([(Int.tmod (wrap64 ((wrap64 (x6 + v17)) + v21)) 10000)] : List Int)), (28, Z3 (x5 ++ [(Int.tmod (wrap64 ((wrap64 (x6 + v17)) + v21)) 10000)]))] (fun _ f => o (decide_eq_false h0) (o (decide_eq_true h1) (o (dendronref01_digit.does h2) (o (dendronref01_digit.does h3) (o (by decide : ¬ (10000 : Int) = 0) (o (lit_ok c3 0 ([(Int.tmod (wrap64 ((wrap64 (x6 + v17)) + v21)) 10000)] : List Int)) (o (app1 c3 0 x5 (Int.tmod (wrap64 ((wrap64 (x6 + v17)) + v21)) 10000) 8 17592186044416 (by decide) h4) (o (by decide : ¬ (10000 : Int) = 0) f)))))))) (by kernel_rfl) (ih _ _ _ _ _ _ h)
      · rw [if_neg h1] at h
        by_cases h2 : x6 > 0
        · rw [if_pos h2] at h
          obtain ⟨v17, h3, h⟩ := bnd h
          obtain ⟨v21, h4, h⟩ := bnd h
          obtain ⟨h5, h⟩ := ifp h
          exact Til.mid Tryz.func96 4 [(3, .b false), (8, .b false), (12, .b true), (17, ca (.c (.d (.int .i64 v17)))), (21, ca (.c (.d (.int .i64 v21)))), (27, Z3 ([(Int.tmod (wrap64 ((wrap64 (x6 + v17)) + v21)) 10000)] : List Int)), (28, Z3 (x5 ++ [(Int.tmod (wrap64 ((wrap64 (x6 + v17)) + v21)) 10000)]))] (fun _ f => o (decide_eq_false h0) (o (decide_eq_false h1) (o (decide_eq_true h2) (o (dendronref01_digit.does h3) (o (dendronref01_digit.does h4) (o (by decide : ¬ (10000 : Int) = 0) (o (lit_ok c3 0 ([(Int.tmod (wrap64 ((wrap64 (x6 + v17)) + v21)) 10000)] : List Int)) (o (app1 c3 0 x5 (Int.tmod (wrap64 ((wrap64 (x6 + v17)) + v21)) 10000) 8 17592186044416 (by decide) h5) (o (by decide : ¬ (10000 : Int) = 0) f))))))))) (by kernel_rfl) (ih _ _ _ _ _ _ h)
        · rw [if_neg h2] at h
          obtain rfl := Option.some.inj h
          exact Til.fin Tryz.func96 [(3, .b false), (8, .b false), (12, .b false)] (fun _ f => o (decide_eq_false h0) (o (decide_eq_false h1) (o (decide_eq_false h2) f))) (by kernel_rfl)
theorem dendronref01_Plus.does {k : Nat} {l0 : List Int} {l1 : List Int} {r : List Int} (h : dendronref01_Plus.f k l0 l1 = some r) :
    Does Tryz.prog 96 [.c (.d (L3 l0)), .c (.d (L3 l1))] [] (.c (.d (L3 r))) none [] := by
  refine does_fn Tryz.func96 (by kernel_rfl) rfl rfl ?_
  unfold dendronref01_Plus.f at h
  have ih := dendronref01_Plus.w k
  exact Til.mid Tryz.func96 4 [] (fun _ f => f) (by kernel_rfl) (ih _ _ _ _ _ _ h)

theorem dendronref02_Small.does {k : Nat} {a0 : Int} {r : Bool × List Int} (h : dendronref02_Small.f k a0 = some r) :
    Does Tryz.prog 40 [.c (.d (.int .i64 a0))] [] (.agg [.d (.bool r.1), .d (L3 r.2)]) none [] := by
  refine does_fn Tryz.func40 (by kernel_rfl) rfl rfl ?_
  unfold dendronref02_Small.f at h
  by_cases h0 : a0 < 0
  · rw [if_pos h0] at h
    obtain ⟨v6, h1, h⟩ := bnd h
    obtain ⟨v7, h2, h⟩ := bnd h
    obtain ⟨v8, h3, h⟩ := bnd h
    obtain ⟨v9, h4, h⟩ := bnd h
    obtain rfl := Option.some.inj h
    exact Til.fin Tryz.func40 [(2, .b true), (6, ca (.c (.d (L3 v6)))), (7, ca (.c (.d (L3 v7)))), (8, ca (.c (.d (L3 v8)))), (9, ca (.agg [.d (.bool v9.1), .d (L3 v9.2)]))] (fun _ f => o (decide_eq_true h0) (o (dendronref01_Small.does h1) (o (dendronref01_Small.does h2) (o (dendronref01_Plus.does h3) (o (dendronref02_Make.does h4) f))))) (by kernel_rfl)
  · rw [if_neg h0] at h
    obtain ⟨v4, h1, h⟩ := bnd h
    obtain ⟨v5, h2, h⟩ := bnd h
    obtain rfl := Option.some.inj h
    exact Til.fin Tryz.func40 [(2, .b false), (4, ca (.c (.d (L3 v4)))), (5, ca (.agg [.d (.bool v5.1), .d (L3 v5.2)]))] (fun _ f => o (decide_eq_false h0) (o (dendronref01_Small.does h1) (o (dendronref02_Make.does h2) f))) (by kernel_rfl)

theorem dendronref03_Small.does {k : Nat} {a0 : Int} {a1 : Int} {r : Bool × List Int × List Int} (h : dendronref03_Small.f k a0 a1 = some r) :
    Does Tryz.prog 22 [.c (.d (.int .i64 a0)), .c (.d (.int .i64 a1))] [] (.agg [.d (.bool r.1), .d (L3 r.2.1), .d (L3 r.2.2)]) none [] := by
  refine does_fn Tryz.func22 (by kernel_rfl) rfl rfl ?_
  unfold dendronref03_Small.f at h
  obtain ⟨v2, h0, h⟩ := bnd h
  obtain ⟨v4, h1, h⟩ := bnd h
  obtain rfl := Option.some.inj h
  exact Til.fin Tryz.func22 [(2, ca (.agg [.d (.bool v2.1), .d (L3 v2.2)])), (4, ca (.c (.d (L3 v4))))] (fun _ f => o (dendronref02_Small.does h0) (o (dendronref01_Small.does h1) f)) (by kernel_rfl)

def dendronref01_Trim.l0E (x0 : List Int) (x3 : Int) : Env := [(0, .c (.d (L3 x0))), (3, .c (.d (.int .i64 x3)))]
theorem dendronref01_Trim.w (k : Nat) : (∀  (x0 : List Int) (x3 : Int) (r : List Int), dendronref01_Trim.l0 k x0 x3 = some r → Til Tryz.prog 130 [] (.c (.d (L3 r))) none [] (at_ Tryz.f130 2) (dendronref01_Trim.l0E x0 x3) []) := by
  induction k with
  | zero =>
    exact fun _ _ _ h => (by cases h)
  | succ k ih =>
    intro x0 x3 r h
    rw [dendronref01_Trim.l0] at h
    by_cases h0 : x3 > 0
    · rw [if_pos h0] at h
      obtain ⟨h1, h⟩ := ifp h
      obtain ⟨h2, h⟩ := ifp h
      by_cases h3 : (rd x0 (wrap64 (x3 - 1))) = 0
      · rw [if_pos h3] at h
        exact Til.mid Tryz.func130 2 [(1, .b true), (8, .b true)] (fun _ f => o (decide_eq_true h0) (o (o h1 h2) (o (beq_iff_eq.2 h3) f))) (by kernel_rfl) (ih _ _ _ h)
      · rw [if_neg h3] at h
        obtain ⟨h4, h⟩ := ifp h
        obtain ⟨h5, h⟩ := ifp h
        obtain rfl := Option.some.inj h
        exact Til.fin Tryz.func130 [(1, .b true), (8, .b false), (12, Z3 (x0.take ((x3 : Int).toNat)))] (fun _ f => o (decide_eq_true h0) (o (o h1 h2) (o (beq_false_of_ne h3) (o (take_ok c3 0 x0 h4 h5) f)))) (by kernel_rfl)
    · rw [if_neg h0] at h
      obtain ⟨h1, h⟩ := ifp h
      obtain ⟨h2, h⟩ := ifp h
      obtain rfl := Option.some.inj h
      exact Til.fin Tryz.func130 [(1, .b false), (12, Z3 (x0.take ((x3 : Int).toNat)))] (fun _ f => o (decide_eq_false h0) (o (take_ok c3 0 x0 h1 h2) f)) (by kernel_rfl)
theorem dendronref01_Trim.does {k : Nat} {l0 : List Int} {r : List Int} (h : dendronref01_Trim.f k l0 = some r) :
    Does Tryz.prog 130 [.c (.d (L3 l0))] [] (.c (.d (L3 r))) none [] := by
  refine does_fn Tryz.func130 (by kernel_rfl) rfl rfl ?_
  unfold dendronref01_Trim.f at h
  have ih := dendronref01_Trim.w k
  exact Til.mid Tryz.func130 2 [] (fun _ f => f) (by kernel_rfl) (ih _ _ _ h)

def dendronref01_Times.l0E (x0 : List Int) (x1 : List Int) (x5 : List Int) (x6 : Int) : Env := [(0, .c (.d (L3 x0))), (1, .c (.d (L3 x1))), (5, .c (.own 5)), (6, .c (.d (.int .i64 x6)))]
def dendronref01_Times.l0B (x0 : List Int) (x1 : List Int) (x5 : List Int) (x6 : Int) : Obs := [(5, some (O3 .own x5))]
def dendronref01_Times.l1E (x0 : List Int) (x1 : List Int) (x5 : List Int) (x6 : Int) (x7 : Int) (x8 : Int) : Env := [(0, .c (.d (L3 x0))), (1, .c (.d (L3 x1))), (5, .c (.own 5)), (6, .c (.d (.int .i64 x6))), (7, .c (.d (.int .i64 x7))), (8, .c (.d (.int .i64 x8)))]
def dendronref01_Times.l1B (x0 : List Int) (x1 : List Int) (x5 : List Int) (x6 : Int) (x7 : Int) (x8 : Int) : Obs := [(5, some (O3 .own x5))]
theorem dendronref01_Times.w (k : Nat) : (∀  (x0 : List Int) (x1 : List Int) (x5 : List Int) (x6 : Int) (r : List Int), dendronref01_Times.l0 k x0 x1 x5 x6 = some r → Til Tryz.prog 91 [] (.c (.d (L3 r))) none [] (at_ Tryz.f91 3) (dendronref01_Times.l0E x0 x1 x5 x6) (dendronref01_Times.l0B x0 x1 x5 x6)) ∧
    (∀  (x0 : List Int) (x1 : List Int) (x5 : List Int) (x6 : Int) (x7 : Int) (x8 : Int) (r : List Int), dendronref01_Times.l1 k x0 x1 x5 x6 x7 x8 = some r → Til Tryz.prog 91 [] (.c (.d (L3 r))) none [] (at_ Tryz.f91 7) (dendronref01_Times.l1E x0 x1 x5 x6 x7 x8) (dendronref01_Times.l1B x0 x1 x5 x6 x7 x8)) := by
  induction k with
  | zero =>
    exact ⟨fun _ _ _ _ _ h => (by cases h), fun _ _ _ _ _ _ _ h => (by cases h)⟩
  | succ k ih =>
    refine ⟨?_, ?_⟩
    · intro x0 x1 x5 x6 r h
      rw [dendronref01_Times.l0] at h
      by_cases h0 : x6 < (x0.length : Int)
      · rw [if_pos h0] at h
        exact Til.mid Tryz.func91 7 [(3, .b true)] (fun _ f => o (decide_eq_true h0) f) (by kernel_rfl) (ih.2 _ _ _ _ _ _ _ h)
      · rw [if_neg h0] at h
        obtain ⟨v5, h1, h⟩ := bnd h
        obtain rfl := Option.some.inj h
        exact Til.fin Tryz.func91 [(3, .b false), (5, ca (.c (.d (L3 v5))))] (fun _ f => o (decide_eq_false h0) (o (dendronref01_Trim.does h1) f)) (by kernel_rfl)
    · intro x0 x1 x5 x6 x7 x8 r h
      rw [dendronref01_Times.l1] at h
      by_cases h0 : x8 < (x1.length : Int)
      · rw [if_pos h0] at h
        obtain ⟨h1, h⟩ := ifp h
        obtain ⟨h2, h⟩ := ifp h
        obtain ⟨h3, h⟩ := ifp h
        obtain ⟨h4, h⟩ := ifp h
        obtain ⟨h5, h⟩ := ifp h
        exact Til.mid Tryz.func91 7 [(3, .b true), (30, Z3 (x5.set (((wrap64 (x6 + x8)) : Int).toNat) (Int.tmod (wrap64 ((wrap64 (x7 + (rd x5 (wrap64 (x6 + x8))))) + (wrap64 ((rd x0 x6) * (rd x1 x8))))) 10000)))] (fun _ f => o (decide_eq_true h0) (o (o h1 h2) (o (o h3 h4) (o (o h5 h0) (o (by decide : ¬ (10000 : Int) = 0) (o (o h1 h2) (o (set_ok c3 0 (fun _ _ => rfl) x5 (((wrap64 (x6 + x8)) : Int).toNat) (Int.tmod (wrap64 ((wrap64 (x7 + (rd x5 (wrap64 (x6 + x8))))) + (wrap64 ((rd x0 x6) * (rd x1 x8))))) 10000) (lt_ok h1 h2)) (o (by decide : ¬ (10000 : Int) = 0) f)))))))) (by kernel_rfl) (ih.2 _ _ _ _ _ _ _ h)
      · rw [if_neg h0] at h
        obtain ⟨h1, h⟩ := ifp h
        obtain ⟨h2, h⟩ := ifp h
        exact Til.mid Tryz.func91 3 [(3, .b false), (11, Z3 (x5.set (((wrap64 (x6 + (x1.length : Int))) : Int).toNat) x7))] (fun _ f => o (decide_eq_false h0) (o (o h1 h2) (o (set_ok c3 0 (fun _ _ => rfl) x5 (((wrap64 (x6 + (x1.length : Int))) : Int).toNat) x7 (lt_ok h1 h2)) f))) (by kernel_rfl) (ih.1 _ _ _ _ _ h)
theorem dendronref01_Times.does {k : Nat} {l0 : List Int} {l1 : List Int} {r : List Int} (h : dendronref01_Times.f k l0 l1 = some r) :
    Does Tryz.prog 91 [.c (.d (L3 l0)), .c (.d (L3 l1))] [] (.c (.d (L3 r))) none [] := by
  refine does_fn Tryz.func91 (by kernel_rfl) rfl rfl ?_
  unfold dendronref01_Times.f at h
  have ih := dendronref01_Times.w k
  obtain ⟨h0, h⟩ := ifp h
  obtain ⟨h1, h⟩ := ifp h
  exact Til.mid Tryz.func91 3 [(6, Z3 (List.replicate (((wrap64 ((l0.length : Int) + (l1.length : Int))) : Int).toNat) 0 : List Int))] (fun _ f => o (make_ok c3 0 [.int .i64 0] ⟨.refl _, trivial⟩ (wrap64 ((l0.length : Int) + (l1.length : Int))) 8 35184372088832 (by decide) h0 h1) f) (by kernel_rfl) (ih.1 _ _ _ _ _ h)

theorem dendronref02_Times.does {k : Nat} {a0_0 : Bool} {l0_1 : List Int} {a1_0 : Bool} {l1_1 : List Int} {r : Bool × List Int} (h : dendronref02_Times.f k a0_0 l0_1 a1_0 l1_1 = some r) :
    Does Tryz.prog 90 [.agg [.d (.bool a0_0), .d (L3 l0_1)], .agg [.d (.bool a1_0), .d (L3 l1_1)]] [] (.agg [.d (.bool r.1), .d (L3 r.2)]) none [] := by
  refine does_fn Tryz.func90 (by kernel_rfl) rfl rfl ?_
  unfold dendronref02_Times.f at h
  obtain ⟨v12, h0, h⟩ := bnd h
  obtain ⟨v13, h1, h⟩ := bnd h
  obtain rfl := Option.some.inj h
  exact Til.fin Tryz.func90 [(12, ca (.c (.d (L3 v12)))), (13, ca (.agg [.d (.bool v13.1), .d (L3 v13.2)]))] (fun _ f => o (dendronref01_Times.does h0) (o (dendronref02_Make.does h1) f)) (by kernel_rfl)

theorem dendronref03_Times.does {k : Nat} {a0_0 : Bool} {l0_1 : List Int} {l0_2 : List Int} {a1_0 : Bool} {l1_1 : List Int} {l1_2 : List Int} {r : Bool × List Int × List Int} (h : dendronref03_Times.f k a0_0 l0_1 l0_2 a1_0 l1_1 l1_2 = some r) :
    Does Tryz.prog 28 [.agg [.d (.bool a0_0), .d (L3 l0_1), .d (L3 l0_2)], .agg [.d (.bool a1_0), .d (L3 l1_1), .d (L3 l1_2)]] [] (.agg [.d (.bool r.1), .d (L3 r.2.1), .d (L3 r.2.2)]) none [] := by
  refine does_fn Tryz.func28 (by kernel_rfl) rfl rfl ?_
  unfold dendronref03_Times.f at h
  obtain ⟨v7, h0, h⟩ := bnd h
  obtain ⟨v12, h1, h⟩ := bnd h
  obtain rfl := Option.some.inj h
  exact Til.fin Tryz.func28 [(7, ca (.agg [.d (.bool v7.1), .d (L3 v7.2)])), (12, ca (.c (.d (L3 v12))))] (fun _ f => o (dendronref02_Times.does h0) (o (dendronref01_Times.does h1) f)) (by kernel_rfl)

def c103 (x : Int) : List Dat := [.int .u64 x]
def L103 (xs : List Int) : Dat := fr 1 c103 0 xs
def Z103 (xs : List Int) : Sup := .r xs.length (enc c103 0 xs)
def O103 (k : RK) (xs : List Int) : Ob := .row k 103 1 xs.length (enc c103 0 xs)

def nat_trim.l0E (x0 : List Int) (x3 : Int) : Env := [(0, .c (.d (L103 x0))), (3, .c (.d (.int .i64 x3)))]
theorem nat_trim.w (k : Nat) : (∀  (x0 : List Int) (x3 : Int) (r : List Int), nat_trim.l0 k x0 x3 = some r → Til Tryz.prog 129 [] (.c (.d (L103 r))) none [] (at_ Tryz.f129 2) (nat_trim.l0E x0 x3) []) := by
  induction k with
  | zero =>
    exact fun _ _ _ h => (by cases h)
  | succ k ih =>
    intro x0 x3 r h
    rw [nat_trim.l0] at h
    by_cases h0 : x3 > 0
    · rw [if_pos h0] at h
      obtain ⟨h1, h⟩ := ifp h
      obtain ⟨h2, h⟩ := ifp h
      by_cases h3 : (rd x0 (wrap64 (x3 - 1))) = 0
      · rw [if_pos h3] at h
        exact Til.mid Tryz.func129 2 [(1, .b true), (8, .b true)] (fun _ f => o (decide_eq_true h0) (o (o h1 h2) (o (beq_iff_eq.2 h3) f))) (by kernel_rfl) (ih _ _ _ h)
      · rw [if_neg h3] at h
        by_cases h4 : x3 = 0
        · rw [if_pos h4] at h
          obtain rfl := Option.some.inj h
          exact Til.fin Tryz.func129 [(1, .b true), (8, .b false), (11, .b true)] (fun _ f => o (decide_eq_true h0) (o (o h1 h2) (o (beq_false_of_ne h3) (o (beq_iff_eq.2 h4) f)))) (by kernel_rfl)
        · rw [if_neg h4] at h
          obtain ⟨h5, h⟩ := ifp h
          obtain ⟨h6, h⟩ := ifp h
          obtain rfl := Option.some.inj h
          exact Til.fin Tryz.func129 [(1, .b true), (8, .b false), (11, .b false), (14, Z103 (x0.take ((x3 : Int).toNat)))] (fun _ f => o (decide_eq_true h0) (o (o h1 h2) (o (beq_false_of_ne h3) (o (beq_false_of_ne h4) (o (take_ok c103 0 x0 h5 h6) f))))) (by kernel_rfl)
    · rw [if_neg h0] at h
      by_cases h1 : x3 = 0
      · rw [if_pos h1] at h
        obtain rfl := Option.some.inj h
        exact Til.fin Tryz.func129 [(1, .b false), (11, .b true)] (fun _ f => o (decide_eq_false h0) (o (beq_iff_eq.2 h1) f)) (by kernel_rfl)
      · rw [if_neg h1] at h
        obtain ⟨h2, h⟩ := ifp h
        obtain ⟨h3, h⟩ := ifp h
        obtain rfl := Option.some.inj h
        exact Til.fin Tryz.func129 [(1, .b false), (11, .b false), (14, Z103 (x0.take ((x3 : Int).toNat)))] (fun _ f => o (decide_eq_false h0) (o (beq_false_of_ne h1) (o (take_ok c103 0 x0 h2 h3) f))) (by kernel_rfl)
theorem nat_trim.does {k : Nat} {l0 : List Int} {r : List Int} (h : nat_trim.f k l0 = some r) :
    Does Tryz.prog 129 [.c (.d (L103 l0))] [] (.c (.d (L103 r))) none [] := by
  refine does_fn Tryz.func129 (by kernel_rfl) rfl rfl ?_
  unfold nat_trim.f at h
  have ih := nat_trim.w k
  exact Til.mid Tryz.func129 2 [] (fun _ f => f) (by kernel_rfl) (ih _ _ _ h)

def nat_Clean.l0E (x3 : List Int) (x9 : List Int) (x10 : Int) (x11 : Int) : Env := [(3, .c (.own 3)), (9, .c (.d (L103 x9))), (10, .c (.d (.int .i64 x10))), (11, .c (.d (.int .i64 x11)))]
def nat_Clean.l0B (x3 : List Int) (x9 : List Int) (x10 : Int) (x11 : Int) : Obs := [(3, some (O103 .own x3))]
theorem nat_Clean.w (k : Nat) : (∀  (x3 : List Int) (x9 : List Int) (x10 : Int) (x11 : Int) (r : List Int), nat_Clean.l0 k x3 x9 x10 x11 = some r → Til Tryz.prog 123 [] (.c (.d (L103 r))) none [] (at_ Tryz.f123 3) (nat_Clean.l0E x3 x9 x10 x11) (nat_Clean.l0B x3 x9 x10 x11)) := by
  induction k with
  | zero =>
    exact fun _ _ _ _ _ h => (by cases h)
  | succ k ih =>
    intro x3 x9 x10 x11 r h
    rw [nat_Clean.l0] at h
    by_cases h0 : x11 < x10
    · rw [if_pos h0] at h
      obtain ⟨h1, h⟩ := ifp h
      obtain ⟨h2, h⟩ := ifp h
      obtain ⟨h3, h⟩ := ifp h
      exact Til.mid Tryz.func123 3 [(0, .b true), (11, Z103 (x3.set ((x11 : Int).toNat) (Go.bits .and .u64 (rd x9 x11) 4294967295)))] (fun _ f => o (decide_eq_true h0) (o (o h1 h2) (o (o h1 h3) (o (set_ok c103 0 (fun _ _ => rfl) x3 ((x11 : Int).toNat) (Go.bits .and .u64 (rd x9 x11) 4294967295) (lt_ok h1 h3)) f)))) (by kernel_rfl) (ih _ _ _ _ _ h)
    · rw [if_neg h0] at h
      obtain ⟨v2, h1, h⟩ := bnd h
      obtain rfl := Option.some.inj h
      exact Til.fin Tryz.func123 [(0, .b false), (2, ca (.c (.d (L103 v2))))] (fun _ f => o (decide_eq_false h0) (o (nat_trim.does h1) f)) (by kernel_rfl)
theorem nat_Clean.does {k : Nat} {l0 : List Int} {r : List Int} (h : nat_Clean.f k l0 = some r) :
    Does Tryz.prog 123 [.c (.d (L103 l0))] [] (.c (.d (L103 r))) none [] := by
  refine does_fn Tryz.func123 (by kernel_rfl) rfl rfl ?_
  unfold nat_Clean.f at h
  have ih := nat_Clean.w k
  obtain ⟨h0, h⟩ := ifp h
  exact Til.mid Tryz.func123 3 [(3, Z103 (List.replicate (((l0.length : Int) : Int).toNat) 0 : List Int))] (fun _ f => o (make_ok c103 0 [.int .u64 0] ⟨.refl _, trivial⟩ (l0.length : Int) 8 35184372088832 (by decide) (Int.natCast_nonneg l0.length) h0) f) (by kernel_rfl) (ih _ _ _ _ _ h)

theorem whole_sign.does {a0 : Bool} {l1 : List Int} {r : Bool × List Int} (h : whole_sign.f a0 l1 = some r) :
    Does Tryz.prog 127 [.c (.d (.bool a0)), .c (.d (L103 l1))] [] (.agg [.d (.bool r.1), .d (L103 r.2)]) none [] := by
  refine does_fn Tryz.func127 (by kernel_rfl) rfl rfl ?_
  unfold whole_sign.f at h
  by_cases h0 : a0 = true
  · rw [if_pos h0] at h
    obtain rfl := Option.some.inj h
    exact Til.fin Tryz.func127 [(1, .b true)] (fun _ f => o h0 f) (by kernel_rfl)
  · rw [if_neg h0] at h
    obtain rfl := Option.some.inj h
    exact Til.fin Tryz.func127 [(1, .b false)] (fun _ f => o (Bool.eq_false_iff.2 h0) f) (by kernel_rfl)

theorem whole_Clean.does {k : Nat} {a0_0 : Bool} {l0_1 : List Int} {r : Bool × List Int} (h : whole_Clean.f k a0_0 l0_1 = some r) :
    Does Tryz.prog 84 [.agg [.d (.bool a0_0), .d (L103 l0_1)]] [] (.agg [.d (.bool r.1), .d (L103 r.2)]) none [] := by
  refine does_fn Tryz.func84 (by kernel_rfl) rfl rfl ?_
  unfold whole_Clean.f at h
  obtain ⟨v6, h0, h⟩ := bnd h
  obtain ⟨v7, h1, h⟩ := bnd h
  obtain rfl := Option.some.inj h
  exact Til.fin Tryz.func84 [(6, ca (.c (.d (L103 v6)))), (7, ca (.agg [.d (.bool v7.1), .d (L103 v7.2)]))] (fun _ f => o (nat_Clean.does h0) (o (whole_sign.does h1) f)) (by kernel_rfl)

theorem whole_Sign.does {k : Nat} {a0_0 : Bool} {l0_1 : List Int} {r : Int} (h : whole_Sign.f k a0_0 l0_1 = some r) :
    Does Tryz.prog 85 [.agg [.d (.bool a0_0), .d (L103 l0_1)]] [] (.c (.d (.int .i64 r))) none [] := by
  refine does_fn Tryz.func85 (by kernel_rfl) rfl rfl ?_
  unfold whole_Sign.f at h
  obtain ⟨v3, h0, h⟩ := bnd h
  by_cases h1 : v3.1 = true
  · rw [if_pos h1] at h
    obtain rfl := Option.some.inj h
    exact Til.fin Tryz.func85 [(3, ca (.agg [.d (.bool v3.1), .d (L103 v3.2)])), (6, .b true)] (fun _ f => o (whole_Clean.does h0) (o h1 f)) (by kernel_rfl)
  · rw [if_neg h1] at h
    by_cases h2 : (v3.2.length : Int) = 0
    · rw [if_pos h2] at h
      obtain rfl := Option.some.inj h
      exact Til.fin Tryz.func85 [(3, ca (.agg [.d (.bool v3.1), .d (L103 v3.2)])), (6, .b false), (11, .b true)] (fun _ f => o (whole_Clean.does h0) (o (Bool.eq_false_iff.2 h1) (o (beq_iff_eq.2 h2) f))) (by kernel_rfl)
    · rw [if_neg h2] at h
      obtain rfl := Option.some.inj h
      exact Til.fin Tryz.func85 [(3, ca (.agg [.d (.bool v3.1), .d (L103 v3.2)])), (6, .b false), (11, .b false)] (fun _ f => o (whole_Clean.does h0) (o (Bool.eq_false_iff.2 h1) (o (beq_false_of_ne h2) f))) (by kernel_rfl)

theorem whole_Neg.does {k : Nat} {a0_0 : Bool} {l0_1 : List Int} {r : Bool × List Int} (h : whole_Neg.f k a0_0 l0_1 = some r) :
    Does Tryz.prog 86 [.agg [.d (.bool a0_0), .d (L103 l0_1)]] [] (.agg [.d (.bool r.1), .d (L103 r.2)]) none [] := by
  refine does_fn Tryz.func86 (by kernel_rfl) rfl rfl ?_
  unfold whole_Neg.f at h
  obtain ⟨v3, h0, h⟩ := bnd h
  obtain ⟨v10, h1, h⟩ := bnd h
  obtain rfl := Option.some.inj h
  exact Til.fin Tryz.func86 [(3, ca (.agg [.d (.bool v3.1), .d (L103 v3.2)])), (10, ca (.agg [.d (.bool v10.1), .d (L103 v10.2)]))] (fun _ f => o (whole_Clean.does h0) (o (whole_sign.does h1) f)) (by kernel_rfl)

theorem nat_Of.does {k : Nat} {a0 : Int} {r : List Int} (h : nat_Of.f k a0 = some r) :
    Does Tryz.prog 88 [.c (.d (.int .u64 a0))] [] (.c (.d (L103 r))) none [] := by
  refine does_fn Tryz.func88 (by kernel_rfl) rfl rfl ?_
  unfold nat_Of.f at h
  obtain ⟨v6, h0, h⟩ := bnd h
  obtain rfl := Option.some.inj h
  exact Til.fin Tryz.func88 [(5, Z103 ([(Go.bits .and .u64 a0 4294967295), (a0 / 4294967296)] : List Int)), (6, ca (.c (.d (L103 v6))))] (fun _ f => o (nn 32) (o (lit_ok c103 0 ([(Go.bits .and .u64 a0 4294967295), (a0 / 4294967296)] : List Int)) (o (nat_trim.does h0) f))) (by kernel_rfl)

def nat_order.l0E (x0 : List Int) (x1 : List Int) (x5 : Int) : Env := [(0, .c (.d (L103 x0))), (1, .c (.d (L103 x1))), (5, .c (.d (.int .i64 x5)))]
theorem nat_order.w (k : Nat) : (∀  (x0 : List Int) (x1 : List Int) (x5 : Int) (r : Int), nat_order.l0 k x0 x1 x5 = some r → Til Tryz.prog 134 [] (.c (.d (.int .i64 r))) none [] (at_ Tryz.f134 6) (nat_order.l0E x0 x1 x5) []) := by
  induction k with
  | zero =>
    exact fun _ _ _ _ h => (by cases h)
  | succ k ih =>
    intro x0 x1 x5 r h
    rw [nat_order.l0] at h
    by_cases h0 : x5 ≥ 0
    · rw [if_pos h0] at h
      obtain ⟨h1, h⟩ := ifp h
      obtain ⟨h2, h⟩ := ifp h
      by_cases h3 : (rd x0 x5) < (rd x1 x5)
      · rw [if_pos h3] at h
        obtain rfl := Option.some.inj h
        exact Til.fin Tryz.func134 [(1, .b true), (10, .b true)] (fun _ f => o (decide_eq_true h0) (o (o h0 h1) (o (o h0 h2) (o (decide_eq_true h3) f)))) (by kernel_rfl)
      · rw [if_neg h3] at h
        by_cases h4 : (rd x0 x5) > (rd x1 x5)
        · rw [if_pos h4] at h
          obtain rfl := Option.some.inj h
          exact Til.fin Tryz.func134 [(1, .b true), (10, .b false), (20, .b true)] (fun _ f => o (decide_eq_true h0) (o (o h0 h1) (o (o h0 h2) (o (decide_eq_false h3) (o (o h0 h1) (o (o h0 h2) (o (decide_eq_true h4) f))))))) (by kernel_rfl)
        · rw [if_neg h4] at h
          exact Til.mid Tryz.func134 6 [(1, .b true), (10, .b false), (20, .b false)] (fun _ f => o (decide_eq_true h0) (o (o h0 h1) (o (o h0 h2) (o (decide_eq_false h3) (o (o h0 h1) (o (o h0 h2) (o (decide_eq_false h4) f))))))) (by kernel_rfl) (ih _ _ _ _ h)
    · rw [if_neg h0] at h
      obtain rfl := Option.some.inj h
      exact Til.fin Tryz.func134 [(1, .b false)] (fun _ f => o (decide_eq_false h0) f) (by kernel_rfl)
theorem nat_order.does {k : Nat} {l0 : List Int} {l1 : List Int} {r : Int} (h : nat_order.f k l0 l1 = some r) :
    Does Tryz.prog 134 [.c (.d (L103 l0)), .c (.d (L103 l1))] [] (.c (.d (.int .i64 r))) none [] := by
  refine does_fn Tryz.func134 (by kernel_rfl) rfl rfl ?_
  unfold nat_order.f at h
  have ih := nat_order.w k
  by_cases h0 : (l0.length : Int) < (l1.length : Int)
  · rw [if_pos h0] at h
    obtain rfl := Option.some.inj h
    exact Til.fin Tryz.func134 [(5, .b true)] (fun _ f => o (decide_eq_true h0) f) (by kernel_rfl)
  · rw [if_neg h0] at h
    by_cases h1 : (l0.length : Int) > (l1.length : Int)
    · rw [if_pos h1] at h
      obtain rfl := Option.some.inj h
      exact Til.fin Tryz.func134 [(5, .b false), (11, .b true)] (fun _ f => o (decide_eq_false h0) (o (decide_eq_true h1) f)) (by kernel_rfl)
    · rw [if_neg h1] at h
      exact Til.mid Tryz.func134 6 [(5, .b false), (11, .b false)] (fun _ f => o (decide_eq_false h0) (o (decide_eq_false h1) f)) (by kernel_rfl) (ih _ _ _ _ h)

theorem nat_To.does {k : Nat} {l0 : List Int} {r : Int × Bool} (h : nat_To.f k l0 = some r) :
    Does Tryz.prog 159 [.c (.d (L103 l0))] [] (.tup [.c (.d (.int .u64 r.1)), .c (.d (.bool r.2))]) none [] := by
  refine does_fn Tryz.func159 (by kernel_rfl) rfl rfl ?_
  unfold nat_To.f at h
  obtain ⟨v3, h0, h⟩ := bnd h
  by_cases h1 : (v3.length : Int) = 0
  · rw [if_pos h1] at h
    obtain rfl := Option.some.inj h
    exact Til.fin Tryz.func159 [(3, ca (.c (.d (L103 v3)))), (7, .b true)] (fun _ f => o (nat_Clean.does h0) (o (beq_iff_eq.2 h1) f)) (by kernel_rfl)
  · rw [if_neg h1] at h
    by_cases h2 : (v3.length : Int) = 1
    · rw [if_pos h2] at h
      obtain ⟨h3, h⟩ := ifp h
      obtain rfl := Option.some.inj h
      exact Til.fin Tryz.func159 [(3, ca (.c (.d (L103 v3)))), (7, .b false), (9, .b true)] (fun _ f => o (nat_Clean.does h0) (o (beq_false_of_ne h1) (o (beq_iff_eq.2 h2) (o (o (nn 0) h3) f)))) (by kernel_rfl)
    · rw [if_neg h2] at h
      by_cases h3 : (v3.length : Int) = 2
      · rw [if_pos h3] at h
        obtain ⟨h4, h⟩ := ifp h
        obtain ⟨h5, h⟩ := ifp h
        obtain rfl := Option.some.inj h
        exact Til.fin Tryz.func159 [(3, ca (.c (.d (L103 v3)))), (7, .b false), (9, .b false), (11, .b true)] (fun _ f => o (nat_Clean.does h0) (o (beq_false_of_ne h1) (o (beq_false_of_ne h2) (o (beq_iff_eq.2 h3) (o (o (nn 1) h4) (o (nn 32) (o (o (nn 0) h5) f))))))) (by kernel_rfl)
      · rw [if_neg h3] at h
        obtain rfl := Option.some.inj h
        exact Til.fin Tryz.func159 [(3, ca (.c (.d (L103 v3)))), (7, .b false), (9, .b false), (11, .b false)] (fun _ f => o (nat_Clean.does h0) (o (beq_false_of_ne h1) (o (beq_false_of_ne h2) (o (beq_false_of_ne h3) f)))) (by kernel_rfl)

def nat_euclid.l0E (x5 : Int) (x7 : Int) : Env := [(5, .c (.d (.int .u64 x5))), (7, .c (.d (.int .u64 x7)))]
theorem nat_euclid.w (k : Nat) : (∀  (x5 : Int) (x7 : Int) (r : List Int), nat_euclid.l0 k x5 x7 = some r → Til Tryz.prog 146 [] (.c (.d (L103 r))) none [] (at_ Tryz.f146 3) (nat_euclid.l0E x5 x7) []) := by
  induction k with
  | zero =>
    exact fun _ _ _ h => (by cases h)
  | succ k ih =>
    intro x5 x7 r h
    rw [nat_euclid.l0] at h
    by_cases h0 : x7 ≠ 0
    · rw [if_pos h0] at h
      obtain ⟨h1, h⟩ := ifn h
      exact Til.mid Tryz.func146 3 [(1, .b true)] (fun _ f => o (bne_iff_ne.2 h0) (o h1 f)) (by kernel_rfl) (ih _ _ _ h)
    · rw [if_neg h0] at h
      obtain ⟨v3, h1, h⟩ := bnd h
      obtain rfl := Option.some.inj h
      exact Til.fin Tryz.func146 [(1, .b false), (3, ca (.c (.d (L103 v3))))] (fun _ f => o (ne_f h0) (o (nat_Of.does h1) f)) (by kernel_rfl)
theorem nat_euclid.does {k : Nat} {l0 : List Int} {l1 : List Int} {r : List Int} (h : nat_euclid.f k l0 l1 = some r) :
    Does Tryz.prog 146 [.c (.d (L103 l0)), .c (.d (L103 l1))] [] (.c (.d (L103 r))) none [] := by
  refine does_fn Tryz.func146 (by kernel_rfl) rfl rfl ?_
  unfold nat_euclid.f at h
  have ih := nat_euclid.w k
  obtain ⟨v2, h0, h⟩ := bnd h
  obtain ⟨v9, h1, h⟩ := bnd h
  exact Til.mid Tryz.func146 3 [(2, ca (.tup [.c (.d (.int .u64 v2.1)), .c (.d (.bool v2.2))])), (9, ca (.tup [.c (.d (.int .u64 v9.1)), .c (.d (.bool v9.2))]))] (fun _ f => o (nat_To.does h0) (o (nat_To.does h1) f)) (by kernel_rfl) (ih _ _ _ h)

theorem bits_TrailingZeros64.does {a0 : Int} {r : Int} (h : bits_TrailingZeros64.f a0 = some r) :
    Does Tryz.prog 160 [.c (.d (.int .u64 a0))] [] (.c (.d (.int .i64 r))) none [] := by
  refine does_fn Tryz.func160 (by kernel_rfl) rfl rfl ?_
  unfold bits_TrailingZeros64.f at h
  by_cases h0 : a0 = 0
  · rw [if_pos h0] at h
    obtain rfl := Option.some.inj h
    exact Til.fin Tryz.func160 [(2, .b true)] (fun _ f => o (beq_iff_eq.2 h0) f) (by kernel_rfl)
  · rw [if_neg h0] at h
    obtain ⟨h1, h⟩ := ifp h
    obtain ⟨h2, h⟩ := ifp h
    obtain rfl := Option.some.inj h
    exact Til.fin Tryz.func160 [(2, .b false), (10, .v (.c (.d (.int .u8 (rd tab_deBruijn64tab ((IntKind.u64.wrap ((Go.bits .and .u64 a0 (IntKind.u64.wrap (0 - a0))) * 285870213051353865)) / 288230376151711744))))))] (fun _ f => o (beq_false_of_ne h0) (o (nn 58) (o (o h1 h2) (o (tab_ok .u8 tab_deBruijn64tab h1 h2 rfl) f)))) (by kernel_rfl)

def nat_zeros.l0E (x3 : Int) (x6 : List Int) (x7 : Int) (x8 : Int) : Env := [(3, .c (.d (.int .i64 x3))), (6, .c (.d (L103 x6))), (7, .c (.d (.int .i64 x7))), (8, .c (.d (.int .i64 x8)))]
theorem nat_zeros.w (k : Nat) : (∀  (x3 : Int) (x6 : List Int) (x7 : Int) (x8 : Int) (r : Int), nat_zeros.l0 k x3 x6 x7 x8 = some r → Til Tryz.prog 147 [] (.c (.d (.int .i64 r))) none [] (at_ Tryz.f147 3) (nat_zeros.l0E x3 x6 x7 x8) []) := by
  induction k with
  | zero =>
    exact fun _ _ _ _ _ h => (by cases h)
  | succ k ih =>
    intro x3 x6 x7 x8 r h
    rw [nat_zeros.l0] at h
    by_cases h0 : x8 < x7
    · rw [if_pos h0] at h
      obtain ⟨h1, h⟩ := ifp h
      obtain ⟨h2, h⟩ := ifp h
      by_cases h3 : (rd x6 x8) ≠ 0
      · rw [if_pos h3] at h
        obtain ⟨v11, h4, h⟩ := bnd h
        obtain rfl := Option.some.inj h
        exact Til.fin Tryz.func147 [(0, .b true), (7, .b true), (11, ca (.c (.d (.int .i64 v11))))] (fun _ f => o (decide_eq_true h0) (o (o h1 h2) (o (bne_iff_ne.2 h3) (o (bits_TrailingZeros64.does h4) f)))) (by kernel_rfl)
      · rw [if_neg h3] at h
        exact Til.mid Tryz.func147 3 [(0, .b true), (7, .b false)] (fun _ f => o (decide_eq_true h0) (o (o h1 h2) (o (ne_f h3) f))) (by kernel_rfl) (ih _ _ _ _ _ h)
    · rw [if_neg h0] at h
      obtain rfl := Option.some.inj h
      exact Til.fin Tryz.func147 [(0, .b false)] (fun _ f => o (decide_eq_false h0) f) (by kernel_rfl)
theorem nat_zeros.does {k : Nat} {l0 : List Int} {r : Int} (h : nat_zeros.f k l0 = some r) :
    Does Tryz.prog 147 [.c (.d (L103 l0))] [] (.c (.d (.int .i64 r))) none [] := by
  refine does_fn Tryz.func147 (by kernel_rfl) rfl rfl ?_
  unfold nat_zeros.f at h
  have ih := nat_zeros.w k
  exact Til.mid Tryz.func147 3 [] (fun _ f => f) (by kernel_rfl) (ih _ _ _ _ _ h)

theorem nat_limb.does {l0 : List Int} {a1 : Int} {r : Int} (h : nat_limb.f l0 a1 = some r) :
    Does Tryz.prog 135 [.c (.d (L103 l0)), .c (.d (.int .i64 a1))] [] (.c (.d (.int .u64 r))) none [] := by
  refine does_fn Tryz.func135 (by kernel_rfl) rfl rfl ?_
  unfold nat_limb.f at h
  by_cases h0 : a1 < (l0.length : Int)
  · rw [if_pos h0] at h
    obtain ⟨h1, h⟩ := ifp h
    obtain rfl := Option.some.inj h
    exact Til.fin Tryz.func135 [(4, .b true)] (fun _ f => o (decide_eq_true h0) (o (o h1 h0) f)) (by kernel_rfl)
  · rw [if_neg h0] at h
    obtain rfl := Option.some.inj h
    exact Til.fin Tryz.func135 [(4, .b false)] (fun _ f => o (decide_eq_false h0) f) (by kernel_rfl)

def nat_shr.l0E (x0 : List Int) (x5 : Int) (x6 : Int) (x7 : List Int) (x23 : Int) (x24 : Int) : Env := [(0, .c (.d (L103 x0))), (5, .c (.d (.int .i64 x5))), (6, .c (.d (.int .i64 x6))), (7, .c (.own 7)), (23, .c (.d (.int .i64 x23))), (24, .c (.d (.int .i64 x24)))]
def nat_shr.l0B (x0 : List Int) (x5 : Int) (x6 : Int) (x7 : List Int) (x23 : Int) (x24 : Int) : Obs := [(7, some (O103 .own x7))]
theorem nat_shr.w (k : Nat) : (∀  (x0 : List Int) (x5 : Int) (x6 : Int) (x7 : List Int) (x23 : Int) (x24 : Int) (r : List Int), nat_shr.l0 k x0 x5 x6 x7 x23 x24 = some r → Til Tryz.prog 148 [] (.c (.d (L103 r))) none [] (at_ Tryz.f148 6) (nat_shr.l0E x0 x5 x6 x7 x23 x24) (nat_shr.l0B x0 x5 x6 x7 x23 x24)) := by
  induction k with
  | zero =>
    exact fun _ _ _ _ _ _ _ h => (by cases h)
  | succ k ih =>
    intro x0 x5 x6 x7 x23 x24 r h
    rw [nat_shr.l0] at h
    by_cases h0 : x24 < x23
    · rw [if_pos h0] at h
      obtain ⟨v10, h1, h⟩ := bnd h
      obtain ⟨h2, h⟩ := ifp h
      obtain ⟨h3, h⟩ := ifp h
      obtain ⟨h4, h⟩ := ifp h
      obtain ⟨h5, h⟩ := ifp h
      obtain ⟨h6, h⟩ := ifp h
      exact Til.mid Tryz.func148 6 [(0, .b true), (10, ca (.c (.d (.int .u64 v10)))), (23, Z103 (x7.set ((x24 : Int).toNat) (Go.bits .and .u64 (shr .u64 (Go.bits .or .u64 (IntKind.u64.wrap (v10 * 4294967296)) (rd x0 (wrap64 (x24 + x5)))) x6) 4294967295)))] (fun _ f => o (decide_eq_true h0) (o (nat_limb.does h1) (o (nn 32) (o (o h2 h3) (o h4 (o (o h5 h6) (o (set_ok c103 0 (fun _ _ => rfl) x7 ((x24 : Int).toNat) (Go.bits .and .u64 (shr .u64 (Go.bits .or .u64 (IntKind.u64.wrap (v10 * 4294967296)) (rd x0 (wrap64 (x24 + x5)))) x6) 4294967295) (lt_ok h5 h6)) f))))))) (by kernel_rfl) (ih _ _ _ _ _ _ _ h)
    · rw [if_neg h0] at h
      obtain ⟨v2, h1, h⟩ := bnd h
      obtain rfl := Option.some.inj h
      exact Til.fin Tryz.func148 [(0, .b false), (2, ca (.c (.d (L103 v2))))] (fun _ f => o (decide_eq_false h0) (o (nat_trim.does h1) f)) (by kernel_rfl)
theorem nat_shr.does {k : Nat} {l0 : List Int} {a1 : Int} {r : List Int} (h : nat_shr.f k l0 a1 = some r) :
    Does Tryz.prog 148 [.c (.d (L103 l0)), .c (.d (.int .i64 a1))] [] (.c (.d (L103 r))) none [] := by
  refine does_fn Tryz.func148 (by kernel_rfl) rfl rfl ?_
  unfold nat_shr.f at h
  have ih := nat_shr.w k
  by_cases h0 : (wrap64 (Int.tdiv a1 32)) ≥ (l0.length : Int)
  · rw [if_pos h0] at h
    obtain rfl := Option.some.inj h
    exact Til.fin Tryz.func148 [(10, .b true)] (fun _ f => o (by decide : ¬ (32 : Int) = 0) (o (by decide : ¬ (32 : Int) = 0) (o (decide_eq_true h0) f))) (by kernel_rfl)
  · rw [if_neg h0] at h
    obtain ⟨h1, h⟩ := ifp h
    obtain ⟨h2, h⟩ := ifp h
    exact Til.mid Tryz.func148 6 [(10, .b false), (15, Z103 (List.replicate (((wrap64 ((l0.length : Int) - (wrap64 (Int.tdiv a1 32)))) : Int).toNat) 0 : List Int))] (fun _ f => o (by decide : ¬ (32 : Int) = 0) (o (by decide : ¬ (32 : Int) = 0) (o (decide_eq_false h0) (o (make_ok c103 0 [.int .u64 0] ⟨.refl _, trivial⟩ (wrap64 ((l0.length : Int) - (wrap64 (Int.tdiv a1 32)))) 8 35184372088832 (by decide) h1 h2) f)))) (by kernel_rfl) (ih _ _ _ _ _ _ _ h)

def nat_trimM.l0E (x0 : List Int) (x3 : Int) : Env := [(0, .c (.own 0)), (3, .c (.d (.int .i64 x3)))]
def nat_trimM.l0B (x0 : List Int) (x3 : Int) : Obs := [(0, some (O103 .own x0))]
theorem nat_trimM.w (k : Nat) : (∀ (l0 : List Int) (x0 : List Int) (x3 : Int) (r : List Int), nat_trimM.l0 k x0 x3 = some r → Til Tryz.prog 129 [(0, some (O103 .own l0))] (.c (.own newName)) (some (O103 .own r)) [] (at_ Tryz.f129 2) (nat_trimM.l0E x0 x3) (nat_trimM.l0B x0 x3)) := by
  induction k with
  | zero =>
    exact fun _ _ _ _ h => (by cases h)
  | succ k ih =>
    intro l0 x0 x3 r h
    rw [nat_trimM.l0] at h
    by_cases h0 : x3 > 0
    · rw [if_pos h0] at h
      obtain ⟨h1, h⟩ := ifp h
      obtain ⟨h2, h⟩ := ifp h
      by_cases h3 : (rd x0 (wrap64 (x3 - 1))) = 0
      · rw [if_pos h3] at h
        exact Til.mid Tryz.func129 2 [(1, .b true), (8, .b true)] (fun _ f => o (decide_eq_true h0) (o (o h1 h2) (o (beq_iff_eq.2 h3) f))) (by kernel_rfl) (ih _ _ _ _ h)
      · rw [if_neg h3] at h
        by_cases h4 : x3 = 0
        · rw [if_pos h4] at h
          obtain rfl := Option.some.inj h
          exact Til.fin Tryz.func129 [(1, .b true), (8, .b false), (11, .b true)] (fun _ f => o (decide_eq_true h0) (o (o h1 h2) (o (beq_false_of_ne h3) (o (beq_iff_eq.2 h4) f)))) (by kernel_rfl)
        · rw [if_neg h4] at h
          obtain ⟨h5, h⟩ := ifp h
          obtain ⟨h6, h⟩ := ifp h
          obtain rfl := Option.some.inj h
          exact Til.fin Tryz.func129 [(1, .b true), (8, .b false), (11, .b false), (14, Z103 (x0.take ((x3 : Int).toNat)))] (fun _ f => o (decide_eq_true h0) (o (o h1 h2) (o (beq_false_of_ne h3) (o (beq_false_of_ne h4) (o (take_ok c103 0 x0 h5 h6) f))))) (by kernel_rfl)
    · rw [if_neg h0] at h
      by_cases h1 : x3 = 0
      · rw [if_pos h1] at h
        obtain rfl := Option.some.inj h
        exact Til.fin Tryz.func129 [(1, .b false), (11, .b true)] (fun _ f => o (decide_eq_false h0) (o (beq_iff_eq.2 h1) f)) (by kernel_rfl)
      · rw [if_neg h1] at h
        obtain ⟨h2, h⟩ := ifp h
        obtain ⟨h3, h⟩ := ifp h
        obtain rfl := Option.some.inj h
        exact Til.fin Tryz.func129 [(1, .b false), (11, .b false), (14, Z103 (x0.take ((x3 : Int).toNat)))] (fun _ f => o (decide_eq_false h0) (o (beq_false_of_ne h1) (o (take_ok c103 0 x0 h2 h3) f))) (by kernel_rfl)
theorem nat_trimM.does {k : Nat} {l0 : List Int} {r : List Int} (h : nat_trimM.f k l0 = some r) :
    Does Tryz.prog 129 [.c (.own 0)] [(0, some (O103 .own l0))] (.c (.own newName)) (some (O103 .own r)) [] := by
  refine does_fn Tryz.func129 (by kernel_rfl) rfl rfl ?_
  unfold nat_trimM.f at h
  have ih := nat_trimM.w k
  exact Til.mid Tryz.func129 2 [] (fun _ f => f) (by kernel_rfl) (ih _ _ _ _ h)

def nat_shl.l0E (x5 : Int) (x6 : Int) (x7 : List Int) (x20 : List Int) (x21 : Int) (x22 : Int) : Env := [(5, .c (.d (.int .i64 x5))), (6, .c (.d (.int .i64 x6))), (7, .c (.own 7)), (20, .c (.d (L103 x20))), (21, .c (.d (.int .i64 x21))), (22, .c (.d (.int .i64 x22)))]
def nat_shl.l0B (x5 : Int) (x6 : Int) (x7 : List Int) (x20 : List Int) (x21 : Int) (x22 : Int) : Obs := [(7, some (O103 .own x7))]
theorem nat_shl.w (k : Nat) : (∀  (x5 : Int) (x6 : Int) (x7 : List Int) (x20 : List Int) (x21 : Int) (x22 : Int) (r : List Int), nat_shl.l0 k x5 x6 x7 x20 x21 x22 = some r → Til Tryz.prog 149 [] (.c (.own newName)) (some (O103 .own r)) [] (at_ Tryz.f149 4) (nat_shl.l0E x5 x6 x7 x20 x21 x22) (nat_shl.l0B x5 x6 x7 x20 x21 x22)) := by
  induction k with
  | zero =>
    exact fun _ _ _ _ _ _ _ h => (by cases h)
  | succ k ih =>
    intro x5 x6 x7 x20 x21 x22 r h
    rw [nat_shl.l0] at h
    by_cases h0 : x22 < x21
    · rw [if_pos h0] at h
      obtain ⟨h1, h⟩ := ifp h
      obtain ⟨h2, h⟩ := ifp h
      obtain ⟨h3, h⟩ := ifp h
      obtain ⟨h4, h⟩ := ifp h
      obtain ⟨h5, h⟩ := ifp h
      obtain ⟨h6, h⟩ := ifp h
      obtain ⟨h7, h⟩ := ifp h
      exact Til.mid Tryz.func149 4 [(0, .b true), (20, Z103 (x7.set (((wrap64 (x22 + x5)) : Int).toNat) (Go.bits .or .u64 (rd x7 (wrap64 (x22 + x5))) (Go.bits .and .u64 (shl .u64 (rd x20 x22) x6) 4294967295)))), (29, Z103 ((x7.set (((wrap64 (x22 + x5)) : Int).toNat) (Go.bits .or .u64 (rd x7 (wrap64 (x22 + x5))) (Go.bits .and .u64 (shl .u64 (rd x20 x22) x6) 4294967295))).set (((wrap64 ((wrap64 (x22 + x5)) + 1)) : Int).toNat) ((shl .u64 (rd x20 x22) x6) / 4294967296)))] (fun _ f => o (decide_eq_true h0) (o (o h1 h2) (o h3 (o (o h4 h5) (o (o h4 h5) (o (set_ok c103 0 (fun _ _ => rfl) x7 (((wrap64 (x22 + x5)) : Int).toNat) (Go.bits .or .u64 (rd x7 (wrap64 (x22 + x5))) (Go.bits .and .u64 (shl .u64 (rd x20 x22) x6) 4294967295)) (lt_ok h4 h5)) (o (nn 32) (o (o h6 h7) (o (set_ok c103 0 (fun _ _ => rfl) (x7.set (((wrap64 (x22 + x5)) : Int).toNat) (Go.bits .or .u64 (rd x7 (wrap64 (x22 + x5))) (Go.bits .and .u64 (shl .u64 (rd x20 x22) x6) 4294967295))) (((wrap64 ((wrap64 (x22 + x5)) + 1)) : Int).toNat) ((shl .u64 (rd x20 x22) x6) / 4294967296) (lt_ok h6 h7)) f))))))))) (by kernel_rfl) (ih _ _ _ _ _ _ _ h)
    · rw [if_neg h0] at h
      obtain ⟨v2, h1, h⟩ := bnd h
      obtain rfl := Option.some.inj h
      exact Til.fin Tryz.func149 [(0, .b false), (2, .call [] [0] (.c (.own 0)) (some (O103 .own v2)) [] [])] (fun _ f => o (decide_eq_false h0) (o (nat_trimM.does h1) f)) (by kernel_rfl)
theorem nat_shl.does {k : Nat} {l0 : List Int} {a1 : Int} {r : List Int} (h : nat_shl.f k l0 a1 = some r) :
    Does Tryz.prog 149 [.c (.d (L103 l0)), .c (.d (.int .i64 a1))] [] (.c (.own newName)) (some (O103 .own r)) [] := by
  refine does_fn Tryz.func149 (by kernel_rfl) rfl rfl ?_
  unfold nat_shl.f at h
  have ih := nat_shl.w k
  obtain ⟨h0, h⟩ := ifp h
  obtain ⟨h1, h⟩ := ifp h
  exact Til.mid Tryz.func149 4 [(12, Z103 (List.replicate (((wrap64 ((wrap64 ((l0.length : Int) + (wrap64 (Int.tdiv a1 32)))) + 1)) : Int).toNat) 0 : List Int))] (fun _ f => o (by decide : ¬ (32 : Int) = 0) (o (by decide : ¬ (32 : Int) = 0) (o (make_ok c103 0 [.int .u64 0] ⟨.refl _, trivial⟩ (wrap64 ((wrap64 ((l0.length : Int) + (wrap64 (Int.tdiv a1 32)))) + 1)) 8 35184372088832 (by decide) h0 h1) f))) (by kernel_rfl) (ih _ _ _ _ _ _ _ h)

def nat_small.l0E (x0 : List Int) (x1 : Int) (x6 : List Int) (x7 : Int) (x8 : Int) : Env := [(0, .c (.d (L103 x0))), (1, .c (.d (.int .u64 x1))), (6, .c (.own 6)), (7, .c (.d (.int .u64 x7))), (8, .c (.d (.int .i64 x8)))]
def nat_small.l0B (x0 : List Int) (x1 : Int) (x6 : List Int) (x7 : Int) (x8 : Int) : Obs := [(6, some (O103 .own x6))]
theorem nat_small.w (k : Nat) : (∀  (x0 : List Int) (x1 : Int) (x6 : List Int) (x7 : Int) (x8 : Int) (r : List Int × Int), nat_small.l0 k x0 x1 x6 x7 x8 = some r → Til Tryz.prog 139 [] (.tup [.c (.d (L103 r.1)), .c (.d (.int .u64 r.2))]) none [] (at_ Tryz.f139 4) (nat_small.l0E x0 x1 x6 x7 x8) (nat_small.l0B x0 x1 x6 x7 x8)) := by
  induction k with
  | zero =>
    exact fun _ _ _ _ _ _ h => (by cases h)
  | succ k ih =>
    intro x0 x1 x6 x7 x8 r h
    rw [nat_small.l0] at h
    by_cases h0 : x8 ≥ 0
    · rw [if_pos h0] at h
      obtain ⟨h1, h⟩ := ifp h
      obtain ⟨h2, h⟩ := ifn h
      obtain ⟨h3, h⟩ := ifp h
      exact Til.mid Tryz.func139 4 [(1, .b true), (16, Z103 (x6.set ((x8 : Int).toNat) (IntKind.u64.wrap (Int.tdiv (Go.bits .or .u64 (IntKind.u64.wrap (x7 * 4294967296)) (rd x0 x8)) x1))))] (fun _ f => o (decide_eq_true h0) (o (nn 32) (o (o h0 h1) (o h2 (o (o h0 h3) (o (set_ok c103 0 (fun _ _ => rfl) x6 ((x8 : Int).toNat) (IntKind.u64.wrap (Int.tdiv (Go.bits .or .u64 (IntKind.u64.wrap (x7 * 4294967296)) (rd x0 x8)) x1)) (lt_ok h0 h3)) (o h2 f))))))) (by kernel_rfl) (ih _ _ _ _ _ _ h)
    · rw [if_neg h0] at h
      obtain ⟨v3, h1, h⟩ := bnd h
      obtain rfl := Option.some.inj h
      exact Til.fin Tryz.func139 [(1, .b false), (3, ca (.c (.d (L103 v3))))] (fun _ f => o (decide_eq_false h0) (o (nat_trim.does h1) f)) (by kernel_rfl)
theorem nat_small.does {k : Nat} {l0 : List Int} {a1 : Int} {r : List Int × Int} (h : nat_small.f k l0 a1 = some r) :
    Does Tryz.prog 139 [.c (.d (L103 l0)), .c (.d (.int .u64 a1))] [] (.tup [.c (.d (L103 r.1)), .c (.d (.int .u64 r.2))]) none [] := by
  refine does_fn Tryz.func139 (by kernel_rfl) rfl rfl ?_
  unfold nat_small.f at h
  have ih := nat_small.w k
  obtain ⟨h0, h⟩ := ifp h
  exact Til.mid Tryz.func139 4 [(4, Z103 (List.replicate (((l0.length : Int) : Int).toNat) 0 : List Int))] (fun _ f => o (make_ok c103 0 [.int .u64 0] ⟨.refl _, trivial⟩ (l0.length : Int) 8 35184372088832 (by decide) (Int.natCast_nonneg l0.length) h0) f) (by kernel_rfl) (ih _ _ _ _ _ _ h)

theorem bits_Len32.does {a0 : Int} {r : Int} (h : bits_Len32.f a0 = some r) :
    Does Tryz.prog 166 [.c (.d (.int .u32 a0))] [] (.c (.d (.int .i64 r))) none [] := by
  refine does_fn Tryz.func166 (by kernel_rfl) rfl rfl ?_
  unfold bits_Len32.f at h
  by_cases h0 : a0 ≥ 65536
  · rw [if_pos h0] at h
    by_cases h1 : (a0 / 65536) ≥ 256
    · rw [if_pos h1] at h
      obtain ⟨h2, h⟩ := ifp h
      obtain ⟨h3, h⟩ := ifp h
      obtain rfl := Option.some.inj h
      exact Til.fin Tryz.func166 [(2, .b true), (8, .b true)] (fun _ f => o (decide_eq_true h0) (o (nn 16) (o (decide_eq_true h1) (o (nn 8) (o (o h2 h3) f))))) (by kernel_rfl)
    · rw [if_neg h1] at h
      obtain ⟨h2, h⟩ := ifp h
      obtain ⟨h3, h⟩ := ifp h
      obtain rfl := Option.some.inj h
      exact Til.fin Tryz.func166 [(2, .b true), (8, .b false)] (fun _ f => o (decide_eq_true h0) (o (nn 16) (o (decide_eq_false h1) (o (o h2 h3) f)))) (by kernel_rfl)
  · rw [if_neg h0] at h
    by_cases h1 : a0 ≥ 256
    · rw [if_pos h1] at h
      obtain ⟨h2, h⟩ := ifp h
      obtain ⟨h3, h⟩ := ifp h
      obtain rfl := Option.some.inj h
      exact Til.fin Tryz.func166 [(2, .b false), (4, .b true)] (fun _ f => o (decide_eq_false h0) (o (decide_eq_true h1) (o (nn 8) (o (o h2 h3) f)))) (by kernel_rfl)
    · rw [if_neg h1] at h
      obtain ⟨h2, h⟩ := ifp h
      obtain ⟨h3, h⟩ := ifp h
      obtain rfl := Option.some.inj h
      exact Til.fin Tryz.func166 [(2, .b false), (4, .b false)] (fun _ f => o (decide_eq_false h0) (o (decide_eq_false h1) (o (o h2 h3) f))) (by kernel_rfl)

theorem bits_LeadingZeros32.does {a0 : Int} {r : Int} (h : bits_LeadingZeros32.f a0 = some r) :
    Does Tryz.prog 161 [.c (.d (.int .u32 a0))] [] (.c (.d (.int .i64 r))) none [] := by
  refine does_fn Tryz.func161 (by kernel_rfl) rfl rfl ?_
  unfold bits_LeadingZeros32.f at h
  obtain ⟨v2, h0, h⟩ := bnd h
  obtain rfl := Option.some.inj h
  exact Til.fin Tryz.func161 [(2, ca (.c (.d (.int .i64 v2))))] (fun _ f => o (bits_Len32.does h0) f) (by kernel_rfl)

def nat_take.l0E (x0 : List Int) (x1 : List Int) (x2 : Int) (x7 : Int) (x8 : Int) (x12 : Int) (x13 : Int) : Env := [(0, .c (.own 0)), (1, .c (.d (L103 x1))), (2, .c (.d (.int .u64 x2))), (7, .c (.d (.int .u64 x7))), (8, .c (.d (.int .u64 x8))), (12, .c (.d (.int .i64 x12))), (13, .c (.d (.int .i64 x13)))]
def nat_take.l0B (x0 : List Int) (x1 : List Int) (x2 : Int) (x7 : Int) (x8 : Int) (x12 : Int) (x13 : Int) : Obs := [(0, some (O103 .win x0))]
theorem nat_take.w (k : Nat) : (∀ (l0 : List Int) (x0 : List Int) (x1 : List Int) (x2 : Int) (x7 : Int) (x8 : Int) (x12 : Int) (x13 : Int) (r : Bool × List Int), nat_take.l0 k x0 x1 x2 x7 x8 x12 x13 = some r → Til Tryz.prog 167 [(0, some (O103 .win l0))] (.c (.d (.bool r.1))) none [(0, some (O103 .win r.2))] (at_ Tryz.f167 3) (nat_take.l0E x0 x1 x2 x7 x8 x12 x13) (nat_take.l0B x0 x1 x2 x7 x8 x12 x13)) := by
  induction k with
  | zero =>
    exact fun _ _ _ _ _ _ _ _ _ h => (by cases h)
  | succ k ih =>
    intro l0 x0 x1 x2 x7 x8 x12 x13 r h
    rw [nat_take.l0] at h
    by_cases h0 : x13 < x12
    · rw [if_pos h0] at h
      obtain ⟨v7, h1, h⟩ := bnd h
      obtain ⟨h2, h⟩ := ifp h
      obtain ⟨h3, h⟩ := ifp h
      exact Til.mid Tryz.func167 3 [(0, .b true), (7, ca (.c (.d (.int .u64 v7)))), (27, Z103 (x0.set ((x13 : Int).toNat) (Go.bits .and .u64 (IntKind.u64.wrap ((IntKind.u64.wrap ((IntKind.u64.wrap (4294967296 + (rd x0 x13))) - (Go.bits .and .u64 (IntKind.u64.wrap (x7 + (IntKind.u64.wrap (x2 * v7)))) 4294967295))) - x8)) 4294967295)))] (fun _ f => o (decide_eq_true h0) (o (nat_limb.does h1) (o (o h2 h3) (o (o h2 h3) (o (set_ok c103 0 (fun _ _ => rfl) x0 ((x13 : Int).toNat) (Go.bits .and .u64 (IntKind.u64.wrap ((IntKind.u64.wrap ((IntKind.u64.wrap (4294967296 + (rd x0 x13))) - (Go.bits .and .u64 (IntKind.u64.wrap (x7 + (IntKind.u64.wrap (x2 * v7)))) 4294967295))) - x8)) 4294967295) (lt_ok h2 h3)) (o (nn 32) (o (nn 32) f))))))) (by kernel_rfl) (ih _ _ _ _ _ _ _ _ _ h)
    · rw [if_neg h0] at h
      obtain rfl := Option.some.inj h
      exact Til.fin Tryz.func167 [(0, .b false)] (fun _ f => o (decide_eq_false h0) f) (by kernel_rfl)
theorem nat_take.does {k : Nat} {l0 : List Int} {l1 : List Int} {a2 : Int} {r : Bool × List Int} (h : nat_take.f k l0 l1 a2 = some r) :
    Does Tryz.prog 167 [.c (.own 0), .c (.d (L103 l1)), .c (.d (.int .u64 a2))] [(0, some (O103 .win l0))] (.c (.d (.bool r.1))) none [(0, some (O103 .win r.2))] := by
  refine does_fn Tryz.func167 (by kernel_rfl) rfl rfl ?_
  unfold nat_take.f at h
  have ih := nat_take.w k
  exact Til.mid Tryz.func167 3 [] (fun _ f => f) (by kernel_rfl) (ih _ _ _ _ _ _ _ _ _ h)

def nat_give.l0E (x0 : List Int) (x1 : List Int) (x4 : Int) (x7 : Int) (x8 : Int) : Env := [(0, .c (.own 0)), (1, .c (.d (L103 x1))), (4, .c (.d (.int .u64 x4))), (7, .c (.d (.int .i64 x7))), (8, .c (.d (.int .i64 x8)))]
def nat_give.l0B (x0 : List Int) (x1 : List Int) (x4 : Int) (x7 : Int) (x8 : Int) : Obs := [(0, some (O103 .win x0))]
theorem nat_give.w (k : Nat) : (∀ (l0 : List Int) (x0 : List Int) (x1 : List Int) (x4 : Int) (x7 : Int) (x8 : Int) (r : List Int), nat_give.l0 k x0 x1 x4 x7 x8 = some r → Til Tryz.prog 168 [(0, some (O103 .win l0))] (.tup []) none [(0, some (O103 .win r))] (at_ Tryz.f168 2) (nat_give.l0E x0 x1 x4 x7 x8) (nat_give.l0B x0 x1 x4 x7 x8)) := by
  induction k with
  | zero =>
    exact fun _ _ _ _ _ _ _ h => (by cases h)
  | succ k ih =>
    intro l0 x0 x1 x4 x7 x8 r h
    rw [nat_give.l0] at h
    by_cases h0 : x8 < x7
    · rw [if_pos h0] at h
      obtain ⟨h1, h⟩ := ifp h
      obtain ⟨h2, h⟩ := ifp h
      obtain ⟨v10, h3, h⟩ := bnd h
      exact Til.mid Tryz.func168 2 [(0, .b true), (10, ca (.c (.d (.int .u64 v10)))), (19, Z103 (x0.set ((x8 : Int).toNat) (Go.bits .and .u64 (IntKind.u64.wrap (x4 + (IntKind.u64.wrap ((rd x0 x8) + v10)))) 4294967295)))] (fun _ f => o (decide_eq_true h0) (o (o h1 h2) (o (nat_limb.does h3) (o (o h1 h2) (o (set_ok c103 0 (fun _ _ => rfl) x0 ((x8 : Int).toNat) (Go.bits .and .u64 (IntKind.u64.wrap (x4 + (IntKind.u64.wrap ((rd x0 x8) + v10)))) 4294967295) (lt_ok h1 h2)) (o (nn 32) f)))))) (by kernel_rfl) (ih _ _ _ _ _ _ _ h)
    · rw [if_neg h0] at h
      obtain rfl := Option.some.inj h
      exact Til.fin Tryz.func168 [(0, .b false)] (fun _ f => o (decide_eq_false h0) f) (by kernel_rfl)
theorem nat_give.does {k : Nat} {l0 : List Int} {l1 : List Int} {r : List Int} (h : nat_give.f k l0 l1 = some r) :
    Does Tryz.prog 168 [.c (.own 0), .c (.d (L103 l1))] [(0, some (O103 .win l0))] (.tup []) none [(0, some (O103 .win r))] := by
  refine does_fn Tryz.func168 (by kernel_rfl) rfl rfl ?_
  unfold nat_give.f at h
  have ih := nat_give.w k
  exact Til.mid Tryz.func168 2 [] (fun _ f => f) (by kernel_rfl) (ih _ _ _ _ _ _ _ h)

def nat_digit.l0E (x0 : List Int) (x1 : List Int) (x5 : Int) (x7 : Int) (x8 : Int) : Env := [(0, .c (.own 0)), (1, .c (.d (L103 x1))), (5, .c (.d (.int .i64 x5))), (7, .c (.d (.int .u64 x7))), (8, .c (.d (.int .u64 x8)))]
def nat_digit.l0B (x0 : List Int) (x1 : List Int) (x5 : Int) (x7 : Int) (x8 : Int) : Obs := [(0, some (O103 .win x0))]
theorem nat_digit.w (k : Nat) : (∀ (l0 : List Int) (x0 : List Int) (x1 : List Int) (x5 : Int) (x7 : Int) (x8 : Int) (r : Int × List Int), nat_digit.l0 k x0 x1 x5 x7 x8 = some r → Til Tryz.prog 162 [(0, some (O103 .win l0))] (.c (.d (.int .u64 r.1))) none [(0, some (O103 .win r.2))] (at_ Tryz.f162 4) (nat_digit.l0E x0 x1 x5 x7 x8) (nat_digit.l0B x0 x1 x5 x7 x8)) := by
  induction k with
  | zero =>
    exact fun _ _ _ _ _ _ _ h => (by cases h)
  | succ k ih =>
    intro l0 x0 x1 x5 x7 x8 r h
    rw [nat_digit.l0] at h
    by_cases h0 : x7 ≥ 4294967296
    · rw [if_pos h0] at h
      obtain ⟨h1, h⟩ := ifp h
      obtain ⟨h2, h⟩ := ifp h
      by_cases h3 : (IntKind.u64.wrap (x8 + (rd x1 (wrap64 (x5 - 1))))) ≥ 4294967296
      · rw [if_pos h3] at h
        obtain ⟨⟨v36_0, v36_1⟩, h4, h⟩ := bnd h
        dsimp only at h
        obtain ⟨h5, h⟩ := ifp h
        cases v36_0
        · rw [if_neg (by decide)] at h
          obtain ⟨h6, h⟩ := ifp h
          obtain rfl := Option.some.inj h
          exact Til.fin Tryz.func162 [(1, .b true), (32, .b true), (36, .call [] [0] (.c (.d (.bool false))) none [(0, some (O103 .win v36_1))] [])] (fun _ f => o (decide_eq_true h0) (o (o h1 h2) (o (decide_eq_true h3) (o (nat_take.does h4) (o (o (rfl : (1 : Nat) = 1) h6) f))))) (by kernel_rfl)
        · rw [if_pos rfl] at h
          obtain ⟨h6, h⟩ := ifp h
          obtain ⟨v42, h7, h⟩ := bnd h
          obtain ⟨h8, h⟩ := ifp h
          obtain rfl := Option.some.inj h
          exact Til.fin Tryz.func162 [(1, .b true), (32, .b true), (36, .call [] [0] (.c (.d (.bool true))) none [(0, some (O103 .win v36_1))] []), (42, .call [] [0] (.tup []) none [(0, some (O103 .win v42))] [])] (fun _ f => o (decide_eq_true h0) (o (o h1 h2) (o (decide_eq_true h3) (o (nat_take.does h4) (o (o (rfl : (1 : Nat) = 1) h6) (o (nat_give.does h7) (o (o (rfl : (1 : Nat) = 1) h8) f))))))) (by kernel_rfl)
      · rw [if_neg h3] at h
        exact Til.mid Tryz.func162 4 [(1, .b true), (32, .b false)] (fun _ f => o (decide_eq_true h0) (o (o h1 h2) (o (decide_eq_false h3) f))) (by kernel_rfl) (ih _ _ _ _ _ _ _ h)
    · rw [if_neg h0] at h
      obtain ⟨h1, h⟩ := ifp h
      obtain ⟨h2, h⟩ := ifp h
      obtain ⟨h3, h⟩ := ifp h
      by_cases h4 : (IntKind.u64.wrap (x7 * (rd x1 (wrap64 (x5 - 2))))) > (Go.bits .or .u64 (IntKind.u64.wrap (x8 * 4294967296)) (rd x0 (wrap64 (x5 - 2))))
      · rw [if_pos h4] at h
        obtain ⟨h5, h⟩ := ifp h
        obtain ⟨h6, h⟩ := ifp h
        by_cases h7 : (IntKind.u64.wrap (x8 + (rd x1 (wrap64 (x5 - 1))))) ≥ 4294967296
        · rw [if_pos h7] at h
          obtain ⟨⟨v36_0, v36_1⟩, h8, h⟩ := bnd h
          dsimp only at h
          obtain ⟨h9, h⟩ := ifp h
          cases v36_0
          · rw [if_neg (by decide)] at h
            obtain ⟨h10, h⟩ := ifp h
            obtain rfl := Option.some.inj h
            exact Til.fin Tryz.func162 [(1, .b false), (18, .b true), (32, .b true), (36, .call [] [0] (.c (.d (.bool false))) none [(0, some (O103 .win v36_1))] [])] (fun _ f => o (decide_eq_false h0) (o (o h1 h2) (o (nn 32) (o (o h1 h3) (o (decide_eq_true h4) (o (o h5 h6) (o (decide_eq_true h7) (o (nat_take.does h8) (o (o (rfl : (1 : Nat) = 1) h10) f))))))))) (by kernel_rfl)
          · rw [if_pos rfl] at h
            obtain ⟨h10, h⟩ := ifp h
            obtain ⟨v42, h11, h⟩ := bnd h
            obtain ⟨h12, h⟩ := ifp h
            obtain rfl := Option.some.inj h
            exact Til.fin Tryz.func162 [(1, .b false), (18, .b true), (32, .b true), (36, .call [] [0] (.c (.d (.bool true))) none [(0, some (O103 .win v36_1))] []), (42, .call [] [0] (.tup []) none [(0, some (O103 .win v42))] [])] (fun _ f => o (decide_eq_false h0) (o (o h1 h2) (o (nn 32) (o (o h1 h3) (o (decide_eq_true h4) (o (o h5 h6) (o (decide_eq_true h7) (o (nat_take.does h8) (o (o (rfl : (1 : Nat) = 1) h10) (o (nat_give.does h11) (o (o (rfl : (1 : Nat) = 1) h12) f))))))))))) (by kernel_rfl)
        · rw [if_neg h7] at h
          exact Til.mid Tryz.func162 4 [(1, .b false), (18, .b true), (32, .b false)] (fun _ f => o (decide_eq_false h0) (o (o h1 h2) (o (nn 32) (o (o h1 h3) (o (decide_eq_true h4) (o (o h5 h6) (o (decide_eq_false h7) f))))))) (by kernel_rfl) (ih _ _ _ _ _ _ _ h)
      · rw [if_neg h4] at h
        obtain ⟨⟨v23_0, v23_1⟩, h5, h⟩ := bnd h
        dsimp only at h
        obtain ⟨h6, h⟩ := ifp h
        cases v23_0
        · rw [if_neg (by decide)] at h
          obtain ⟨h7, h⟩ := ifp h
          obtain rfl := Option.some.inj h
          exact Til.fin Tryz.func162 [(1, .b false), (18, .b false), (23, .call [] [0] (.c (.d (.bool false))) none [(0, some (O103 .win v23_1))] [])] (fun _ f => o (decide_eq_false h0) (o (o h1 h2) (o (nn 32) (o (o h1 h3) (o (decide_eq_false h4) (o (nat_take.does h5) (o (o (rfl : (1 : Nat) = 1) h7) f))))))) (by kernel_rfl)
        · rw [if_pos rfl] at h
          obtain ⟨h7, h⟩ := ifp h
          obtain ⟨v29, h8, h⟩ := bnd h
          obtain ⟨h9, h⟩ := ifp h
          obtain rfl := Option.some.inj h
          exact Til.fin Tryz.func162 [(1, .b false), (18, .b false), (23, .call [] [0] (.c (.d (.bool true))) none [(0, some (O103 .win v23_1))] []), (29, .call [] [0] (.tup []) none [(0, some (O103 .win v29))] [])] (fun _ f => o (decide_eq_false h0) (o (o h1 h2) (o (nn 32) (o (o h1 h3) (o (decide_eq_false h4) (o (nat_take.does h5) (o (o (rfl : (1 : Nat) = 1) h7) (o (nat_give.does h8) (o (o (rfl : (1 : Nat) = 1) h9) f))))))))) (by kernel_rfl)
theorem nat_digit.does {k : Nat} {l0 : List Int} {l1 : List Int} {r : Int × List Int} (h : nat_digit.f k l0 l1 = some r) :
    Does Tryz.prog 162 [.c (.own 0), .c (.d (L103 l1))] [(0, some (O103 .win l0))] (.c (.d (.int .u64 r.1))) none [(0, some (O103 .win r.2))] := by
  refine does_fn Tryz.func162 (by kernel_rfl) rfl rfl ?_
  unfold nat_digit.f at h
  have ih := nat_digit.w k
  obtain ⟨h0, h⟩ := ifp h
  obtain ⟨h1, h⟩ := ifp h
  obtain ⟨h2, h⟩ := ifp h
  obtain ⟨h3, h⟩ := ifp h
  obtain ⟨h4, h⟩ := ifn h
  exact Til.mid Tryz.func162 4 [] (fun _ f => o (o (Int.natCast_nonneg l1.length) h0) (o (nn 32) (o (o h1 h2) (o (o h1 h3) (o h4 (o (o h1 h3) (o h4 f))))))) (by kernel_rfl) (ih _ _ _ _ _ _ _ h)

def nat_long.l0E (x6 : Int) (x7 : List Int) (x8 : List Int) (x9 : Int) (x10 : List Int) (x11 : Int) : Env := [(6, .c (.d (.int .i64 x6))), (7, .c (.d (L103 x7))), (8, .c (.own 8)), (9, .c (.d (.int .i64 x9))), (10, .c (.own 10)), (11, .c (.d (.int .i64 x11)))]
def nat_long.l0B (x6 : Int) (x7 : List Int) (x8 : List Int) (x9 : Int) (x10 : List Int) (x11 : Int) : Obs := [(8, some (O103 .own x8)), (10, some (O103 .own x10))]
theorem nat_long.w (k : Nat) : (∀  (x6 : Int) (x7 : List Int) (x8 : List Int) (x9 : Int) (x10 : List Int) (x11 : Int) (r : List Int × List Int), nat_long.l0 k x6 x7 x8 x9 x10 x11 = some r → Til Tryz.prog 152 [] (.tup [.c (.d (L103 r.1)), .c (.d (L103 r.2))]) none [] (at_ Tryz.f152 7) (nat_long.l0E x6 x7 x8 x9 x10 x11) (nat_long.l0B x6 x7 x8 x9 x10 x11)) := by
  induction k with
  | zero =>
    exact fun _ _ _ _ _ _ _ h => (by cases h)
  | succ k ih =>
    intro x6 x7 x8 x9 x10 x11 r h
    rw [nat_long.l0] at h
    by_cases h0 : x11 ≥ 0
    · rw [if_pos h0] at h
      obtain ⟨h1, h⟩ := ifp h
      obtain ⟨h2, h⟩ := ifp h
      obtain ⟨v12, h3, h⟩ := bnd h
      obtain ⟨h4, h⟩ := ifp h
      obtain ⟨h5, h⟩ := ifp h
      exact Til.mid Tryz.func152 7 [(1, .b true), (12, .call [] [0] (.c (.d (.int .u64 v12.1))) none [(0, some (O103 .win v12.2))] [(0, (x8.take ((x11 : Int).toNat) ++ v12.2 ++ x8.drop (((wrap64 ((wrap64 (x11 + x9)) + 1)) : Int).toNat)).length, enc c103 0 (x8.take ((x11 : Int).toNat) ++ v12.2 ++ x8.drop (((wrap64 ((wrap64 (x11 + x9)) + 1)) : Int).toNat))), (1000000, ((x8.drop ((x11 : Int).toNat)).take (((wrap64 ((wrap64 (x11 + x9)) + 1)) : Int).toNat - (x11 : Int).toNat)).length, enc c103 0 ((x8.drop ((x11 : Int).toNat)).take (((wrap64 ((wrap64 (x11 + x9)) + 1)) : Int).toNat - (x11 : Int).toNat)))]), (14, Z103 (x10.set ((x11 : Int).toNat) v12.1))] (fun _ f => o (decide_eq_true h0) (o (o h0 (o h1 h2)) (o (nat_digit.does h3) (o (backw_ok c103 0 1 x8 v12.2 h0 (Int.le_of_lt h1) h2 h4) (o (part_ok c103 0 x8 h0 (Int.le_of_lt h1) h2).2.2.2 (o (o h0 h5) (o (set_ok c103 0 (fun _ _ => rfl) x10 ((x11 : Int).toNat) v12.1 (lt_ok h0 h5)) f))))))) (by kernel_rfl) (ih _ _ _ _ _ _ _ h)
    · rw [if_neg h0] at h
      obtain ⟨v3, h1, h⟩ := bnd h
      obtain ⟨v5, h2, h⟩ := bnd h
      obtain ⟨v7, h3, h⟩ := bnd h
      obtain rfl := Option.some.inj h
      exact Til.fin Tryz.func152 [(1, .b false), (3, ca (.c (.d (L103 v3)))), (5, ca (.c (.d (L103 v5)))), (7, ca (.c (.d (L103 v7))))] (fun _ f => o (decide_eq_false h0) (o (nat_trim.does h1) (o (nat_trim.does h2) (o (nat_shr.does h3) f)))) (by kernel_rfl)
theorem nat_long.does {k : Nat} {l0 : List Int} {l1 : List Int} {r : List Int × List Int} (h : nat_long.f k l0 l1 = some r) :
    Does Tryz.prog 152 [.c (.d (L103 l0)), .c (.d (L103 l1))] [] (.tup [.c (.d (L103 r.1)), .c (.d (L103 r.2))]) none [] := by
  refine does_fn Tryz.func152 (by kernel_rfl) rfl rfl ?_
  unfold nat_long.f at h
  have ih := nat_long.w k
  obtain ⟨h0, h⟩ := ifp h
  obtain ⟨h1, h⟩ := ifp h
  obtain ⟨v9, h2, h⟩ := bnd h
  obtain ⟨v13, h3, h⟩ := bnd h
  obtain ⟨v17, h4, h⟩ := bnd h
  obtain ⟨h5, h⟩ := ifp h
  obtain ⟨h6, h⟩ := ifp h
  obtain ⟨h7, h⟩ := ifp h
  obtain ⟨h8, h⟩ := ifp h
  obtain ⟨h9, h⟩ := ifp h
  exact Til.mid Tryz.func152 7 [(9, ca (.c (.d (.int .i64 v9)))), (13, .call [] [] (.c (.own 0)) (some (O103 .own v13)) [] []), (17, .call [] [] (.c (.own 0)) (some (O103 .own v17)) [] []), (18, Z103 ([0, 0] : List Int)), (19, Z103 (v17 ++ ([0, 0] : List Int))), (23, Z103 ((v17 ++ ([0, 0] : List Int)).take (((wrap64 ((l0.length : Int) + 1)) : Int).toNat))), (32, Z103 (List.replicate (((wrap64 ((((v17 ++ ([0, 0] : List Int)).take (((wrap64 ((l0.length : Int) + 1)) : Int).toNat)).length : Int) - (v13.length : Int))) : Int).toNat) 0 : List Int))] (fun _ f => o (o h0 h1) (o (bits_LeadingZeros32.does h2) (o (nat_shl.does h3) (o (nat_shl.does h4) (o (lit_ok c103 0 ([0, 0] : List Int)) (o (app c103 0 v17 ([0, 0] : List Int) 8 17592186044416 (by decide) h5) (o (take_ok c103 0 (v17 ++ ([0, 0] : List Int)) h6 h7) (o (make_ok c103 0 [.int .u64 0] ⟨.refl _, trivial⟩ (wrap64 ((((v17 ++ ([0, 0] : List Int)).take (((wrap64 ((l0.length : Int) + 1)) : Int).toNat)).length : Int) - (v13.length : Int))) 8 35184372088832 (by decide) h8 h9) f)))))))) (by kernel_rfl) (ih _ _ _ _ _ _ _ h)

theorem nat_DivMod.does {k : Nat} {l0 : List Int} {l1 : List Int} {r : List Int × List Int × Int} (h : nat_DivMod.f k l0 l1 = some r) :
    Does Tryz.prog 128 [.c (.d (L103 l0)), .c (.d (L103 l1))] [] (.tup [.c (.d (L103 r.1)), .c (.d (L103 r.2.1)), .c (.d (.int .i64 r.2.2))]) none [] := by
  refine does_fn Tryz.func128 (by kernel_rfl) rfl rfl ?_
  unfold nat_DivMod.f at h
  obtain ⟨v4, h0, h⟩ := bnd h
  obtain ⟨v6, h1, h⟩ := bnd h
  by_cases h2 : (v6.length : Int) = 0
  · rw [if_pos h2] at h
    obtain rfl := Option.some.inj h
    exact Til.fin Tryz.func128 [(4, ca (.c (.d (L103 v4)))), (6, ca (.c (.d (L103 v6)))), (11, .b true)] (fun _ f => o (nat_Clean.does h0) (o (nat_Clean.does h1) (o (beq_iff_eq.2 h2) f))) (by kernel_rfl)
  · rw [if_neg h2] at h
    obtain ⟨v15, h3, h⟩ := bnd h
    by_cases h4 : v15 < 0
    · rw [if_pos h4] at h
      obtain rfl := Option.some.inj h
      exact Til.fin Tryz.func128 [(4, ca (.c (.d (L103 v4)))), (6, ca (.c (.d (L103 v6)))), (11, .b false), (15, ca (.c (.d (.int .i64 v15)))), (16, .b true)] (fun _ f => o (nat_Clean.does h0) (o (nat_Clean.does h1) (o (beq_false_of_ne h2) (o (nat_order.does h3) (o (decide_eq_true h4) f))))) (by kernel_rfl)
    · rw [if_neg h4] at h
      by_cases h5 : (v6.length : Int) = 1
      · rw [if_pos h5] at h
        obtain ⟨h6, h⟩ := ifp h
        obtain ⟨v26, h7, h⟩ := bnd h
        obtain ⟨v34, h8, h⟩ := bnd h
        obtain rfl := Option.some.inj h
        exact Til.fin Tryz.func128 [(4, ca (.c (.d (L103 v4)))), (6, ca (.c (.d (L103 v6)))), (11, .b false), (15, ca (.c (.d (.int .i64 v15)))), (16, .b false), (20, .b true), (26, ca (.tup [.c (.d (L103 v26.1)), .c (.d (.int .u64 v26.2))])), (34, ca (.c (.d (L103 v34))))] (fun _ f => o (nat_Clean.does h0) (o (nat_Clean.does h1) (o (beq_false_of_ne h2) (o (nat_order.does h3) (o (decide_eq_false h4) (o (beq_iff_eq.2 h5) (o (o (nn 0) h6) (o (nat_small.does h7) (o (nat_Of.does h8) f))))))))) (by kernel_rfl)
      · rw [if_neg h5] at h
        obtain ⟨v24, h6, h⟩ := bnd h
        obtain rfl := Option.some.inj h
        exact Til.fin Tryz.func128 [(4, ca (.c (.d (L103 v4)))), (6, ca (.c (.d (L103 v6)))), (11, .b false), (15, ca (.c (.d (.int .i64 v15)))), (16, .b false), (20, .b false), (24, ca (.tup [.c (.d (L103 v24.1)), .c (.d (L103 v24.2))]))] (fun _ f => o (nat_Clean.does h0) (o (nat_Clean.does h1) (o (beq_false_of_ne h2) (o (nat_order.does h3) (o (decide_eq_false h4) (o (beq_false_of_ne h5) (o (nat_long.does h6) f))))))) (by kernel_rfl)

theorem nat_rest.does {k : Nat} {l0 : List Int} {l1 : List Int} {r : List Int × List Int} (h : nat_rest.f k l0 l1 = some r) :
    Does Tryz.prog 150 [.c (.d (L103 l0)), .c (.d (L103 l1))] [] (.tup [.c (.d (L103 r.1)), .c (.d (L103 r.2))]) none [] := by
  refine does_fn Tryz.func150 (by kernel_rfl) rfl rfl ?_
  unfold nat_rest.f at h
  obtain ⟨v4, h0, h⟩ := bnd h
  obtain rfl := Option.some.inj h
  exact Til.fin Tryz.func150 [(4, ca (.tup [.c (.d (L103 v4.1)), .c (.d (L103 v4.2.1)), .c (.d (.int .i64 v4.2.2))]))] (fun _ f => o (nat_DivMod.does h0) f) (by kernel_rfl)

def nat_minus.l0E (x0 : List Int) (x1 : List Int) (x5 : List Int) (x6 : Int) (x13 : Int) (x14 : Int) : Env := [(0, .c (.d (L103 x0))), (1, .c (.d (L103 x1))), (5, .c (.own 5)), (6, .c (.d (.int .u64 x6))), (13, .c (.d (.int .i64 x13))), (14, .c (.d (.int .i64 x14)))]
def nat_minus.l0B (x0 : List Int) (x1 : List Int) (x5 : List Int) (x6 : Int) (x13 : Int) (x14 : Int) : Obs := [(5, some (O103 .own x5))]
theorem nat_minus.w (k : Nat) : (∀  (x0 : List Int) (x1 : List Int) (x5 : List Int) (x6 : Int) (x13 : Int) (x14 : Int) (r : List Int), nat_minus.l0 k x0 x1 x5 x6 x13 x14 = some r → Til Tryz.prog 151 [] (.c (.d (L103 r))) none [] (at_ Tryz.f151 4) (nat_minus.l0E x0 x1 x5 x6 x13 x14) (nat_minus.l0B x0 x1 x5 x6 x13 x14)) := by
  induction k with
  | zero =>
    exact fun _ _ _ _ _ _ _ h => (by cases h)
  | succ k ih =>
    intro x0 x1 x5 x6 x13 x14 r h
    rw [nat_minus.l0] at h
    by_cases h0 : x14 < x13
    · rw [if_pos h0] at h
      obtain ⟨h1, h⟩ := ifp h
      obtain ⟨h2, h⟩ := ifp h
      obtain ⟨v10, h3, h⟩ := bnd h
      obtain ⟨h4, h⟩ := ifp h
      exact Til.mid Tryz.func151 4 [(0, .b true), (10, ca (.c (.d (.int .u64 v10)))), (20, Z103 (x5.set ((x14 : Int).toNat) (Go.bits .and .u64 (IntKind.u64.wrap ((IntKind.u64.wrap ((IntKind.u64.wrap (4294967296 + (rd x0 x14))) - v10)) - x6)) 4294967295)))] (fun _ f => o (decide_eq_true h0) (o (o h1 h2) (o (nat_limb.does h3) (o (o h1 h4) (o (set_ok c103 0 (fun _ _ => rfl) x5 ((x14 : Int).toNat) (Go.bits .and .u64 (IntKind.u64.wrap ((IntKind.u64.wrap ((IntKind.u64.wrap (4294967296 + (rd x0 x14))) - v10)) - x6)) 4294967295) (lt_ok h1 h4)) (o (nn 32) f)))))) (by kernel_rfl) (ih _ _ _ _ _ _ _ h)
    · rw [if_neg h0] at h
      obtain ⟨v2, h1, h⟩ := bnd h
      obtain rfl := Option.some.inj h
      exact Til.fin Tryz.func151 [(0, .b false), (2, ca (.c (.d (L103 v2))))] (fun _ f => o (decide_eq_false h0) (o (nat_trim.does h1) f)) (by kernel_rfl)
theorem nat_minus.does {k : Nat} {l0 : List Int} {l1 : List Int} {r : List Int} (h : nat_minus.f k l0 l1 = some r) :
    Does Tryz.prog 151 [.c (.d (L103 l0)), .c (.d (L103 l1))] [] (.c (.d (L103 r))) none [] := by
  refine does_fn Tryz.func151 (by kernel_rfl) rfl rfl ?_
  unfold nat_minus.f at h
  have ih := nat_minus.w k
  obtain ⟨h0, h⟩ := ifp h
  exact Til.mid Tryz.func151 4 [(3, Z103 (List.replicate (((l0.length : Int) : Int).toNat) 0 : List Int))] (fun _ f => o (make_ok c103 0 [.int .u64 0] ⟨.refl _, trivial⟩ (l0.length : Int) 8 35184372088832 (by decide) (Int.natCast_nonneg l0.length) h0) f) (by kernel_rfl) (ih _ _ _ _ _ _ _ h)

def nat_Gcd.l0E (x0 : List Int) (x1 : List Int) (x5 : Int) (x6 : Int) : Env := [(0, .c (.d (L103 x0))), (1, .c (.d (L103 x1))), (5, .c (.d (.int .i64 x5))), (6, .c (.d (.int .i64 x6)))]
theorem nat_Gcd.w (k : Nat) : (∀  (x0 : List Int) (x1 : List Int) (x5 : Int) (x6 : Int) (r : List Int), nat_Gcd.l0 k x0 x1 x5 x6 = some r → Til Tryz.prog 122 [] (.c (.d (L103 r))) none [] (at_ Tryz.f122 10) (nat_Gcd.l0E x0 x1 x5 x6) []) := by
  induction k with
  | zero =>
    exact fun _ _ _ _ _ h => (by cases h)
  | succ k ih =>
    intro x0 x1 x5 x6 r h
    rw [nat_Gcd.l0] at h
    obtain ⟨v2, h0, h⟩ := bnd h
    by_cases h1 : v2 = 0
    · rw [if_pos h1] at h
      obtain ⟨v11, h2, h⟩ := bnd h
      obtain rfl := Option.some.inj h
      exact Til.fin Tryz.func122 [(2, ca (.c (.d (.int .i64 v2)))), (5, .b true), (11, .call [] [] (.c (.own 0)) (some (O103 .own v11)) [] [])] (fun _ f => o (nat_order.does h0) (o (beq_iff_eq.2 h1) (o (nat_shl.does h2) f))) (by kernel_rfl)
    · rw [if_neg h1] at h
      by_cases h2 : v2 < 0
      · rw [if_pos h2] at h
        by_cases h3 : (x1.length : Int) > (wrap64 ((x0.length : Int) + 1))
        · rw [if_pos h3] at h
          obtain ⟨v22, h4, h⟩ := bnd h
          by_cases h5 : (v22.2.length : Int) = 0
          · rw [if_pos h5] at h
            obtain ⟨v34, h6, h⟩ := bnd h
            obtain rfl := Option.some.inj h
            exact Til.fin Tryz.func122 [(2, ca (.c (.d (.int .i64 v2)))), (5, .b false), (8, .b true), (19, .b true), (22, ca (.tup [.c (.d (L103 v22.1)), .c (.d (L103 v22.2))])), (29, .b true), (34, .call [] [] (.c (.own 0)) (some (O103 .own v34)) [] [])] (fun _ f => o (nat_order.does h0) (o (beq_false_of_ne h1) (o (decide_eq_true h2) (o (decide_eq_true h3) (o (nat_rest.does h4) (o (beq_iff_eq.2 h5) (o (nat_shl.does h6) f))))))) (by kernel_rfl)
          · rw [if_neg h5] at h
            obtain ⟨v32, h6, h⟩ := bnd h
            obtain ⟨v33, h7, h⟩ := bnd h
            exact Til.mid Tryz.func122 10 [(2, ca (.c (.d (.int .i64 v2)))), (5, .b false), (8, .b true), (19, .b true), (22, ca (.tup [.c (.d (L103 v22.1)), .c (.d (L103 v22.2))])), (29, .b false), (32, ca (.c (.d (.int .i64 v32)))), (33, ca (.c (.d (L103 v33))))] (fun _ f => o (nat_order.does h0) (o (beq_false_of_ne h1) (o (decide_eq_true h2) (o (decide_eq_true h3) (o (nat_rest.does h4) (o (beq_false_of_ne h5) (o (nat_zeros.does h6) (o (nat_shr.does h7) f)))))))) (by kernel_rfl) (ih _ _ _ _ _ h)
        · rw [if_neg h3] at h
          obtain ⟨v22, h4, h⟩ := bnd h
          obtain ⟨v26, h5, h⟩ := bnd h
          obtain ⟨v27, h6, h⟩ := bnd h
          exact Til.mid Tryz.func122 10 [(2, ca (.c (.d (.int .i64 v2)))), (5, .b false), (8, .b true), (19, .b false), (22, ca (.c (.d (L103 v22)))), (26, ca (.c (.d (.int .i64 v26)))), (27, ca (.c (.d (L103 v27))))] (fun _ f => o (nat_order.does h0) (o (beq_false_of_ne h1) (o (decide_eq_true h2) (o (decide_eq_false h3) (o (nat_minus.does h4) (o (nat_zeros.does h5) (o (nat_shr.does h6) f))))))) (by kernel_rfl) (ih _ _ _ _ _ h)
      · rw [if_neg h2] at h
        by_cases h3 : (x0.length : Int) > (wrap64 ((x1.length : Int) + 1))
        · rw [if_pos h3] at h
          obtain ⟨v18, h4, h⟩ := bnd h
          by_cases h5 : (v18.2.length : Int) = 0
          · rw [if_pos h5] at h
            obtain ⟨v30, h6, h⟩ := bnd h
            obtain rfl := Option.some.inj h
            exact Til.fin Tryz.func122 [(2, ca (.c (.d (.int .i64 v2)))), (5, .b false), (8, .b false), (15, .b true), (18, ca (.tup [.c (.d (L103 v18.1)), .c (.d (L103 v18.2))])), (25, .b true), (30, .call [] [] (.c (.own 0)) (some (O103 .own v30)) [] [])] (fun _ f => o (nat_order.does h0) (o (beq_false_of_ne h1) (o (decide_eq_false h2) (o (decide_eq_true h3) (o (nat_rest.does h4) (o (beq_iff_eq.2 h5) (o (nat_shl.does h6) f))))))) (by kernel_rfl)
          · rw [if_neg h5] at h
            obtain ⟨v28, h6, h⟩ := bnd h
            obtain ⟨v29, h7, h⟩ := bnd h
            exact Til.mid Tryz.func122 10 [(2, ca (.c (.d (.int .i64 v2)))), (5, .b false), (8, .b false), (15, .b true), (18, ca (.tup [.c (.d (L103 v18.1)), .c (.d (L103 v18.2))])), (25, .b false), (28, ca (.c (.d (.int .i64 v28)))), (29, ca (.c (.d (L103 v29))))] (fun _ f => o (nat_order.does h0) (o (beq_false_of_ne h1) (o (decide_eq_false h2) (o (decide_eq_true h3) (o (nat_rest.does h4) (o (beq_false_of_ne h5) (o (nat_zeros.does h6) (o (nat_shr.does h7) f)))))))) (by kernel_rfl) (ih _ _ _ _ _ h)
        · rw [if_neg h3] at h
          obtain ⟨v18, h4, h⟩ := bnd h
          obtain ⟨v22, h5, h⟩ := bnd h
          obtain ⟨v23, h6, h⟩ := bnd h
          exact Til.mid Tryz.func122 10 [(2, ca (.c (.d (.int .i64 v2)))), (5, .b false), (8, .b false), (15, .b false), (18, ca (.c (.d (L103 v18)))), (22, ca (.c (.d (.int .i64 v22)))), (23, ca (.c (.d (L103 v23))))] (fun _ f => o (nat_order.does h0) (o (beq_false_of_ne h1) (o (decide_eq_false h2) (o (decide_eq_false h3) (o (nat_minus.does h4) (o (nat_zeros.does h5) (o (nat_shr.does h6) f))))))) (by kernel_rfl) (ih _ _ _ _ _ h)
theorem nat_Gcd.does {k : Nat} {l0 : List Int} {l1 : List Int} {r : List Int} (h : nat_Gcd.f k l0 l1 = some r) :
    Does Tryz.prog 122 [.c (.d (L103 l0)), .c (.d (L103 l1))] [] (.c (.d (L103 r))) none [] := by
  refine does_fn Tryz.func122 (by kernel_rfl) rfl rfl ?_
  unfold nat_Gcd.f at h
  have ih := nat_Gcd.w k
  obtain ⟨v2, h0, h⟩ := bnd h
  obtain ⟨v4, h1, h⟩ := bnd h
  by_cases h2 : (v2.length : Int) = 0
  · rw [if_pos h2] at h
    obtain rfl := Option.some.inj h
    exact Til.fin Tryz.func122 [(2, ca (.c (.d (L103 v2)))), (4, ca (.c (.d (L103 v4)))), (9, .b true)] (fun _ f => o (nat_Clean.does h0) (o (nat_Clean.does h1) (o (beq_iff_eq.2 h2) f))) (by kernel_rfl)
  · rw [if_neg h2] at h
    by_cases h3 : (v4.length : Int) = 0
    · rw [if_pos h3] at h
      obtain rfl := Option.some.inj h
      exact Til.fin Tryz.func122 [(2, ca (.c (.d (L103 v2)))), (4, ca (.c (.d (L103 v4)))), (9, .b false), (13, .b true)] (fun _ f => o (nat_Clean.does h0) (o (nat_Clean.does h1) (o (beq_false_of_ne h2) (o (beq_iff_eq.2 h3) f)))) (by kernel_rfl)
    · rw [if_neg h3] at h
      by_cases h4 : (v2.length : Int) ≤ 2
      · rw [if_pos h4] at h
        by_cases h5 : (v4.length : Int) ≤ 2
        · rw [if_pos h5] at h
          obtain ⟨v25, h6, h⟩ := bnd h
          obtain rfl := Option.some.inj h
          exact Til.fin Tryz.func122 [(2, ca (.c (.d (L103 v2)))), (4, ca (.c (.d (L103 v4)))), (9, .b false), (13, .b false), (17, .b true), (21, .b true), (25, ca (.c (.d (L103 v25))))] (fun _ f => o (nat_Clean.does h0) (o (nat_Clean.does h1) (o (beq_false_of_ne h2) (o (beq_false_of_ne h3) (o (decide_eq_true h4) (o (decide_eq_true h5) (o (nat_euclid.does h6) f))))))) (by kernel_rfl)
        · rw [if_neg h5] at h
          obtain ⟨v24, h6, h⟩ := bnd h
          obtain ⟨v26, h7, h⟩ := bnd h
          obtain ⟨v31, h8, h⟩ := bnd h
          obtain ⟨v34, h9, h⟩ := bnd h
          exact Til.mid Tryz.func122 10 [(2, ca (.c (.d (L103 v2)))), (4, ca (.c (.d (L103 v4)))), (9, .b false), (13, .b false), (17, .b true), (21, .b false), (24, ca (.c (.d (.int .i64 v24)))), (26, ca (.c (.d (.int .i64 v26)))), (31, ca (.c (.d (L103 v31)))), (34, ca (.c (.d (L103 v34))))] (fun _ f => o (nat_Clean.does h0) (o (nat_Clean.does h1) (o (beq_false_of_ne h2) (o (beq_false_of_ne h3) (o (decide_eq_true h4) (o (decide_eq_false h5) (o (nat_zeros.does h6) (o (nat_zeros.does h7) (o (nat_shr.does h8) (o (nat_shr.does h9) f)))))))))) (by kernel_rfl) (ih _ _ _ _ _ h)
      · rw [if_neg h4] at h
        obtain ⟨v24, h5, h⟩ := bnd h
        obtain ⟨v26, h6, h⟩ := bnd h
        obtain ⟨v31, h7, h⟩ := bnd h
        obtain ⟨v34, h8, h⟩ := bnd h
        exact Til.mid Tryz.func122 10 [(2, ca (.c (.d (L103 v2)))), (4, ca (.c (.d (L103 v4)))), (9, .b false), (13, .b false), (17, .b false), (24, ca (.c (.d (.int .i64 v24)))), (26, ca (.c (.d (.int .i64 v26)))), (31, ca (.c (.d (L103 v31)))), (34, ca (.c (.d (L103 v34))))] (fun _ f => o (nat_Clean.does h0) (o (nat_Clean.does h1) (o (beq_false_of_ne h2) (o (beq_false_of_ne h3) (o (decide_eq_false h4) (o (nat_zeros.does h5) (o (nat_zeros.does h6) (o (nat_shr.does h7) (o (nat_shr.does h8) f))))))))) (by kernel_rfl) (ih _ _ _ _ _ h)

theorem ratio_form.does {k : Nat} {a0_0 : Bool} {l0_1 : List Int} {l1 : List Int} {r : Bool × List Int × List Int} (h : ratio_form.f k a0_0 l0_1 l1 = some r) :
    Does Tryz.prog 87 [.agg [.d (.bool a0_0), .d (L103 l0_1)], .c (.d (L103 l1))] [] (.agg [.d (.bool r.1), .d (L103 r.2.1), .d (L103 r.2.2)]) none [] := by
  refine does_fn Tryz.func87 (by kernel_rfl) rfl rfl ?_
  unfold ratio_form.f at h
  by_cases h0 : (l0_1.length : Int) = 0
  · rw [if_pos h0] at h
    obtain ⟨v6, h1, h⟩ := bnd h
    obtain rfl := Option.some.inj h
    exact Til.fin Tryz.func87 [(5, .b true), (6, ca (.c (.d (L103 v6))))] (fun _ f => o (beq_iff_eq.2 h0) (o (nat_Of.does h1) f)) (by kernel_rfl)
  · rw [if_neg h0] at h
    obtain ⟨v9, h1, h⟩ := bnd h
    by_cases h2 : (v9.length : Int) = 1
    · rw [if_pos h2] at h
      obtain ⟨h3, h⟩ := ifp h
      by_cases h4 : (rd v9 0) = 1
      · rw [if_pos h4] at h
        obtain rfl := Option.some.inj h
        exact Til.fin Tryz.func87 [(5, .b false), (9, ca (.c (.d (L103 v9)))), (13, .b true), (18, .b true)] (fun _ f => o (beq_false_of_ne h0) (o (nat_Gcd.does h1) (o (beq_iff_eq.2 h2) (o (o (nn 0) h3) (o (beq_iff_eq.2 h4) f))))) (by kernel_rfl)
      · rw [if_neg h4] at h
        obtain ⟨v23, h5, h⟩ := bnd h
        obtain ⟨v33, h6, h⟩ := bnd h
        obtain rfl := Option.some.inj h
        exact Til.fin Tryz.func87 [(5, .b false), (9, ca (.c (.d (L103 v9)))), (13, .b true), (18, .b false), (23, ca (.tup [.c (.d (L103 v23.1)), .c (.d (L103 v23.2.1)), .c (.d (.int .i64 v23.2.2))])), (33, ca (.tup [.c (.d (L103 v33.1)), .c (.d (L103 v33.2.1)), .c (.d (.int .i64 v33.2.2))]))] (fun _ f => o (beq_false_of_ne h0) (o (nat_Gcd.does h1) (o (beq_iff_eq.2 h2) (o (o (nn 0) h3) (o (beq_false_of_ne h4) (o (nat_DivMod.does h5) (o (nat_DivMod.does h6) f))))))) (by kernel_rfl)
    · rw [if_neg h2] at h
      obtain ⟨v23, h3, h⟩ := bnd h
      obtain ⟨v33, h4, h⟩ := bnd h
      obtain rfl := Option.some.inj h
      exact Til.fin Tryz.func87 [(5, .b false), (9, ca (.c (.d (L103 v9)))), (13, .b false), (23, ca (.tup [.c (.d (L103 v23.1)), .c (.d (L103 v23.2.1)), .c (.d (.int .i64 v23.2.2))])), (33, ca (.tup [.c (.d (L103 v33.1)), .c (.d (L103 v33.2.1)), .c (.d (.int .i64 v33.2.2))]))] (fun _ f => o (beq_false_of_ne h0) (o (nat_Gcd.does h1) (o (beq_false_of_ne h2) (o (nat_DivMod.does h3) (o (nat_DivMod.does h4) f))))) (by kernel_rfl)

theorem ratio_Make.does {k : Nat} {a0_0 : Bool} {l0_1 : List Int} {a1_0 : Bool} {l1_1 : List Int} {r : Bool × List Int × List Int × Int} (h : ratio_Make.f k a0_0 l0_1 a1_0 l1_1 = some r) :
    Does Tryz.prog 18 [.agg [.d (.bool a0_0), .d (L103 l0_1)], .agg [.d (.bool a1_0), .d (L103 l1_1)]] [] (.tup [.agg [.d (.bool r.1), .d (L103 r.2.1), .d (L103 r.2.2.1)], .c (.d (.int .i64 r.2.2.2))]) none [] := by
  refine does_fn Tryz.func18 (by kernel_rfl) rfl rfl ?_
  unfold ratio_Make.f at h
  obtain ⟨v5, h0, h⟩ := bnd h
  obtain ⟨v7, h1, h⟩ := bnd h
  obtain ⟨v11, h2, h⟩ := bnd h
  by_cases h3 : v11 = 0
  · rw [if_pos h3] at h
    obtain rfl := Option.some.inj h
    exact Til.fin Tryz.func18 [(5, ca (.agg [.d (.bool v5.1), .d (L103 v5.2)])), (7, ca (.agg [.d (.bool v7.1), .d (L103 v7.2)])), (11, ca (.c (.d (.int .i64 v11)))), (12, .b true)] (fun _ f => o (whole_Clean.does h0) (o (whole_Clean.does h1) (o (whole_Sign.does h2) (o (beq_iff_eq.2 h3) f)))) (by kernel_rfl)
  · rw [if_neg h3] at h
    by_cases h4 : v7.1 = true
    · rw [if_pos h4] at h
      obtain ⟨v16, h5, h⟩ := bnd h
      obtain ⟨v21, h6, h⟩ := bnd h
      obtain rfl := Option.some.inj h
      exact Til.fin Tryz.func18 [(5, ca (.agg [.d (.bool v5.1), .d (L103 v5.2)])), (7, ca (.agg [.d (.bool v7.1), .d (L103 v7.2)])), (11, ca (.c (.d (.int .i64 v11)))), (12, .b false), (14, .b true), (16, ca (.agg [.d (.bool v16.1), .d (L103 v16.2)])), (21, ca (.agg [.d (.bool v21.1), .d (L103 v21.2.1), .d (L103 v21.2.2)]))] (fun _ f => o (whole_Clean.does h0) (o (whole_Clean.does h1) (o (whole_Sign.does h2) (o (beq_false_of_ne h3) (o h4 (o (whole_Neg.does h5) (o (ratio_form.does h6) f))))))) (by kernel_rfl)
    · rw [if_neg h4] at h
      obtain ⟨v18, h5, h⟩ := bnd h
      obtain rfl := Option.some.inj h
      exact Til.fin Tryz.func18 [(5, ca (.agg [.d (.bool v5.1), .d (L103 v5.2)])), (7, ca (.agg [.d (.bool v7.1), .d (L103 v7.2)])), (11, ca (.c (.d (.int .i64 v11)))), (12, .b false), (14, .b false), (18, ca (.agg [.d (.bool v18.1), .d (L103 v18.2.1), .d (L103 v18.2.2)]))] (fun _ f => o (whole_Clean.does h0) (o (whole_Clean.does h1) (o (whole_Sign.does h2) (o (beq_false_of_ne h3) (o (Bool.eq_false_iff.2 h4) (o (ratio_form.does h5) f)))))) (by kernel_rfl)

theorem ratio_Zero.does {k : Nat}  {r : Bool × List Int × List Int} (h : ratio_Zero.f k = some r) :
    Does Tryz.prog 21 [] [] (.agg [.d (.bool r.1), .d (L103 r.2.1), .d (L103 r.2.2)]) none [] := by
  refine does_fn Tryz.func21 (by kernel_rfl) rfl rfl ?_
  unfold ratio_Zero.f at h
  obtain ⟨v1, h0, h⟩ := bnd h
  obtain rfl := Option.some.inj h
  exact Til.fin Tryz.func21 [(1, ca (.c (.d (L103 v1))))] (fun _ f => o (nat_Of.does h0) f) (by kernel_rfl)

theorem ratio_Clean.does {k : Nat} {a0_0 : Bool} {l0_1 : List Int} {l0_2 : List Int} {r : Bool × List Int × List Int} (h : ratio_Clean.f k a0_0 l0_1 l0_2 = some r) :
    Does Tryz.prog 75 [.agg [.d (.bool a0_0), .d (L103 l0_1), .d (L103 l0_2)]] [] (.agg [.d (.bool r.1), .d (L103 r.2.1), .d (L103 r.2.2)]) none [] := by
  refine does_fn Tryz.func75 (by kernel_rfl) rfl rfl ?_
  unfold ratio_Clean.f at h
  obtain ⟨v4, h0, h⟩ := bnd h
  by_cases h1 : (v4.length : Int) = 0
  · rw [if_pos h1] at h
    obtain ⟨v9, h2, h⟩ := bnd h
    obtain rfl := Option.some.inj h
    exact Til.fin Tryz.func75 [(4, ca (.c (.d (L103 v4)))), (8, .b true), (9, ca (.agg [.d (.bool v9.1), .d (L103 v9.2.1), .d (L103 v9.2.2)]))] (fun _ f => o (nat_Clean.does h0) (o (beq_iff_eq.2 h1) (o (ratio_Zero.does h2) f))) (by kernel_rfl)
  · rw [if_neg h1] at h
    obtain ⟨v11, h2, h⟩ := bnd h
    obtain ⟨v13, h3, h⟩ := bnd h
    obtain rfl := Option.some.inj h
    exact Til.fin Tryz.func75 [(4, ca (.c (.d (L103 v4)))), (8, .b false), (11, ca (.agg [.d (.bool v11.1), .d (L103 v11.2)])), (13, ca (.agg [.d (.bool v13.1), .d (L103 v13.2.1), .d (L103 v13.2.2)]))] (fun _ f => o (nat_Clean.does h0) (o (beq_false_of_ne h1) (o (whole_Clean.does h2) (o (ratio_form.does h3) f)))) (by kernel_rfl)

theorem whole_Of.does {k : Nat} {a0 : Int} {r : Bool × List Int} (h : whole_Of.f k a0 = some r) :
    Does Tryz.prog 89 [.c (.d (.int .i64 a0))] [] (.agg [.d (.bool r.1), .d (L103 r.2)]) none [] := by
  refine does_fn Tryz.func89 (by kernel_rfl) rfl rfl ?_
  unfold whole_Of.f at h
  by_cases h0 : a0 < 0
  · rw [if_pos h0] at h
    obtain ⟨v6, h1, h⟩ := bnd h
    obtain ⟨v7, h2, h⟩ := bnd h
    obtain rfl := Option.some.inj h
    exact Til.fin Tryz.func89 [(2, .b true), (6, ca (.c (.d (L103 v6)))), (7, ca (.agg [.d (.bool v7.1), .d (L103 v7.2)]))] (fun _ f => o (decide_eq_true h0) (o (nat_Of.does h1) (o (whole_sign.does h2) f))) (by kernel_rfl)
  · rw [if_neg h0] at h
    obtain ⟨v5, h1, h⟩ := bnd h
    obtain ⟨v6, h2, h⟩ := bnd h
    obtain rfl := Option.some.inj h
    exact Til.fin Tryz.func89 [(2, .b false), (5, ca (.c (.d (L103 v5)))), (6, ca (.agg [.d (.bool v6.1), .d (L103 v6.2)]))] (fun _ f => o (decide_eq_false h0) (o (nat_Of.does h1) (o (whole_sign.does h2) f))) (by kernel_rfl)

theorem ratio_Frac.does {k : Nat} {a0 : Int} {a1 : Int} {r : Bool × List Int × List Int} (h : ratio_Frac.f k a0 a1 = some r) :
    Does Tryz.prog 27 [.c (.d (.int .i64 a0)), .c (.d (.int .i64 a1))] [] (.agg [.d (.bool r.1), .d (L103 r.2.1), .d (L103 r.2.2)]) none [] := by
  refine does_fn Tryz.func27 (by kernel_rfl) rfl rfl ?_
  unfold ratio_Frac.f at h
  obtain ⟨v2, h0, h⟩ := bnd h
  obtain ⟨v4, h1, h⟩ := bnd h
  obtain ⟨v5, h2, h⟩ := bnd h
  obtain ⟨v13, h3, h⟩ := bnd h
  obtain rfl := Option.some.inj h
  exact Til.fin Tryz.func27 [(2, ca (.agg [.d (.bool v2.1), .d (L103 v2.2)])), (4, ca (.agg [.d (.bool v4.1), .d (L103 v4.2)])), (5, ca (.tup [.agg [.d (.bool v5.1), .d (L103 v5.2.1), .d (L103 v5.2.2.1)], .c (.d (.int .i64 v5.2.2.2))])), (13, ca (.agg [.d (.bool v13.1), .d (L103 v13.2.1), .d (L103 v13.2.2)]))] (fun _ f => o (whole_Of.does h0) (o (whole_Of.does h1) (o (ratio_Make.does h2) (o (ratio_Clean.does h3) f)))) (by kernel_rfl)

theorem ratio_Of.does {k : Nat} {a0 : Int} {r : Bool × List Int × List Int} (h : ratio_Of.f k a0 = some r) :
    Does Tryz.prog 24 [.c (.d (.int .i64 a0))] [] (.agg [.d (.bool r.1), .d (L103 r.2.1), .d (L103 r.2.2)]) none [] := by
  refine does_fn Tryz.func24 (by kernel_rfl) rfl rfl ?_
  unfold ratio_Of.f at h
  obtain ⟨v2, h0, h⟩ := bnd h
  obtain ⟨v3, h1, h⟩ := bnd h
  obtain rfl := Option.some.inj h
  exact Til.fin Tryz.func24 [(2, ca (.agg [.d (.bool v2.1), .d (L103 v2.2)])), (3, ca (.c (.d (L103 v3))))] (fun _ f => o (whole_Of.does h0) (o (nat_Of.does h1) f)) (by kernel_rfl)

theorem ratio_One.does {k : Nat}  {r : Bool × List Int × List Int} (h : ratio_One.f k = some r) :
    Does Tryz.prog 23 [] [] (.agg [.d (.bool r.1), .d (L103 r.2.1), .d (L103 r.2.2)]) none [] := by
  refine does_fn Tryz.func23 (by kernel_rfl) rfl rfl ?_
  unfold ratio_One.f at h
  obtain ⟨v1, h0, h⟩ := bnd h
  obtain rfl := Option.some.inj h
  exact Til.fin Tryz.func23 [(1, ca (.agg [.d (.bool v1.1), .d (L103 v1.2.1), .d (L103 v1.2.2)]))] (fun _ f => o (ratio_Of.does h0) f) (by kernel_rfl)

theorem ratio_Int.does {k : Nat} {a0_0 : Bool} {l0_1 : List Int} {r : Bool × List Int × List Int} (h : ratio_Int.f k a0_0 l0_1 = some r) :
    Does Tryz.prog 25 [.agg [.d (.bool a0_0), .d (L103 l0_1)]] [] (.agg [.d (.bool r.1), .d (L103 r.2.1), .d (L103 r.2.2)]) none [] := by
  refine does_fn Tryz.func25 (by kernel_rfl) rfl rfl ?_
  unfold ratio_Int.f at h
  obtain ⟨v3, h0, h⟩ := bnd h
  obtain ⟨v4, h1, h⟩ := bnd h
  obtain rfl := Option.some.inj h
  exact Til.fin Tryz.func25 [(3, ca (.agg [.d (.bool v3.1), .d (L103 v3.2)])), (4, ca (.c (.d (L103 v4))))] (fun _ f => o (whole_Clean.does h0) (o (nat_Of.does h1) f)) (by kernel_rfl)

def nat_Add.l0E (x0 : List Int) (x1 : List Int) (x5 : List Int) (x6 : Int) (x20 : Int) (x21 : Int) : Env := [(0, .c (.d (L103 x0))), (1, .c (.d (L103 x1))), (5, .c (.own 5)), (6, .c (.d (.int .u64 x6))), (20, .c (.d (.int .i64 x20))), (21, .c (.d (.int .i64 x21)))]
def nat_Add.l0B (x0 : List Int) (x1 : List Int) (x5 : List Int) (x6 : Int) (x20 : Int) (x21 : Int) : Obs := [(5, some (O103 .own x5))]
theorem nat_Add.w (k : Nat) : (∀  (x0 : List Int) (x1 : List Int) (x5 : List Int) (x6 : Int) (x20 : Int) (x21 : Int) (r : List Int), nat_Add.l0 k x0 x1 x5 x6 x20 x21 = some r → Til Tryz.prog 103 [] (.c (.d (L103 r))) none [] (at_ Tryz.f103 5) (nat_Add.l0E x0 x1 x5 x6 x20 x21) (nat_Add.l0B x0 x1 x5 x6 x20 x21)) := by
  induction k with
  | zero =>
    exact fun _ _ _ _ _ _ _ h => (by cases h)
  | succ k ih =>
    intro x0 x1 x5 x6 x20 x21 r h
    rw [nat_Add.l0] at h
    by_cases h0 : x21 < x20
    · rw [if_pos h0] at h
      obtain ⟨v6, h1, h⟩ := bnd h
      obtain ⟨v9, h2, h⟩ := bnd h
      obtain ⟨h3, h⟩ := ifp h
      obtain ⟨h4, h⟩ := ifp h
      exact Til.mid Tryz.func103 5 [(0, .b true), (6, ca (.c (.d (.int .u64 v6)))), (9, ca (.c (.d (.int .u64 v9)))), (18, Z103 (x5.set ((x21 : Int).toNat) (Go.bits .and .u64 (IntKind.u64.wrap (x6 + (IntKind.u64.wrap (v6 + v9)))) 4294967295)))] (fun _ f => o (decide_eq_true h0) (o (nat_limb.does h1) (o (nat_limb.does h2) (o (o h3 h4) (o (set_ok c103 0 (fun _ _ => rfl) x5 ((x21 : Int).toNat) (Go.bits .and .u64 (IntKind.u64.wrap (x6 + (IntKind.u64.wrap (v6 + v9)))) 4294967295) (lt_ok h3 h4)) (o (nn 32) f)))))) (by kernel_rfl) (ih _ _ _ _ _ _ _ h)
    · rw [if_neg h0] at h
      obtain ⟨v2, h1, h⟩ := bnd h
      obtain rfl := Option.some.inj h
      exact Til.fin Tryz.func103 [(0, .b false), (2, ca (.c (.d (L103 v2))))] (fun _ f => o (decide_eq_false h0) (o (nat_trim.does h1) f)) (by kernel_rfl)
theorem nat_Add.does {k : Nat} {l0 : List Int} {l1 : List Int} {r : List Int} (h : nat_Add.f k l0 l1 = some r) :
    Does Tryz.prog 103 [.c (.d (L103 l0)), .c (.d (L103 l1))] [] (.c (.d (L103 r))) none [] := by
  refine does_fn Tryz.func103 (by kernel_rfl) rfl rfl ?_
  unfold nat_Add.f at h
  have ih := nat_Add.w k
  obtain ⟨v2, h0, h⟩ := bnd h
  obtain ⟨v4, h1, h⟩ := bnd h
  obtain ⟨h2, h⟩ := ifp h
  obtain ⟨h3, h⟩ := ifp h
  exact Til.mid Tryz.func103 5 [(2, ca (.c (.d (L103 v2)))), (4, ca (.c (.d (L103 v4)))), (13, Z103 (List.replicate (((wrap64 ((mx (v2.length : Int) (v4.length : Int)) + 1)) : Int).toNat) 0 : List Int))] (fun _ f => o (nat_Clean.does h0) (o (nat_Clean.does h1) (o (make_ok c103 0 [.int .u64 0] ⟨.refl _, trivial⟩ (wrap64 ((mx (v2.length : Int) (v4.length : Int)) + 1)) 8 35184372088832 (by decide) h2 h3) f))) (by kernel_rfl) (ih _ _ _ _ _ _ _ h)

theorem nat_Sub.does {k : Nat} {l0 : List Int} {l1 : List Int} {r : List Int × Int} (h : nat_Sub.f k l0 l1 = some r) :
    Does Tryz.prog 132 [.c (.d (L103 l0)), .c (.d (L103 l1))] [] (.tup [.c (.d (L103 r.1)), .c (.d (.int .i64 r.2))]) none [] := by
  refine does_fn Tryz.func132 (by kernel_rfl) rfl rfl ?_
  unfold nat_Sub.f at h
  obtain ⟨v3, h0, h⟩ := bnd h
  obtain ⟨v5, h1, h⟩ := bnd h
  obtain ⟨v10, h2, h⟩ := bnd h
  by_cases h3 : v10 < 0
  · rw [if_pos h3] at h
    obtain rfl := Option.some.inj h
    exact Til.fin Tryz.func132 [(3, ca (.c (.d (L103 v3)))), (5, ca (.c (.d (L103 v5)))), (10, ca (.c (.d (.int .i64 v10)))), (11, .b true)] (fun _ f => o (nat_Clean.does h0) (o (nat_Clean.does h1) (o (nat_order.does h2) (o (decide_eq_true h3) f)))) (by kernel_rfl)
  · rw [if_neg h3] at h
    obtain ⟨v14, h4, h⟩ := bnd h
    obtain rfl := Option.some.inj h
    exact Til.fin Tryz.func132 [(3, ca (.c (.d (L103 v3)))), (5, ca (.c (.d (L103 v5)))), (10, ca (.c (.d (.int .i64 v10)))), (11, .b false), (14, ca (.c (.d (L103 v14))))] (fun _ f => o (nat_Clean.does h0) (o (nat_Clean.does h1) (o (nat_order.does h2) (o (decide_eq_false h3) (o (nat_minus.does h4) f))))) (by kernel_rfl)

theorem whole_DivMod.does {k : Nat} {a0_0 : Bool} {l0_1 : List Int} {a1_0 : Bool} {l1_1 : List Int} {r : Bool × List Int × Bool × List Int × Int} (h : whole_DivMod.f k a0_0 l0_1 a1_0 l1_1 = some r) :
    Does Tryz.prog 98 [.agg [.d (.bool a0_0), .d (L103 l0_1)], .agg [.d (.bool a1_0), .d (L103 l1_1)]] [] (.tup [.agg [.d (.bool r.1), .d (L103 r.2.1)], .agg [.d (.bool r.2.2.1), .d (L103 r.2.2.2.1)], .c (.d (.int .i64 r.2.2.2.2))]) none [] := by
  refine does_fn Tryz.func98 (by kernel_rfl) rfl rfl ?_
  unfold whole_DivMod.f at h
  obtain ⟨v6, h0, h⟩ := bnd h
  obtain ⟨v8, h1, h⟩ := bnd h
  obtain ⟨v15, h2, h⟩ := bnd h
  by_cases h3 : v15.2.2 ≠ 0
  · rw [if_pos h3] at h
    obtain rfl := Option.some.inj h
    exact Til.fin Tryz.func98 [(6, ca (.agg [.d (.bool v6.1), .d (L103 v6.2)])), (8, ca (.agg [.d (.bool v8.1), .d (L103 v8.2)])), (15, ca (.tup [.c (.d (L103 v15.1)), .c (.d (L103 v15.2.1)), .c (.d (.int .i64 v15.2.2))])), (24, .b true)] (fun _ f => o (whole_Clean.does h0) (o (whole_Clean.does h1) (o (nat_DivMod.does h2) (o (bne_iff_ne.2 h3) f)))) (by kernel_rfl)
  · rw [if_neg h3] at h
    by_cases h4 : v6.1 ≠ v8.1
    · rw [if_pos h4] at h
      by_cases h5 : (v15.2.1.length : Int) > 0
      · rw [if_pos h5] at h
        obtain ⟨v36, h6, h⟩ := bnd h
        obtain ⟨v37, h7, h⟩ := bnd h
        obtain ⟨v42, h8, h⟩ := bnd h
        obtain ⟨v53, h9, h⟩ := bnd h
        obtain ⟨v57, h10, h⟩ := bnd h
        obtain rfl := Option.some.inj h
        exact Til.fin Tryz.func98 [(6, ca (.agg [.d (.bool v6.1), .d (L103 v6.2)])), (8, ca (.agg [.d (.bool v8.1), .d (L103 v8.2)])), (15, ca (.tup [.c (.d (L103 v15.1)), .c (.d (L103 v15.2.1)), .c (.d (.int .i64 v15.2.2))])), (24, .b false), (29, .b true), (33, .b true), (36, ca (.c (.d (L103 v36)))), (37, ca (.c (.d (L103 v37)))), (42, ca (.tup [.c (.d (L103 v42.1)), .c (.d (.int .i64 v42.2))])), (53, ca (.agg [.d (.bool v53.1), .d (L103 v53.2)])), (57, ca (.agg [.d (.bool v57.1), .d (L103 v57.2)]))] (fun _ f => o (whole_Clean.does h0) (o (whole_Clean.does h1) (o (nat_DivMod.does h2) (o (ne_f h3) (o (nb_t h4) (o (decide_eq_true h5) (o (nat_Of.does h6) (o (nat_Add.does h7) (o (nat_Sub.does h8) (o (whole_sign.does h9) (o (whole_sign.does h10) f))))))))))) (by kernel_rfl)
      · rw [if_neg h5] at h
        obtain ⟨v41, h6, h⟩ := bnd h
        obtain ⟨v45, h7, h⟩ := bnd h
        obtain rfl := Option.some.inj h
        exact Til.fin Tryz.func98 [(6, ca (.agg [.d (.bool v6.1), .d (L103 v6.2)])), (8, ca (.agg [.d (.bool v8.1), .d (L103 v8.2)])), (15, ca (.tup [.c (.d (L103 v15.1)), .c (.d (L103 v15.2.1)), .c (.d (.int .i64 v15.2.2))])), (24, .b false), (29, .b true), (33, .b false), (41, ca (.agg [.d (.bool v41.1), .d (L103 v41.2)])), (45, ca (.agg [.d (.bool v45.1), .d (L103 v45.2)]))] (fun _ f => o (whole_Clean.does h0) (o (whole_Clean.does h1) (o (nat_DivMod.does h2) (o (ne_f h3) (o (nb_t h4) (o (decide_eq_false h5) (o (whole_sign.does h6) (o (whole_sign.does h7) f)))))))) (by kernel_rfl)
    · rw [if_neg h4] at h
      obtain ⟨v41, h5, h⟩ := bnd h
      obtain ⟨v45, h6, h⟩ := bnd h
      obtain rfl := Option.some.inj h
      exact Til.fin Tryz.func98 [(6, ca (.agg [.d (.bool v6.1), .d (L103 v6.2)])), (8, ca (.agg [.d (.bool v8.1), .d (L103 v8.2)])), (15, ca (.tup [.c (.d (L103 v15.1)), .c (.d (L103 v15.2.1)), .c (.d (.int .i64 v15.2.2))])), (24, .b false), (29, .b false), (41, ca (.agg [.d (.bool v41.1), .d (L103 v41.2)])), (45, ca (.agg [.d (.bool v45.1), .d (L103 v45.2)]))] (fun _ f => o (whole_Clean.does h0) (o (whole_Clean.does h1) (o (nat_DivMod.does h2) (o (ne_f h3) (o (nb_f h4) (o (whole_sign.does h5) (o (whole_sign.does h6) f))))))) (by kernel_rfl)

theorem ratio_den.does {a0_0 : Bool} {l0_1 : List Int} {l0_2 : List Int} {r : Bool × List Int} (h : ratio_den.f a0_0 l0_1 l0_2 = some r) :
    Does Tryz.prog 99 [.agg [.d (.bool a0_0), .d (L103 l0_1), .d (L103 l0_2)]] [] (.agg [.d (.bool r.1), .d (L103 r.2)]) none [] := by
  refine does_fn Tryz.func99 (by kernel_rfl) rfl rfl ?_
  unfold ratio_den.f at h
  obtain rfl := Option.some.inj h
  exact Til.fin Tryz.func99 [] (fun _ f => f) (by kernel_rfl)

theorem ratio_Floor.does {k : Nat} {a0_0 : Bool} {l0_1 : List Int} {l0_2 : List Int} {r : Bool × List Int} (h : ratio_Floor.f k a0_0 l0_1 l0_2 = some r) :
    Does Tryz.prog 42 [.agg [.d (.bool a0_0), .d (L103 l0_1), .d (L103 l0_2)]] [] (.agg [.d (.bool r.1), .d (L103 r.2)]) none [] := by
  refine does_fn Tryz.func42 (by kernel_rfl) rfl rfl ?_
  unfold ratio_Floor.f at h
  obtain ⟨v3, h0, h⟩ := bnd h
  obtain ⟨v8, h1, h⟩ := bnd h
  obtain ⟨v9, h2, h⟩ := bnd h
  obtain rfl := Option.some.inj h
  exact Til.fin Tryz.func42 [(3, ca (.agg [.d (.bool v3.1), .d (L103 v3.2.1), .d (L103 v3.2.2)])), (8, ca (.agg [.d (.bool v8.1), .d (L103 v8.2)])), (9, ca (.tup [.agg [.d (.bool v9.1), .d (L103 v9.2.1)], .agg [.d (.bool v9.2.2.1), .d (L103 v9.2.2.2.1)], .c (.d (.int .i64 v9.2.2.2.2))]))] (fun _ f => o (ratio_Clean.does h0) (o (ratio_den.does h1) (o (whole_DivMod.does h2) f))) (by kernel_rfl)

theorem ratio_Neg.does {k : Nat} {a0_0 : Bool} {l0_1 : List Int} {l0_2 : List Int} {r : Bool × List Int × List Int} (h : ratio_Neg.f k a0_0 l0_1 l0_2 = some r) :
    Does Tryz.prog 78 [.agg [.d (.bool a0_0), .d (L103 l0_1), .d (L103 l0_2)]] [] (.agg [.d (.bool r.1), .d (L103 r.2.1), .d (L103 r.2.2)]) none [] := by
  refine does_fn Tryz.func78 (by kernel_rfl) rfl rfl ?_
  unfold ratio_Neg.f at h
  obtain ⟨v3, h0, h⟩ := bnd h
  obtain ⟨v7, h1, h⟩ := bnd h
  obtain rfl := Option.some.inj h
  exact Til.fin Tryz.func78 [(3, ca (.agg [.d (.bool v3.1), .d (L103 v3.2.1), .d (L103 v3.2.2)])), (7, ca (.agg [.d (.bool v7.1), .d (L103 v7.2)]))] (fun _ f => o (ratio_Clean.does h0) (o (whole_Neg.does h1) f)) (by kernel_rfl)

theorem ratio_Ceil.does {k : Nat} {a0_0 : Bool} {l0_1 : List Int} {l0_2 : List Int} {r : Bool × List Int} (h : ratio_Ceil.f k a0_0 l0_1 l0_2 = some r) :
    Does Tryz.prog 43 [.agg [.d (.bool a0_0), .d (L103 l0_1), .d (L103 l0_2)]] [] (.agg [.d (.bool r.1), .d (L103 r.2)]) none [] := by
  refine does_fn Tryz.func43 (by kernel_rfl) rfl rfl ?_
  unfold ratio_Ceil.f at h
  obtain ⟨v3, h0, h⟩ := bnd h
  obtain ⟨v4, h1, h⟩ := bnd h
  obtain ⟨v5, h2, h⟩ := bnd h
  obtain rfl := Option.some.inj h
  exact Til.fin Tryz.func43 [(3, ca (.agg [.d (.bool v3.1), .d (L103 v3.2.1), .d (L103 v3.2.2)])), (4, ca (.agg [.d (.bool v4.1), .d (L103 v4.2)])), (5, ca (.agg [.d (.bool v5.1), .d (L103 v5.2)]))] (fun _ f => o (ratio_Neg.does h0) (o (ratio_Floor.does h1) (o (whole_Neg.does h2) f))) (by kernel_rfl)

theorem nat_Cmp.does {k : Nat} {l0 : List Int} {l1 : List Int} {r : Int} (h : nat_Cmp.f k l0 l1 = some r) :
    Does Tryz.prog 102 [.c (.d (L103 l0)), .c (.d (L103 l1))] [] (.c (.d (.int .i64 r))) none [] := by
  refine does_fn Tryz.func102 (by kernel_rfl) rfl rfl ?_
  unfold nat_Cmp.f at h
  obtain ⟨v2, h0, h⟩ := bnd h
  obtain ⟨v4, h1, h⟩ := bnd h
  obtain ⟨v5, h2, h⟩ := bnd h
  obtain rfl := Option.some.inj h
  exact Til.fin Tryz.func102 [(2, ca (.c (.d (L103 v2)))), (4, ca (.c (.d (L103 v4)))), (5, ca (.c (.d (.int .i64 v5))))] (fun _ f => o (nat_Clean.does h0) (o (nat_Clean.does h1) (o (nat_order.does h2) f))) (by kernel_rfl)

theorem whole_Cmp.does {k : Nat} {a0_0 : Bool} {l0_1 : List Int} {a1_0 : Bool} {l1_1 : List Int} {r : Int} (h : whole_Cmp.f k a0_0 l0_1 a1_0 l1_1 = some r) :
    Does Tryz.prog 117 [.agg [.d (.bool a0_0), .d (L103 l0_1)], .agg [.d (.bool a1_0), .d (L103 l1_1)]] [] (.c (.d (.int .i64 r))) none [] := by
  refine does_fn Tryz.func117 (by kernel_rfl) rfl rfl ?_
  unfold whole_Cmp.f at h
  obtain ⟨v4, h0, h⟩ := bnd h
  obtain ⟨v6, h1, h⟩ := bnd h
  by_cases h2 : v4.1 ≠ v6.1
  · rw [if_pos h2] at h
    by_cases h3 : v4.1 = true
    · rw [if_pos h3] at h
      obtain rfl := Option.some.inj h
      exact Til.fin Tryz.func117 [(4, ca (.agg [.d (.bool v4.1), .d (L103 v4.2)])), (6, ca (.agg [.d (.bool v6.1), .d (L103 v6.2)])), (13, .b true), (16, .b true)] (fun _ f => o (whole_Clean.does h0) (o (whole_Clean.does h1) (o (nb_t h2) (o h3 f)))) (by kernel_rfl)
    · rw [if_neg h3] at h
      by_cases h4 : v4.1 ≠ v6.1
      · rw [if_pos h4] at h
        obtain rfl := Option.some.inj h
        exact Til.fin Tryz.func117 [(4, ca (.agg [.d (.bool v4.1), .d (L103 v4.2)])), (6, ca (.agg [.d (.bool v6.1), .d (L103 v6.2)])), (13, .b true), (16, .b false), (23, .b true)] (fun _ f => o (whole_Clean.does h0) (o (whole_Clean.does h1) (o (nb_t h2) (o (Bool.eq_false_iff.2 h3) (o (nb_t h4) f))))) (by kernel_rfl)
      · rw [if_neg h4] at h
        by_cases h5 : v4.1 = true
        · rw [if_pos h5] at h
          obtain ⟨v32, h6, h⟩ := bnd h
          obtain rfl := Option.some.inj h
          exact Til.fin Tryz.func117 [(4, ca (.agg [.d (.bool v4.1), .d (L103 v4.2)])), (6, ca (.agg [.d (.bool v6.1), .d (L103 v6.2)])), (13, .b true), (16, .b false), (23, .b false), (26, .b true), (32, ca (.c (.d (.int .i64 v32))))] (fun _ f => o (whole_Clean.does h0) (o (whole_Clean.does h1) (o (nb_t h2) (o (Bool.eq_false_iff.2 h3) (o (nb_f h4) (o h5 (o (nat_Cmp.does h6) f))))))) (by kernel_rfl)
        · rw [if_neg h5] at h
          obtain ⟨v32, h6, h⟩ := bnd h
          obtain rfl := Option.some.inj h
          exact Til.fin Tryz.func117 [(4, ca (.agg [.d (.bool v4.1), .d (L103 v4.2)])), (6, ca (.agg [.d (.bool v6.1), .d (L103 v6.2)])), (13, .b true), (16, .b false), (23, .b false), (26, .b false), (32, ca (.c (.d (.int .i64 v32))))] (fun _ f => o (whole_Clean.does h0) (o (whole_Clean.does h1) (o (nb_t h2) (o (Bool.eq_false_iff.2 h3) (o (nb_f h4) (o (Bool.eq_false_iff.2 h5) (o (nat_Cmp.does h6) f))))))) (by kernel_rfl)
  · rw [if_neg h2] at h
    by_cases h3 : v4.1 ≠ v6.1
    · rw [if_pos h3] at h
      obtain rfl := Option.some.inj h
      exact Til.fin Tryz.func117 [(4, ca (.agg [.d (.bool v4.1), .d (L103 v4.2)])), (6, ca (.agg [.d (.bool v6.1), .d (L103 v6.2)])), (13, .b false), (23, .b true)] (fun _ f => o (whole_Clean.does h0) (o (whole_Clean.does h1) (o (nb_f h2) (o (nb_t h3) f)))) (by kernel_rfl)
    · rw [if_neg h3] at h
      by_cases h4 : v4.1 = true
      · rw [if_pos h4] at h
        obtain ⟨v32, h5, h⟩ := bnd h
        obtain rfl := Option.some.inj h
        exact Til.fin Tryz.func117 [(4, ca (.agg [.d (.bool v4.1), .d (L103 v4.2)])), (6, ca (.agg [.d (.bool v6.1), .d (L103 v6.2)])), (13, .b false), (23, .b false), (26, .b true), (32, ca (.c (.d (.int .i64 v32))))] (fun _ f => o (whole_Clean.does h0) (o (whole_Clean.does h1) (o (nb_f h2) (o (nb_f h3) (o h4 (o (nat_Cmp.does h5) f)))))) (by kernel_rfl)
      · rw [if_neg h4] at h
        obtain ⟨v32, h5, h⟩ := bnd h
        obtain rfl := Option.some.inj h
        exact Til.fin Tryz.func117 [(4, ca (.agg [.d (.bool v4.1), .d (L103 v4.2)])), (6, ca (.agg [.d (.bool v6.1), .d (L103 v6.2)])), (13, .b false), (23, .b false), (26, .b false), (32, ca (.c (.d (.int .i64 v32))))] (fun _ f => o (whole_Clean.does h0) (o (whole_Clean.does h1) (o (nb_f h2) (o (nb_f h3) (o (Bool.eq_false_iff.2 h4) (o (nat_Cmp.does h5) f)))))) (by kernel_rfl)

def nat_Mul.l0E (x1 : List Int) (x5 : List Int) (x21 : List Int) (x22 : Int) (x23 : Int) : Env := [(1, .c (.d (L103 x1))), (5, .c (.own 5)), (21, .c (.d (L103 x21))), (22, .c (.d (.int .i64 x22))), (23, .c (.d (.int .i64 x23)))]
def nat_Mul.l0B (x1 : List Int) (x5 : List Int) (x21 : List Int) (x22 : Int) (x23 : Int) : Obs := [(5, some (O103 .own x5))]
def nat_Mul.l1E (x1 : List Int) (x5 : List Int) (x6 : Int) (x7 : Int) (x8 : Int) (x21 : List Int) (x22 : Int) (x23 : Int) (x28 : List Int) (x29 : Int) (x30 : Int) : Env := [(1, .c (.d (L103 x1))), (5, .c (.own 5)), (6, .c (.d (.int .i64 x6))), (7, .c (.d (.int .u64 x7))), (8, .c (.d (.int .u64 x8))), (21, .c (.d (L103 x21))), (22, .c (.d (.int .i64 x22))), (23, .c (.d (.int .i64 x23))), (28, .c (.d (L103 x28))), (29, .c (.d (.int .i64 x29))), (30, .c (.d (.int .i64 x30)))]
def nat_Mul.l1B (x1 : List Int) (x5 : List Int) (x6 : Int) (x7 : Int) (x8 : Int) (x21 : List Int) (x22 : Int) (x23 : Int) (x28 : List Int) (x29 : Int) (x30 : Int) : Obs := [(5, some (O103 .own x5))]
theorem nat_Mul.w (k : Nat) : (∀  (x1 : List Int) (x5 : List Int) (x21 : List Int) (x22 : Int) (x23 : Int) (r : List Int), nat_Mul.l0 k x1 x5 x21 x22 x23 = some r → Til Tryz.prog 119 [] (.c (.d (L103 r))) none [] (at_ Tryz.f119 4) (nat_Mul.l0E x1 x5 x21 x22 x23) (nat_Mul.l0B x1 x5 x21 x22 x23)) ∧
    (∀  (x1 : List Int) (x5 : List Int) (x6 : Int) (x7 : Int) (x8 : Int) (x21 : List Int) (x22 : Int) (x23 : Int) (x28 : List Int) (x29 : Int) (x30 : Int) (r : List Int), nat_Mul.l1 k x1 x5 x6 x7 x8 x21 x22 x23 x28 x29 x30 = some r → Til Tryz.prog 119 [] (.c (.d (L103 r))) none [] (at_ Tryz.f119 8) (nat_Mul.l1E x1 x5 x6 x7 x8 x21 x22 x23 x28 x29 x30) (nat_Mul.l1B x1 x5 x6 x7 x8 x21 x22 x23 x28 x29 x30)) := by
  induction k with
  | zero =>
    exact ⟨fun _ _ _ _ _ _ h => (by cases h), fun _ _ _ _ _ _ _ _ _ _ _ _ h => (by cases h)⟩
  | succ k ih =>
    refine ⟨?_, ?_⟩
    · intro x1 x5 x21 x22 x23 r h
      rw [nat_Mul.l0] at h
      by_cases h0 : x23 < x22
      · rw [if_pos h0] at h
        obtain ⟨h1, h⟩ := ifp h
        obtain ⟨h2, h⟩ := ifp h
        exact Til.mid Tryz.func119 8 [(0, .b true)] (fun _ f => o (decide_eq_true h0) (o (o h1 h2) f)) (by kernel_rfl) (ih.2 _ _ _ _ _ _ _ _ _ _ _ _ h)
      · rw [if_neg h0] at h
        obtain ⟨v2, h1, h⟩ := bnd h
        obtain rfl := Option.some.inj h
        exact Til.fin Tryz.func119 [(0, .b false), (2, ca (.c (.d (L103 v2))))] (fun _ f => o (decide_eq_false h0) (o (nat_trim.does h1) f)) (by kernel_rfl)
    · intro x1 x5 x6 x7 x8 x21 x22 x23 x28 x29 x30 r h
      rw [nat_Mul.l1] at h
      by_cases h0 : x30 < x29
      · rw [if_pos h0] at h
        obtain ⟨h1, h⟩ := ifp h
        obtain ⟨h2, h⟩ := ifp h
        obtain ⟨h3, h⟩ := ifp h
        obtain ⟨h4, h⟩ := ifp h
        exact Til.mid Tryz.func119 8 [(0, .b true), (26, Z103 (x5.set (((wrap64 (x6 + x30)) : Int).toNat) (Go.bits .and .u64 (IntKind.u64.wrap (x8 + (IntKind.u64.wrap ((rd x5 (wrap64 (x6 + x30))) + (IntKind.u64.wrap (x7 * (rd x28 x30))))))) 4294967295)))] (fun _ f => o (decide_eq_true h0) (o (o h1 h2) (o (o h3 h4) (o (o h3 h4) (o (set_ok c103 0 (fun _ _ => rfl) x5 (((wrap64 (x6 + x30)) : Int).toNat) (Go.bits .and .u64 (IntKind.u64.wrap (x8 + (IntKind.u64.wrap ((rd x5 (wrap64 (x6 + x30))) + (IntKind.u64.wrap (x7 * (rd x28 x30))))))) 4294967295) (lt_ok h3 h4)) (o (nn 32) f)))))) (by kernel_rfl) (ih.2 _ _ _ _ _ _ _ _ _ _ _ _ h)
      · rw [if_neg h0] at h
        obtain ⟨h1, h⟩ := ifp h
        obtain ⟨h2, h⟩ := ifp h
        exact Til.mid Tryz.func119 4 [(0, .b false), (8, Z103 (x5.set (((wrap64 (x6 + (x1.length : Int))) : Int).toNat) x8))] (fun _ f => o (decide_eq_false h0) (o (o h1 h2) (o (set_ok c103 0 (fun _ _ => rfl) x5 (((wrap64 (x6 + (x1.length : Int))) : Int).toNat) x8 (lt_ok h1 h2)) f))) (by kernel_rfl) (ih.1 _ _ _ _ _ _ h)
theorem nat_Mul.does {k : Nat} {l0 : List Int} {l1 : List Int} {r : List Int} (h : nat_Mul.f k l0 l1 = some r) :
    Does Tryz.prog 119 [.c (.d (L103 l0)), .c (.d (L103 l1))] [] (.c (.d (L103 r))) none [] := by
  refine does_fn Tryz.func119 (by kernel_rfl) rfl rfl ?_
  unfold nat_Mul.f at h
  have ih := nat_Mul.w k
  obtain ⟨v2, h0, h⟩ := bnd h
  obtain ⟨v4, h1, h⟩ := bnd h
  obtain ⟨h2, h⟩ := ifp h
  obtain ⟨h3, h⟩ := ifp h
  exact Til.mid Tryz.func119 4 [(2, ca (.c (.d (L103 v2)))), (4, ca (.c (.d (L103 v4)))), (12, Z103 (List.replicate (((wrap64 ((v2.length : Int) + (v4.length : Int))) : Int).toNat) 0 : List Int))] (fun _ f => o (nat_Clean.does h0) (o (nat_Clean.does h1) (o (make_ok c103 0 [.int .u64 0] ⟨.refl _, trivial⟩ (wrap64 ((v2.length : Int) + (v4.length : Int))) 8 35184372088832 (by decide) h2 h3) f))) (by kernel_rfl) (ih.1 _ _ _ _ _ _ h)

theorem whole_Mul.does {k : Nat} {a0_0 : Bool} {l0_1 : List Int} {a1_0 : Bool} {l1_1 : List Int} {r : Bool × List Int} (h : whole_Mul.f k a0_0 l0_1 a1_0 l1_1 = some r) :
    Does Tryz.prog 118 [.agg [.d (.bool a0_0), .d (L103 l0_1)], .agg [.d (.bool a1_0), .d (L103 l1_1)]] [] (.agg [.d (.bool r.1), .d (L103 r.2)]) none [] := by
  refine does_fn Tryz.func118 (by kernel_rfl) rfl rfl ?_
  unfold whole_Mul.f at h
  obtain ⟨v4, h0, h⟩ := bnd h
  obtain ⟨v6, h1, h⟩ := bnd h
  obtain ⟨v18, h2, h⟩ := bnd h
  obtain ⟨v19, h3, h⟩ := bnd h
  obtain rfl := Option.some.inj h
  exact Til.fin Tryz.func118 [(4, ca (.agg [.d (.bool v4.1), .d (L103 v4.2)])), (6, ca (.agg [.d (.bool v6.1), .d (L103 v6.2)])), (18, ca (.c (.d (L103 v18)))), (19, ca (.agg [.d (.bool v19.1), .d (L103 v19.2)]))] (fun _ f => o (whole_Clean.does h0) (o (whole_Clean.does h1) (o (nat_Mul.does h2) (o (whole_sign.does h3) f)))) (by kernel_rfl)

theorem ratio_Cmp.does {k : Nat} {a0_0 : Bool} {l0_1 : List Int} {l0_2 : List Int} {a1_0 : Bool} {l1_1 : List Int} {l1_2 : List Int} {r : Int} (h : ratio_Cmp.f k a0_0 l0_1 l0_2 a1_0 l1_1 l1_2 = some r) :
    Does Tryz.prog 62 [.agg [.d (.bool a0_0), .d (L103 l0_1), .d (L103 l0_2)], .agg [.d (.bool a1_0), .d (L103 l1_1), .d (L103 l1_2)]] [] (.c (.d (.int .i64 r))) none [] := by
  refine does_fn Tryz.func62 (by kernel_rfl) rfl rfl ?_
  unfold ratio_Cmp.f at h
  obtain ⟨v4, h0, h⟩ := bnd h
  obtain ⟨v6, h1, h⟩ := bnd h
  obtain ⟨v12, h2, h⟩ := bnd h
  obtain ⟨v13, h3, h⟩ := bnd h
  obtain ⟨v17, h4, h⟩ := bnd h
  obtain ⟨v18, h5, h⟩ := bnd h
  obtain ⟨v19, h6, h⟩ := bnd h
  obtain rfl := Option.some.inj h
  exact Til.fin Tryz.func62 [(4, ca (.agg [.d (.bool v4.1), .d (L103 v4.2.1), .d (L103 v4.2.2)])), (6, ca (.agg [.d (.bool v6.1), .d (L103 v6.2.1), .d (L103 v6.2.2)])), (12, ca (.agg [.d (.bool v12.1), .d (L103 v12.2)])), (13, ca (.agg [.d (.bool v13.1), .d (L103 v13.2)])), (17, ca (.agg [.d (.bool v17.1), .d (L103 v17.2)])), (18, ca (.agg [.d (.bool v18.1), .d (L103 v18.2)])), (19, ca (.c (.d (.int .i64 v19))))] (fun _ f => o (ratio_Clean.does h0) (o (ratio_Clean.does h1) (o (ratio_den.does h2) (o (whole_Mul.does h3) (o (ratio_den.does h4) (o (whole_Mul.does h5) (o (whole_Cmp.does h6) f))))))) (by kernel_rfl)

theorem whole_Add.does {k : Nat} {a0_0 : Bool} {l0_1 : List Int} {a1_0 : Bool} {l1_1 : List Int} {r : Bool × List Int} (h : whole_Add.f k a0_0 l0_1 a1_0 l1_1 = some r) :
    Does Tryz.prog 94 [.agg [.d (.bool a0_0), .d (L103 l0_1)], .agg [.d (.bool a1_0), .d (L103 l1_1)]] [] (.agg [.d (.bool r.1), .d (L103 r.2)]) none [] := by
  refine does_fn Tryz.func94 (by kernel_rfl) rfl rfl ?_
  unfold whole_Add.f at h
  obtain ⟨v4, h0, h⟩ := bnd h
  obtain ⟨v6, h1, h⟩ := bnd h
  by_cases h2 : v4.1 = v6.1
  · rw [if_pos h2] at h
    obtain ⟨v20, h3, h⟩ := bnd h
    obtain ⟨v21, h4, h⟩ := bnd h
    obtain rfl := Option.some.inj h
    exact Til.fin Tryz.func94 [(4, ca (.agg [.d (.bool v4.1), .d (L103 v4.2)])), (6, ca (.agg [.d (.bool v6.1), .d (L103 v6.2)])), (13, .b true), (20, ca (.c (.d (L103 v20)))), (21, ca (.agg [.d (.bool v21.1), .d (L103 v21.2)]))] (fun _ f => o (whole_Clean.does h0) (o (whole_Clean.does h1) (o (beq_iff_eq.2 h2) (o (nat_Add.does h3) (o (whole_sign.does h4) f))))) (by kernel_rfl)
  · rw [if_neg h2] at h
    obtain ⟨v18, h3, h⟩ := bnd h
    by_cases h4 : v18 < 0
    · rw [if_pos h4] at h
      obtain ⟨v28, h5, h⟩ := bnd h
      obtain ⟨v37, h6, h⟩ := bnd h
      obtain rfl := Option.some.inj h
      exact Til.fin Tryz.func94 [(4, ca (.agg [.d (.bool v4.1), .d (L103 v4.2)])), (6, ca (.agg [.d (.bool v6.1), .d (L103 v6.2)])), (13, .b false), (18, ca (.c (.d (.int .i64 v18)))), (19, .b true), (28, ca (.tup [.c (.d (L103 v28.1)), .c (.d (.int .i64 v28.2))])), (37, ca (.agg [.d (.bool v37.1), .d (L103 v37.2)]))] (fun _ f => o (whole_Clean.does h0) (o (whole_Clean.does h1) (o (beq_false_of_ne h2) (o (nat_Cmp.does h3) (o (decide_eq_true h4) (o (nat_Sub.does h5) (o (whole_sign.does h6) f))))))) (by kernel_rfl)
    · rw [if_neg h4] at h
      obtain ⟨v24, h5, h⟩ := bnd h
      obtain ⟨v33, h6, h⟩ := bnd h
      obtain rfl := Option.some.inj h
      exact Til.fin Tryz.func94 [(4, ca (.agg [.d (.bool v4.1), .d (L103 v4.2)])), (6, ca (.agg [.d (.bool v6.1), .d (L103 v6.2)])), (13, .b false), (18, ca (.c (.d (.int .i64 v18)))), (19, .b false), (24, ca (.tup [.c (.d (L103 v24.1)), .c (.d (.int .i64 v24.2))])), (33, ca (.agg [.d (.bool v33.1), .d (L103 v33.2)]))] (fun _ f => o (whole_Clean.does h0) (o (whole_Clean.does h1) (o (beq_false_of_ne h2) (o (nat_Cmp.does h3) (o (decide_eq_false h4) (o (nat_Sub.does h5) (o (whole_sign.does h6) f))))))) (by kernel_rfl)

theorem ratio_Add.does {k : Nat} {a0_0 : Bool} {l0_1 : List Int} {l0_2 : List Int} {a1_0 : Bool} {l1_1 : List Int} {l1_2 : List Int} {r : Bool × List Int × List Int} (h : ratio_Add.f k a0_0 l0_1 l0_2 a1_0 l1_1 l1_2 = some r) :
    Does Tryz.prog 66 [.agg [.d (.bool a0_0), .d (L103 l0_1), .d (L103 l0_2)], .agg [.d (.bool a1_0), .d (L103 l1_1), .d (L103 l1_2)]] [] (.agg [.d (.bool r.1), .d (L103 r.2.1), .d (L103 r.2.2)]) none [] := by
  refine does_fn Tryz.func66 (by kernel_rfl) rfl rfl ?_
  unfold ratio_Add.f at h
  obtain ⟨v4, h0, h⟩ := bnd h
  obtain ⟨v6, h1, h⟩ := bnd h
  obtain ⟨v12, h2, h⟩ := bnd h
  obtain ⟨v13, h3, h⟩ := bnd h
  obtain ⟨v17, h4, h⟩ := bnd h
  obtain ⟨v18, h5, h⟩ := bnd h
  obtain ⟨v19, h6, h⟩ := bnd h
  obtain ⟨v24, h7, h⟩ := bnd h
  obtain ⟨v25, h8, h⟩ := bnd h
  obtain rfl := Option.some.inj h
  exact Til.fin Tryz.func66 [(4, ca (.agg [.d (.bool v4.1), .d (L103 v4.2.1), .d (L103 v4.2.2)])), (6, ca (.agg [.d (.bool v6.1), .d (L103 v6.2.1), .d (L103 v6.2.2)])), (12, ca (.agg [.d (.bool v12.1), .d (L103 v12.2)])), (13, ca (.agg [.d (.bool v13.1), .d (L103 v13.2)])), (17, ca (.agg [.d (.bool v17.1), .d (L103 v17.2)])), (18, ca (.agg [.d (.bool v18.1), .d (L103 v18.2)])), (19, ca (.agg [.d (.bool v19.1), .d (L103 v19.2)])), (24, ca (.c (.d (L103 v24)))), (25, ca (.agg [.d (.bool v25.1), .d (L103 v25.2.1), .d (L103 v25.2.2)]))] (fun _ f => o (ratio_Clean.does h0) (o (ratio_Clean.does h1) (o (ratio_den.does h2) (o (whole_Mul.does h3) (o (ratio_den.does h4) (o (whole_Mul.does h5) (o (whole_Add.does h6) (o (nat_Mul.does h7) (o (ratio_form.does h8) f))))))))) (by kernel_rfl)

theorem ratio_Sub.does {k : Nat} {a0_0 : Bool} {l0_1 : List Int} {l0_2 : List Int} {a1_0 : Bool} {l1_1 : List Int} {l1_2 : List Int} {r : Bool × List Int × List Int} (h : ratio_Sub.f k a0_0 l0_1 l0_2 a1_0 l1_1 l1_2 = some r) :
    Does Tryz.prog 67 [.agg [.d (.bool a0_0), .d (L103 l0_1), .d (L103 l0_2)], .agg [.d (.bool a1_0), .d (L103 l1_1), .d (L103 l1_2)]] [] (.agg [.d (.bool r.1), .d (L103 r.2.1), .d (L103 r.2.2)]) none [] := by
  refine does_fn Tryz.func67 (by kernel_rfl) rfl rfl ?_
  unfold ratio_Sub.f at h
  obtain ⟨v5, h0, h⟩ := bnd h
  obtain ⟨v6, h1, h⟩ := bnd h
  obtain rfl := Option.some.inj h
  exact Til.fin Tryz.func67 [(5, ca (.agg [.d (.bool v5.1), .d (L103 v5.2.1), .d (L103 v5.2.2)])), (6, ca (.agg [.d (.bool v6.1), .d (L103 v6.2.1), .d (L103 v6.2.2)]))] (fun _ f => o (ratio_Neg.does h0) (o (ratio_Add.does h1) f)) (by kernel_rfl)

theorem ratio_Sign.does {k : Nat} {a0_0 : Bool} {l0_1 : List Int} {l0_2 : List Int} {r : Int} (h : ratio_Sign.f k a0_0 l0_1 l0_2 = some r) :
    Does Tryz.prog 76 [.agg [.d (.bool a0_0), .d (L103 l0_1), .d (L103 l0_2)]] [] (.c (.d (.int .i64 r))) none [] := by
  refine does_fn Tryz.func76 (by kernel_rfl) rfl rfl ?_
  unfold ratio_Sign.f at h
  obtain ⟨v3, h0, h⟩ := bnd h
  obtain ⟨v5, h1, h⟩ := bnd h
  obtain rfl := Option.some.inj h
  exact Til.fin Tryz.func76 [(3, ca (.agg [.d (.bool v3.1), .d (L103 v3.2.1), .d (L103 v3.2.2)])), (5, ca (.c (.d (.int .i64 v5))))] (fun _ f => o (ratio_Clean.does h0) (o (whole_Sign.does h1) f)) (by kernel_rfl)

theorem ratio_Mul.does {k : Nat} {a0_0 : Bool} {l0_1 : List Int} {l0_2 : List Int} {a1_0 : Bool} {l1_1 : List Int} {l1_2 : List Int} {r : Bool × List Int × List Int} (h : ratio_Mul.f k a0_0 l0_1 l0_2 a1_0 l1_1 l1_2 = some r) :
    Does Tryz.prog 68 [.agg [.d (.bool a0_0), .d (L103 l0_1), .d (L103 l0_2)], .agg [.d (.bool a1_0), .d (L103 l1_1), .d (L103 l1_2)]] [] (.agg [.d (.bool r.1), .d (L103 r.2.1), .d (L103 r.2.2)]) none [] := by
  refine does_fn Tryz.func68 (by kernel_rfl) rfl rfl ?_
  unfold ratio_Mul.f at h
  obtain ⟨v4, h0, h⟩ := bnd h
  obtain ⟨v6, h1, h⟩ := bnd h
  obtain ⟨v13, h2, h⟩ := bnd h
  obtain ⟨v18, h3, h⟩ := bnd h
  obtain ⟨v19, h4, h⟩ := bnd h
  obtain rfl := Option.some.inj h
  exact Til.fin Tryz.func68 [(4, ca (.agg [.d (.bool v4.1), .d (L103 v4.2.1), .d (L103 v4.2.2)])), (6, ca (.agg [.d (.bool v6.1), .d (L103 v6.2.1), .d (L103 v6.2.2)])), (13, ca (.agg [.d (.bool v13.1), .d (L103 v13.2)])), (18, ca (.c (.d (L103 v18)))), (19, ca (.agg [.d (.bool v19.1), .d (L103 v19.2.1), .d (L103 v19.2.2)]))] (fun _ f => o (ratio_Clean.does h0) (o (ratio_Clean.does h1) (o (whole_Mul.does h2) (o (nat_Mul.does h3) (o (ratio_form.does h4) f))))) (by kernel_rfl)

theorem ratio_Inv.does {k : Nat} {a0_0 : Bool} {l0_1 : List Int} {l0_2 : List Int} {r : Bool × List Int × List Int × Int} (h : ratio_Inv.f k a0_0 l0_1 l0_2 = some r) :
    Does Tryz.prog 70 [.agg [.d (.bool a0_0), .d (L103 l0_1), .d (L103 l0_2)]] [] (.tup [.agg [.d (.bool r.1), .d (L103 r.2.1), .d (L103 r.2.2.1)], .c (.d (.int .i64 r.2.2.2))]) none [] := by
  refine does_fn Tryz.func70 (by kernel_rfl) rfl rfl ?_
  unfold ratio_Inv.f at h
  obtain ⟨v4, h0, h⟩ := bnd h
  obtain ⟨v7, h1, h⟩ := bnd h
  obtain ⟨v10, h2, h⟩ := bnd h
  obtain rfl := Option.some.inj h
  exact Til.fin Tryz.func70 [(4, ca (.agg [.d (.bool v4.1), .d (L103 v4.2.1), .d (L103 v4.2.2)])), (7, ca (.agg [.d (.bool v7.1), .d (L103 v7.2)])), (10, ca (.tup [.agg [.d (.bool v10.1), .d (L103 v10.2.1), .d (L103 v10.2.2.1)], .c (.d (.int .i64 v10.2.2.2))]))] (fun _ f => o (ratio_Clean.does h0) (o (ratio_den.does h1) (o (ratio_Make.does h2) f))) (by kernel_rfl)

theorem ratio_Div.does {k : Nat} {a0_0 : Bool} {l0_1 : List Int} {l0_2 : List Int} {a1_0 : Bool} {l1_1 : List Int} {l1_2 : List Int} {r : Bool × List Int × List Int × Int} (h : ratio_Div.f k a0_0 l0_1 l0_2 a1_0 l1_1 l1_2 = some r) :
    Does Tryz.prog 69 [.agg [.d (.bool a0_0), .d (L103 l0_1), .d (L103 l0_2)], .agg [.d (.bool a1_0), .d (L103 l1_1), .d (L103 l1_2)]] [] (.tup [.agg [.d (.bool r.1), .d (L103 r.2.1), .d (L103 r.2.2.1)], .c (.d (.int .i64 r.2.2.2))]) none [] := by
  refine does_fn Tryz.func69 (by kernel_rfl) rfl rfl ?_
  unfold ratio_Div.f at h
  obtain ⟨v5, h0, h⟩ := bnd h
  by_cases h1 : v5.2.2.2 ≠ 0
  · rw [if_pos h1] at h
    obtain rfl := Option.some.inj h
    exact Til.fin Tryz.func69 [(5, ca (.tup [.agg [.d (.bool v5.1), .d (L103 v5.2.1), .d (L103 v5.2.2.1)], .c (.d (.int .i64 v5.2.2.2))])), (13, .b true)] (fun _ f => o (ratio_Inv.does h0) (o (bne_iff_ne.2 h1) f)) (by kernel_rfl)
  · rw [if_neg h1] at h
    obtain ⟨v16, h2, h⟩ := bnd h
    obtain rfl := Option.some.inj h
    exact Til.fin Tryz.func69 [(5, ca (.tup [.agg [.d (.bool v5.1), .d (L103 v5.2.1), .d (L103 v5.2.2.1)], .c (.d (.int .i64 v5.2.2.2))])), (13, .b false), (16, ca (.agg [.d (.bool v16.1), .d (L103 v16.2.1), .d (L103 v16.2.2)]))] (fun _ f => o (ratio_Inv.does h0) (o (ne_f h1) (o (ratio_Mul.does h2) f))) (by kernel_rfl)

theorem ratio_over.does {k : Nat} {a0_0 : Bool} {l0_1 : List Int} {l0_2 : List Int} {a1_0 : Bool} {l1_1 : List Int} {l1_2 : List Int} {r : Bool × List Int × List Int} (h : ratio_over.f k a0_0 l0_1 l0_2 a1_0 l1_1 l1_2 = some r) :
    Does Tryz.prog 101 [.agg [.d (.bool a0_0), .d (L103 l0_1), .d (L103 l0_2)], .agg [.d (.bool a1_0), .d (L103 l1_1), .d (L103 l1_2)]] [] (.agg [.d (.bool r.1), .d (L103 r.2.1), .d (L103 r.2.2)]) none [] := by
  refine does_fn Tryz.func101 (by kernel_rfl) rfl rfl ?_
  unfold ratio_over.f at h
  obtain ⟨v5, h0, h⟩ := bnd h
  obtain rfl := Option.some.inj h
  exact Til.fin Tryz.func101 [(5, ca (.tup [.agg [.d (.bool v5.1), .d (L103 v5.2.1), .d (L103 v5.2.2.1)], .c (.d (.int .i64 v5.2.2.2))]))] (fun _ f => o (ratio_Div.does h0) f) (by kernel_rfl)

def c27 (x : Bool × List Int × List Int) : List Dat := [.bool x.1, L103 x.2.1, L103 x.2.2]
def L27 (xs : List (Bool × List Int × List Int)) : Dat := fr 3 c27 (false, [], []) xs
def Z27 (xs : List (Bool × List Int × List Int)) : Sup := .r xs.length (enc c27 (false, [], []) xs)
def O27 (k : RK) (xs : List (Bool × List Int × List Int)) : Ob := .row k 27 3 xs.length (enc c27 (false, [], []) xs)

def ratio_unfold.l0E (x0 : List (Bool × List Int × List Int)) (x5 : Int) (b3_0 : Bool) (b3_1 : List Int) (b3_2 : List Int) (b4_0 : Bool) : Env := [(0, .c (.d (L27 x0))), (3, .c (.ptr 3 0)), (4, .c (.ptr 4 0)), (5, .c (.d (.int .i64 x5)))]
def ratio_unfold.l0B (x0 : List (Bool × List Int × List Int)) (x5 : Int) (b3_0 : Bool) (b3_1 : List Int) (b3_2 : List Int) (b4_0 : Bool) : Obs := [(3, some (.box [.d (.bool b3_0), .d (L103 b3_1), .d (L103 b3_2)])), (4, some (.box [.d (.bool b4_0), .nils, .nils]))]
theorem ratio_unfold.w (k : Nat) : (∀  (x0 : List (Bool × List Int × List Int)) (x5 : Int) (b3_0 : Bool) (b3_1 : List Int) (b3_2 : List Int) (b4_0 : Bool) (r : Bool × List Int × List Int), ratio_unfold.l0 k x0 x5 b3_0 b3_1 b3_2 b4_0 = some r → Til Tryz.prog 100 [] (.agg [.d (.bool r.1), .d (L103 r.2.1), .d (L103 r.2.2)]) none [] (at_ Tryz.f100 2) (ratio_unfold.l0E x0 x5 b3_0 b3_1 b3_2 b4_0) (ratio_unfold.l0B x0 x5 b3_0 b3_1 b3_2 b4_0)) := by
  induction k with
  | zero =>
    exact fun _ _ _ _ _ _ _ h => (by cases h)
  | succ k ih =>
    intro x0 x5 b3_0 b3_1 b3_2 b4_0 r h
    rw [ratio_unfold.l0] at h
    by_cases h0 : x5 ≥ 0
    · rw [if_pos h0] at h
      obtain ⟨h1, h⟩ := ifp h
      obtain ⟨v6, h2, h⟩ := bnd h
      obtain ⟨v8, h3, h⟩ := bnd h
      obtain ⟨v9, h4, h⟩ := bnd h
      exact Til.mid Tryz.func100 2 [(1, .b true), (6, ca (.agg [.d (.bool v6.1), .d (L103 v6.2.1), .d (L103 v6.2.2)])), (8, ca (.agg [.d (.bool v8.1), .d (L103 v8.2.1), .d (L103 v8.2.2)])), (9, ca (.agg [.d (.bool v9.1), .d (L103 v9.2.1), .d (L103 v9.2.2)]))] (fun _ f => o (decide_eq_true h0) (o (o h0 h1) (o (ratio_One.does h2) (o (ratio_over.does h3) (o (ratio_Add.does h4) f))))) (by kernel_rfl) (ih _ _ _ _ _ _ _ h)
    · rw [if_neg h0] at h
      obtain rfl := Option.some.inj h
      exact Til.fin Tryz.func100 [(1, .b false)] (fun _ f => o (decide_eq_false h0) f) (by kernel_rfl)
theorem ratio_unfold.does {k : Nat} {l0 : List (Bool × List Int × List Int)} {a1_0 : Bool} {l1_1 : List Int} {l1_2 : List Int} {r : Bool × List Int × List Int} (h : ratio_unfold.f k l0 a1_0 l1_1 l1_2 = some r) :
    Does Tryz.prog 100 [.c (.d (L27 l0)), .agg [.d (.bool a1_0), .d (L103 l1_1), .d (L103 l1_2)]] [] (.agg [.d (.bool r.1), .d (L103 r.2.1), .d (L103 r.2.2)]) none [] := by
  refine does_fn Tryz.func100 (by kernel_rfl) rfl rfl ?_
  unfold ratio_unfold.f at h
  have ih := ratio_unfold.w k
  exact Til.mid Tryz.func100 2 [] (fun _ f => f) (by kernel_rfl) (ih _ _ _ _ _ _ _ h)

def ratio_Simplest.l0E (x8 : List (Bool × List Int × List Int)) (b2_0 : Bool) (b2_1 : List Int) (b2_2 : List Int) (b3_0 : Bool) (b3_1 : List Int) (b3_2 : List Int) (b4_0 : Bool) : Env := [(2, .c (.ptr 2 0)), (3, .c (.ptr 3 0)), (4, .c (.ptr 4 0)), (8, .c (.own 8))]
def ratio_Simplest.l0B (x8 : List (Bool × List Int × List Int)) (b2_0 : Bool) (b2_1 : List Int) (b2_2 : List Int) (b3_0 : Bool) (b3_1 : List Int) (b3_2 : List Int) (b4_0 : Bool) : Obs := [(2, some (.box [.d (.bool b2_0), .d (L103 b2_1), .d (L103 b2_2)])), (3, some (.box [.d (.bool b3_0), .d (L103 b3_1), .d (L103 b3_2)])), (4, some (.box [.d (.bool b4_0), .nils, .nils])), (8, some (O27 .own x8))]
theorem ratio_Simplest.w (k : Nat) : (∀  (x8 : List (Bool × List Int × List Int)) (b2_0 : Bool) (b2_1 : List Int) (b2_2 : List Int) (b3_0 : Bool) (b3_1 : List Int) (b3_2 : List Int) (b4_0 : Bool) (r : Bool × List Int × List Int × Int), ratio_Simplest.l0 k x8 b2_0 b2_1 b2_2 b3_0 b3_1 b3_2 b4_0 = some r → Til Tryz.prog 45 [] (.tup [.agg [.d (.bool r.1), .d (L103 r.2.1), .d (L103 r.2.2.1)], .c (.d (.int .i64 r.2.2.2))]) none [] (at_ Tryz.f45 10) (ratio_Simplest.l0E x8 b2_0 b2_1 b2_2 b3_0 b3_1 b3_2 b4_0) (ratio_Simplest.l0B x8 b2_0 b2_1 b2_2 b3_0 b3_1 b3_2 b4_0)) ∧
    (∀ (a0_0 : Bool) (l0_1 : List Int) (l0_2 : List Int) (a1_0 : Bool) (l1_1 : List Int) (l1_2 : List Int) (r : Bool × List Int × List Int × Int), ratio_Simplest.f k a0_0 l0_1 l0_2 a1_0 l1_1 l1_2 = some r → Does Tryz.prog 45 [.agg [.d (.bool a0_0), .d (L103 l0_1), .d (L103 l0_2)], .agg [.d (.bool a1_0), .d (L103 l1_1), .d (L103 l1_2)]] [] (.tup [.agg [.d (.bool r.1), .d (L103 r.2.1), .d (L103 r.2.2.1)], .c (.d (.int .i64 r.2.2.2))]) none []) := by
  induction k with
  | zero =>
    exact ⟨fun _ _ _ _ _ _ _ _ _ h => (by cases h), fun _ _ _ _ _ _ _ h => (by cases h)⟩
  | succ k ih =>
    refine ⟨?_, ?_⟩
    · intro x8 b2_0 b2_1 b2_2 b3_0 b3_1 b3_2 b4_0 r h
      rw [ratio_Simplest.l0] at h
      obtain ⟨v1, h0, h⟩ := bnd h
      obtain ⟨v2, h1, h⟩ := bnd h
      obtain ⟨v7, h2, h⟩ := bnd h
      by_cases h3 : v7 ≤ 0
      · rw [if_pos h3] at h
        obtain ⟨v11, h4, h⟩ := bnd h
        obtain rfl := Option.some.inj h
        exact Til.fin Tryz.func45 [(1, ca (.agg [.d (.bool v1.1), .d (L103 v1.2)])), (2, ca (.agg [.d (.bool v2.1), .d (L103 v2.2.1), .d (L103 v2.2.2)])), (7, ca (.c (.d (.int .i64 v7)))), (8, .b true), (11, ca (.agg [.d (.bool v11.1), .d (L103 v11.2.1), .d (L103 v11.2.2)]))] (fun _ f => o (ratio_Ceil.does h0) (o (ratio_Int.does h1) (o (ratio_Cmp.does h2) (o (decide_eq_true h3) (o (ratio_unfold.does h4) f))))) (by kernel_rfl)
      · rw [if_neg h3] at h
        obtain ⟨v10, h4, h⟩ := bnd h
        obtain ⟨v11, h5, h⟩ := bnd h
        obtain ⟨h6, h⟩ := ifp h
        obtain ⟨v19, h7, h⟩ := bnd h
        obtain ⟨v22, h8, h⟩ := bnd h
        obtain ⟨v23, h9, h⟩ := bnd h
        obtain ⟨v24, h10, h⟩ := bnd h
        obtain ⟨v27, h11, h⟩ := bnd h
        obtain ⟨v28, h12, h⟩ := bnd h
        exact Til.mid Tryz.func45 10 [(1, ca (.agg [.d (.bool v1.1), .d (L103 v1.2)])), (2, ca (.agg [.d (.bool v2.1), .d (L103 v2.2.1), .d (L103 v2.2.2)])), (7, ca (.c (.d (.int .i64 v7)))), (8, .b false), (10, ca (.agg [.d (.bool v10.1), .d (L103 v10.2)])), (11, ca (.agg [.d (.bool v11.1), .d (L103 v11.2.1), .d (L103 v11.2.2)])), (16, Z27 ([(v11.1, v11.2.1, v11.2.2)] : List (Bool × List Int × List Int))), (17, Z27 (x8 ++ [(v11.1, v11.2.1, v11.2.2)])), (19, ca (.agg [.d (.bool v19.1), .d (L103 v19.2.1), .d (L103 v19.2.2)])), (22, ca (.agg [.d (.bool v22.1), .d (L103 v22.2.1), .d (L103 v22.2.2)])), (23, ca (.agg [.d (.bool v23.1), .d (L103 v23.2.1), .d (L103 v23.2.2)])), (24, ca (.agg [.d (.bool v24.1), .d (L103 v24.2.1), .d (L103 v24.2.2)])), (27, ca (.agg [.d (.bool v27.1), .d (L103 v27.2.1), .d (L103 v27.2.2)])), (28, ca (.agg [.d (.bool v28.1), .d (L103 v28.2.1), .d (L103 v28.2.2)]))] (fun _ f => o (ratio_Ceil.does h0) (o (ratio_Int.does h1) (o (ratio_Cmp.does h2) (o (decide_eq_false h3) (o (ratio_Floor.does h4) (o (ratio_Int.does h5) (o (lit_ok c27 (false, [], []) ([(v11.1, v11.2.1, v11.2.2)] : List (Bool × List Int × List Int))) (o (app1 c27 (false, [], []) x8 (v11.1, v11.2.1, v11.2.2) 56 2513169434916 (by decide) h6) (o (ratio_One.does h7) (o (ratio_Sub.does h8) (o (ratio_over.does h9) (o (ratio_One.does h10) (o (ratio_Sub.does h11) (o (ratio_over.does h12) f)))))))))))))) (by kernel_rfl) (ih.1 _ _ _ _ _ _ _ _ _ h)
    · intro a0_0 l0_1 l0_2 a1_0 l1_1 l1_2 r h
      rw [ratio_Simplest.f] at h
      refine does_fn Tryz.func45 (by kernel_rfl) rfl rfl ?_
      obtain ⟨v5, h0, h⟩ := bnd h
      obtain ⟨v7, h1, h⟩ := bnd h
      obtain ⟨v12, h2, h⟩ := bnd h
      by_cases h3 : v12 > 0
      · rw [if_pos h3] at h
        obtain rfl := Option.some.inj h
        exact Til.fin Tryz.func45 [(5, ca (.agg [.d (.bool v5.1), .d (L103 v5.2.1), .d (L103 v5.2.2)])), (7, ca (.agg [.d (.bool v7.1), .d (L103 v7.2.1), .d (L103 v7.2.2)])), (12, ca (.c (.d (.int .i64 v12)))), (13, .b true)] (fun _ f => o (ratio_Clean.does h0) (o (ratio_Clean.does h1) (o (ratio_Cmp.does h2) (o (decide_eq_true h3) f)))) (by kernel_rfl)
      · rw [if_neg h3] at h
        obtain ⟨v16, h4, h⟩ := bnd h
        by_cases h5 : v16 ≤ 0
        · rw [if_pos h5] at h
          obtain ⟨v20, h6, h⟩ := bnd h
          by_cases h7 : v20 ≥ 0
          · rw [if_pos h7] at h
            obtain ⟨v24, h8, h⟩ := bnd h
            obtain rfl := Option.some.inj h
            exact Til.fin Tryz.func45 [(5, ca (.agg [.d (.bool v5.1), .d (L103 v5.2.1), .d (L103 v5.2.2)])), (7, ca (.agg [.d (.bool v7.1), .d (L103 v7.2.1), .d (L103 v7.2.2)])), (12, ca (.c (.d (.int .i64 v12)))), (13, .b false), (16, ca (.c (.d (.int .i64 v16)))), (17, .b true), (20, ca (.c (.d (.int .i64 v20)))), (21, .b true), (24, ca (.agg [.d (.bool v24.1), .d (L103 v24.2.1), .d (L103 v24.2.2)]))] (fun _ f => o (ratio_Clean.does h0) (o (ratio_Clean.does h1) (o (ratio_Cmp.does h2) (o (decide_eq_false h3) (o (ratio_Sign.does h4) (o (decide_eq_true h5) (o (ratio_Sign.does h6) (o (decide_eq_true h7) (o (ratio_Zero.does h8) f))))))))) (by kernel_rfl)
          · rw [if_neg h7] at h
            obtain ⟨v25, h8, h⟩ := bnd h
            by_cases h9 : v25 < 0
            · rw [if_pos h9] at h
              obtain ⟨v29, h10, h⟩ := bnd h
              obtain ⟨v31, h11, h⟩ := bnd h
              obtain ⟨v32, h12, h⟩ := bnd h
              obtain ⟨v40, h13, h⟩ := bnd h
              obtain rfl := Option.some.inj h
              exact Til.fin Tryz.func45 [(5, ca (.agg [.d (.bool v5.1), .d (L103 v5.2.1), .d (L103 v5.2.2)])), (7, ca (.agg [.d (.bool v7.1), .d (L103 v7.2.1), .d (L103 v7.2.2)])), (12, ca (.c (.d (.int .i64 v12)))), (13, .b false), (16, ca (.c (.d (.int .i64 v16)))), (17, .b true), (20, ca (.c (.d (.int .i64 v20)))), (21, .b false), (25, ca (.c (.d (.int .i64 v25)))), (26, .b true), (29, ca (.agg [.d (.bool v29.1), .d (L103 v29.2.1), .d (L103 v29.2.2)])), (31, ca (.agg [.d (.bool v31.1), .d (L103 v31.2.1), .d (L103 v31.2.2)])), (32, ca (.tup [.agg [.d (.bool v32.1), .d (L103 v32.2.1), .d (L103 v32.2.2.1)], .c (.d (.int .i64 v32.2.2.2))])), (40, ca (.agg [.d (.bool v40.1), .d (L103 v40.2.1), .d (L103 v40.2.2)]))] (fun _ f => o (ratio_Clean.does h0) (o (ratio_Clean.does h1) (o (ratio_Cmp.does h2) (o (decide_eq_false h3) (o (ratio_Sign.does h4) (o (decide_eq_true h5) (o (ratio_Sign.does h6) (o (decide_eq_false h7) (o (ratio_Sign.does h8) (o (decide_eq_true h9) (o (ratio_Neg.does h10) (o (ratio_Neg.does h11) (o (ih.2 _ _ _ _ _ _ _ h12) (o (ratio_Neg.does h13) f)))))))))))))) (by kernel_rfl)
            · rw [if_neg h9] at h
              exact Til.mid Tryz.func45 10 [(5, ca (.agg [.d (.bool v5.1), .d (L103 v5.2.1), .d (L103 v5.2.2)])), (7, ca (.agg [.d (.bool v7.1), .d (L103 v7.2.1), .d (L103 v7.2.2)])), (12, ca (.c (.d (.int .i64 v12)))), (13, .b false), (16, ca (.c (.d (.int .i64 v16)))), (17, .b true), (20, ca (.c (.d (.int .i64 v20)))), (21, .b false), (25, ca (.c (.d (.int .i64 v25)))), (26, .b false)] (fun _ f => o (ratio_Clean.does h0) (o (ratio_Clean.does h1) (o (ratio_Cmp.does h2) (o (decide_eq_false h3) (o (ratio_Sign.does h4) (o (decide_eq_true h5) (o (ratio_Sign.does h6) (o (decide_eq_false h7) (o (ratio_Sign.does h8) (o (decide_eq_false h9) f)))))))))) (by kernel_rfl) (ih.1 _ _ _ _ _ _ _ _ _ h)
        · rw [if_neg h5] at h
          obtain ⟨v25, h6, h⟩ := bnd h
          by_cases h7 : v25 < 0
          · rw [if_pos h7] at h
            obtain ⟨v29, h8, h⟩ := bnd h
            obtain ⟨v31, h9, h⟩ := bnd h
            obtain ⟨v32, h10, h⟩ := bnd h
            obtain ⟨v40, h11, h⟩ := bnd h
            obtain rfl := Option.some.inj h
            exact Til.fin Tryz.func45 [(5, ca (.agg [.d (.bool v5.1), .d (L103 v5.2.1), .d (L103 v5.2.2)])), (7, ca (.agg [.d (.bool v7.1), .d (L103 v7.2.1), .d (L103 v7.2.2)])), (12, ca (.c (.d (.int .i64 v12)))), (13, .b false), (16, ca (.c (.d (.int .i64 v16)))), (17, .b false), (25, ca (.c (.d (.int .i64 v25)))), (26, .b true), (29, ca (.agg [.d (.bool v29.1), .d (L103 v29.2.1), .d (L103 v29.2.2)])), (31, ca (.agg [.d (.bool v31.1), .d (L103 v31.2.1), .d (L103 v31.2.2)])), (32, ca (.tup [.agg [.d (.bool v32.1), .d (L103 v32.2.1), .d (L103 v32.2.2.1)], .c (.d (.int .i64 v32.2.2.2))])), (40, ca (.agg [.d (.bool v40.1), .d (L103 v40.2.1), .d (L103 v40.2.2)]))] (fun _ f => o (ratio_Clean.does h0) (o (ratio_Clean.does h1) (o (ratio_Cmp.does h2) (o (decide_eq_false h3) (o (ratio_Sign.does h4) (o (decide_eq_false h5) (o (ratio_Sign.does h6) (o (decide_eq_true h7) (o (ratio_Neg.does h8) (o (ratio_Neg.does h9) (o (ih.2 _ _ _ _ _ _ _ h10) (o (ratio_Neg.does h11) f)))))))))))) (by kernel_rfl)
          · rw [if_neg h7] at h
            exact Til.mid Tryz.func45 10 [(5, ca (.agg [.d (.bool v5.1), .d (L103 v5.2.1), .d (L103 v5.2.2)])), (7, ca (.agg [.d (.bool v7.1), .d (L103 v7.2.1), .d (L103 v7.2.2)])), (12, ca (.c (.d (.int .i64 v12)))), (13, .b false), (16, ca (.c (.d (.int .i64 v16)))), (17, .b false), (25, ca (.c (.d (.int .i64 v25)))), (26, .b false)] (fun _ f => o (ratio_Clean.does h0) (o (ratio_Clean.does h1) (o (ratio_Cmp.does h2) (o (decide_eq_false h3) (o (ratio_Sign.does h4) (o (decide_eq_false h5) (o (ratio_Sign.does h6) (o (decide_eq_false h7) f)))))))) (by kernel_rfl) (ih.1 _ _ _ _ _ _ _ _ _ h)
theorem ratio_Simplest.does {k : Nat} {a0_0 : Bool} {l0_1 : List Int} {l0_2 : List Int} {a1_0 : Bool} {l1_1 : List Int} {l1_2 : List Int} {r : Bool × List Int × List Int × Int} (h : ratio_Simplest.f k a0_0 l0_1 l0_2 a1_0 l1_1 l1_2 = some r) :
    Does Tryz.prog 45 [.agg [.d (.bool a0_0), .d (L103 l0_1), .d (L103 l0_2)], .agg [.d (.bool a1_0), .d (L103 l1_1), .d (L103 l1_2)]] [] (.tup [.agg [.d (.bool r.1), .d (L103 r.2.1), .d (L103 r.2.2.1)], .c (.d (.int .i64 r.2.2.2))]) none [] := (ratio_Simplest.w k).2 a0_0 l0_1 l0_2 a1_0 l1_1 l1_2 r h

theorem ratio_Same.does {k : Nat} {a0_0 : Bool} {l0_1 : List Int} {l0_2 : List Int} {a1_0 : Bool} {l1_1 : List Int} {l1_2 : List Int} {r : Bool} (h : ratio_Same.f k a0_0 l0_1 l0_2 a1_0 l1_1 l1_2 = some r) :
    Does Tryz.prog 63 [.agg [.d (.bool a0_0), .d (L103 l0_1), .d (L103 l0_2)], .agg [.d (.bool a1_0), .d (L103 l1_1), .d (L103 l1_2)]] [] (.c (.d (.bool r))) none [] := by
  refine does_fn Tryz.func63 (by kernel_rfl) rfl rfl ?_
  unfold ratio_Same.f at h
  obtain ⟨v5, h0, h⟩ := bnd h
  obtain rfl := Option.some.inj h
  exact Til.fin Tryz.func63 [(5, ca (.c (.d (.int .i64 v5))))] (fun _ f => o (ratio_Cmp.does h0) f) (by kernel_rfl)

theorem ratio_middle.does {k : Nat} {a0_0 : Bool} {l0_1 : List Int} {l0_2 : List Int} {a1_0 : Bool} {l1_1 : List Int} {l1_2 : List Int} {r : Bool × List Int × List Int} (h : ratio_middle.f k a0_0 l0_1 l0_2 a1_0 l1_1 l1_2 = some r) :
    Does Tryz.prog 104 [.agg [.d (.bool a0_0), .d (L103 l0_1), .d (L103 l0_2)], .agg [.d (.bool a1_0), .d (L103 l1_1), .d (L103 l1_2)]] [] (.agg [.d (.bool r.1), .d (L103 r.2.1), .d (L103 r.2.2)]) none [] := by
  refine does_fn Tryz.func104 (by kernel_rfl) rfl rfl ?_
  unfold ratio_middle.f at h
  obtain ⟨v7, h0, h⟩ := bnd h
  obtain ⟨v12, h1, h⟩ := bnd h
  obtain ⟨v13, h2, h⟩ := bnd h
  obtain rfl := Option.some.inj h
  exact Til.fin Tryz.func104 [(7, ca (.agg [.d (.bool v7.1), .d (L103 v7.2)])), (12, ca (.c (.d (L103 v12)))), (13, ca (.agg [.d (.bool v13.1), .d (L103 v13.2.1), .d (L103 v13.2.2)]))] (fun _ f => o (whole_Add.does h0) (o (nat_Add.does h1) (o (ratio_form.does h2) f))) (by kernel_rfl)

def ratio_Near.l0E (x8 : List Int) (b2_0 : Bool) (b2_1 : List Int) (b2_2 : List Int) (b4_0 : Bool) (b6_0 : Bool) (b6_1 : List Int) (b6_2 : List Int) (b7_0 : Bool) (b7_1 : List Int) (b7_2 : List Int) : Env := [(2, .c (.ptr 2 0)), (4, .c (.ptr 4 0)), (6, .c (.ptr 6 0)), (7, .c (.ptr 7 0)), (8, .c (.d (L103 x8)))]
def ratio_Near.l0B (x8 : List Int) (b2_0 : Bool) (b2_1 : List Int) (b2_2 : List Int) (b4_0 : Bool) (b6_0 : Bool) (b6_1 : List Int) (b6_2 : List Int) (b7_0 : Bool) (b7_1 : List Int) (b7_2 : List Int) : Obs := [(2, some (.box [.d (.bool b2_0), .d (L103 b2_1), .d (L103 b2_2)])), (4, some (.box [.d (.bool b4_0), .nils, .nils])), (6, some (.box [.d (.bool b6_0), .d (L103 b6_1), .d (L103 b6_2)])), (7, some (.box [.d (.bool b7_0), .d (L103 b7_1), .d (L103 b7_2)]))]
theorem ratio_Near.w (k : Nat) : (∀  (x8 : List Int) (b2_0 : Bool) (b2_1 : List Int) (b2_2 : List Int) (b4_0 : Bool) (b6_0 : Bool) (b6_1 : List Int) (b6_2 : List Int) (b7_0 : Bool) (b7_1 : List Int) (b7_2 : List Int) (r : Bool × List Int × List Int × Int), ratio_Near.l0 k x8 b2_0 b2_1 b2_2 b4_0 b6_0 b6_1 b6_2 b7_0 b7_1 b7_2 = some r → Til Tryz.prog 51 [] (.tup [.agg [.d (.bool r.1), .d (L103 r.2.1), .d (L103 r.2.2.1)], .c (.d (.int .i64 r.2.2.2))]) none [] (at_ Tryz.f51 9) (ratio_Near.l0E x8 b2_0 b2_1 b2_2 b4_0 b6_0 b6_1 b6_2 b7_0 b7_1 b7_2) (ratio_Near.l0B x8 b2_0 b2_1 b2_2 b4_0 b6_0 b6_1 b6_2 b7_0 b7_1 b7_2)) := by
  induction k with
  | zero =>
    exact fun _ _ _ _ _ _ _ _ _ _ _ _ h => (by cases h)
  | succ k ih =>
    intro x8 b2_0 b2_1 b2_2 b4_0 b6_0 b6_1 b6_2 b7_0 b7_1 b7_2 r h
    rw [ratio_Near.l0] at h
    obtain ⟨v4, h0, h⟩ := bnd h
    obtain ⟨v6, h1, h⟩ := bnd h
    by_cases h2 : v6 ≤ 0
    · rw [if_pos h2] at h
      obtain ⟨v10, h3, h⟩ := bnd h
      obtain ⟨v15, h4, h⟩ := bnd h
      by_cases h5 : v15 = 0
      · rw [if_pos h5] at h
        obtain rfl := Option.some.inj h
        exact Til.fin Tryz.func51 [(4, ca (.c (.d (L103 v4)))), (6, ca (.c (.d (.int .i64 v6)))), (7, .b true), (10, ca (.agg [.d (.bool v10.1), .d (L103 v10.2.1), .d (L103 v10.2.2)])), (15, ca (.c (.d (.int .i64 v15)))), (18, .b true)] (fun _ f => o (nat_Add.does h0) (o (nat_Cmp.does h1) (o (decide_eq_true h2) (o (ratio_middle.does h3) (o (ratio_Cmp.does h4) (o (beq_iff_eq.2 h5) f)))))) (by kernel_rfl)
      · rw [if_neg h5] at h
        by_cases h6 : v15 < 0
        · rw [if_pos h6] at h
          exact Til.mid Tryz.func51 9 [(4, ca (.c (.d (L103 v4)))), (6, ca (.c (.d (.int .i64 v6)))), (7, .b true), (10, ca (.agg [.d (.bool v10.1), .d (L103 v10.2.1), .d (L103 v10.2.2)])), (15, ca (.c (.d (.int .i64 v15)))), (18, .b false), (21, .b true)] (fun _ f => o (nat_Add.does h0) (o (nat_Cmp.does h1) (o (decide_eq_true h2) (o (ratio_middle.does h3) (o (ratio_Cmp.does h4) (o (beq_false_of_ne h5) (o (decide_eq_true h6) f))))))) (by kernel_rfl) (ih _ _ _ _ _ _ _ _ _ _ _ _ h)
        · rw [if_neg h6] at h
          exact Til.mid Tryz.func51 9 [(4, ca (.c (.d (L103 v4)))), (6, ca (.c (.d (.int .i64 v6)))), (7, .b true), (10, ca (.agg [.d (.bool v10.1), .d (L103 v10.2.1), .d (L103 v10.2.2)])), (15, ca (.c (.d (.int .i64 v15)))), (18, .b false), (21, .b false)] (fun _ f => o (nat_Add.does h0) (o (nat_Cmp.does h1) (o (decide_eq_true h2) (o (ratio_middle.does h3) (o (ratio_Cmp.does h4) (o (beq_false_of_ne h5) (o (decide_eq_false h6) f))))))) (by kernel_rfl) (ih _ _ _ _ _ _ _ _ _ _ _ _ h)
    · rw [if_neg h2] at h
      obtain ⟨v10, h3, h⟩ := bnd h
      obtain ⟨v13, h4, h⟩ := bnd h
      obtain ⟨v14, h5, h⟩ := bnd h
      by_cases h6 : v14 < 0
      · rw [if_pos h6] at h
        obtain rfl := Option.some.inj h
        exact Til.fin Tryz.func51 [(4, ca (.c (.d (L103 v4)))), (6, ca (.c (.d (.int .i64 v6)))), (7, .b false), (10, ca (.agg [.d (.bool v10.1), .d (L103 v10.2.1), .d (L103 v10.2.2)])), (13, ca (.agg [.d (.bool v13.1), .d (L103 v13.2.1), .d (L103 v13.2.2)])), (14, ca (.c (.d (.int .i64 v14)))), (17, .b true)] (fun _ f => o (nat_Add.does h0) (o (nat_Cmp.does h1) (o (decide_eq_false h2) (o (ratio_Sub.does h3) (o (ratio_Sub.does h4) (o (ratio_Cmp.does h5) (o (decide_eq_true h6) f))))))) (by kernel_rfl)
      · rw [if_neg h6] at h
        by_cases h7 : v14 = 0
        · rw [if_pos h7] at h
          obtain ⟨v26, h8, h⟩ := bnd h
          by_cases h9 : v26 ≤ 0
          · rw [if_pos h9] at h
            obtain rfl := Option.some.inj h
            exact Til.fin Tryz.func51 [(4, ca (.c (.d (L103 v4)))), (6, ca (.c (.d (.int .i64 v6)))), (7, .b false), (10, ca (.agg [.d (.bool v10.1), .d (L103 v10.2.1), .d (L103 v10.2.2)])), (13, ca (.agg [.d (.bool v13.1), .d (L103 v13.2.1), .d (L103 v13.2.2)])), (14, ca (.c (.d (.int .i64 v14)))), (17, .b false), (20, .b true), (26, ca (.c (.d (.int .i64 v26)))), (27, .b true)] (fun _ f => o (nat_Add.does h0) (o (nat_Cmp.does h1) (o (decide_eq_false h2) (o (ratio_Sub.does h3) (o (ratio_Sub.does h4) (o (ratio_Cmp.does h5) (o (decide_eq_false h6) (o (beq_iff_eq.2 h7) (o (nat_Cmp.does h8) (o (decide_eq_true h9) f)))))))))) (by kernel_rfl)
          · rw [if_neg h9] at h
            obtain rfl := Option.some.inj h
            exact Til.fin Tryz.func51 [(4, ca (.c (.d (L103 v4)))), (6, ca (.c (.d (.int .i64 v6)))), (7, .b false), (10, ca (.agg [.d (.bool v10.1), .d (L103 v10.2.1), .d (L103 v10.2.2)])), (13, ca (.agg [.d (.bool v13.1), .d (L103 v13.2.1), .d (L103 v13.2.2)])), (14, ca (.c (.d (.int .i64 v14)))), (17, .b false), (20, .b true), (26, ca (.c (.d (.int .i64 v26)))), (27, .b false)] (fun _ f => o (nat_Add.does h0) (o (nat_Cmp.does h1) (o (decide_eq_false h2) (o (ratio_Sub.does h3) (o (ratio_Sub.does h4) (o (ratio_Cmp.does h5) (o (decide_eq_false h6) (o (beq_iff_eq.2 h7) (o (nat_Cmp.does h8) (o (decide_eq_false h9) f)))))))))) (by kernel_rfl)
        · rw [if_neg h7] at h
          obtain rfl := Option.some.inj h
          exact Til.fin Tryz.func51 [(4, ca (.c (.d (L103 v4)))), (6, ca (.c (.d (.int .i64 v6)))), (7, .b false), (10, ca (.agg [.d (.bool v10.1), .d (L103 v10.2.1), .d (L103 v10.2.2)])), (13, ca (.agg [.d (.bool v13.1), .d (L103 v13.2.1), .d (L103 v13.2.2)])), (14, ca (.c (.d (.int .i64 v14)))), (17, .b false), (20, .b false)] (fun _ f => o (nat_Add.does h0) (o (nat_Cmp.does h1) (o (decide_eq_false h2) (o (ratio_Sub.does h3) (o (ratio_Sub.does h4) (o (ratio_Cmp.does h5) (o (decide_eq_false h6) (o (beq_false_of_ne h7) f)))))))) (by kernel_rfl)
theorem ratio_Near.does {k : Nat} {a0_0 : Bool} {l0_1 : List Int} {l0_2 : List Int} {a1 : Int} {r : Bool × List Int × List Int × Int} (h : ratio_Near.f k a0_0 l0_1 l0_2 a1 = some r) :
    Does Tryz.prog 51 [.agg [.d (.bool a0_0), .d (L103 l0_1), .d (L103 l0_2)], .c (.d (.int .i64 a1))] [] (.tup [.agg [.d (.bool r.1), .d (L103 r.2.1), .d (L103 r.2.2.1)], .c (.d (.int .i64 r.2.2.2))]) none [] := by
  refine does_fn Tryz.func51 (by kernel_rfl) rfl rfl ?_
  unfold ratio_Near.f at h
  have ih := ratio_Near.w k
  by_cases h0 : a1 < 1
  · rw [if_pos h0] at h
    obtain rfl := Option.some.inj h
    exact Til.fin Tryz.func51 [(4, .b true)] (fun _ f => o (decide_eq_true h0) f) (by kernel_rfl)
  · rw [if_neg h0] at h
    by_cases h1 : a1 > 4096
    · rw [if_pos h1] at h
      obtain rfl := Option.some.inj h
      exact Til.fin Tryz.func51 [(4, .b false), (7, .b true)] (fun _ f => o (decide_eq_false h0) (o (decide_eq_true h1) f)) (by kernel_rfl)
    · rw [if_neg h1] at h
      obtain ⟨v10, h2, h⟩ := bnd h
      obtain ⟨v13, h3, h⟩ := bnd h
      obtain ⟨v14, h4, h⟩ := bnd h
      obtain ⟨v18, h5, h⟩ := bnd h
      obtain ⟨v19, h6, h⟩ := bnd h
      obtain ⟨v24, h7, h⟩ := bnd h
      cases v24
      · rw [if_neg (by decide)] at h
        obtain ⟨v27, h9, h⟩ := bnd h
        exact Til.mid Tryz.func51 9 [(4, .b false), (7, .b false), (10, ca (.agg [.d (.bool v10.1), .d (L103 v10.2.1), .d (L103 v10.2.2)])), (13, ca (.agg [.d (.bool v13.1), .d (L103 v13.2)])), (14, ca (.agg [.d (.bool v14.1), .d (L103 v14.2.1), .d (L103 v14.2.2)])), (18, ca (.agg [.d (.bool v18.1), .d (L103 v18.2.1), .d (L103 v18.2.2)])), (19, ca (.agg [.d (.bool v19.1), .d (L103 v19.2.1), .d (L103 v19.2.2)])), (24, ca (.c (.d (.bool false)))), (27, ca (.c (.d (L103 v27))))] (fun _ f => o (decide_eq_false h0) (o (decide_eq_false h1) (o (ratio_Clean.does h2) (o (ratio_Floor.does h3) (o (ratio_Int.does h4) (o (ratio_One.does h5) (o (ratio_Add.does h6) (o (ratio_Same.does h7) (o (nat_Of.does h9) f))))))))) (by kernel_rfl) (ih _ _ _ _ _ _ _ _ _ _ _ _ h)
      · rw [if_pos rfl] at h
        obtain rfl := Option.some.inj h
        exact Til.fin Tryz.func51 [(4, .b false), (7, .b false), (10, ca (.agg [.d (.bool v10.1), .d (L103 v10.2.1), .d (L103 v10.2.2)])), (13, ca (.agg [.d (.bool v13.1), .d (L103 v13.2)])), (14, ca (.agg [.d (.bool v14.1), .d (L103 v14.2.1), .d (L103 v14.2.2)])), (18, ca (.agg [.d (.bool v18.1), .d (L103 v18.2.1), .d (L103 v18.2.2)])), (19, ca (.agg [.d (.bool v19.1), .d (L103 v19.2.1), .d (L103 v19.2.2)])), (24, ca (.c (.d (.bool true))))] (fun _ f => o (decide_eq_false h0) (o (decide_eq_false h1) (o (ratio_Clean.does h2) (o (ratio_Floor.does h3) (o (ratio_Int.does h4) (o (ratio_One.does h5) (o (ratio_Add.does h6) (o (ratio_Same.does h7) f)))))))) (by kernel_rfl)

theorem stringslite_HasPrefix.does {a0 : ByteArray} {a1 : ByteArray} {r : Bool} (h : stringslite_HasPrefix.f a0 a1 = some r) :
    Does Tryz.prog 136 [.c (.d (.str a0)), .c (.d (.str a1))] [] (.c (.d (.bool r))) none [] := by
  refine does_fn Tryz.func136 (by kernel_rfl) rfl rfl ?_
  unfold stringslite_HasPrefix.f at h
  by_cases h0 : (a0.size : Int) ≥ (a1.size : Int)
  · rw [if_pos h0] at h
    obtain ⟨h1, h⟩ := ifp h
    obtain rfl := Option.some.inj h
    exact Til.fin Tryz.func136 [(5, .b true)] (fun _ f => o (decide_eq_true h0) (o (o h1 h0) f)) (by kernel_rfl)
  · rw [if_neg h0] at h
    obtain rfl := Option.some.inj h
    exact Til.fin Tryz.func136 [(5, .b false)] (fun _ f => o (decide_eq_false h0) f) (by kernel_rfl)

theorem strings_HasPrefix.does {a0 : ByteArray} {a1 : ByteArray} {r : Bool} (h : strings_HasPrefix.f a0 a1 = some r) :
    Does Tryz.prog 106 [.c (.d (.str a0)), .c (.d (.str a1))] [] (.c (.d (.bool r))) none [] := by
  refine does_fn Tryz.func106 (by kernel_rfl) rfl rfl ?_
  unfold strings_HasPrefix.f at h
  obtain ⟨v3, h0, h⟩ := bnd h
  obtain rfl := Option.some.inj h
  exact Til.fin Tryz.func106 [(3, ca (.c (.d (.bool v3))))] (fun _ f => o (stringslite_HasPrefix.does h0) f) (by kernel_rfl)

def ratio_ten.l0E (x3 : List Int) (x5 : Int) (x6 : Int) : Env := [(3, .c (.d (L103 x3))), (5, .c (.d (.int .i64 x5))), (6, .c (.d (.int .i64 x6)))]
theorem ratio_ten.w (k : Nat) : (∀  (x3 : List Int) (x5 : Int) (x6 : Int) (r : List Int), ratio_ten.l0 k x3 x5 x6 = some r → Til Tryz.prog 110 [] (.c (.d (L103 r))) none [] (at_ Tryz.f110 3) (ratio_ten.l0E x3 x5 x6) []) := by
  induction k with
  | zero =>
    exact fun _ _ _ _ h => (by cases h)
  | succ k ih =>
    intro x3 x5 x6 r h
    rw [ratio_ten.l0] at h
    by_cases h0 : x6 < x5
    · rw [if_pos h0] at h
      obtain ⟨v2, h1, h⟩ := bnd h
      obtain ⟨v3, h2, h⟩ := bnd h
      exact Til.mid Tryz.func110 3 [(0, .b true), (2, ca (.c (.d (L103 v2)))), (3, ca (.c (.d (L103 v3))))] (fun _ f => o (decide_eq_true h0) (o (nat_Of.does h1) (o (nat_Mul.does h2) f))) (by kernel_rfl) (ih _ _ _ _ h)
    · rw [if_neg h0] at h
      obtain rfl := Option.some.inj h
      exact Til.fin Tryz.func110 [(0, .b false)] (fun _ f => o (decide_eq_false h0) f) (by kernel_rfl)
theorem ratio_ten.does {k : Nat} {a0 : Int} {r : List Int} (h : ratio_ten.f k a0 = some r) :
    Does Tryz.prog 110 [.c (.d (.int .i64 a0))] [] (.c (.d (L103 r))) none [] := by
  refine does_fn Tryz.func110 (by kernel_rfl) rfl rfl ?_
  unfold ratio_ten.f at h
  have ih := ratio_ten.w k
  obtain ⟨v1, h0, h⟩ := bnd h
  exact Til.mid Tryz.func110 3 [(1, ca (.c (.d (L103 v1))))] (fun _ f => o (nat_Of.does h0) f) (by kernel_rfl) (ih _ _ _ _ h)

theorem bytealg_Cutover.does {a0 : Int} {r : Int} (h : bytealg_Cutover.f a0 = some r) :
    Does Tryz.prog 171 [.c (.d (.int .i64 a0))] [] (.c (.d (.int .i64 r))) none [] := by
  refine does_fn Tryz.func171 (by kernel_rfl) rfl rfl ?_
  unfold bytealg_Cutover.f at h
  obtain rfl := Option.some.inj h
  exact Til.fin Tryz.func171 [] (fun _ f => o (by decide : ¬ (8 : Int) = 0) f) (by kernel_rfl)

def bytealg_hashStr_string_.l0E (x0 : ByteArray) (x4 : Int) (x5 : Int) : Env := [(0, .c (.d (.str x0))), (4, .c (.d (.int .u32 x4))), (5, .c (.d (.int .i64 x5)))]
def bytealg_hashStr_string_.l1E (x4 : Int) (x6 : Int) (x7 : Int) (x8 : Int) : Env := [(4, .c (.d (.int .u32 x4))), (6, .c (.d (.int .u32 x6))), (7, .c (.d (.int .u32 x7))), (8, .c (.d (.int .i64 x8)))]
theorem bytealg_hashStr_string_.w (k : Nat) : (∀  (x0 : ByteArray) (x4 : Int) (x5 : Int) (r : Int × Int), bytealg_hashStr_string_.l0 k x0 x4 x5 = some r → Til Tryz.prog 174 [] (.tup [.c (.d (.int .u32 r.1)), .c (.d (.int .u32 r.2))]) none [] (at_ Tryz.f174 3) (bytealg_hashStr_string_.l0E x0 x4 x5) []) ∧
    (∀  (x4 : Int) (x6 : Int) (x7 : Int) (x8 : Int) (r : Int × Int), bytealg_hashStr_string_.l1 k x4 x6 x7 x8 = some r → Til Tryz.prog 174 [] (.tup [.c (.d (.int .u32 r.1)), .c (.d (.int .u32 r.2))]) none [] (at_ Tryz.f174 8) (bytealg_hashStr_string_.l1E x4 x6 x7 x8) []) := by
  induction k with
  | zero =>
    exact ⟨fun _ _ _ _ h => (by cases h), fun _ _ _ _ _ h => (by cases h)⟩
  | succ k ih =>
    refine ⟨?_, ?_⟩
    · intro x0 x4 x5 r h
      rw [bytealg_hashStr_string_.l0] at h
      by_cases h0 : x5 < (x0.size : Int)
      · rw [if_pos h0] at h
        obtain ⟨h1, h⟩ := ifp h
        exact Til.mid Tryz.func174 3 [(3, .b true)] (fun _ f => o (decide_eq_true h0) (o (o h1 h0) f)) (by kernel_rfl) (ih.1 _ _ _ _ h)
      · rw [if_neg h0] at h
        exact Til.mid Tryz.func174 8 [(3, .b false)] (fun _ f => o (decide_eq_false h0) f) (by kernel_rfl) (ih.2 _ _ _ _ _ h)
    · intro x4 x6 x7 x8 r h
      rw [bytealg_hashStr_string_.l1] at h
      by_cases h0 : x8 > 0
      · rw [if_pos h0] at h
        by_cases h1 : (Go.bits .and .i64 x8 1) ≠ 0
        · rw [if_pos h1] at h
          exact Til.mid Tryz.func174 8 [(1, .b true), (4, .b true)] (fun _ f => o (decide_eq_true h0) (o (bne_iff_ne.2 h1) (o (nn 1) f))) (by kernel_rfl) (ih.2 _ _ _ _ _ h)
        · rw [if_neg h1] at h
          exact Til.mid Tryz.func174 8 [(1, .b true), (4, .b false)] (fun _ f => o (decide_eq_true h0) (o (ne_f h1) (o (nn 1) f))) (by kernel_rfl) (ih.2 _ _ _ _ _ h)
      · rw [if_neg h0] at h
        obtain rfl := Option.some.inj h
        exact Til.fin Tryz.func174 [(1, .b false)] (fun _ f => o (decide_eq_false h0) f) (by kernel_rfl)
theorem bytealg_hashStr_string_.does {k : Nat} {a0 : ByteArray} {r : Int × Int} (h : bytealg_hashStr_string_.f k a0 = some r) :
    Does Tryz.prog 174 [.c (.d (.str a0))] [] (.tup [.c (.d (.int .u32 r.1)), .c (.d (.int .u32 r.2))]) none [] := by
  refine does_fn Tryz.func174 (by kernel_rfl) rfl rfl ?_
  unfold bytealg_hashStr_string_.f at h
  have ih := bytealg_hashStr_string_.w k
  exact Til.mid Tryz.func174 3 [] (fun _ f => f) (by kernel_rfl) (ih.1 _ _ _ _ h)

def bytealg_IndexRabinKarp_string_.l0E (x0 : ByteArray) (x1 : ByteArray) (x5 : Int) (x6 : Int) (x7 : Int) (x8 : Int) (x9 : Int) : Env := [(0, .c (.d (.str x0))), (1, .c (.d (.str x1))), (5, .c (.d (.int .u32 x5))), (6, .c (.d (.int .u32 x6))), (7, .c (.d (.int .i64 x7))), (8, .c (.d (.int .u32 x8))), (9, .c (.d (.int .i64 x9)))]
def bytealg_IndexRabinKarp_string_.l1E (x0 : ByteArray) (x1 : ByteArray) (x5 : Int) (x6 : Int) (x7 : Int) (x8 : Int) (x10 : Int) : Env := [(0, .c (.d (.str x0))), (1, .c (.d (.str x1))), (5, .c (.d (.int .u32 x5))), (6, .c (.d (.int .u32 x6))), (7, .c (.d (.int .i64 x7))), (8, .c (.d (.int .u32 x8))), (10, .c (.d (.int .i64 x10)))]
theorem bytealg_IndexRabinKarp_string_.w (k : Nat) : (∀  (x0 : ByteArray) (x1 : ByteArray) (x5 : Int) (x6 : Int) (x7 : Int) (x8 : Int) (x9 : Int) (r : Int), bytealg_IndexRabinKarp_string_.l0 k x0 x1 x5 x6 x7 x8 x9 = some r → Til Tryz.prog 172 [] (.c (.d (.int .i64 r))) none [] (at_ Tryz.f172 5) (bytealg_IndexRabinKarp_string_.l0E x0 x1 x5 x6 x7 x8 x9) []) ∧
    (∀  (x0 : ByteArray) (x1 : ByteArray) (x5 : Int) (x6 : Int) (x7 : Int) (x8 : Int) (x10 : Int) (r : Int), bytealg_IndexRabinKarp_string_.l1 k x0 x1 x5 x6 x7 x8 x10 = some r → Til Tryz.prog 172 [] (.c (.d (.int .i64 r))) none [] (at_ Tryz.f172 11) (bytealg_IndexRabinKarp_string_.l1E x0 x1 x5 x6 x7 x8 x10) []) := by
  induction k with
  | zero =>
    exact ⟨fun _ _ _ _ _ _ _ _ h => (by cases h), fun _ _ _ _ _ _ _ _ h => (by cases h)⟩
  | succ k ih =>
    refine ⟨?_, ?_⟩
    · intro x0 x1 x5 x6 x7 x8 x9 r h
      rw [bytealg_IndexRabinKarp_string_.l0] at h
      by_cases h0 : x9 < x7
      · rw [if_pos h0] at h
        obtain ⟨h1, h⟩ := ifp h
        obtain ⟨h2, h⟩ := ifp h
        exact Til.mid Tryz.func172 5 [(2, .b true)] (fun _ f => o (decide_eq_true h0) (o (o h1 h2) f)) (by kernel_rfl) (ih.1 _ _ _ _ _ _ _ _ h)
      · rw [if_neg h0] at h
        by_cases h1 : x8 = x5
        · rw [if_pos h1] at h
          obtain ⟨h2, h⟩ := ifp h
          obtain ⟨h3, h⟩ := ifp h
          by_cases h4 : (x0.extract 0 ((x7 : Int).toNat)) = x1
          · rw [if_pos h4] at h
            obtain rfl := Option.some.inj h
            exact Til.fin Tryz.func172 [(2, .b false), (5, .b true), (11, .b true)] (fun _ f => o (decide_eq_false h0) (o (beq_iff_eq.2 h1) (o (o h2 h3) (o (str_t h4) f)))) (by kernel_rfl)
          · rw [if_neg h4] at h
            exact Til.mid Tryz.func172 11 [(2, .b false), (5, .b true), (11, .b false)] (fun _ f => o (decide_eq_false h0) (o (beq_iff_eq.2 h1) (o (o h2 h3) (o (str_f h4) f)))) (by kernel_rfl) (ih.2 _ _ _ _ _ _ _ _ h)
        · rw [if_neg h1] at h
          exact Til.mid Tryz.func172 11 [(2, .b false), (5, .b false)] (fun _ f => o (decide_eq_false h0) (o (beq_false_of_ne h1) f)) (by kernel_rfl) (ih.2 _ _ _ _ _ _ _ _ h)
    · intro x0 x1 x5 x6 x7 x8 x10 r h
      rw [bytealg_IndexRabinKarp_string_.l1] at h
      by_cases h0 : x10 < (x0.size : Int)
      · rw [if_pos h0] at h
        obtain ⟨h1, h⟩ := ifp h
        obtain ⟨h2, h⟩ := ifp h
        obtain ⟨h3, h⟩ := ifp h
        by_cases h4 : (IntKind.u32.wrap ((IntKind.u32.wrap ((IntKind.u32.wrap (x8 * 16777619)) + (IntKind.u32.wrap ((bt x0 x10))))) - (IntKind.u32.wrap (x6 * (IntKind.u32.wrap ((bt x0 (wrap64 (x10 - x7))))))))) = x5
        · rw [if_pos h4] at h
          obtain ⟨h5, h⟩ := ifp h
          obtain ⟨h6, h⟩ := ifp h
          obtain ⟨h7, h⟩ := ifp h
          by_cases h8 : (x0.extract (((wrap64 ((wrap64 (x10 + 1)) - x7)) : Int).toNat) (((wrap64 (x10 + 1)) : Int).toNat)) = x1
          · rw [if_pos h8] at h
            obtain rfl := Option.some.inj h
            exact Til.fin Tryz.func172 [(3, .b true), (30, .b true), (39, .b true)] (fun _ f => o (decide_eq_true h0) (o (o h1 h0) (o (o h2 h3) (o (beq_iff_eq.2 h4) (o (o h5 (o h6 h7)) (o (str_t h8) f)))))) (by kernel_rfl)
          · rw [if_neg h8] at h
            exact Til.mid Tryz.func172 11 [(3, .b true), (30, .b true), (39, .b false)] (fun _ f => o (decide_eq_true h0) (o (o h1 h0) (o (o h2 h3) (o (beq_iff_eq.2 h4) (o (o h5 (o h6 h7)) (o (str_f h8) f)))))) (by kernel_rfl) (ih.2 _ _ _ _ _ _ _ _ h)
        · rw [if_neg h4] at h
          exact Til.mid Tryz.func172 11 [(3, .b true), (30, .b false)] (fun _ f => o (decide_eq_true h0) (o (o h1 h0) (o (o h2 h3) (o (beq_false_of_ne h4) f)))) (by kernel_rfl) (ih.2 _ _ _ _ _ _ _ _ h)
      · rw [if_neg h0] at h
        obtain rfl := Option.some.inj h
        exact Til.fin Tryz.func172 [(3, .b false)] (fun _ f => o (decide_eq_false h0) f) (by kernel_rfl)
theorem bytealg_IndexRabinKarp_string_.does {k : Nat} {a0 : ByteArray} {a1 : ByteArray} {r : Int} (h : bytealg_IndexRabinKarp_string_.f k a0 a1 = some r) :
    Does Tryz.prog 172 [.c (.d (.str a0)), .c (.d (.str a1))] [] (.c (.d (.int .i64 r))) none [] := by
  refine does_fn Tryz.func172 (by kernel_rfl) rfl rfl ?_
  unfold bytealg_IndexRabinKarp_string_.f at h
  have ih := bytealg_IndexRabinKarp_string_.w k
  obtain ⟨v2, h0, h⟩ := bnd h
  exact Til.mid Tryz.func172 5 [(2, ca (.tup [.c (.d (.int .u32 v2.1)), .c (.d (.int .u32 v2.2))]))] (fun _ f => o (bytealg_hashStr_string_.does h0) f) (by kernel_rfl) (ih.1 _ _ _ _ _ _ _ _ h)

theorem stringslite_Index.does {k : Nat} {a0 : ByteArray} {a1 : ByteArray} {r : Int} (h : stringslite_Index.f k a0 a1 = some r) :
    Does Tryz.prog 163 [.c (.d (.str a0)), .c (.d (.str a1))] [] (.c (.d (.int .i64 r))) none [] := by
  refine does_fn Tryz.func163 (by kernel_rfl) rfl rfl ?_
  unfold stringslite_Index.f at h
  by_cases h0 : (a1.size : Int) = 0
  · rw [if_pos h0] at h
    obtain rfl := Option.some.inj h
    exact Til.fin Tryz.func163 [(5, .b true)] (fun _ f => o (beq_iff_eq.2 h0) f) (by kernel_rfl)
  · rw [if_neg h0] at h
    by_cases h1 : a1 = a0
    · rw [if_pos h1] at h
      obtain rfl := Option.some.inj h
      exact Til.fin Tryz.func163 [(5, .b false), (9, .b true)] (fun _ f => o (beq_false_of_ne h0) (o (str_t h1) f)) (by kernel_rfl)
    · rw [if_neg h1] at h
      by_cases h2 : (a1.size : Int) = 1
      · rw [if_pos h2] at h
        obtain ⟨h3, h⟩ := ifp h
        obtain ⟨v18, h4, h⟩ := bnd h
        obtain rfl := Option.some.inj h
        exact Til.fin Tryz.func163 [(5, .b false), (9, .b false), (13, .b true), (18, ca (.c (.d (.int .i64 v18))))] (fun _ f => o (beq_false_of_ne h0) (o (str_f h1) (o (beq_iff_eq.2 h2) (o (o (nn 0) h3) (o (stringslite_IndexByte.does h4) f))))) (by kernel_rfl)
      · rw [if_neg h2] at h
        by_cases h3 : (a1.size : Int) ≥ (a0.size : Int)
        · rw [if_pos h3] at h
          obtain rfl := Option.some.inj h
          exact Til.fin Tryz.func163 [(5, .b false), (9, .b false), (13, .b false), (18, .b true)] (fun _ f => o (beq_false_of_ne h0) (o (str_f h1) (o (beq_false_of_ne h2) (o (decide_eq_true h3) f)))) (by kernel_rfl)
        · rw [if_neg h3] at h
          cases h

theorem stringslite_Cut.does {k : Nat} {a0 : ByteArray} {a1 : ByteArray} {r : ByteArray × ByteArray × Bool} (h : stringslite_Cut.f k a0 a1 = some r) :
    Does Tryz.prog 153 [.c (.d (.str a0)), .c (.d (.str a1))] [] (.tup [.c (.d (.str r.1)), .c (.d (.str r.2.1)), .c (.d (.bool r.2.2))]) none [] := by
  refine does_fn Tryz.func153 (by kernel_rfl) rfl rfl ?_
  unfold stringslite_Cut.f at h
  obtain ⟨v5, h0, h⟩ := bnd h
  by_cases h1 : v5 ≥ 0
  · rw [if_pos h1] at h
    obtain ⟨h2, h⟩ := ifp h
    obtain ⟨h3, h⟩ := ifp h
    obtain ⟨h4, h⟩ := ifp h
    obtain rfl := Option.some.inj h
    exact Til.fin Tryz.func153 [(5, ca (.c (.d (.int .i64 v5)))), (8, .b true)] (fun _ f => o (stringslite_Index.does h0) (o (decide_eq_true h1) (o (o h1 h2) (o (o h3 h4) f)))) (by kernel_rfl)
  · rw [if_neg h1] at h
    obtain rfl := Option.some.inj h
    exact Til.fin Tryz.func153 [(5, ca (.c (.d (.int .i64 v5)))), (8, .b false)] (fun _ f => o (stringslite_Index.does h0) (o (decide_eq_false h1) f)) (by kernel_rfl)

theorem strings_Cut.does {k : Nat} {a0 : ByteArray} {a1 : ByteArray} {r : ByteArray × ByteArray × Bool} (h : strings_Cut.f k a0 a1 = some r) :
    Does Tryz.prog 137 [.c (.d (.str a0)), .c (.d (.str a1))] [] (.tup [.c (.d (.str r.1)), .c (.d (.str r.2.1)), .c (.d (.bool r.2.2))]) none [] := by
  refine does_fn Tryz.func137 (by kernel_rfl) rfl rfl ?_
  unfold strings_Cut.f at h
  obtain ⟨v5, h0, h⟩ := bnd h
  obtain rfl := Option.some.inj h
  exact Til.fin Tryz.func137 [(5, ca (.tup [.c (.d (.str v5.1)), .c (.d (.str v5.2.1)), .c (.d (.bool v5.2.2))]))] (fun _ f => o (stringslite_Cut.does h0) f) (by kernel_rfl)

def nat_plus.l0E (x0 : List Int) (x1 : Int) (x5 : List Int) (x12 : Int) (x13 : Int) : Env := [(0, .c (.d (L103 x0))), (1, .c (.d (.int .u64 x1))), (5, .c (.own 5)), (12, .c (.d (.int .i64 x12))), (13, .c (.d (.int .i64 x13)))]
def nat_plus.l0B (x0 : List Int) (x1 : Int) (x5 : List Int) (x12 : Int) (x13 : Int) : Obs := [(5, some (O103 .own x5))]
theorem nat_plus.w (k : Nat) : (∀  (x0 : List Int) (x1 : Int) (x5 : List Int) (x12 : Int) (x13 : Int) (r : List Int), nat_plus.l0 k x0 x1 x5 x12 x13 = some r → Til Tryz.prog 154 [] (.c (.d (L103 r))) none [] (at_ Tryz.f154 3) (nat_plus.l0E x0 x1 x5 x12 x13) (nat_plus.l0B x0 x1 x5 x12 x13)) := by
  induction k with
  | zero =>
    exact fun _ _ _ _ _ _ h => (by cases h)
  | succ k ih =>
    intro x0 x1 x5 x12 x13 r h
    rw [nat_plus.l0] at h
    by_cases h0 : x13 < x12
    · rw [if_pos h0] at h
      obtain ⟨v6, h1, h⟩ := bnd h
      obtain ⟨h2, h⟩ := ifp h
      obtain ⟨h3, h⟩ := ifp h
      exact Til.mid Tryz.func154 3 [(0, .b true), (6, ca (.c (.d (.int .u64 v6)))), (15, Z103 (x5.set ((x13 : Int).toNat) (Go.bits .and .u64 (IntKind.u64.wrap (x1 + (IntKind.u64.wrap (v6 * 1000000000)))) 4294967295)))] (fun _ f => o (decide_eq_true h0) (o (nat_limb.does h1) (o (o h2 h3) (o (set_ok c103 0 (fun _ _ => rfl) x5 ((x13 : Int).toNat) (Go.bits .and .u64 (IntKind.u64.wrap (x1 + (IntKind.u64.wrap (v6 * 1000000000)))) 4294967295) (lt_ok h2 h3)) (o (nn 32) f))))) (by kernel_rfl) (ih _ _ _ _ _ _ h)
    · rw [if_neg h0] at h
      obtain ⟨v2, h1, h⟩ := bnd h
      obtain rfl := Option.some.inj h
      exact Til.fin Tryz.func154 [(0, .b false), (2, ca (.c (.d (L103 v2))))] (fun _ f => o (decide_eq_false h0) (o (nat_trim.does h1) f)) (by kernel_rfl)
theorem nat_plus.does {k : Nat} {l0 : List Int} {a1 : Int} {r : List Int} (h : nat_plus.f k l0 a1 = some r) :
    Does Tryz.prog 154 [.c (.d (L103 l0)), .c (.d (.int .u64 a1))] [] (.c (.d (L103 r))) none [] := by
  refine does_fn Tryz.func154 (by kernel_rfl) rfl rfl ?_
  unfold nat_plus.f at h
  have ih := nat_plus.w k
  obtain ⟨h0, h⟩ := ifp h
  obtain ⟨h1, h⟩ := ifp h
  exact Til.mid Tryz.func154 3 [(4, Z103 (List.replicate (((wrap64 ((l0.length : Int) + 1)) : Int).toNat) 0 : List Int))] (fun _ f => o (make_ok c103 0 [.int .u64 0] ⟨.refl _, trivial⟩ (wrap64 ((l0.length : Int) + 1)) 8 35184372088832 (by decide) h0 h1) f) (by kernel_rfl) (ih _ _ _ _ _ _ h)

def c5 (x : Int) : List Dat := [.int .u8 x]
def L5 (xs : List Int) : Dat := fr 1 c5 0 xs
def Z5 (xs : List Int) : Sup := .r xs.length (enc c5 0 xs)
def O5 (k : RK) (xs : List Int) : Ob := .row k 5 1 xs.length (enc c5 0 xs)

def nat_Parse.l0E (x0 : ByteArray) (b14_s : ByteArray) (b14_p : Nat) : Env := [(0, .c (.d (.str x0))), (14, .c (.ptr 14 0))]
def nat_Parse.l0B (x0 : ByteArray) (b14_s : ByteArray) (b14_p : Nat) : Obs := [(14, some (.iter b14_s b14_p))]
def nat_Parse.l1E (x0 : ByteArray) (x6 : List Int) : Env := [(0, .c (.d (.str x0))), (6, .c (.d (L103 x6)))]
def nat_Parse.l2E (x0 : ByteArray) (x6 : List Int) (x7 : Int) (x8 : Int) (x38 : List Int) (x39 : Int) (x40 : Int) : Env := [(0, .c (.d (.str x0))), (6, .c (.d (L103 x6))), (7, .c (.d (.int .i64 x7))), (8, .c (.d (.int .u64 x8))), (38, .c (.d (L5 x38))), (39, .c (.d (.int .i64 x39))), (40, .c (.d (.int .i64 x40)))]
theorem nat_Parse.w (k : Nat) : (∀  (x0 : ByteArray) (b14_s : ByteArray) (b14_p : Nat) (r : List Int × Int), nat_Parse.l0 k x0 b14_s b14_p = some r → Til Tryz.prog 138 [] (.tup [.c (.d (L103 r.1)), .c (.d (.int .i64 r.2))]) none [] (at_ Tryz.f138 4) (nat_Parse.l0E x0 b14_s b14_p) (nat_Parse.l0B x0 b14_s b14_p)) ∧
    (∀  (x0 : ByteArray) (x6 : List Int) (r : List Int × Int), nat_Parse.l1 k x0 x6 = some r → Til Tryz.prog 138 [] (.tup [.c (.d (L103 r.1)), .c (.d (.int .i64 r.2))]) none [] (at_ Tryz.f138 11) (nat_Parse.l1E x0 x6) []) ∧
    (∀  (x0 : ByteArray) (x6 : List Int) (x7 : Int) (x8 : Int) (x38 : List Int) (x39 : Int) (x40 : Int) (r : List Int × Int), nat_Parse.l2 k x0 x6 x7 x8 x38 x39 x40 = some r → Til Tryz.prog 138 [] (.tup [.c (.d (L103 r.1)), .c (.d (.int .i64 r.2))]) none [] (at_ Tryz.f138 17) (nat_Parse.l2E x0 x6 x7 x8 x38 x39 x40) []) := by
  induction k with
  | zero =>
    exact ⟨fun _ _ _ _ h => (by cases h), fun _ _ _ h => (by cases h), fun _ _ _ _ _ _ _ _ h => (by cases h)⟩
  | succ k ih =>
    refine ⟨?_, ?_, ?_⟩
    · intro x0 b14_s b14_p r h
      rw [nat_Parse.l0] at h
      by_cases h0 : b14_p < b14_s.size
      · rw [if_pos h0] at h
        by_cases h1 : ((Utf8.decode b14_s b14_p).1 : Int) < 48
        · rw [if_pos h1] at h
          obtain rfl := Option.some.inj h
          exact Til.fin Tryz.func138 [(0, .b true), (5, .b true)] (fun _ f => o h0 (o (decide_eq_true h1) f)) (by kernel_rfl)
        · rw [if_neg h1] at h
          by_cases h2 : ((Utf8.decode b14_s b14_p).1 : Int) > 57
          · rw [if_pos h2] at h
            obtain rfl := Option.some.inj h
            exact Til.fin Tryz.func138 [(0, .b true), (5, .b false), (8, .b true)] (fun _ f => o h0 (o (decide_eq_false h1) (o (decide_eq_true h2) f))) (by kernel_rfl)
          · rw [if_neg h2] at h
            exact Til.mid Tryz.func138 4 [(0, .b true), (5, .b false), (8, .b false)] (fun _ f => o h0 (o (decide_eq_false h1) (o (decide_eq_false h2) f))) (by kernel_rfl) (ih.1 _ _ _ _ h)
      · rw [if_neg h0] at h
        by_cases h1 : (x0.size : Int) > 10000
        · rw [if_pos h1] at h
          obtain rfl := Option.some.inj h
          exact Til.fin Tryz.func138 [(0, .b false), (4, .b true)] (fun _ f => o h0 (o (decide_eq_true h1) f)) (by kernel_rfl)
        · rw [if_neg h1] at h
          exact Til.mid Tryz.func138 11 [(0, .b false), (4, .b false)] (fun _ f => o h0 (o (decide_eq_false h1) f)) (by kernel_rfl) (ih.2.1 _ _ _ h)
    · intro x0 x6 r h
      rw [nat_Parse.l1] at h
      by_cases h0 : (x0.size : Int) > 0
      · rw [if_pos h0] at h
        by_cases h1 : (Int.tmod (x0.size : Int) 9) = 0
        · rw [if_pos h1] at h
          obtain ⟨h2, h⟩ := ifp h
          obtain ⟨h3, h⟩ := ifp h
          exact Til.mid Tryz.func138 17 [(2, .b true), (8, .b true), (14, Z5 (toBytes (x0.extract 0 9)))] (fun _ f => o (decide_eq_true h0) (o (by decide : ¬ (9 : Int) = 0) (o (beq_iff_eq.2 h1) (o (o (nn 9) h2) (o (bytes_ok c5 (x0.extract 0 9) (fun _ => rfl) h3) f))))) (by kernel_rfl) (ih.2.2 _ _ _ _ _ _ _ _ h)
        · rw [if_neg h1] at h
          obtain ⟨h2, h⟩ := ifp h
          obtain ⟨h3, h⟩ := ifp h
          obtain ⟨h4, h⟩ := ifp h
          exact Til.mid Tryz.func138 17 [(2, .b true), (8, .b false), (13, Z5 (toBytes (x0.extract 0 (((Int.tmod (x0.size : Int) 9) : Int).toNat))))] (fun _ f => o (decide_eq_true h0) (o (by decide : ¬ (9 : Int) = 0) (o (beq_false_of_ne h1) (o (o h2 h3) (o (bytes_ok c5 (x0.extract 0 (((Int.tmod (x0.size : Int) 9) : Int).toNat)) (fun _ => rfl) h4) f))))) (by kernel_rfl) (ih.2.2 _ _ _ _ _ _ _ _ h)
      · rw [if_neg h0] at h
        obtain rfl := Option.some.inj h
        exact Til.fin Tryz.func138 [(2, .b false)] (fun _ f => o (decide_eq_false h0) f) (by kernel_rfl)
    · intro x0 x6 x7 x8 x38 x39 x40 r h
      rw [nat_Parse.l2] at h
      by_cases h0 : x40 < x39
      · rw [if_pos h0] at h
        obtain ⟨h1, h⟩ := ifp h
        obtain ⟨h2, h⟩ := ifp h
        exact Til.mid Tryz.func138 17 [(0, .b true)] (fun _ f => o (decide_eq_true h0) (o (o h1 h2) f)) (by kernel_rfl) (ih.2.2 _ _ _ _ _ _ _ _ h)
      · rw [if_neg h0] at h
        obtain ⟨v3, h1, h⟩ := bnd h
        obtain ⟨h2, h⟩ := ifp h
        obtain ⟨h3, h⟩ := ifp h
        exact Til.mid Tryz.func138 11 [(0, .b false), (3, ca (.c (.d (L103 v3))))] (fun _ f => o (decide_eq_false h0) (o (nat_plus.does h1) (o (o h2 h3) f))) (by kernel_rfl) (ih.2.1 _ _ _ h)
theorem nat_Parse.does {k : Nat} {a0 : ByteArray} {r : List Int × Int} (h : nat_Parse.f k a0 = some r) :
    Does Tryz.prog 138 [.c (.d (.str a0))] [] (.tup [.c (.d (L103 r.1)), .c (.d (.int .i64 r.2))]) none [] := by
  refine does_fn Tryz.func138 (by kernel_rfl) rfl rfl ?_
  unfold nat_Parse.f at h
  have ih := nat_Parse.w k
  by_cases h0 : a0 = ByteArray.empty
  · rw [if_pos h0] at h
    obtain rfl := Option.some.inj h
    exact Til.fin Tryz.func138 [(3, .b true)] (fun _ f => o (str_t h0) f) (by kernel_rfl)
  · rw [if_neg h0] at h
    exact Til.mid Tryz.func138 4 [(3, .b false)] (fun _ f => o (str_f h0) f) (by kernel_rfl) (ih.1 _ _ _ _ h)

theorem ratio_plain.does {k : Nat} {a0 : ByteArray} {r : Bool × List Int × List Int × Int} (h : ratio_plain.f k a0 = some r) :
    Does Tryz.prog 107 [.c (.d (.str a0))] [] (.tup [.agg [.d (.bool r.1), .d (L103 r.2.1), .d (L103 r.2.2.1)], .c (.d (.int .i64 r.2.2.2))]) none [] := by
  refine does_fn Tryz.func107 (by kernel_rfl) rfl rfl ?_
  unfold ratio_plain.f at h
  obtain ⟨v3, h0, h⟩ := bnd h
  by_cases h1 : v3.2.2 = true
  · rw [if_pos h1] at h
    obtain ⟨v13, h2, h⟩ := bnd h
    by_cases h3 : v13.2 ≠ 0
    · rw [if_pos h3] at h
      obtain rfl := Option.some.inj h
      exact Til.fin Tryz.func107 [(3, ca (.tup [.c (.d (.str v3.1)), .c (.d (.str v3.2.1)), .c (.d (.bool v3.2.2))])), (7, .b true), (13, ca (.tup [.c (.d (L103 v13.1)), .c (.d (.int .i64 v13.2))])), (20, .b true)] (fun _ f => o (strings_Cut.does h0) (o h1 (o (nat_Parse.does h2) (o (bne_iff_ne.2 h3) f)))) (by kernel_rfl)
    · rw [if_neg h3] at h
      obtain ⟨v22, h4, h⟩ := bnd h
      by_cases h5 : v22.2 ≠ 0
      · rw [if_pos h5] at h
        obtain rfl := Option.some.inj h
        exact Til.fin Tryz.func107 [(3, ca (.tup [.c (.d (.str v3.1)), .c (.d (.str v3.2.1)), .c (.d (.bool v3.2.2))])), (7, .b true), (13, ca (.tup [.c (.d (L103 v13.1)), .c (.d (.int .i64 v13.2))])), (20, .b false), (22, ca (.tup [.c (.d (L103 v22.1)), .c (.d (.int .i64 v22.2))])), (29, .b true)] (fun _ f => o (strings_Cut.does h0) (o h1 (o (nat_Parse.does h2) (o (ne_f h3) (o (nat_Parse.does h4) (o (bne_iff_ne.2 h5) f)))))) (by kernel_rfl)
      · rw [if_neg h5] at h
        by_cases h6 : (v22.1.length : Int) = 0
        · rw [if_pos h6] at h
          obtain rfl := Option.some.inj h
          exact Til.fin Tryz.func107 [(3, ca (.tup [.c (.d (.str v3.1)), .c (.d (.str v3.2.1)), .c (.d (.bool v3.2.2))])), (7, .b true), (13, ca (.tup [.c (.d (L103 v13.1)), .c (.d (.int .i64 v13.2))])), (20, .b false), (22, ca (.tup [.c (.d (L103 v22.1)), .c (.d (.int .i64 v22.2))])), (29, .b false), (32, .b true)] (fun _ f => o (strings_Cut.does h0) (o h1 (o (nat_Parse.does h2) (o (ne_f h3) (o (nat_Parse.does h4) (o (ne_f h5) (o (beq_iff_eq.2 h6) f))))))) (by kernel_rfl)
        · rw [if_neg h6] at h
          obtain ⟨v36, h7, h⟩ := bnd h
          obtain rfl := Option.some.inj h
          exact Til.fin Tryz.func107 [(3, ca (.tup [.c (.d (.str v3.1)), .c (.d (.str v3.2.1)), .c (.d (.bool v3.2.2))])), (7, .b true), (13, ca (.tup [.c (.d (L103 v13.1)), .c (.d (.int .i64 v13.2))])), (20, .b false), (22, ca (.tup [.c (.d (L103 v22.1)), .c (.d (.int .i64 v22.2))])), (29, .b false), (32, .b false), (36, ca (.agg [.d (.bool v36.1), .d (L103 v36.2.1), .d (L103 v36.2.2)]))] (fun _ f => o (strings_Cut.does h0) (o h1 (o (nat_Parse.does h2) (o (ne_f h3) (o (nat_Parse.does h4) (o (ne_f h5) (o (beq_false_of_ne h6) (o (ratio_form.does h7) f)))))))) (by kernel_rfl)
  · rw [if_neg h1] at h
    obtain ⟨v13, h2, h⟩ := bnd h
    by_cases h3 : v13.2.2 = true
    · rw [if_pos h3] at h
      obtain ⟨v22, h4, h⟩ := bnd h
      by_cases h5 : v22.2 ≠ 0
      · rw [if_pos h5] at h
        obtain rfl := Option.some.inj h
        exact Til.fin Tryz.func107 [(3, ca (.tup [.c (.d (.str v3.1)), .c (.d (.str v3.2.1)), .c (.d (.bool v3.2.2))])), (7, .b false), (13, ca (.tup [.c (.d (.str v13.1)), .c (.d (.str v13.2.1)), .c (.d (.bool v13.2.2))])), (17, .b true), (22, ca (.tup [.c (.d (L103 v22.1)), .c (.d (.int .i64 v22.2))])), (29, .b true)] (fun _ f => o (strings_Cut.does h0) (o (Bool.eq_false_iff.2 h1) (o (strings_Cut.does h2) (o h3 (o (nat_Parse.does h4) (o (bne_iff_ne.2 h5) f)))))) (by kernel_rfl)
      · rw [if_neg h5] at h
        obtain ⟨v33, h6, h⟩ := bnd h
        by_cases h7 : v33.2 ≠ 0
        · rw [if_pos h7] at h
          obtain rfl := Option.some.inj h
          exact Til.fin Tryz.func107 [(3, ca (.tup [.c (.d (.str v3.1)), .c (.d (.str v3.2.1)), .c (.d (.bool v3.2.2))])), (7, .b false), (13, ca (.tup [.c (.d (.str v13.1)), .c (.d (.str v13.2.1)), .c (.d (.bool v13.2.2))])), (17, .b true), (22, ca (.tup [.c (.d (L103 v22.1)), .c (.d (.int .i64 v22.2))])), (29, .b false), (33, ca (.tup [.c (.d (L103 v33.1)), .c (.d (.int .i64 v33.2))])), (40, .b true)] (fun _ f => o (strings_Cut.does h0) (o (Bool.eq_false_iff.2 h1) (o (strings_Cut.does h2) (o h3 (o (nat_Parse.does h4) (o (ne_f h5) (o (nat_Parse.does h6) (o (bne_iff_ne.2 h7) f)))))))) (by kernel_rfl)
        · rw [if_neg h7] at h
          obtain ⟨v43, h8, h⟩ := bnd h
          obtain ⟨v47, h9, h⟩ := bnd h
          obtain ⟨v49, h10, h⟩ := bnd h
          obtain ⟨v52, h11, h⟩ := bnd h
          obtain rfl := Option.some.inj h
          exact Til.fin Tryz.func107 [(3, ca (.tup [.c (.d (.str v3.1)), .c (.d (.str v3.2.1)), .c (.d (.bool v3.2.2))])), (7, .b false), (13, ca (.tup [.c (.d (.str v13.1)), .c (.d (.str v13.2.1)), .c (.d (.bool v13.2.2))])), (17, .b true), (22, ca (.tup [.c (.d (L103 v22.1)), .c (.d (.int .i64 v22.2))])), (29, .b false), (33, ca (.tup [.c (.d (L103 v33.1)), .c (.d (.int .i64 v33.2))])), (40, .b false), (43, ca (.c (.d (L103 v43)))), (47, ca (.c (.d (L103 v47)))), (49, ca (.c (.d (L103 v49)))), (52, ca (.agg [.d (.bool v52.1), .d (L103 v52.2.1), .d (L103 v52.2.2)]))] (fun _ f => o (strings_Cut.does h0) (o (Bool.eq_false_iff.2 h1) (o (strings_Cut.does h2) (o h3 (o (nat_Parse.does h4) (o (ne_f h5) (o (nat_Parse.does h6) (o (ne_f h7) (o (ratio_ten.does h8) (o (nat_Mul.does h9) (o (nat_Add.does h10) (o (ratio_form.does h11) f)))))))))))) (by kernel_rfl)
    · rw [if_neg h3] at h
      obtain ⟨v22, h4, h⟩ := bnd h
      by_cases h5 : v22.2 ≠ 0
      · rw [if_pos h5] at h
        obtain rfl := Option.some.inj h
        exact Til.fin Tryz.func107 [(3, ca (.tup [.c (.d (.str v3.1)), .c (.d (.str v3.2.1)), .c (.d (.bool v3.2.2))])), (7, .b false), (13, ca (.tup [.c (.d (.str v13.1)), .c (.d (.str v13.2.1)), .c (.d (.bool v13.2.2))])), (17, .b false), (22, ca (.tup [.c (.d (L103 v22.1)), .c (.d (.int .i64 v22.2))])), (29, .b true)] (fun _ f => o (strings_Cut.does h0) (o (Bool.eq_false_iff.2 h1) (o (strings_Cut.does h2) (o (Bool.eq_false_iff.2 h3) (o (nat_Parse.does h4) (o (bne_iff_ne.2 h5) f)))))) (by kernel_rfl)
      · rw [if_neg h5] at h
        obtain ⟨v34, h6, h⟩ := bnd h
        obtain ⟨v35, h7, h⟩ := bnd h
        obtain rfl := Option.some.inj h
        exact Til.fin Tryz.func107 [(3, ca (.tup [.c (.d (.str v3.1)), .c (.d (.str v3.2.1)), .c (.d (.bool v3.2.2))])), (7, .b false), (13, ca (.tup [.c (.d (.str v13.1)), .c (.d (.str v13.2.1)), .c (.d (.bool v13.2.2))])), (17, .b false), (22, ca (.tup [.c (.d (L103 v22.1)), .c (.d (.int .i64 v22.2))])), (29, .b false), (34, ca (.c (.d (L103 v34)))), (35, ca (.agg [.d (.bool v35.1), .d (L103 v35.2.1), .d (L103 v35.2.2)]))] (fun _ f => o (strings_Cut.does h0) (o (Bool.eq_false_iff.2 h1) (o (strings_Cut.does h2) (o (Bool.eq_false_iff.2 h3) (o (nat_Parse.does h4) (o (ne_f h5) (o (nat_Of.does h6) (o (ratio_form.does h7) f)))))))) (by kernel_rfl)

theorem ratio_Parse.does {k : Nat} {a0 : ByteArray} {r : Bool × List Int × List Int × Int} (h : ratio_Parse.f k a0 = some r) :
    Does Tryz.prog 54 [.c (.d (.str a0))] [] (.tup [.agg [.d (.bool r.1), .d (L103 r.2.1), .d (L103 r.2.2.1)], .c (.d (.int .i64 r.2.2.2))]) none [] := by
  refine does_fn Tryz.func54 (by kernel_rfl) rfl rfl ?_
  unfold ratio_Parse.f at h
  obtain ⟨v3, h0, h⟩ := bnd h
  cases v3
  · rw [if_neg (by decide)] at h
    obtain ⟨v7, h2, h⟩ := bnd h
    by_cases h3 : v7.2.2.2 ≠ 0
    · rw [if_pos h3] at h
      obtain rfl := Option.some.inj h
      exact Til.fin Tryz.func54 [(3, ca (.c (.d (.bool false)))), (7, ca (.tup [.agg [.d (.bool v7.1), .d (L103 v7.2.1), .d (L103 v7.2.2.1)], .c (.d (.int .i64 v7.2.2.2))])), (15, .b true)] (fun _ f => o (strings_HasPrefix.does h0) (o (ratio_plain.does h2) (o (bne_iff_ne.2 h3) f))) (by kernel_rfl)
    · rw [if_neg h3] at h
      obtain rfl := Option.some.inj h
      exact Til.fin Tryz.func54 [(3, ca (.c (.d (.bool false)))), (7, ca (.tup [.agg [.d (.bool v7.1), .d (L103 v7.2.1), .d (L103 v7.2.2.1)], .c (.d (.int .i64 v7.2.2.2))])), (15, .b false)] (fun _ f => o (strings_HasPrefix.does h0) (o (ratio_plain.does h2) (o (ne_f h3) f))) (by kernel_rfl)
  · rw [if_pos rfl] at h
    obtain ⟨h2, h⟩ := ifp h
    obtain ⟨v10, h3, h⟩ := bnd h
    by_cases h4 : v10.2.2.2 ≠ 0
    · rw [if_pos h4] at h
      obtain rfl := Option.some.inj h
      exact Til.fin Tryz.func54 [(3, ca (.c (.d (.bool true)))), (10, ca (.tup [.agg [.d (.bool v10.1), .d (L103 v10.2.1), .d (L103 v10.2.2.1)], .c (.d (.int .i64 v10.2.2.2))])), (18, .b true)] (fun _ f => o (strings_HasPrefix.does h0) (o (o (nn 1) h2) (o (ratio_plain.does h3) (o (bne_iff_ne.2 h4) f)))) (by kernel_rfl)
    · rw [if_neg h4] at h
      obtain ⟨v21, h5, h⟩ := bnd h
      obtain rfl := Option.some.inj h
      exact Til.fin Tryz.func54 [(3, ca (.c (.d (.bool true)))), (10, ca (.tup [.agg [.d (.bool v10.1), .d (L103 v10.2.1), .d (L103 v10.2.2.1)], .c (.d (.int .i64 v10.2.2.2))])), (18, .b false), (21, ca (.agg [.d (.bool v21.1), .d (L103 v21.2.1), .d (L103 v21.2.2)]))] (fun _ f => o (strings_HasPrefix.does h0) (o (o (nn 1) h2) (o (ratio_plain.does h3) (o (ne_f h4) (o (ratio_Neg.does h5) f))))) (by kernel_rfl)

theorem nat_Bit.does {k : Nat} {l0 : List Int} {a1 : Int} {r : Int} (h : nat_Bit.f k l0 a1 = some r) :
    Does Tryz.prog 131 [.c (.d (L103 l0)), .c (.d (.int .i64 a1))] [] (.c (.d (.int .i64 r))) none [] := by
  refine does_fn Tryz.func131 (by kernel_rfl) rfl rfl ?_
  unfold nat_Bit.f at h
  obtain ⟨v2, h0, h⟩ := bnd h
  by_cases h1 : a1 < 0
  · rw [if_pos h1] at h
    obtain rfl := Option.some.inj h
    exact Til.fin Tryz.func131 [(2, ca (.c (.d (L103 v2)))), (5, .b true)] (fun _ f => o (nat_Clean.does h0) (o (decide_eq_true h1) f)) (by kernel_rfl)
  · rw [if_neg h1] at h
    by_cases h2 : (wrap64 (Int.tdiv a1 32)) ≥ (v2.length : Int)
    · rw [if_pos h2] at h
      obtain rfl := Option.some.inj h
      exact Til.fin Tryz.func131 [(2, ca (.c (.d (L103 v2)))), (5, .b false), (11, .b true)] (fun _ f => o (nat_Clean.does h0) (o (decide_eq_false h1) (o (by decide : ¬ (32 : Int) = 0) (o (decide_eq_true h2) f)))) (by kernel_rfl)
    · rw [if_neg h2] at h
      obtain ⟨h3, h⟩ := ifp h
      obtain ⟨h4, h⟩ := ifp h
      obtain ⟨h5, h⟩ := ifp h
      obtain rfl := Option.some.inj h
      exact Til.fin Tryz.func131 [(2, ca (.c (.d (L103 v2)))), (5, .b false), (11, .b false)] (fun _ f => o (nat_Clean.does h0) (o (decide_eq_false h1) (o (by decide : ¬ (32 : Int) = 0) (o (decide_eq_false h2) (o (by decide : ¬ (32 : Int) = 0) (o (o h3 h4) (o (by decide : ¬ (32 : Int) = 0) (o h5 f)))))))) (by kernel_rfl)

theorem nat_Even.does {k : Nat} {l0 : List Int} {r : Bool} (h : nat_Even.f k l0 = some r) :
    Does Tryz.prog 93 [.c (.d (L103 l0))] [] (.c (.d (.bool r))) none [] := by
  refine does_fn Tryz.func93 (by kernel_rfl) rfl rfl ?_
  unfold nat_Even.f at h
  obtain ⟨v2, h0, h⟩ := bnd h
  obtain rfl := Option.some.inj h
  exact Til.fin Tryz.func93 [(2, ca (.c (.d (.int .i64 v2))))] (fun _ f => o (nat_Bit.does h0) f) (by kernel_rfl)

theorem ratio_Round.does {k : Nat} {a0_0 : Bool} {l0_1 : List Int} {l0_2 : List Int} {r : Bool × List Int} (h : ratio_Round.f k a0_0 l0_1 l0_2 = some r) :
    Does Tryz.prog 36 [.agg [.d (.bool a0_0), .d (L103 l0_1), .d (L103 l0_2)]] [] (.agg [.d (.bool r.1), .d (L103 r.2)]) none [] := by
  refine does_fn Tryz.func36 (by kernel_rfl) rfl rfl ?_
  unfold ratio_Round.f at h
  obtain ⟨v3, h0, h⟩ := bnd h
  obtain ⟨v8, h1, h⟩ := bnd h
  obtain ⟨v9, h2, h⟩ := bnd h
  obtain ⟨v10, h3, h⟩ := bnd h
  obtain ⟨v11, h4, h⟩ := bnd h
  by_cases h5 : v11 < 0
  · rw [if_pos h5] at h
    obtain rfl := Option.some.inj h
    exact Til.fin Tryz.func36 [(3, ca (.agg [.d (.bool v3.1), .d (L103 v3.2)])), (8, ca (.agg [.d (.bool v8.1), .d (L103 v8.2.1), .d (L103 v8.2.2)])), (9, ca (.agg [.d (.bool v9.1), .d (L103 v9.2.1), .d (L103 v9.2.2)])), (10, ca (.agg [.d (.bool v10.1), .d (L103 v10.2.1), .d (L103 v10.2.2)])), (11, ca (.c (.d (.int .i64 v11)))), (14, .b true)] (fun _ f => o (ratio_Floor.does h0) (o (ratio_Int.does h1) (o (ratio_Sub.does h2) (o (ratio_Frac.does h3) (o (ratio_Cmp.does h4) (o (decide_eq_true h5) f)))))) (by kernel_rfl)
  · rw [if_neg h5] at h
    by_cases h6 : v11 = 0
    · rw [if_pos h6] at h
      obtain ⟨v21, h7, h⟩ := bnd h
      cases v21
      · rw [if_neg (by decide)] at h
        obtain ⟨v25, h9, h⟩ := bnd h
        obtain ⟨v26, h10, h⟩ := bnd h
        obtain rfl := Option.some.inj h
        exact Til.fin Tryz.func36 [(3, ca (.agg [.d (.bool v3.1), .d (L103 v3.2)])), (8, ca (.agg [.d (.bool v8.1), .d (L103 v8.2.1), .d (L103 v8.2.2)])), (9, ca (.agg [.d (.bool v9.1), .d (L103 v9.2.1), .d (L103 v9.2.2)])), (10, ca (.agg [.d (.bool v10.1), .d (L103 v10.2.1), .d (L103 v10.2.2)])), (11, ca (.c (.d (.int .i64 v11)))), (14, .b false), (17, .b true), (21, ca (.c (.d (.bool false)))), (25, ca (.agg [.d (.bool v25.1), .d (L103 v25.2)])), (26, ca (.agg [.d (.bool v26.1), .d (L103 v26.2)]))] (fun _ f => o (ratio_Floor.does h0) (o (ratio_Int.does h1) (o (ratio_Sub.does h2) (o (ratio_Frac.does h3) (o (ratio_Cmp.does h4) (o (decide_eq_false h5) (o (beq_iff_eq.2 h6) (o (nat_Even.does h7) (o (whole_Of.does h9) (o (whole_Add.does h10) f)))))))))) (by kernel_rfl)
      · rw [if_pos rfl] at h
        obtain rfl := Option.some.inj h
        exact Til.fin Tryz.func36 [(3, ca (.agg [.d (.bool v3.1), .d (L103 v3.2)])), (8, ca (.agg [.d (.bool v8.1), .d (L103 v8.2.1), .d (L103 v8.2.2)])), (9, ca (.agg [.d (.bool v9.1), .d (L103 v9.2.1), .d (L103 v9.2.2)])), (10, ca (.agg [.d (.bool v10.1), .d (L103 v10.2.1), .d (L103 v10.2.2)])), (11, ca (.c (.d (.int .i64 v11)))), (14, .b false), (17, .b true), (21, ca (.c (.d (.bool true))))] (fun _ f => o (ratio_Floor.does h0) (o (ratio_Int.does h1) (o (ratio_Sub.does h2) (o (ratio_Frac.does h3) (o (ratio_Cmp.does h4) (o (decide_eq_false h5) (o (beq_iff_eq.2 h6) (o (nat_Even.does h7) f)))))))) (by kernel_rfl)
    · rw [if_neg h6] at h
      obtain ⟨v25, h7, h⟩ := bnd h
      obtain ⟨v26, h8, h⟩ := bnd h
      obtain rfl := Option.some.inj h
      exact Til.fin Tryz.func36 [(3, ca (.agg [.d (.bool v3.1), .d (L103 v3.2)])), (8, ca (.agg [.d (.bool v8.1), .d (L103 v8.2.1), .d (L103 v8.2.2)])), (9, ca (.agg [.d (.bool v9.1), .d (L103 v9.2.1), .d (L103 v9.2.2)])), (10, ca (.agg [.d (.bool v10.1), .d (L103 v10.2.1), .d (L103 v10.2.2)])), (11, ca (.c (.d (.int .i64 v11)))), (14, .b false), (17, .b false), (25, ca (.agg [.d (.bool v25.1), .d (L103 v25.2)])), (26, ca (.agg [.d (.bool v26.1), .d (L103 v26.2)]))] (fun _ f => o (ratio_Floor.does h0) (o (ratio_Int.does h1) (o (ratio_Sub.does h2) (o (ratio_Frac.does h3) (o (ratio_Cmp.does h4) (o (decide_eq_false h5) (o (beq_false_of_ne h6) (o (whole_Of.does h7) (o (whole_Add.does h8) f))))))))) (by kernel_rfl)

def nat_nine.l0E (x0 : Int) (x3 : List Int) (x4 : Int) : Env := [(0, .c (.d (.int .u64 x0))), (3, .c (.own 3)), (4, .c (.d (.int .i64 x4)))]
def nat_nine.l0B (x0 : Int) (x3 : List Int) (x4 : Int) : Obs := [(3, some (O5 .own x3))]
theorem nat_nine.w (k : Nat) : (∀  (x0 : Int) (x3 : List Int) (x4 : Int) (r : List Int), nat_nine.l0 k x0 x3 x4 = some r → Til Tryz.prog 140 [] (.c (.d (L5 r))) none [] (at_ Tryz.f140 3) (nat_nine.l0E x0 x3 x4) (nat_nine.l0B x0 x3 x4)) := by
  induction k with
  | zero =>
    exact fun _ _ _ _ h => (by cases h)
  | succ k ih =>
    intro x0 x3 x4 r h
    rw [nat_nine.l0] at h
    by_cases h0 : x4 ≥ 0
    · rw [if_pos h0] at h
      obtain ⟨h1, h⟩ := ifp h
      exact Til.mid Tryz.func140 3 [(1, .b true), (9, Z5 (x3.set ((x4 : Int).toNat) (IntKind.u8.wrap ((IntKind.u64.wrap (48 + (Int.tmod x0 10)))))))] (fun _ f => o (decide_eq_true h0) (o (by decide : ¬ (10 : Int) = 0) (o (o h0 h1) (o (set_ok c5 0 (fun _ _ => rfl) x3 ((x4 : Int).toNat) (IntKind.u8.wrap ((IntKind.u64.wrap (48 + (Int.tmod x0 10))))) (lt_ok h0 h1)) (o (by decide : ¬ (10 : Int) = 0) f))))) (by kernel_rfl) (ih _ _ _ _ h)
    · rw [if_neg h0] at h
      obtain rfl := Option.some.inj h
      exact Til.fin Tryz.func140 [(1, .b false)] (fun _ f => o (decide_eq_false h0) f) (by kernel_rfl)
theorem nat_nine.does {k : Nat} {a0 : Int} {r : List Int} (h : nat_nine.f k a0 = some r) :
    Does Tryz.prog 140 [.c (.d (.int .u64 a0))] [] (.c (.d (L5 r))) none [] := by
  refine does_fn Tryz.func140 (by kernel_rfl) rfl rfl ?_
  unfold nat_nine.f at h
  have ih := nat_nine.w k
  exact Til.mid Tryz.func140 3 [(1, Z5 (List.replicate 9 0 : List Int))] (fun _ f => o (make_ok c5 0 [.int .u8 0] ⟨.refl _, trivial⟩ 9 1 281474976710656 (by decide) (nn 9) (by decide)) f) (by kernel_rfl) (ih _ _ _ _ h)

def nat_Print.l0E (x0 : List Int) (x3 : List Int) : Env := [(0, .c (.d (L103 x0))), (3, .c (.own 3))]
def nat_Print.l0B (x0 : List Int) (x3 : List Int) : Obs := [(3, some (O103 .own x3))]
def nat_Print.l1E (x3 : List Int) (x5 : List Int) (x6 : Int) : Env := [(3, .c (.own 3)), (5, .c (.own 5)), (6, .c (.d (.int .i64 x6)))]
def nat_Print.l1B (x3 : List Int) (x5 : List Int) (x6 : Int) : Obs := [(3, some (O103 .own x3)), (5, some (O5 .own x5))]
def nat_Print.l2E (x5 : List Int) (x7 : Int) : Env := [(5, .c (.own 5)), (7, .c (.d (.int .i64 x7)))]
def nat_Print.l2B (x5 : List Int) (x7 : Int) : Obs := [(5, some (O5 .own x5))]
theorem nat_Print.w (k : Nat) : (∀  (x0 : List Int) (x3 : List Int) (r : ByteArray), nat_Print.l0 k x0 x3 = some r → Til Tryz.prog 111 [] (.c (.d (.str r))) none [] (at_ Tryz.f111 5) (nat_Print.l0E x0 x3) (nat_Print.l0B x0 x3)) ∧
    (∀  (x3 : List Int) (x5 : List Int) (x6 : Int) (r : ByteArray), nat_Print.l1 k x3 x5 x6 = some r → Til Tryz.prog 111 [] (.c (.d (.str r))) none [] (at_ Tryz.f111 11) (nat_Print.l1E x3 x5 x6) (nat_Print.l1B x3 x5 x6)) ∧
    (∀  (x5 : List Int) (x7 : Int) (r : ByteArray), nat_Print.l2 k x5 x7 = some r → Til Tryz.prog 111 [] (.c (.d (.str r))) none [] (at_ Tryz.f111 15) (nat_Print.l2E x5 x7) (nat_Print.l2B x5 x7)) := by
  induction k with
  | zero =>
    exact ⟨fun _ _ _ h => (by cases h), fun _ _ _ _ h => (by cases h), fun _ _ _ h => (by cases h)⟩
  | succ k ih =>
    refine ⟨?_, ?_, ?_⟩
    · intro x0 x3 r h
      rw [nat_Print.l0] at h
      by_cases h0 : (x0.length : Int) > 0
      · rw [if_pos h0] at h
        obtain ⟨v5, h1, h⟩ := bnd h
        obtain ⟨h2, h⟩ := ifp h
        exact Til.mid Tryz.func111 5 [(2, .b true), (5, ca (.tup [.c (.d (L103 v5.1)), .c (.d (.int .u64 v5.2))])), (13, Z103 ([v5.2] : List Int)), (14, Z103 (x3 ++ [v5.2]))] (fun _ f => o (decide_eq_true h0) (o (nat_small.does h1) (o (lit_ok c103 0 ([v5.2] : List Int)) (o (app1 c103 0 x3 v5.2 8 17592186044416 (by decide) h2) f)))) (by kernel_rfl) (ih.1 _ _ _ h)
      · rw [if_neg h0] at h
        exact Til.mid Tryz.func111 11 [(2, .b false)] (fun _ f => o (decide_eq_false h0) f) (by kernel_rfl) (ih.2.1 _ _ _ _ h)
    · intro x3 x5 x6 r h
      rw [nat_Print.l1] at h
      by_cases h0 : x6 ≥ 0
      · rw [if_pos h0] at h
        obtain ⟨h1, h⟩ := ifp h
        obtain ⟨v7, h2, h⟩ := bnd h
        obtain ⟨h3, h⟩ := ifp h
        exact Til.mid Tryz.func111 11 [(1, .b true), (7, ca (.c (.d (L5 v7)))), (8, Z5 (x5 ++ v7))] (fun _ f => o (decide_eq_true h0) (o (o h0 h1) (o (nat_nine.does h2) (o (app c5 0 x5 v7 1 140737488355328 (by decide) h3) f)))) (by kernel_rfl) (ih.2.1 _ _ _ _ h)
      · rw [if_neg h0] at h
        exact Til.mid Tryz.func111 15 [(1, .b false)] (fun _ f => o (decide_eq_false h0) f) (by kernel_rfl) (ih.2.2 _ _ _ h)
    · intro x5 x7 r h
      rw [nat_Print.l2] at h
      obtain ⟨h0, h⟩ := ifp h
      obtain ⟨h1, h⟩ := ifp h
      by_cases h2 : (rd x5 x7) = 48
      · rw [if_pos h2] at h
        exact Til.mid Tryz.func111 15 [(4, .b true)] (fun _ f => o (o h0 h1) (o (beq_iff_eq.2 h2) f)) (by kernel_rfl) (ih.2.2 _ _ _ h)
      · rw [if_neg h2] at h
        obtain ⟨h3, h⟩ := ifp h
        obtain rfl := Option.some.inj h
        exact Til.fin Tryz.func111 [(4, .b false), (8, .v (.c (.d (.str (ofBytes (x5.drop ((x7 : Int).toNat)))))))] (fun _ f => o (o h0 h1) (o (beq_false_of_ne h2) (o (o h0 h1) (o (strd_ok c5 x5 (fun _ => rfl) x7 h0 h1 h3) (o (Eq.refl (TV.c (.d (.str (ofBytes (x5.drop ((x7 : Int).toNat))))))) f))))) (by kernel_rfl)
theorem nat_Print.does {k : Nat} {l0 : List Int} {r : ByteArray} (h : nat_Print.f k l0 = some r) :
    Does Tryz.prog 111 [.c (.d (L103 l0))] [] (.c (.d (.str r))) none [] := by
  refine does_fn Tryz.func111 (by kernel_rfl) rfl rfl ?_
  unfold nat_Print.f at h
  have ih := nat_Print.w k
  obtain ⟨v2, h0, h⟩ := bnd h
  by_cases h1 : (v2.length : Int) = 0
  · rw [if_pos h1] at h
    obtain rfl := Option.some.inj h
    exact Til.fin Tryz.func111 [(2, ca (.c (.d (L103 v2)))), (6, .b true)] (fun _ f => o (nat_Clean.does h0) (o (beq_iff_eq.2 h1) f)) (by kernel_rfl)
  · rw [if_neg h1] at h
    exact Til.mid Tryz.func111 5 [(2, ca (.c (.d (L103 v2)))), (6, .b false)] (fun _ f => o (nat_Clean.does h0) (o (beq_false_of_ne h1) f)) (by kernel_rfl) (ih.1 _ _ _ h)

theorem ratio_Decimal.does {k : Nat} {a0_0 : Bool} {l0_1 : List Int} {l0_2 : List Int} {a1 : Int} {r : ByteArray × Int} (h : ratio_Decimal.f k a0_0 l0_1 l0_2 a1 = some r) :
    Does Tryz.prog 56 [.agg [.d (.bool a0_0), .d (L103 l0_1), .d (L103 l0_2)], .c (.d (.int .i64 a1))] [] (.tup [.c (.d (.str r.1)), .c (.d (.int .i64 r.2))]) none [] := by
  refine does_fn Tryz.func56 (by kernel_rfl) rfl rfl ?_
  unfold ratio_Decimal.f at h
  by_cases h0 : a1 < 0
  · rw [if_pos h0] at h
    obtain rfl := Option.some.inj h
    exact Til.fin Tryz.func56 [(4, .b true)] (fun _ f => o (decide_eq_true h0) f) (by kernel_rfl)
  · rw [if_neg h0] at h
    by_cases h1 : a1 > 10000
    · rw [if_pos h1] at h
      obtain rfl := Option.some.inj h
      exact Til.fin Tryz.func56 [(4, .b false), (7, .b true)] (fun _ f => o (decide_eq_false h0) (o (decide_eq_true h1) f)) (by kernel_rfl)
    · rw [if_neg h1] at h
      obtain ⟨v11, h2, h⟩ := bnd h
      obtain ⟨v13, h3, h⟩ := bnd h
      obtain ⟨v14, h4, h⟩ := bnd h
      obtain ⟨v15, h5, h⟩ := bnd h
      obtain ⟨v20, h6, h⟩ := bnd h
      by_cases h7 : (wrap64 ((wrap64 (a1 + 1)) - (v20.size : Int))) > 0
      · rw [if_pos h7] at h
        obtain ⟨v31, h8, h⟩ := bnd h
        obtain ⟨h9, h⟩ := ifp h
        by_cases h10 : a1 > 0
        · rw [if_pos h10] at h
          obtain ⟨h11, h⟩ := ifp h
          obtain ⟨h12, h⟩ := ifp h
          obtain ⟨h13, h⟩ := ifp h
          obtain ⟨h14, h⟩ := ifp h
          by_cases h15 : v15.1 = true
          · rw [if_pos h15] at h
            obtain ⟨h16, h⟩ := ifp h
            obtain rfl := Option.some.inj h
            exact Til.fin Tryz.func56 [(4, .b false), (7, .b false), (11, ca (.c (.d (L103 v11)))), (13, ca (.agg [.d (.bool v13.1), .d (L103 v13.2.1), .d (L103 v13.2.2)])), (14, ca (.agg [.d (.bool v14.1), .d (L103 v14.2.1), .d (L103 v14.2.2)])), (15, ca (.agg [.d (.bool v15.1), .d (L103 v15.2)])), (20, ca (.c (.d (.str v20)))), (29, .b true), (31, ca (.c (.d (.str v31)))), (36, .b true), (53, .b true)] (fun _ f => o (decide_eq_false h0) (o (decide_eq_false h1) (o (ratio_ten.does h2) (o (ratio_Int.does h3) (o (ratio_Mul.does h4) (o (ratio_Round.does h5) (o (nat_Print.does h6) (o (decide_eq_true h7) (o (strings_Repeat.does h8) (o h9 (o (decide_eq_true h10) (o (o h11 h12) (o h13 (o (o h11 h12) (o h14 (o h15 (o h16 f))))))))))))))))) (by kernel_rfl)
          · rw [if_neg h15] at h
            obtain rfl := Option.some.inj h
            exact Til.fin Tryz.func56 [(4, .b false), (7, .b false), (11, ca (.c (.d (L103 v11)))), (13, ca (.agg [.d (.bool v13.1), .d (L103 v13.2.1), .d (L103 v13.2.2)])), (14, ca (.agg [.d (.bool v14.1), .d (L103 v14.2.1), .d (L103 v14.2.2)])), (15, ca (.agg [.d (.bool v15.1), .d (L103 v15.2)])), (20, ca (.c (.d (.str v20)))), (29, .b true), (31, ca (.c (.d (.str v31)))), (36, .b true), (53, .b false)] (fun _ f => o (decide_eq_false h0) (o (decide_eq_false h1) (o (ratio_ten.does h2) (o (ratio_Int.does h3) (o (ratio_Mul.does h4) (o (ratio_Round.does h5) (o (nat_Print.does h6) (o (decide_eq_true h7) (o (strings_Repeat.does h8) (o h9 (o (decide_eq_true h10) (o (o h11 h12) (o h13 (o (o h11 h12) (o h14 (o (Bool.eq_false_iff.2 h15) f)))))))))))))))) (by kernel_rfl)
        · rw [if_neg h10] at h
          by_cases h11 : v15.1 = true
          · rw [if_pos h11] at h
            obtain ⟨h12, h⟩ := ifp h
            obtain rfl := Option.some.inj h
            exact Til.fin Tryz.func56 [(4, .b false), (7, .b false), (11, ca (.c (.d (L103 v11)))), (13, ca (.agg [.d (.bool v13.1), .d (L103 v13.2.1), .d (L103 v13.2.2)])), (14, ca (.agg [.d (.bool v14.1), .d (L103 v14.2.1), .d (L103 v14.2.2)])), (15, ca (.agg [.d (.bool v15.1), .d (L103 v15.2)])), (20, ca (.c (.d (.str v20)))), (29, .b true), (31, ca (.c (.d (.str v31)))), (36, .b false), (38, .b true)] (fun _ f => o (decide_eq_false h0) (o (decide_eq_false h1) (o (ratio_ten.does h2) (o (ratio_Int.does h3) (o (ratio_Mul.does h4) (o (ratio_Round.does h5) (o (nat_Print.does h6) (o (decide_eq_true h7) (o (strings_Repeat.does h8) (o h9 (o (decide_eq_false h10) (o h11 (o h12 f))))))))))))) (by kernel_rfl)
          · rw [if_neg h11] at h
            obtain rfl := Option.some.inj h
            exact Til.fin Tryz.func56 [(4, .b false), (7, .b false), (11, ca (.c (.d (L103 v11)))), (13, ca (.agg [.d (.bool v13.1), .d (L103 v13.2.1), .d (L103 v13.2.2)])), (14, ca (.agg [.d (.bool v14.1), .d (L103 v14.2.1), .d (L103 v14.2.2)])), (15, ca (.agg [.d (.bool v15.1), .d (L103 v15.2)])), (20, ca (.c (.d (.str v20)))), (29, .b true), (31, ca (.c (.d (.str v31)))), (36, .b false), (38, .b false)] (fun _ f => o (decide_eq_false h0) (o (decide_eq_false h1) (o (ratio_ten.does h2) (o (ratio_Int.does h3) (o (ratio_Mul.does h4) (o (ratio_Round.does h5) (o (nat_Print.does h6) (o (decide_eq_true h7) (o (strings_Repeat.does h8) (o h9 (o (decide_eq_false h10) (o (Bool.eq_false_iff.2 h11) f)))))))))))) (by kernel_rfl)
      · rw [if_neg h7] at h
        by_cases h8 : a1 > 0
        · rw [if_pos h8] at h
          obtain ⟨h9, h⟩ := ifp h
          obtain ⟨h10, h⟩ := ifp h
          obtain ⟨h11, h⟩ := ifp h
          obtain ⟨h12, h⟩ := ifp h
          by_cases h13 : v15.1 = true
          · rw [if_pos h13] at h
            obtain ⟨h14, h⟩ := ifp h
            obtain rfl := Option.some.inj h
            exact Til.fin Tryz.func56 [(4, .b false), (7, .b false), (11, ca (.c (.d (L103 v11)))), (13, ca (.agg [.d (.bool v13.1), .d (L103 v13.2.1), .d (L103 v13.2.2)])), (14, ca (.agg [.d (.bool v14.1), .d (L103 v14.2.1), .d (L103 v14.2.2)])), (15, ca (.agg [.d (.bool v15.1), .d (L103 v15.2)])), (20, ca (.c (.d (.str v20)))), (29, .b false), (31, .b true), (48, .b true)] (fun _ f => o (decide_eq_false h0) (o (decide_eq_false h1) (o (ratio_ten.does h2) (o (ratio_Int.does h3) (o (ratio_Mul.does h4) (o (ratio_Round.does h5) (o (nat_Print.does h6) (o (decide_eq_false h7) (o (decide_eq_true h8) (o (o h9 h10) (o h11 (o (o h9 h10) (o h12 (o h13 (o h14 f))))))))))))))) (by kernel_rfl)
          · rw [if_neg h13] at h
            obtain rfl := Option.some.inj h
            exact Til.fin Tryz.func56 [(4, .b false), (7, .b false), (11, ca (.c (.d (L103 v11)))), (13, ca (.agg [.d (.bool v13.1), .d (L103 v13.2.1), .d (L103 v13.2.2)])), (14, ca (.agg [.d (.bool v14.1), .d (L103 v14.2.1), .d (L103 v14.2.2)])), (15, ca (.agg [.d (.bool v15.1), .d (L103 v15.2)])), (20, ca (.c (.d (.str v20)))), (29, .b false), (31, .b true), (48, .b false)] (fun _ f => o (decide_eq_false h0) (o (decide_eq_false h1) (o (ratio_ten.does h2) (o (ratio_Int.does h3) (o (ratio_Mul.does h4) (o (ratio_Round.does h5) (o (nat_Print.does h6) (o (decide_eq_false h7) (o (decide_eq_true h8) (o (o h9 h10) (o h11 (o (o h9 h10) (o h12 (o (Bool.eq_false_iff.2 h13) f)))))))))))))) (by kernel_rfl)
        · rw [if_neg h8] at h
          by_cases h9 : v15.1 = true
          · rw [if_pos h9] at h
            obtain ⟨h10, h⟩ := ifp h
            obtain rfl := Option.some.inj h
            exact Til.fin Tryz.func56 [(4, .b false), (7, .b false), (11, ca (.c (.d (L103 v11)))), (13, ca (.agg [.d (.bool v13.1), .d (L103 v13.2.1), .d (L103 v13.2.2)])), (14, ca (.agg [.d (.bool v14.1), .d (L103 v14.2.1), .d (L103 v14.2.2)])), (15, ca (.agg [.d (.bool v15.1), .d (L103 v15.2)])), (20, ca (.c (.d (.str v20)))), (29, .b false), (31, .b false), (33, .b true)] (fun _ f => o (decide_eq_false h0) (o (decide_eq_false h1) (o (ratio_ten.does h2) (o (ratio_Int.does h3) (o (ratio_Mul.does h4) (o (ratio_Round.does h5) (o (nat_Print.does h6) (o (decide_eq_false h7) (o (decide_eq_false h8) (o h9 (o h10 f))))))))))) (by kernel_rfl)
          · rw [if_neg h9] at h
            obtain rfl := Option.some.inj h
            exact Til.fin Tryz.func56 [(4, .b false), (7, .b false), (11, ca (.c (.d (L103 v11)))), (13, ca (.agg [.d (.bool v13.1), .d (L103 v13.2.1), .d (L103 v13.2.2)])), (14, ca (.agg [.d (.bool v14.1), .d (L103 v14.2.1), .d (L103 v14.2.2)])), (15, ca (.agg [.d (.bool v15.1), .d (L103 v15.2)])), (20, ca (.c (.d (.str v20)))), (29, .b false), (31, .b false), (33, .b false)] (fun _ f => o (decide_eq_false h0) (o (decide_eq_false h1) (o (ratio_ten.does h2) (o (ratio_Int.does h3) (o (ratio_Mul.does h4) (o (ratio_Round.does h5) (o (nat_Print.does h6) (o (decide_eq_false h7) (o (decide_eq_false h8) (o (Bool.eq_false_iff.2 h9) f)))))))))) (by kernel_rfl)

theorem whole_Print.does {k : Nat} {a0_0 : Bool} {l0_1 : List Int} {r : ByteArray} (h : whole_Print.f k a0_0 l0_1 = some r) :
    Does Tryz.prog 113 [.agg [.d (.bool a0_0), .d (L103 l0_1)]] [] (.c (.d (.str r))) none [] := by
  refine does_fn Tryz.func113 (by kernel_rfl) rfl rfl ?_
  unfold whole_Print.f at h
  obtain ⟨v3, h0, h⟩ := bnd h
  by_cases h1 : v3.1 = true
  · rw [if_pos h1] at h
    obtain ⟨v9, h2, h⟩ := bnd h
    obtain ⟨h3, h⟩ := ifp h
    obtain rfl := Option.some.inj h
    exact Til.fin Tryz.func113 [(3, ca (.agg [.d (.bool v3.1), .d (L103 v3.2)])), (6, .b true), (9, ca (.c (.d (.str v9))))] (fun _ f => o (whole_Clean.does h0) (o h1 (o (nat_Print.does h2) (o h3 f)))) (by kernel_rfl)
  · rw [if_neg h1] at h
    obtain ⟨v9, h2, h⟩ := bnd h
    obtain rfl := Option.some.inj h
    exact Til.fin Tryz.func113 [(3, ca (.agg [.d (.bool v3.1), .d (L103 v3.2)])), (6, .b false), (9, ca (.c (.d (.str v9))))] (fun _ f => o (whole_Clean.does h0) (o (Bool.eq_false_iff.2 h1) (o (nat_Print.does h2) f))) (by kernel_rfl)

theorem ratio_Print.does {k : Nat} {a0_0 : Bool} {l0_1 : List Int} {l0_2 : List Int} {r : ByteArray} (h : ratio_Print.f k a0_0 l0_1 l0_2 = some r) :
    Does Tryz.prog 59 [.agg [.d (.bool a0_0), .d (L103 l0_1), .d (L103 l0_2)]] [] (.c (.d (.str r))) none [] := by
  refine does_fn Tryz.func59 (by kernel_rfl) rfl rfl ?_
  unfold ratio_Print.f at h
  obtain ⟨v3, h0, h⟩ := bnd h
  obtain ⟨v7, h1, h⟩ := bnd h
  obtain ⟨v11, h2, h⟩ := bnd h
  obtain ⟨v12, h3, h⟩ := bnd h
  by_cases h4 : v12 = 0
  · rw [if_pos h4] at h
    obtain rfl := Option.some.inj h
    exact Til.fin Tryz.func59 [(3, ca (.agg [.d (.bool v3.1), .d (L103 v3.2.1), .d (L103 v3.2.2)])), (7, ca (.c (.d (.str v7)))), (11, ca (.c (.d (L103 v11)))), (12, ca (.c (.d (.int .i64 v12)))), (13, .b true)] (fun _ f => o (ratio_Clean.does h0) (o (whole_Print.does h1) (o (nat_Of.does h2) (o (nat_Cmp.does h3) (o (beq_iff_eq.2 h4) f))))) (by kernel_rfl)
  · rw [if_neg h4] at h
    obtain ⟨h5, h⟩ := ifp h
    obtain ⟨v18, h6, h⟩ := bnd h
    obtain ⟨h7, h⟩ := ifp h
    obtain rfl := Option.some.inj h
    exact Til.fin Tryz.func59 [(3, ca (.agg [.d (.bool v3.1), .d (L103 v3.2.1), .d (L103 v3.2.2)])), (7, ca (.c (.d (.str v7)))), (11, ca (.c (.d (L103 v11)))), (12, ca (.c (.d (.int .i64 v12)))), (13, .b false), (18, ca (.c (.d (.str v18))))] (fun _ f => o (ratio_Clean.does h0) (o (whole_Print.does h1) (o (nat_Of.does h2) (o (nat_Cmp.does h3) (o (beq_false_of_ne h4) (o h5 (o (nat_Print.does h6) (o h7 f)))))))) (by kernel_rfl)

theorem dendronlaw03_awake.does {k : Nat}  {r : Bool} (h : dendronlaw03_awake.f k = some r) :
    Does Tryz.prog 31 [] [] (.c (.d (.bool r))) none [] := by
  refine does_fn Tryz.func31 (by kernel_rfl) rfl rfl ?_
  unfold dendronlaw03_awake.f at h
  obtain ⟨v1, h0, h⟩ := bnd h
  obtain ⟨v8, h1, h⟩ := bnd h
  obtain ⟨v9, h2, h⟩ := bnd h
  obtain ⟨v10, h3, h⟩ := bnd h
  obtain ⟨v17, h4, h⟩ := bnd h
  obtain ⟨v18, h5, h⟩ := bnd h
  obtain ⟨v25, h6, h⟩ := bnd h
  obtain ⟨v26, h7, h⟩ := bnd h
  by_cases h8 : v1.2.2.2 = 0
  · rw [if_pos h8] at h
    by_cases h9 : v10.2.2.2 = 0
    · rw [if_pos h9] at h
      by_cases h10 : v18.2.2.2 = 0
      · rw [if_pos h10] at h
        by_cases h11 : v26.2 = 0
        · rw [if_pos h11] at h
          obtain ⟨v48, h12, h⟩ := bnd h
          by_cases h13 : v48 = (⟨#[45, 51, 47, 50]⟩ : ByteArray)
          · rw [if_pos h13] at h
            obtain ⟨v53, h14, h⟩ := bnd h
            by_cases h15 : v53 = (⟨#[49, 47, 50]⟩ : ByteArray)
            · rw [if_pos h15] at h
              obtain ⟨v58, h16, h⟩ := bnd h
              by_cases h17 : v58 = (⟨#[51]⟩ : ByteArray)
              · rw [if_pos h17] at h
                obtain rfl := Option.some.inj h
                exact Til.fin Tryz.func31 [(1, ca (.tup [.agg [.d (.bool v1.1), .d (L103 v1.2.1), .d (L103 v1.2.2.1)], .c (.d (.int .i64 v1.2.2.2))])), (8, ca (.agg [.d (.bool v8.1), .d (L103 v8.2.1), .d (L103 v8.2.2)])), (9, ca (.agg [.d (.bool v9.1), .d (L103 v9.2.1), .d (L103 v9.2.2)])), (10, ca (.tup [.agg [.d (.bool v10.1), .d (L103 v10.2.1), .d (L103 v10.2.2.1)], .c (.d (.int .i64 v10.2.2.2))])), (17, ca (.agg [.d (.bool v17.1), .d (L103 v17.2.1), .d (L103 v17.2.2)])), (18, ca (.tup [.agg [.d (.bool v18.1), .d (L103 v18.2.1), .d (L103 v18.2.2.1)], .c (.d (.int .i64 v18.2.2.2))])), (25, ca (.agg [.d (.bool v25.1), .d (L103 v25.2.1), .d (L103 v25.2.2)])), (26, ca (.tup [.c (.d (.str v26.1)), .c (.d (.int .i64 v26.2))])), (33, .b true), (36, .b true), (40, .b true), (44, .b true), (48, ca (.c (.d (.str v48)))), (49, .b true), (53, ca (.c (.d (.str v53)))), (54, .b true), (58, ca (.c (.d (.str v58)))), (59, .b true)] (fun _ f => o (ratio_Parse.does h0) (o (ratio_Frac.does h1) (o (ratio_Frac.does h2) (o (ratio_Simplest.does h3) (o (ratio_Frac.does h4) (o (ratio_Near.does h5) (o (ratio_Frac.does h6) (o (ratio_Decimal.does h7) (o (beq_iff_eq.2 h8) (o (beq_iff_eq.2 h9) (o (beq_iff_eq.2 h10) (o (beq_iff_eq.2 h11) (o (ratio_Print.does h12) (o (str_t h13) (o (ratio_Print.does h14) (o (str_t h15) (o (ratio_Print.does h16) (o (str_t h17) f)))))))))))))))))) (by kernel_rfl)
              · rw [if_neg h17] at h
                obtain rfl := Option.some.inj h
                exact Til.fin Tryz.func31 [(1, ca (.tup [.agg [.d (.bool v1.1), .d (L103 v1.2.1), .d (L103 v1.2.2.1)], .c (.d (.int .i64 v1.2.2.2))])), (8, ca (.agg [.d (.bool v8.1), .d (L103 v8.2.1), .d (L103 v8.2.2)])), (9, ca (.agg [.d (.bool v9.1), .d (L103 v9.2.1), .d (L103 v9.2.2)])), (10, ca (.tup [.agg [.d (.bool v10.1), .d (L103 v10.2.1), .d (L103 v10.2.2.1)], .c (.d (.int .i64 v10.2.2.2))])), (17, ca (.agg [.d (.bool v17.1), .d (L103 v17.2.1), .d (L103 v17.2.2)])), (18, ca (.tup [.agg [.d (.bool v18.1), .d (L103 v18.2.1), .d (L103 v18.2.2.1)], .c (.d (.int .i64 v18.2.2.2))])), (25, ca (.agg [.d (.bool v25.1), .d (L103 v25.2.1), .d (L103 v25.2.2)])), (26, ca (.tup [.c (.d (.str v26.1)), .c (.d (.int .i64 v26.2))])), (33, .b true), (36, .b true), (40, .b true), (44, .b true), (48, ca (.c (.d (.str v48)))), (49, .b true), (53, ca (.c (.d (.str v53)))), (54, .b true), (58, ca (.c (.d (.str v58)))), (59, .b false)] (fun _ f => o (ratio_Parse.does h0) (o (ratio_Frac.does h1) (o (ratio_Frac.does h2) (o (ratio_Simplest.does h3) (o (ratio_Frac.does h4) (o (ratio_Near.does h5) (o (ratio_Frac.does h6) (o (ratio_Decimal.does h7) (o (beq_iff_eq.2 h8) (o (beq_iff_eq.2 h9) (o (beq_iff_eq.2 h10) (o (beq_iff_eq.2 h11) (o (ratio_Print.does h12) (o (str_t h13) (o (ratio_Print.does h14) (o (str_t h15) (o (ratio_Print.does h16) (o (str_f h17) f)))))))))))))))))) (by kernel_rfl)
            · rw [if_neg h15] at h
              obtain rfl := Option.some.inj h
              exact Til.fin Tryz.func31 [(1, ca (.tup [.agg [.d (.bool v1.1), .d (L103 v1.2.1), .d (L103 v1.2.2.1)], .c (.d (.int .i64 v1.2.2.2))])), (8, ca (.agg [.d (.bool v8.1), .d (L103 v8.2.1), .d (L103 v8.2.2)])), (9, ca (.agg [.d (.bool v9.1), .d (L103 v9.2.1), .d (L103 v9.2.2)])), (10, ca (.tup [.agg [.d (.bool v10.1), .d (L103 v10.2.1), .d (L103 v10.2.2.1)], .c (.d (.int .i64 v10.2.2.2))])), (17, ca (.agg [.d (.bool v17.1), .d (L103 v17.2.1), .d (L103 v17.2.2)])), (18, ca (.tup [.agg [.d (.bool v18.1), .d (L103 v18.2.1), .d (L103 v18.2.2.1)], .c (.d (.int .i64 v18.2.2.2))])), (25, ca (.agg [.d (.bool v25.1), .d (L103 v25.2.1), .d (L103 v25.2.2)])), (26, ca (.tup [.c (.d (.str v26.1)), .c (.d (.int .i64 v26.2))])), (33, .b true), (36, .b true), (40, .b true), (44, .b true), (48, ca (.c (.d (.str v48)))), (49, .b true), (53, ca (.c (.d (.str v53)))), (54, .b false)] (fun _ f => o (ratio_Parse.does h0) (o (ratio_Frac.does h1) (o (ratio_Frac.does h2) (o (ratio_Simplest.does h3) (o (ratio_Frac.does h4) (o (ratio_Near.does h5) (o (ratio_Frac.does h6) (o (ratio_Decimal.does h7) (o (beq_iff_eq.2 h8) (o (beq_iff_eq.2 h9) (o (beq_iff_eq.2 h10) (o (beq_iff_eq.2 h11) (o (ratio_Print.does h12) (o (str_t h13) (o (ratio_Print.does h14) (o (str_f h15) f)))))))))))))))) (by kernel_rfl)
          · rw [if_neg h13] at h
            obtain rfl := Option.some.inj h
            exact Til.fin Tryz.func31 [(1, ca (.tup [.agg [.d (.bool v1.1), .d (L103 v1.2.1), .d (L103 v1.2.2.1)], .c (.d (.int .i64 v1.2.2.2))])), (8, ca (.agg [.d (.bool v8.1), .d (L103 v8.2.1), .d (L103 v8.2.2)])), (9, ca (.agg [.d (.bool v9.1), .d (L103 v9.2.1), .d (L103 v9.2.2)])), (10, ca (.tup [.agg [.d (.bool v10.1), .d (L103 v10.2.1), .d (L103 v10.2.2.1)], .c (.d (.int .i64 v10.2.2.2))])), (17, ca (.agg [.d (.bool v17.1), .d (L103 v17.2.1), .d (L103 v17.2.2)])), (18, ca (.tup [.agg [.d (.bool v18.1), .d (L103 v18.2.1), .d (L103 v18.2.2.1)], .c (.d (.int .i64 v18.2.2.2))])), (25, ca (.agg [.d (.bool v25.1), .d (L103 v25.2.1), .d (L103 v25.2.2)])), (26, ca (.tup [.c (.d (.str v26.1)), .c (.d (.int .i64 v26.2))])), (33, .b true), (36, .b true), (40, .b true), (44, .b true), (48, ca (.c (.d (.str v48)))), (49, .b false)] (fun _ f => o (ratio_Parse.does h0) (o (ratio_Frac.does h1) (o (ratio_Frac.does h2) (o (ratio_Simplest.does h3) (o (ratio_Frac.does h4) (o (ratio_Near.does h5) (o (ratio_Frac.does h6) (o (ratio_Decimal.does h7) (o (beq_iff_eq.2 h8) (o (beq_iff_eq.2 h9) (o (beq_iff_eq.2 h10) (o (beq_iff_eq.2 h11) (o (ratio_Print.does h12) (o (str_f h13) f)))))))))))))) (by kernel_rfl)
        · rw [if_neg h11] at h
          obtain rfl := Option.some.inj h
          exact Til.fin Tryz.func31 [(1, ca (.tup [.agg [.d (.bool v1.1), .d (L103 v1.2.1), .d (L103 v1.2.2.1)], .c (.d (.int .i64 v1.2.2.2))])), (8, ca (.agg [.d (.bool v8.1), .d (L103 v8.2.1), .d (L103 v8.2.2)])), (9, ca (.agg [.d (.bool v9.1), .d (L103 v9.2.1), .d (L103 v9.2.2)])), (10, ca (.tup [.agg [.d (.bool v10.1), .d (L103 v10.2.1), .d (L103 v10.2.2.1)], .c (.d (.int .i64 v10.2.2.2))])), (17, ca (.agg [.d (.bool v17.1), .d (L103 v17.2.1), .d (L103 v17.2.2)])), (18, ca (.tup [.agg [.d (.bool v18.1), .d (L103 v18.2.1), .d (L103 v18.2.2.1)], .c (.d (.int .i64 v18.2.2.2))])), (25, ca (.agg [.d (.bool v25.1), .d (L103 v25.2.1), .d (L103 v25.2.2)])), (26, ca (.tup [.c (.d (.str v26.1)), .c (.d (.int .i64 v26.2))])), (33, .b true), (36, .b true), (40, .b true), (44, .b false)] (fun _ f => o (ratio_Parse.does h0) (o (ratio_Frac.does h1) (o (ratio_Frac.does h2) (o (ratio_Simplest.does h3) (o (ratio_Frac.does h4) (o (ratio_Near.does h5) (o (ratio_Frac.does h6) (o (ratio_Decimal.does h7) (o (beq_iff_eq.2 h8) (o (beq_iff_eq.2 h9) (o (beq_iff_eq.2 h10) (o (beq_false_of_ne h11) f)))))))))))) (by kernel_rfl)
      · rw [if_neg h10] at h
        obtain rfl := Option.some.inj h
        exact Til.fin Tryz.func31 [(1, ca (.tup [.agg [.d (.bool v1.1), .d (L103 v1.2.1), .d (L103 v1.2.2.1)], .c (.d (.int .i64 v1.2.2.2))])), (8, ca (.agg [.d (.bool v8.1), .d (L103 v8.2.1), .d (L103 v8.2.2)])), (9, ca (.agg [.d (.bool v9.1), .d (L103 v9.2.1), .d (L103 v9.2.2)])), (10, ca (.tup [.agg [.d (.bool v10.1), .d (L103 v10.2.1), .d (L103 v10.2.2.1)], .c (.d (.int .i64 v10.2.2.2))])), (17, ca (.agg [.d (.bool v17.1), .d (L103 v17.2.1), .d (L103 v17.2.2)])), (18, ca (.tup [.agg [.d (.bool v18.1), .d (L103 v18.2.1), .d (L103 v18.2.2.1)], .c (.d (.int .i64 v18.2.2.2))])), (25, ca (.agg [.d (.bool v25.1), .d (L103 v25.2.1), .d (L103 v25.2.2)])), (26, ca (.tup [.c (.d (.str v26.1)), .c (.d (.int .i64 v26.2))])), (33, .b true), (36, .b true), (40, .b false)] (fun _ f => o (ratio_Parse.does h0) (o (ratio_Frac.does h1) (o (ratio_Frac.does h2) (o (ratio_Simplest.does h3) (o (ratio_Frac.does h4) (o (ratio_Near.does h5) (o (ratio_Frac.does h6) (o (ratio_Decimal.does h7) (o (beq_iff_eq.2 h8) (o (beq_iff_eq.2 h9) (o (beq_false_of_ne h10) f))))))))))) (by kernel_rfl)
    · rw [if_neg h9] at h
      obtain rfl := Option.some.inj h
      exact Til.fin Tryz.func31 [(1, ca (.tup [.agg [.d (.bool v1.1), .d (L103 v1.2.1), .d (L103 v1.2.2.1)], .c (.d (.int .i64 v1.2.2.2))])), (8, ca (.agg [.d (.bool v8.1), .d (L103 v8.2.1), .d (L103 v8.2.2)])), (9, ca (.agg [.d (.bool v9.1), .d (L103 v9.2.1), .d (L103 v9.2.2)])), (10, ca (.tup [.agg [.d (.bool v10.1), .d (L103 v10.2.1), .d (L103 v10.2.2.1)], .c (.d (.int .i64 v10.2.2.2))])), (17, ca (.agg [.d (.bool v17.1), .d (L103 v17.2.1), .d (L103 v17.2.2)])), (18, ca (.tup [.agg [.d (.bool v18.1), .d (L103 v18.2.1), .d (L103 v18.2.2.1)], .c (.d (.int .i64 v18.2.2.2))])), (25, ca (.agg [.d (.bool v25.1), .d (L103 v25.2.1), .d (L103 v25.2.2)])), (26, ca (.tup [.c (.d (.str v26.1)), .c (.d (.int .i64 v26.2))])), (33, .b true), (36, .b false)] (fun _ f => o (ratio_Parse.does h0) (o (ratio_Frac.does h1) (o (ratio_Frac.does h2) (o (ratio_Simplest.does h3) (o (ratio_Frac.does h4) (o (ratio_Near.does h5) (o (ratio_Frac.does h6) (o (ratio_Decimal.does h7) (o (beq_iff_eq.2 h8) (o (beq_false_of_ne h9) f)))))))))) (by kernel_rfl)
  · rw [if_neg h8] at h
    obtain rfl := Option.some.inj h
    exact Til.fin Tryz.func31 [(1, ca (.tup [.agg [.d (.bool v1.1), .d (L103 v1.2.1), .d (L103 v1.2.2.1)], .c (.d (.int .i64 v1.2.2.2))])), (8, ca (.agg [.d (.bool v8.1), .d (L103 v8.2.1), .d (L103 v8.2.2)])), (9, ca (.agg [.d (.bool v9.1), .d (L103 v9.2.1), .d (L103 v9.2.2)])), (10, ca (.tup [.agg [.d (.bool v10.1), .d (L103 v10.2.1), .d (L103 v10.2.2.1)], .c (.d (.int .i64 v10.2.2.2))])), (17, ca (.agg [.d (.bool v17.1), .d (L103 v17.2.1), .d (L103 v17.2.2)])), (18, ca (.tup [.agg [.d (.bool v18.1), .d (L103 v18.2.1), .d (L103 v18.2.2.1)], .c (.d (.int .i64 v18.2.2.2))])), (25, ca (.agg [.d (.bool v25.1), .d (L103 v25.2.1), .d (L103 v25.2.2)])), (26, ca (.tup [.c (.d (.str v26.1)), .c (.d (.int .i64 v26.2))])), (33, .b false)] (fun _ f => o (ratio_Parse.does h0) (o (ratio_Frac.does h1) (o (ratio_Frac.does h2) (o (ratio_Simplest.does h3) (o (ratio_Frac.does h4) (o (ratio_Near.does h5) (o (ratio_Frac.does h6) (o (ratio_Decimal.does h7) (o (beq_false_of_ne h8) f))))))))) (by kernel_rfl)

def dendronref01_From.l0E (x0 : List Int) (x3 : List Int) (x4 : List Int) (x5 : Int) : Env := [(0, .c (.d (L103 x0))), (3, .c (.d (L3 x3))), (4, .c (.d (L3 x4))), (5, .c (.d (.int .i64 x5)))]
theorem dendronref01_From.w (k : Nat) : (∀  (x0 : List Int) (x3 : List Int) (x4 : List Int) (x5 : Int) (r : List Int), dendronref01_From.l0 k x0 x3 x4 x5 = some r → Til Tryz.prog 49 [] (.c (.d (L3 r))) none [] (at_ Tryz.f49 4) (dendronref01_From.l0E x0 x3 x4 x5) []) := by
  induction k with
  | zero =>
    exact fun _ _ _ _ _ h => (by cases h)
  | succ k ih =>
    intro x0 x3 x4 x5 r h
    rw [dendronref01_From.l0] at h
    by_cases h0 : x5 ≥ 0
    · rw [if_pos h0] at h
      obtain ⟨v4, h1, h⟩ := bnd h
      obtain ⟨h2, h⟩ := ifp h
      obtain ⟨v11, h3, h⟩ := bnd h
      obtain ⟨v12, h4, h⟩ := bnd h
      exact Til.mid Tryz.func49 4 [(1, .b true), (4, ca (.c (.d (L3 v4)))), (11, ca (.c (.d (L3 v11)))), (12, ca (.c (.d (L3 v12))))] (fun _ f => o (decide_eq_true h0) (o (dendronref01_Times.does h1) (o (o h0 h2) (o (dendronref01_Small.does h3) (o (dendronref01_Plus.does h4) f))))) (by kernel_rfl) (ih _ _ _ _ _ h)
    · rw [if_neg h0] at h
      obtain rfl := Option.some.inj h
      exact Til.fin Tryz.func49 [(1, .b false)] (fun _ f => o (decide_eq_false h0) f) (by kernel_rfl)
theorem dendronref01_From.does {k : Nat} {l0 : List Int} {r : List Int} (h : dendronref01_From.f k l0 = some r) :
    Does Tryz.prog 49 [.c (.d (L103 l0))] [] (.c (.d (L3 r))) none [] := by
  refine does_fn Tryz.func49 (by kernel_rfl) rfl rfl ?_
  unfold dendronref01_From.f at h
  have ih := dendronref01_From.w k
  obtain ⟨v2, h0, h⟩ := bnd h
  exact Til.mid Tryz.func49 4 [(2, ca (.c (.d (L3 v2))))] (fun _ f => o (dendronref01_Small.does h0) f) (by kernel_rfl) (ih _ _ _ _ _ h)

theorem dendronref02_From.does {k : Nat} {a0_0 : Bool} {l0_1 : List Int} {r : Bool × List Int} (h : dendronref02_From.f k a0_0 l0_1 = some r) :
    Does Tryz.prog 19 [.agg [.d (.bool a0_0), .d (L103 l0_1)]] [] (.agg [.d (.bool r.1), .d (L3 r.2)]) none [] := by
  refine does_fn Tryz.func19 (by kernel_rfl) rfl rfl ?_
  unfold dendronref02_From.f at h
  obtain ⟨v6, h0, h⟩ := bnd h
  obtain ⟨v7, h1, h⟩ := bnd h
  obtain rfl := Option.some.inj h
  exact Til.fin Tryz.func19 [(6, ca (.c (.d (L3 v6)))), (7, ca (.agg [.d (.bool v7.1), .d (L3 v7.2)]))] (fun _ f => o (dendronref01_From.does h0) (o (dendronref02_Make.does h1) f)) (by kernel_rfl)

theorem dendronref03_From.does {k : Nat} {a0_0 : Bool} {l0_1 : List Int} {l0_2 : List Int} {r : Bool × List Int × List Int} (h : dendronref03_From.f k a0_0 l0_1 l0_2 = some r) :
    Does Tryz.prog 32 [.agg [.d (.bool a0_0), .d (L103 l0_1), .d (L103 l0_2)]] [] (.agg [.d (.bool r.1), .d (L3 r.2.1), .d (L3 r.2.2)]) none [] := by
  refine does_fn Tryz.func32 (by kernel_rfl) rfl rfl ?_
  unfold dendronref03_From.f at h
  obtain ⟨v4, h0, h⟩ := bnd h
  by_cases h1 : (v4.length : Int) = 0
  · rw [if_pos h1] at h
    obtain ⟨v9, h2, h⟩ := bnd h
    obtain rfl := Option.some.inj h
    exact Til.fin Tryz.func32 [(4, ca (.c (.d (L3 v4)))), (8, .b true), (9, ca (.agg [.d (.bool v9.1), .d (L3 v9.2.1), .d (L3 v9.2.2)]))] (fun _ f => o (dendronref01_From.does h0) (o (beq_iff_eq.2 h1) (o (dendronref03_Small.does h2) f))) (by kernel_rfl)
  · rw [if_neg h1] at h
    obtain ⟨v11, h2, h⟩ := bnd h
    obtain rfl := Option.some.inj h
    exact Til.fin Tryz.func32 [(4, ca (.c (.d (L3 v4)))), (8, .b false), (11, ca (.agg [.d (.bool v11.1), .d (L3 v11.2)]))] (fun _ f => o (dendronref01_From.does h0) (o (beq_false_of_ne h1) (o (dendronref02_From.does h2) f))) (by kernel_rfl)

theorem dendronref02_Minus.does {a0_0 : Bool} {l0_1 : List Int} {r : Bool × List Int} (h : dendronref02_Minus.f a0_0 l0_1 = some r) :
    Does Tryz.prog 34 [.agg [.d (.bool a0_0), .d (L3 l0_1)]] [] (.agg [.d (.bool r.1), .d (L3 r.2)]) none [] := by
  refine does_fn Tryz.func34 (by kernel_rfl) rfl rfl ?_
  unfold dendronref02_Minus.f at h
  obtain ⟨v7, h0, h⟩ := bnd h
  obtain rfl := Option.some.inj h
  exact Til.fin Tryz.func34 [(7, ca (.agg [.d (.bool v7.1), .d (L3 v7.2)]))] (fun _ f => o (dendronref02_Make.does h0) f) (by kernel_rfl)

def dendronref01_Order.l0E (x0 : List Int) (x1 : List Int) (x5 : Int) : Env := [(0, .c (.d (L3 x0))), (1, .c (.d (L3 x1))), (5, .c (.d (.int .i64 x5)))]
theorem dendronref01_Order.w (k : Nat) : (∀  (x0 : List Int) (x1 : List Int) (x5 : Int) (r : Int), dendronref01_Order.l0 k x0 x1 x5 = some r → Til Tryz.prog 48 [] (.c (.d (.int .i64 r))) none [] (at_ Tryz.f48 6) (dendronref01_Order.l0E x0 x1 x5) []) := by
  induction k with
  | zero =>
    exact fun _ _ _ _ h => (by cases h)
  | succ k ih =>
    intro x0 x1 x5 r h
    rw [dendronref01_Order.l0] at h
    by_cases h0 : x5 ≥ 0
    · rw [if_pos h0] at h
      obtain ⟨h1, h⟩ := ifp h
      obtain ⟨h2, h⟩ := ifp h
      by_cases h3 : (rd x0 x5) < (rd x1 x5)
      · rw [if_pos h3] at h
        obtain rfl := Option.some.inj h
        exact Til.fin Tryz.func48 [(1, .b true), (10, .b true)] (fun _ f => o (decide_eq_true h0) (o (o h0 h1) (o (o h0 h2) (o (decide_eq_true h3) f)))) (by kernel_rfl)
      · rw [if_neg h3] at h
        by_cases h4 : (rd x0 x5) > (rd x1 x5)
        · rw [if_pos h4] at h
          obtain rfl := Option.some.inj h
          exact Til.fin Tryz.func48 [(1, .b true), (10, .b false), (19, .b true)] (fun _ f => o (decide_eq_true h0) (o (o h0 h1) (o (o h0 h2) (o (decide_eq_false h3) (o (o h0 h1) (o (o h0 h2) (o (decide_eq_true h4) f))))))) (by kernel_rfl)
        · rw [if_neg h4] at h
          exact Til.mid Tryz.func48 6 [(1, .b true), (10, .b false), (19, .b false)] (fun _ f => o (decide_eq_true h0) (o (o h0 h1) (o (o h0 h2) (o (decide_eq_false h3) (o (o h0 h1) (o (o h0 h2) (o (decide_eq_false h4) f))))))) (by kernel_rfl) (ih _ _ _ _ h)
    · rw [if_neg h0] at h
      obtain rfl := Option.some.inj h
      exact Til.fin Tryz.func48 [(1, .b false)] (fun _ f => o (decide_eq_false h0) f) (by kernel_rfl)
theorem dendronref01_Order.does {k : Nat} {l0 : List Int} {l1 : List Int} {r : Int} (h : dendronref01_Order.f k l0 l1 = some r) :
    Does Tryz.prog 48 [.c (.d (L3 l0)), .c (.d (L3 l1))] [] (.c (.d (.int .i64 r))) none [] := by
  refine does_fn Tryz.func48 (by kernel_rfl) rfl rfl ?_
  unfold dendronref01_Order.f at h
  have ih := dendronref01_Order.w k
  by_cases h0 : (l0.length : Int) ≠ (l1.length : Int)
  · rw [if_pos h0] at h
    by_cases h1 : (l0.length : Int) < (l1.length : Int)
    · rw [if_pos h1] at h
      obtain rfl := Option.some.inj h
      exact Til.fin Tryz.func48 [(5, .b true), (10, .b true)] (fun _ f => o (bne_iff_ne.2 h0) (o (decide_eq_true h1) f)) (by kernel_rfl)
    · rw [if_neg h1] at h
      obtain rfl := Option.some.inj h
      exact Til.fin Tryz.func48 [(5, .b true), (10, .b false)] (fun _ f => o (bne_iff_ne.2 h0) (o (decide_eq_false h1) f)) (by kernel_rfl)
  · rw [if_neg h0] at h
    exact Til.mid Tryz.func48 6 [(5, .b false)] (fun _ f => o (ne_f h0) f) (by kernel_rfl) (ih _ _ _ _ h)

def dendronref01_Minus.l0E (x0 : List Int) (x1 : List Int) (x5 : List Int) (x6 : Int) (x7 : Int) : Env := [(0, .c (.d (L3 x0))), (1, .c (.d (L3 x1))), (5, .c (.own 5)), (6, .c (.d (.int .i64 x6))), (7, .c (.d (.int .i64 x7)))]
def dendronref01_Minus.l0B (x0 : List Int) (x1 : List Int) (x5 : List Int) (x6 : Int) (x7 : Int) : Obs := [(5, some (O3 .own x5))]
theorem dendronref01_Minus.w (k : Nat) : (∀  (x0 : List Int) (x1 : List Int) (x5 : List Int) (x6 : Int) (x7 : Int) (r : List Int), dendronref01_Minus.l0 k x0 x1 x5 x6 x7 = some r → Til Tryz.prog 105 [] (.c (.d (L3 r))) none [] (at_ Tryz.f105 4) (dendronref01_Minus.l0E x0 x1 x5 x6 x7) (dendronref01_Minus.l0B x0 x1 x5 x6 x7)) := by
  induction k with
  | zero =>
    exact fun _ _ _ _ _ _ h => (by cases h)
  | succ k ih =>
    intro x0 x1 x5 x6 x7 r h
    rw [dendronref01_Minus.l0] at h
    by_cases h0 : x7 < (x0.length : Int)
    · rw [if_pos h0] at h
      obtain ⟨h1, h⟩ := ifp h
      obtain ⟨v10, h2, h⟩ := bnd h
      by_cases h3 : (wrap64 ((wrap64 ((rd x0 x7) - v10)) - x6)) < 0
      · rw [if_pos h3] at h
        obtain ⟨h4, h⟩ := ifp h
        exact Til.mid Tryz.func105 4 [(3, .b true), (10, ca (.c (.d (.int .i64 v10)))), (17, .b true), (24, Z3 ([(wrap64 ((wrap64 ((wrap64 ((rd x0 x7) - v10)) - x6)) + 10000))] : List Int)), (25, Z3 (x5 ++ [(wrap64 ((wrap64 ((wrap64 ((rd x0 x7) - v10)) - x6)) + 10000))]))] (fun _ f => o (decide_eq_true h0) (o (o h1 h0) (o (dendronref01_digit.does h2) (o (decide_eq_true h3) (o (lit_ok c3 0 ([(wrap64 ((wrap64 ((wrap64 ((rd x0 x7) - v10)) - x6)) + 10000))] : List Int)) (o (app1 c3 0 x5 (wrap64 ((wrap64 ((wrap64 ((rd x0 x7) - v10)) - x6)) + 10000)) 8 17592186044416 (by decide) h4) f)))))) (by kernel_rfl) (ih _ _ _ _ _ _ h)
      · rw [if_neg h3] at h
        obtain ⟨h4, h⟩ := ifp h
        exact Til.mid Tryz.func105 4 [(3, .b true), (10, ca (.c (.d (.int .i64 v10)))), (17, .b false), (20, Z3 ([(wrap64 ((wrap64 ((rd x0 x7) - v10)) - x6))] : List Int)), (21, Z3 (x5 ++ [(wrap64 ((wrap64 ((rd x0 x7) - v10)) - x6))]))] (fun _ f => o (decide_eq_true h0) (o (o h1 h0) (o (dendronref01_digit.does h2) (o (decide_eq_false h3) (o (lit_ok c3 0 ([(wrap64 ((wrap64 ((rd x0 x7) - v10)) - x6))] : List Int)) (o (app1 c3 0 x5 (wrap64 ((wrap64 ((rd x0 x7) - v10)) - x6)) 8 17592186044416 (by decide) h4) f)))))) (by kernel_rfl) (ih _ _ _ _ _ _ h)
    · rw [if_neg h0] at h
      obtain ⟨v5, h1, h⟩ := bnd h
      obtain rfl := Option.some.inj h
      exact Til.fin Tryz.func105 [(3, .b false), (5, ca (.c (.d (L3 v5))))] (fun _ f => o (decide_eq_false h0) (o (dendronref01_Trim.does h1) f)) (by kernel_rfl)
theorem dendronref01_Minus.does {k : Nat} {l0 : List Int} {l1 : List Int} {r : List Int} (h : dendronref01_Minus.f k l0 l1 = some r) :
    Does Tryz.prog 105 [.c (.d (L3 l0)), .c (.d (L3 l1))] [] (.c (.d (L3 r))) none [] := by
  refine does_fn Tryz.func105 (by kernel_rfl) rfl rfl ?_
  unfold dendronref01_Minus.f at h
  have ih := dendronref01_Minus.w k
  exact Til.mid Tryz.func105 4 [] (fun _ f => f) (by kernel_rfl) (ih _ _ _ _ _ _ h)

theorem dendronref02_Plus.does {k : Nat} {a0_0 : Bool} {l0_1 : List Int} {a1_0 : Bool} {l1_1 : List Int} {r : Bool × List Int} (h : dendronref02_Plus.f k a0_0 l0_1 a1_0 l1_1 = some r) :
    Does Tryz.prog 52 [.agg [.d (.bool a0_0), .d (L3 l0_1)], .agg [.d (.bool a1_0), .d (L3 l1_1)]] [] (.agg [.d (.bool r.1), .d (L3 r.2)]) none [] := by
  refine does_fn Tryz.func52 (by kernel_rfl) rfl rfl ?_
  unfold dendronref02_Plus.f at h
  by_cases h0 : a0_0 = a1_0
  · rw [if_pos h0] at h
    obtain ⟨v14, h1, h⟩ := bnd h
    obtain ⟨v15, h2, h⟩ := bnd h
    obtain rfl := Option.some.inj h
    exact Til.fin Tryz.func52 [(7, .b true), (14, ca (.c (.d (L3 v14)))), (15, ca (.agg [.d (.bool v15.1), .d (L3 v15.2)]))] (fun _ f => o (beq_iff_eq.2 h0) (o (dendronref01_Plus.does h1) (o (dendronref02_Make.does h2) f))) (by kernel_rfl)
  · rw [if_neg h0] at h
    obtain ⟨v12, h1, h⟩ := bnd h
    by_cases h2 : v12 < 0
    · rw [if_pos h2] at h
      obtain ⟨v20, h3, h⟩ := bnd h
      obtain ⟨v21, h4, h⟩ := bnd h
      obtain rfl := Option.some.inj h
      exact Til.fin Tryz.func52 [(7, .b false), (12, ca (.c (.d (.int .i64 v12)))), (13, .b true), (20, ca (.c (.d (L3 v20)))), (21, ca (.agg [.d (.bool v21.1), .d (L3 v21.2)]))] (fun _ f => o (beq_false_of_ne h0) (o (dendronref01_Order.does h1) (o (decide_eq_true h2) (o (dendronref01_Minus.does h3) (o (dendronref02_Make.does h4) f))))) (by kernel_rfl)
    · rw [if_neg h2] at h
      obtain ⟨v20, h3, h⟩ := bnd h
      obtain ⟨v21, h4, h⟩ := bnd h
      obtain rfl := Option.some.inj h
      exact Til.fin Tryz.func52 [(7, .b false), (12, ca (.c (.d (.int .i64 v12)))), (13, .b false), (20, ca (.c (.d (L3 v20)))), (21, ca (.agg [.d (.bool v21.1), .d (L3 v21.2)]))] (fun _ f => o (beq_false_of_ne h0) (o (dendronref01_Order.does h1) (o (decide_eq_false h2) (o (dendronref01_Minus.does h3) (o (dendronref02_Make.does h4) f))))) (by kernel_rfl)

def dendronref01_Over.l0E (x0 : List Int) (x1 : List Int) (x6 : List Int) (x7 : List Int) (x8 : Int) : Env := [(0, .c (.d (L3 x0))), (1, .c (.d (L3 x1))), (6, .c (.own 6)), (7, .c (.d (L3 x7))), (8, .c (.d (.int .i64 x8)))]
def dendronref01_Over.l0B (x0 : List Int) (x1 : List Int) (x6 : List Int) (x7 : List Int) (x8 : Int) : Obs := [(6, some (O3 .own x6))]
def dendronref01_Over.l1E (x0 : List Int) (x1 : List Int) (x6 : List Int) (x7 : List Int) (x8 : Int) (x10 : Int) (x11 : Int) : Env := [(0, .c (.d (L3 x0))), (1, .c (.d (L3 x1))), (6, .c (.own 6)), (7, .c (.d (L3 x7))), (8, .c (.d (.int .i64 x8))), (10, .c (.d (.int .i64 x10))), (11, .c (.d (.int .i64 x11)))]
def dendronref01_Over.l1B (x0 : List Int) (x1 : List Int) (x6 : List Int) (x7 : List Int) (x8 : Int) (x10 : Int) (x11 : Int) : Obs := [(6, some (O3 .own x6))]
theorem dendronref01_Over.w (k : Nat) : (∀  (x0 : List Int) (x1 : List Int) (x6 : List Int) (x7 : List Int) (x8 : Int) (r : List Int × List Int), dendronref01_Over.l0 k x0 x1 x6 x7 x8 = some r → Til Tryz.prog 95 [] (.tup [.c (.d (L3 r.1)), .c (.d (L3 r.2))]) none [] (at_ Tryz.f95 4) (dendronref01_Over.l0E x0 x1 x6 x7 x8) (dendronref01_Over.l0B x0 x1 x6 x7 x8)) ∧
    (∀  (x0 : List Int) (x1 : List Int) (x6 : List Int) (x7 : List Int) (x8 : Int) (x10 : Int) (x11 : Int) (r : List Int × List Int), dendronref01_Over.l1 k x0 x1 x6 x7 x8 x10 x11 = some r → Til Tryz.prog 95 [] (.tup [.c (.d (L3 r.1)), .c (.d (L3 r.2))]) none [] (at_ Tryz.f95 12) (dendronref01_Over.l1E x0 x1 x6 x7 x8 x10 x11) (dendronref01_Over.l1B x0 x1 x6 x7 x8 x10 x11)) := by
  induction k with
  | zero =>
    exact ⟨fun _ _ _ _ _ _ h => (by cases h), fun _ _ _ _ _ _ _ _ h => (by cases h)⟩
  | succ k ih =>
    refine ⟨?_, ?_⟩
    · intro x0 x1 x6 x7 x8 r h
      rw [dendronref01_Over.l0] at h
      by_cases h0 : x8 ≥ 0
      · rw [if_pos h0] at h
        obtain ⟨h1, h⟩ := ifp h
        obtain ⟨h2, h⟩ := ifp h
        obtain ⟨v16, h3, h⟩ := bnd h
        exact Til.mid Tryz.func95 12 [(1, .b true), (8, Z3 ([(rd x0 x8)] : List Int)), (9, Z3 ([(rd x0 x8)] : List Int)), (13, Z3 (([(rd x0 x8)] : List Int) ++ x7)), (16, ca (.c (.d (L3 v16))))] (fun _ f => o (decide_eq_true h0) (o (o h0 h1) (o (lit_ok c3 0 ([(rd x0 x8)] : List Int)) (o (app01 c3 0 (rd x0 x8) 8 (by decide)) (o (app c3 0 ([(rd x0 x8)] : List Int) x7 8 17592186044416 (by decide) h2) (o (dendronref01_Trim.does h3) f)))))) (by kernel_rfl) (ih.2 _ _ _ _ _ _ _ _ h)
      · rw [if_neg h0] at h
        obtain ⟨v3, h1, h⟩ := bnd h
        obtain rfl := Option.some.inj h
        exact Til.fin Tryz.func95 [(1, .b false), (3, ca (.c (.d (L3 v3))))] (fun _ f => o (decide_eq_false h0) (o (dendronref01_Trim.does h1) f)) (by kernel_rfl)
    · intro x0 x1 x6 x7 x8 x10 x11 r h
      rw [dendronref01_Over.l1] at h
      by_cases h0 : (wrap64 (x11 - x10)) > 1
      · rw [if_pos h0] at h
        obtain ⟨v11, h1, h⟩ := bnd h
        obtain ⟨v12, h2, h⟩ := bnd h
        obtain ⟨v14, h3, h⟩ := bnd h
        by_cases h4 : v14 ≤ 0
        · rw [if_pos h4] at h
          exact Til.mid Tryz.func95 12 [(3, .b true), (11, ca (.c (.d (L3 v11)))), (12, ca (.c (.d (L3 v12)))), (14, ca (.c (.d (.int .i64 v14)))), (15, .b true)] (fun _ f => o (decide_eq_true h0) (o (by decide : ¬ (2 : Int) = 0) (o (dendronref01_Small.does h1) (o (dendronref01_Times.does h2) (o (dendronref01_Order.does h3) (o (decide_eq_true h4) f)))))) (by kernel_rfl) (ih.2 _ _ _ _ _ _ _ _ h)
        · rw [if_neg h4] at h
          exact Til.mid Tryz.func95 12 [(3, .b true), (11, ca (.c (.d (L3 v11)))), (12, ca (.c (.d (L3 v12)))), (14, ca (.c (.d (.int .i64 v14)))), (15, .b false)] (fun _ f => o (decide_eq_true h0) (o (by decide : ¬ (2 : Int) = 0) (o (dendronref01_Small.does h1) (o (dendronref01_Times.does h2) (o (dendronref01_Order.does h3) (o (decide_eq_false h4) f)))))) (by kernel_rfl) (ih.2 _ _ _ _ _ _ _ _ h)
      · rw [if_neg h0] at h
        obtain ⟨h1, h⟩ := ifp h
        obtain ⟨h2, h⟩ := ifp h
        obtain ⟨v12, h3, h⟩ := bnd h
        obtain ⟨v13, h4, h⟩ := bnd h
        obtain ⟨v14, h5, h⟩ := bnd h
        exact Til.mid Tryz.func95 4 [(3, .b false), (8, Z3 (x6.set ((x8 : Int).toNat) x10)), (12, ca (.c (.d (L3 v12)))), (13, ca (.c (.d (L3 v13)))), (14, ca (.c (.d (L3 v14))))] (fun _ f => o (decide_eq_false h0) (o (o h1 h2) (o (set_ok c3 0 (fun _ _ => rfl) x6 ((x8 : Int).toNat) x10 (lt_ok h1 h2)) (o (dendronref01_Small.does h3) (o (dendronref01_Times.does h4) (o (dendronref01_Minus.does h5) f)))))) (by kernel_rfl) (ih.1 _ _ _ _ _ _ h)
theorem dendronref01_Over.does {k : Nat} {l0 : List Int} {l1 : List Int} {r : List Int × List Int} (h : dendronref01_Over.f k l0 l1 = some r) :
    Does Tryz.prog 95 [.c (.d (L3 l0)), .c (.d (L3 l1))] [] (.tup [.c (.d (L3 r.1)), .c (.d (L3 r.2))]) none [] := by
  refine does_fn Tryz.func95 (by kernel_rfl) rfl rfl ?_
  unfold dendronref01_Over.f at h
  have ih := dendronref01_Over.w k
  obtain ⟨h0, h⟩ := ifp h
  exact Til.mid Tryz.func95 4 [(4, Z3 (List.replicate (((l0.length : Int) : Int).toNat) 0 : List Int))] (fun _ f => o (make_ok c3 0 [.int .i64 0] ⟨.refl _, trivial⟩ (l0.length : Int) 8 35184372088832 (by decide) (Int.natCast_nonneg l0.length) h0) f) (by kernel_rfl) (ih.1 _ _ _ _ _ _ h)

theorem dendronref02_Over.does {k : Nat} {a0_0 : Bool} {l0_1 : List Int} {a1_0 : Bool} {l1_1 : List Int} {r : Bool × List Int × Bool × List Int} (h : dendronref02_Over.f k a0_0 l0_1 a1_0 l1_1 = some r) :
    Does Tryz.prog 39 [.agg [.d (.bool a0_0), .d (L3 l0_1)], .agg [.d (.bool a1_0), .d (L3 l1_1)]] [] (.tup [.agg [.d (.bool r.1), .d (L3 r.2.1)], .agg [.d (.bool r.2.2.1), .d (L3 r.2.2.2)]]) none [] := by
  refine does_fn Tryz.func39 (by kernel_rfl) rfl rfl ?_
  unfold dendronref02_Over.f at h
  obtain ⟨v8, h0, h⟩ := bnd h
  obtain ⟨v20, h1, h⟩ := bnd h
  by_cases h2 : a0_0 ≠ a1_0
  · rw [if_pos h2] at h
    by_cases h3 : (v8.2.length : Int) > 0
    · rw [if_pos h3] at h
      obtain ⟨v34, h4, h⟩ := bnd h
      obtain ⟨v35, h5, h⟩ := bnd h
      obtain ⟨v41, h6, h⟩ := bnd h
      obtain ⟨v42, h7, h⟩ := bnd h
      obtain ⟨v43, h8, h⟩ := bnd h
      obtain rfl := Option.some.inj h
      exact Til.fin Tryz.func39 [(8, ca (.tup [.c (.d (L3 v8.1)), .c (.d (L3 v8.2))])), (20, ca (.agg [.d (.bool v20.1), .d (L3 v20.2)])), (27, .b true), (31, .b true), (34, ca (.agg [.d (.bool v34.1), .d (L3 v34.2)])), (35, ca (.agg [.d (.bool v35.1), .d (L3 v35.2)])), (41, ca (.agg [.d (.bool v41.1), .d (L3 v41.2)])), (42, ca (.agg [.d (.bool v42.1), .d (L3 v42.2)])), (43, ca (.agg [.d (.bool v43.1), .d (L3 v43.2)]))] (fun _ f => o (dendronref01_Over.does h0) (o (dendronref02_Make.does h1) (o (nb_t h2) (o (decide_eq_true h3) (o (dendronref02_Small.does h4) (o (dendronref02_Plus.does h5) (o (dendronref02_Times.does h6) (o (dendronref02_Minus.does h7) (o (dendronref02_Plus.does h8) f))))))))) (by kernel_rfl)
    · rw [if_neg h3] at h
      obtain ⟨v37, h4, h⟩ := bnd h
      obtain ⟨v38, h5, h⟩ := bnd h
      obtain ⟨v39, h6, h⟩ := bnd h
      obtain rfl := Option.some.inj h
      exact Til.fin Tryz.func39 [(8, ca (.tup [.c (.d (L3 v8.1)), .c (.d (L3 v8.2))])), (20, ca (.agg [.d (.bool v20.1), .d (L3 v20.2)])), (27, .b true), (31, .b false), (37, ca (.agg [.d (.bool v37.1), .d (L3 v37.2)])), (38, ca (.agg [.d (.bool v38.1), .d (L3 v38.2)])), (39, ca (.agg [.d (.bool v39.1), .d (L3 v39.2)]))] (fun _ f => o (dendronref01_Over.does h0) (o (dendronref02_Make.does h1) (o (nb_t h2) (o (decide_eq_false h3) (o (dendronref02_Times.does h4) (o (dendronref02_Minus.does h5) (o (dendronref02_Plus.does h6) f))))))) (by kernel_rfl)
  · rw [if_neg h2] at h
    obtain ⟨v37, h3, h⟩ := bnd h
    obtain ⟨v38, h4, h⟩ := bnd h
    obtain ⟨v39, h5, h⟩ := bnd h
    obtain rfl := Option.some.inj h
    exact Til.fin Tryz.func39 [(8, ca (.tup [.c (.d (L3 v8.1)), .c (.d (L3 v8.2))])), (20, ca (.agg [.d (.bool v20.1), .d (L3 v20.2)])), (27, .b false), (37, ca (.agg [.d (.bool v37.1), .d (L3 v37.2)])), (38, ca (.agg [.d (.bool v38.1), .d (L3 v38.2)])), (39, ca (.agg [.d (.bool v39.1), .d (L3 v39.2)]))] (fun _ f => o (dendronref01_Over.does h0) (o (dendronref02_Make.does h1) (o (nb_f h2) (o (dendronref02_Times.does h3) (o (dendronref02_Minus.does h4) (o (dendronref02_Plus.does h5) f)))))) (by kernel_rfl)

theorem dendronref03_den.does {a0_0 : Bool} {l0_1 : List Int} {l0_2 : List Int} {r : Bool × List Int} (h : dendronref03_den.f a0_0 l0_1 l0_2 = some r) :
    Does Tryz.prog 92 [.agg [.d (.bool a0_0), .d (L3 l0_1), .d (L3 l0_2)]] [] (.agg [.d (.bool r.1), .d (L3 r.2)]) none [] := by
  refine does_fn Tryz.func92 (by kernel_rfl) rfl rfl ?_
  unfold dendronref03_den.f at h
  obtain ⟨v4, h0, h⟩ := bnd h
  obtain rfl := Option.some.inj h
  exact Til.fin Tryz.func92 [(4, ca (.agg [.d (.bool v4.1), .d (L3 v4.2)]))] (fun _ f => o (dendronref02_Make.does h0) f) (by kernel_rfl)

theorem dendronref03_Floor.does {k : Nat} {a0_0 : Bool} {l0_1 : List Int} {l0_2 : List Int} {r : Bool × List Int} (h : dendronref03_Floor.f k a0_0 l0_1 l0_2 = some r) :
    Does Tryz.prog 33 [.agg [.d (.bool a0_0), .d (L3 l0_1), .d (L3 l0_2)]] [] (.agg [.d (.bool r.1), .d (L3 r.2)]) none [] := by
  refine does_fn Tryz.func33 (by kernel_rfl) rfl rfl ?_
  unfold dendronref03_Floor.f at h
  obtain ⟨v5, h0, h⟩ := bnd h
  obtain ⟨v6, h1, h⟩ := bnd h
  obtain rfl := Option.some.inj h
  exact Til.fin Tryz.func33 [(5, ca (.agg [.d (.bool v5.1), .d (L3 v5.2)])), (6, ca (.tup [.agg [.d (.bool v6.1), .d (L3 v6.2.1)], .agg [.d (.bool v6.2.2.1), .d (L3 v6.2.2.2)]]))] (fun _ f => o (dendronref03_den.does h0) (o (dendronref02_Over.does h1) f)) (by kernel_rfl)

theorem dendronref03_Minus.does {a0_0 : Bool} {l0_1 : List Int} {l0_2 : List Int} {r : Bool × List Int × List Int} (h : dendronref03_Minus.f a0_0 l0_1 l0_2 = some r) :
    Does Tryz.prog 35 [.agg [.d (.bool a0_0), .d (L3 l0_1), .d (L3 l0_2)]] [] (.agg [.d (.bool r.1), .d (L3 r.2.1), .d (L3 r.2.2)]) none [] := by
  refine does_fn Tryz.func35 (by kernel_rfl) rfl rfl ?_
  unfold dendronref03_Minus.f at h
  obtain ⟨v4, h0, h⟩ := bnd h
  obtain rfl := Option.some.inj h
  exact Til.fin Tryz.func35 [(4, ca (.agg [.d (.bool v4.1), .d (L3 v4.2)]))] (fun _ f => o (dendronref02_Minus.does h0) f) (by kernel_rfl)

theorem dendronref03_Plus.does {k : Nat} {a0_0 : Bool} {l0_1 : List Int} {l0_2 : List Int} {a1_0 : Bool} {l1_1 : List Int} {l1_2 : List Int} {r : Bool × List Int × List Int} (h : dendronref03_Plus.f k a0_0 l0_1 l0_2 a1_0 l1_1 l1_2 = some r) :
    Does Tryz.prog 37 [.agg [.d (.bool a0_0), .d (L3 l0_1), .d (L3 l0_2)], .agg [.d (.bool a1_0), .d (L3 l1_1), .d (L3 l1_2)]] [] (.agg [.d (.bool r.1), .d (L3 r.2.1), .d (L3 r.2.2)]) none [] := by
  refine does_fn Tryz.func37 (by kernel_rfl) rfl rfl ?_
  unfold dendronref03_Plus.f at h
  obtain ⟨v6, h0, h⟩ := bnd h
  obtain ⟨v7, h1, h⟩ := bnd h
  obtain ⟨v11, h2, h⟩ := bnd h
  obtain ⟨v12, h3, h⟩ := bnd h
  obtain ⟨v13, h4, h⟩ := bnd h
  obtain ⟨v18, h5, h⟩ := bnd h
  obtain rfl := Option.some.inj h
  exact Til.fin Tryz.func37 [(6, ca (.agg [.d (.bool v6.1), .d (L3 v6.2)])), (7, ca (.agg [.d (.bool v7.1), .d (L3 v7.2)])), (11, ca (.agg [.d (.bool v11.1), .d (L3 v11.2)])), (12, ca (.agg [.d (.bool v12.1), .d (L3 v12.2)])), (13, ca (.agg [.d (.bool v13.1), .d (L3 v13.2)])), (18, ca (.c (.d (L3 v18))))] (fun _ f => o (dendronref03_den.does h0) (o (dendronref02_Times.does h1) (o (dendronref03_den.does h2) (o (dendronref02_Times.does h3) (o (dendronref02_Plus.does h4) (o (dendronref01_Times.does h5) f)))))) (by kernel_rfl)

theorem dendronref02_Order.does {k : Nat} {a0_0 : Bool} {l0_1 : List Int} {a1_0 : Bool} {l1_1 : List Int} {r : Int} (h : dendronref02_Order.f k a0_0 l0_1 a1_0 l1_1 = some r) :
    Does Tryz.prog 81 [.agg [.d (.bool a0_0), .d (L3 l0_1)], .agg [.d (.bool a1_0), .d (L3 l1_1)]] [] (.c (.d (.int .i64 r))) none [] := by
  refine does_fn Tryz.func81 (by kernel_rfl) rfl rfl ?_
  unfold dendronref02_Order.f at h
  by_cases h0 : a0_0 = true
  · rw [if_pos h0] at h
    by_cases h1 : a1_0 = true
    · rw [if_pos h1] at h
      by_cases h2 : a0_0 = true
      · rw [if_pos h2] at h
        by_cases h3 : a0_0 = true
        · rw [if_pos h3] at h
          obtain ⟨v23, h4, h⟩ := bnd h
          obtain rfl := Option.some.inj h
          exact Til.fin Tryz.func81 [(4, .b true), (7, .b true), (11, .b true), (18, .b true), (23, ca (.c (.d (.int .i64 v23))))] (fun _ f => o h0 (o h1 (o h2 (o h3 (o (dendronref01_Order.does h4) f))))) (by kernel_rfl)
        · rw [if_neg h3] at h
          obtain ⟨v23, h4, h⟩ := bnd h
          obtain rfl := Option.some.inj h
          exact Til.fin Tryz.func81 [(4, .b true), (7, .b true), (11, .b true), (18, .b false), (23, ca (.c (.d (.int .i64 v23))))] (fun _ f => o h0 (o h1 (o h2 (o (Bool.eq_false_iff.2 h3) (o (dendronref01_Order.does h4) f))))) (by kernel_rfl)
      · rw [if_neg h2] at h
        by_cases h3 : a1_0 = true
        · rw [if_pos h3] at h
          obtain rfl := Option.some.inj h
          exact Til.fin Tryz.func81 [(4, .b true), (7, .b true), (11, .b false), (15, .b true)] (fun _ f => o h0 (o h1 (o (Bool.eq_false_iff.2 h2) (o h3 f)))) (by kernel_rfl)
        · rw [if_neg h3] at h
          by_cases h4 : a0_0 = true
          · rw [if_pos h4] at h
            obtain ⟨v23, h5, h⟩ := bnd h
            obtain rfl := Option.some.inj h
            exact Til.fin Tryz.func81 [(4, .b true), (7, .b true), (11, .b false), (15, .b false), (18, .b true), (23, ca (.c (.d (.int .i64 v23))))] (fun _ f => o h0 (o h1 (o (Bool.eq_false_iff.2 h2) (o (Bool.eq_false_iff.2 h3) (o h4 (o (dendronref01_Order.does h5) f)))))) (by kernel_rfl)
          · rw [if_neg h4] at h
            obtain ⟨v23, h5, h⟩ := bnd h
            obtain rfl := Option.some.inj h
            exact Til.fin Tryz.func81 [(4, .b true), (7, .b true), (11, .b false), (15, .b false), (18, .b false), (23, ca (.c (.d (.int .i64 v23))))] (fun _ f => o h0 (o h1 (o (Bool.eq_false_iff.2 h2) (o (Bool.eq_false_iff.2 h3) (o (Bool.eq_false_iff.2 h4) (o (dendronref01_Order.does h5) f)))))) (by kernel_rfl)
    · rw [if_neg h1] at h
      obtain rfl := Option.some.inj h
      exact Til.fin Tryz.func81 [(4, .b true), (7, .b false)] (fun _ f => o h0 (o (Bool.eq_false_iff.2 h1) f)) (by kernel_rfl)
  · rw [if_neg h0] at h
    by_cases h1 : a0_0 = true
    · rw [if_pos h1] at h
      by_cases h2 : a0_0 = true
      · rw [if_pos h2] at h
        obtain ⟨v23, h3, h⟩ := bnd h
        obtain rfl := Option.some.inj h
        exact Til.fin Tryz.func81 [(4, .b false), (11, .b true), (18, .b true), (23, ca (.c (.d (.int .i64 v23))))] (fun _ f => o (Bool.eq_false_iff.2 h0) (o h1 (o h2 (o (dendronref01_Order.does h3) f)))) (by kernel_rfl)
      · rw [if_neg h2] at h
        obtain ⟨v23, h3, h⟩ := bnd h
        obtain rfl := Option.some.inj h
        exact Til.fin Tryz.func81 [(4, .b false), (11, .b true), (18, .b false), (23, ca (.c (.d (.int .i64 v23))))] (fun _ f => o (Bool.eq_false_iff.2 h0) (o h1 (o (Bool.eq_false_iff.2 h2) (o (dendronref01_Order.does h3) f)))) (by kernel_rfl)
    · rw [if_neg h1] at h
      by_cases h2 : a1_0 = true
      · rw [if_pos h2] at h
        obtain rfl := Option.some.inj h
        exact Til.fin Tryz.func81 [(4, .b false), (11, .b false), (15, .b true)] (fun _ f => o (Bool.eq_false_iff.2 h0) (o (Bool.eq_false_iff.2 h1) (o h2 f))) (by kernel_rfl)
      · rw [if_neg h2] at h
        by_cases h3 : a0_0 = true
        · rw [if_pos h3] at h
          obtain ⟨v23, h4, h⟩ := bnd h
          obtain rfl := Option.some.inj h
          exact Til.fin Tryz.func81 [(4, .b false), (11, .b false), (15, .b false), (18, .b true), (23, ca (.c (.d (.int .i64 v23))))] (fun _ f => o (Bool.eq_false_iff.2 h0) (o (Bool.eq_false_iff.2 h1) (o (Bool.eq_false_iff.2 h2) (o h3 (o (dendronref01_Order.does h4) f))))) (by kernel_rfl)
        · rw [if_neg h3] at h
          obtain ⟨v23, h4, h⟩ := bnd h
          obtain rfl := Option.some.inj h
          exact Til.fin Tryz.func81 [(4, .b false), (11, .b false), (15, .b false), (18, .b false), (23, ca (.c (.d (.int .i64 v23))))] (fun _ f => o (Bool.eq_false_iff.2 h0) (o (Bool.eq_false_iff.2 h1) (o (Bool.eq_false_iff.2 h2) (o (Bool.eq_false_iff.2 h3) (o (dendronref01_Order.does h4) f))))) (by kernel_rfl)

theorem dendronref03_Order.does {k : Nat} {a0_0 : Bool} {l0_1 : List Int} {l0_2 : List Int} {a1_0 : Bool} {l1_1 : List Int} {l1_2 : List Int} {r : Int} (h : dendronref03_Order.f k a0_0 l0_1 l0_2 a1_0 l1_1 l1_2 = some r) :
    Does Tryz.prog 38 [.agg [.d (.bool a0_0), .d (L3 l0_1), .d (L3 l0_2)], .agg [.d (.bool a1_0), .d (L3 l1_1), .d (L3 l1_2)]] [] (.c (.d (.int .i64 r))) none [] := by
  refine does_fn Tryz.func38 (by kernel_rfl) rfl rfl ?_
  unfold dendronref03_Order.f at h
  obtain ⟨v6, h0, h⟩ := bnd h
  obtain ⟨v7, h1, h⟩ := bnd h
  obtain ⟨v11, h2, h⟩ := bnd h
  obtain ⟨v12, h3, h⟩ := bnd h
  obtain ⟨v13, h4, h⟩ := bnd h
  obtain rfl := Option.some.inj h
  exact Til.fin Tryz.func38 [(6, ca (.agg [.d (.bool v6.1), .d (L3 v6.2)])), (7, ca (.agg [.d (.bool v7.1), .d (L3 v7.2)])), (11, ca (.agg [.d (.bool v11.1), .d (L3 v11.2)])), (12, ca (.agg [.d (.bool v12.1), .d (L3 v12.2)])), (13, ca (.c (.d (.int .i64 v13))))] (fun _ f => o (dendronref03_den.does h0) (o (dendronref02_Times.does h1) (o (dendronref03_den.does h2) (o (dendronref02_Times.does h3) (o (dendronref02_Order.does h4) f))))) (by kernel_rfl)

theorem dendronlaw03_tiny.does {a0_0 : Bool} {l0_1 : List Int} {l0_2 : List Int} {r : Bool × List Int × List Int} (h : dendronlaw03_tiny.f a0_0 l0_1 l0_2 = some r) :
    Does Tryz.prog 44 [.agg [.d (.bool a0_0), .d (L103 l0_1), .d (L103 l0_2)]] [] (.agg [.d (.bool r.1), .d (L103 r.2.1), .d (L103 r.2.2)]) none [] := by
  refine does_fn Tryz.func44 (by kernel_rfl) rfl rfl ?_
  unfold dendronlaw03_tiny.f at h
  by_cases h0 : (l0_1.length : Int) > 2
  · rw [if_pos h0] at h
    obtain ⟨h1, h⟩ := ifp h
    by_cases h2 : (l0_2.length : Int) > 2
    · rw [if_pos h2] at h
      obtain ⟨h3, h⟩ := ifp h
      obtain rfl := Option.some.inj h
      exact Til.fin Tryz.func44 [(6, .b true), (10, Z103 (l0_1.take 2)), (17, .b true), (20, Z103 (l0_2.take 2))] (fun _ f => o (decide_eq_true h0) (o (take_ok c103 0 l0_1 (nn 2) h1) (o (decide_eq_true h2) (o (take_ok c103 0 l0_2 (nn 2) h3) f)))) (by kernel_rfl)
    · rw [if_neg h2] at h
      obtain rfl := Option.some.inj h
      exact Til.fin Tryz.func44 [(6, .b true), (10, Z103 (l0_1.take 2)), (17, .b false)] (fun _ f => o (decide_eq_true h0) (o (take_ok c103 0 l0_1 (nn 2) h1) (o (decide_eq_false h2) f))) (by kernel_rfl)
  · rw [if_neg h0] at h
    by_cases h1 : (l0_2.length : Int) > 2
    · rw [if_pos h1] at h
      obtain ⟨h2, h⟩ := ifp h
      obtain rfl := Option.some.inj h
      exact Til.fin Tryz.func44 [(6, .b false), (10, .b true), (13, Z103 (l0_2.take 2))] (fun _ f => o (decide_eq_false h0) (o (decide_eq_true h1) (o (take_ok c103 0 l0_2 (nn 2) h2) f))) (by kernel_rfl)
    · rw [if_neg h1] at h
      obtain rfl := Option.some.inj h
      exact Til.fin Tryz.func44 [(6, .b false), (10, .b false)] (fun _ f => o (decide_eq_false h0) (o (decide_eq_false h1) f)) (by kernel_rfl)

def dendronref01_Gcd.l0E (x0 : List Int) (x1 : List Int) : Env := [(0, .c (.d (L3 x0))), (1, .c (.d (L3 x1)))]
theorem dendronref01_Gcd.w (k : Nat) : (∀  (x0 : List Int) (x1 : List Int) (r : List Int), dendronref01_Gcd.l0 k x0 x1 = some r → Til Tryz.prog 82 [] (.c (.d (L3 r))) none [] (at_ Tryz.f82 1) (dendronref01_Gcd.l0E x0 x1) []) := by
  induction k with
  | zero =>
    exact fun _ _ _ h => (by cases h)
  | succ k ih =>
    intro x0 x1 r h
    rw [dendronref01_Gcd.l0] at h
    by_cases h0 : (x1.length : Int) > 0
    · rw [if_pos h0] at h
      obtain ⟨v5, h1, h⟩ := bnd h
      exact Til.mid Tryz.func82 1 [(2, .b true), (5, ca (.tup [.c (.d (L3 v5.1)), .c (.d (L3 v5.2))]))] (fun _ f => o (decide_eq_true h0) (o (dendronref01_Over.does h1) f)) (by kernel_rfl) (ih _ _ _ h)
    · rw [if_neg h0] at h
      obtain rfl := Option.some.inj h
      exact Til.fin Tryz.func82 [(2, .b false)] (fun _ f => o (decide_eq_false h0) f) (by kernel_rfl)
theorem dendronref01_Gcd.does {k : Nat} {l0 : List Int} {l1 : List Int} {r : List Int} (h : dendronref01_Gcd.f k l0 l1 = some r) :
    Does Tryz.prog 82 [.c (.d (L3 l0)), .c (.d (L3 l1))] [] (.c (.d (L3 r))) none [] := by
  refine does_fn Tryz.func82 (by kernel_rfl) rfl rfl ?_
  unfold dendronref01_Gcd.f at h
  have ih := dendronref01_Gcd.w k
  exact Til.mid Tryz.func82 1 [] (fun _ f => f) (by kernel_rfl) (ih _ _ _ h)

def dendronref01_Right.l0E (x0 : List Int) (x3 : Int) : Env := [(0, .c (.d (L103 x0))), (3, .c (.d (.int .i64 x3)))]
theorem dendronref01_Right.w (k : Nat) : (∀  (x0 : List Int) (x3 : Int) (r : Bool), dendronref01_Right.l0 k x0 x3 = some r → Til Tryz.prog 97 [] (.c (.d (.bool r))) none [] (at_ Tryz.f97 2) (dendronref01_Right.l0E x0 x3) []) := by
  induction k with
  | zero =>
    exact fun _ _ _ h => (by cases h)
  | succ k ih =>
    intro x0 x3 r h
    rw [dendronref01_Right.l0] at h
    by_cases h0 : x3 < (x0.length : Int)
    · rw [if_pos h0] at h
      obtain ⟨h1, h⟩ := ifp h
      by_cases h2 : (rd x0 x3) > 4294967295
      · rw [if_pos h2] at h
        obtain rfl := Option.some.inj h
        exact Til.fin Tryz.func97 [(3, .b true), (8, .b true)] (fun _ f => o (decide_eq_true h0) (o (o h1 h0) (o (decide_eq_true h2) f))) (by kernel_rfl)
      · rw [if_neg h2] at h
        exact Til.mid Tryz.func97 2 [(3, .b true), (8, .b false)] (fun _ f => o (decide_eq_true h0) (o (o h1 h0) (o (decide_eq_false h2) f))) (by kernel_rfl) (ih _ _ _ h)
    · rw [if_neg h0] at h
      by_cases h1 : (x0.length : Int) = 0
      · rw [if_pos h1] at h
        obtain rfl := Option.some.inj h
        exact Til.fin Tryz.func97 [(3, .b false), (6, .b true)] (fun _ f => o (decide_eq_false h0) (o (beq_iff_eq.2 h1) f)) (by kernel_rfl)
      · rw [if_neg h1] at h
        obtain ⟨h2, h⟩ := ifp h
        obtain ⟨h3, h⟩ := ifp h
        obtain rfl := Option.some.inj h
        exact Til.fin Tryz.func97 [(3, .b false), (6, .b false)] (fun _ f => o (decide_eq_false h0) (o (beq_false_of_ne h1) (o (o h2 h3) f))) (by kernel_rfl)
theorem dendronref01_Right.does {k : Nat} {l0 : List Int} {r : Bool} (h : dendronref01_Right.f k l0 = some r) :
    Does Tryz.prog 97 [.c (.d (L103 l0))] [] (.c (.d (.bool r))) none [] := by
  refine does_fn Tryz.func97 (by kernel_rfl) rfl rfl ?_
  unfold dendronref01_Right.f at h
  have ih := dendronref01_Right.w k
  exact Til.mid Tryz.func97 2 [] (fun _ f => f) (by kernel_rfl) (ih _ _ _ h)

theorem dendronref03_Right.does {k : Nat} {a0_0 : Bool} {l0_1 : List Int} {l0_2 : List Int} {r : Bool} (h : dendronref03_Right.f k a0_0 l0_1 l0_2 = some r) :
    Does Tryz.prog 46 [.agg [.d (.bool a0_0), .d (L103 l0_1), .d (L103 l0_2)]] [] (.c (.d (.bool r))) none [] := by
  refine does_fn Tryz.func46 (by kernel_rfl) rfl rfl ?_
  unfold dendronref03_Right.f at h
  obtain ⟨v5, h0, h⟩ := bnd h
  cases v5
  · rw [if_neg (by decide)] at h
    obtain rfl := Option.some.inj h
    exact Til.fin Tryz.func46 [(5, ca (.c (.d (.bool false))))] (fun _ f => o (dendronref01_Right.does h0) f) (by kernel_rfl)
  · rw [if_pos rfl] at h
    obtain ⟨v10, h2, h⟩ := bnd h
    cases v10
    · rw [if_neg (by decide)] at h
      obtain rfl := Option.some.inj h
      exact Til.fin Tryz.func46 [(5, ca (.c (.d (.bool true)))), (10, ca (.c (.d (.bool false))))] (fun _ f => o (dendronref01_Right.does h0) (o (dendronref01_Right.does h2) f)) (by kernel_rfl)
    · rw [if_pos rfl] at h
      by_cases h4 : (l0_2.length : Int) = 0
      · rw [if_pos h4] at h
        obtain rfl := Option.some.inj h
        exact Til.fin Tryz.func46 [(5, ca (.c (.d (.bool true)))), (10, ca (.c (.d (.bool true)))), (17, .b true)] (fun _ f => o (dendronref01_Right.does h0) (o (dendronref01_Right.does h2) (o (beq_iff_eq.2 h4) f))) (by kernel_rfl)
      · rw [if_neg h4] at h
        by_cases h5 : (l0_1.length : Int) = 0
        · rw [if_pos h5] at h
          by_cases h6 : a0_0 = true
          · rw [if_pos h6] at h
            obtain rfl := Option.some.inj h
            exact Til.fin Tryz.func46 [(5, ca (.c (.d (.bool true)))), (10, ca (.c (.d (.bool true)))), (17, .b false), (24, .b true), (28, .b true)] (fun _ f => o (dendronref01_Right.does h0) (o (dendronref01_Right.does h2) (o (beq_false_of_ne h4) (o (beq_iff_eq.2 h5) (o h6 f))))) (by kernel_rfl)
          · rw [if_neg h6] at h
            obtain ⟨v34, h7, h⟩ := bnd h
            obtain ⟨v37, h8, h⟩ := bnd h
            obtain ⟨v38, h9, h⟩ := bnd h
            obtain ⟨v41, h10, h⟩ := bnd h
            obtain ⟨v42, h11, h⟩ := bnd h
            obtain rfl := Option.some.inj h
            exact Til.fin Tryz.func46 [(5, ca (.c (.d (.bool true)))), (10, ca (.c (.d (.bool true)))), (17, .b false), (24, .b true), (28, .b false), (34, ca (.c (.d (L3 v34)))), (37, ca (.c (.d (L3 v37)))), (38, ca (.c (.d (L3 v38)))), (41, ca (.c (.d (L3 v41)))), (42, ca (.c (.d (.int .i64 v42))))] (fun _ f => o (dendronref01_Right.does h0) (o (dendronref01_Right.does h2) (o (beq_false_of_ne h4) (o (beq_iff_eq.2 h5) (o (Bool.eq_false_iff.2 h6) (o (dendronref01_From.does h7) (o (dendronref01_From.does h8) (o (dendronref01_Gcd.does h9) (o (dendronref01_Small.does h10) (o (dendronref01_Order.does h11) f)))))))))) (by kernel_rfl)
        · rw [if_neg h5] at h
          obtain ⟨v34, h6, h⟩ := bnd h
          obtain ⟨v37, h7, h⟩ := bnd h
          obtain ⟨v38, h8, h⟩ := bnd h
          obtain ⟨v41, h9, h⟩ := bnd h
          obtain ⟨v42, h10, h⟩ := bnd h
          obtain rfl := Option.some.inj h
          exact Til.fin Tryz.func46 [(5, ca (.c (.d (.bool true)))), (10, ca (.c (.d (.bool true)))), (17, .b false), (24, .b false), (34, ca (.c (.d (L3 v34)))), (37, ca (.c (.d (L3 v37)))), (38, ca (.c (.d (L3 v38)))), (41, ca (.c (.d (L3 v41)))), (42, ca (.c (.d (.int .i64 v42))))] (fun _ f => o (dendronref01_Right.does h0) (o (dendronref01_Right.does h2) (o (beq_false_of_ne h4) (o (beq_false_of_ne h5) (o (dendronref01_From.does h6) (o (dendronref01_From.does h7) (o (dendronref01_Gcd.does h8) (o (dendronref01_Small.does h9) (o (dendronref01_Order.does h10) f))))))))) (by kernel_rfl)

def ratio_upward.l0E (x1 : Int) (x2 : Bool) (x9 : Bool) (x10 : Int) (b3_0 : Bool) (b3_1 : List Int) (b3_2 : List Int) (b6_0 : Bool) (b8_0 : Bool) (b8_1 : List Int) (b8_2 : List Int) : Env := [(1, .c (.d (.int .i64 x1))), (2, .c (.d (.bool x2))), (3, .c (.ptr 3 0)), (6, .c (.ptr 6 0)), (8, .c (.ptr 8 0)), (9, .c (.d (.bool x9))), (10, .c (.d (.int .i64 x10)))]
def ratio_upward.l0B (x1 : Int) (x2 : Bool) (x9 : Bool) (x10 : Int) (b3_0 : Bool) (b3_1 : List Int) (b3_2 : List Int) (b6_0 : Bool) (b8_0 : Bool) (b8_1 : List Int) (b8_2 : List Int) : Obs := [(3, some (.box [.d (.bool b3_0), .d (L103 b3_1), .d (L103 b3_2)])), (6, some (.box [.d (.bool b6_0), .nils, .nils])), (8, some (.box [.d (.bool b8_0), .d (L103 b8_1), .d (L103 b8_2)]))]
theorem ratio_upward.w (k : Nat) : (∀  (x1 : Int) (x2 : Bool) (x9 : Bool) (x10 : Int) (b3_0 : Bool) (b3_1 : List Int) (b3_2 : List Int) (b6_0 : Bool) (b8_0 : Bool) (b8_1 : List Int) (b8_2 : List Int) (r : Bool × List Int × List Int × Bool), ratio_upward.l0 k x1 x2 x9 x10 b3_0 b3_1 b3_2 b6_0 b8_0 b8_1 b8_2 = some r → Til Tryz.prog 124 [] (.tup [.agg [.d (.bool r.1), .d (L103 r.2.1), .d (L103 r.2.2.1)], .c (.d (.bool r.2.2.2))]) none [] (at_ Tryz.f124 4) (ratio_upward.l0E x1 x2 x9 x10 b3_0 b3_1 b3_2 b6_0 b8_0 b8_1 b8_2) (ratio_upward.l0B x1 x2 x9 x10 b3_0 b3_1 b3_2 b6_0 b8_0 b8_1 b8_2)) := by
  induction k with
  | zero =>
    exact fun _ _ _ _ _ _ _ _ _ _ _ _ h => (by cases h)
  | succ k ih =>
    intro x1 x2 x9 x10 b3_0 b3_1 b3_2 b6_0 b8_0 b8_1 b8_2 r h
    rw [ratio_upward.l0] at h
    by_cases h0 : x10 ≤ x1
    · rw [if_pos h0] at h
      obtain ⟨v5, h1, h⟩ := bnd h
      obtain ⟨v6, h2, h⟩ := bnd h
      obtain ⟨v7, h3, h⟩ := bnd h
      obtain ⟨v11, h4, h⟩ := bnd h
      obtain ⟨v13, h5, h⟩ := bnd h
      obtain ⟨v14, h6, h⟩ := bnd h
      by_cases h7 : x2 = true
      · rw [if_pos h7] at h
        obtain ⟨v21, h8, h⟩ := bnd h
        cases v21
        · rw [if_neg (by decide)] at h
          by_cases h10 : x9 = true
          · rw [if_pos h10] at h
            obtain ⟨v28, h11, h⟩ := bnd h
            by_cases h12 : v28 < 0
            · rw [if_pos h12] at h
              exact Til.mid Tryz.func124 4 [(2, .b true), (5, ca (.agg [.d (.bool v5.1), .d (L103 v5.2.1), .d (L103 v5.2.2)])), (6, ca (.agg [.d (.bool v6.1), .d (L103 v6.2.1), .d (L103 v6.2.2)])), (7, ca (.agg [.d (.bool v7.1), .d (L103 v7.2)])), (11, ca (.agg [.d (.bool v11.1), .d (L103 v11.2.1), .d (L103 v11.2.2)])), (13, ca (.agg [.d (.bool v13.1), .d (L103 v13.2.1), .d (L103 v13.2.2)])), (14, ca (.agg [.d (.bool v14.1), .d (L103 v14.2.1), .d (L103 v14.2.2)])), (17, .b true), (21, ca (.c (.d (.bool false)))), (23, .b true), (28, ca (.c (.d (.int .i64 v28)))), (29, .b true)] (fun _ f => o (decide_eq_true h0) (o (ratio_Of.does h1) (o (ratio_Mul.does h2) (o (ratio_Ceil.does h3) (o (ratio_Int.does h4) (o (ratio_Of.does h5) (o (ratio_over.does h6) (o h7 (o (ratio_Same.does h8) (o h10 (o (ratio_Cmp.does h11) (o (decide_eq_true h12) f)))))))))))) (by kernel_rfl) (ih _ _ _ _ _ _ _ _ _ _ _ _ h)
            · rw [if_neg h12] at h
              exact Til.mid Tryz.func124 4 [(2, .b true), (5, ca (.agg [.d (.bool v5.1), .d (L103 v5.2.1), .d (L103 v5.2.2)])), (6, ca (.agg [.d (.bool v6.1), .d (L103 v6.2.1), .d (L103 v6.2.2)])), (7, ca (.agg [.d (.bool v7.1), .d (L103 v7.2)])), (11, ca (.agg [.d (.bool v11.1), .d (L103 v11.2.1), .d (L103 v11.2.2)])), (13, ca (.agg [.d (.bool v13.1), .d (L103 v13.2.1), .d (L103 v13.2.2)])), (14, ca (.agg [.d (.bool v14.1), .d (L103 v14.2.1), .d (L103 v14.2.2)])), (17, .b true), (21, ca (.c (.d (.bool false)))), (23, .b true), (28, ca (.c (.d (.int .i64 v28)))), (29, .b false)] (fun _ f => o (decide_eq_true h0) (o (ratio_Of.does h1) (o (ratio_Mul.does h2) (o (ratio_Ceil.does h3) (o (ratio_Int.does h4) (o (ratio_Of.does h5) (o (ratio_over.does h6) (o h7 (o (ratio_Same.does h8) (o h10 (o (ratio_Cmp.does h11) (o (decide_eq_false h12) f)))))))))))) (by kernel_rfl) (ih _ _ _ _ _ _ _ _ _ _ _ _ h)
          · rw [if_neg h10] at h
            exact Til.mid Tryz.func124 4 [(2, .b true), (5, ca (.agg [.d (.bool v5.1), .d (L103 v5.2.1), .d (L103 v5.2.2)])), (6, ca (.agg [.d (.bool v6.1), .d (L103 v6.2.1), .d (L103 v6.2.2)])), (7, ca (.agg [.d (.bool v7.1), .d (L103 v7.2)])), (11, ca (.agg [.d (.bool v11.1), .d (L103 v11.2.1), .d (L103 v11.2.2)])), (13, ca (.agg [.d (.bool v13.1), .d (L103 v13.2.1), .d (L103 v13.2.2)])), (14, ca (.agg [.d (.bool v14.1), .d (L103 v14.2.1), .d (L103 v14.2.2)])), (17, .b true), (21, ca (.c (.d (.bool false)))), (23, .b false)] (fun _ f => o (decide_eq_true h0) (o (ratio_Of.does h1) (o (ratio_Mul.does h2) (o (ratio_Ceil.does h3) (o (ratio_Int.does h4) (o (ratio_Of.does h5) (o (ratio_over.does h6) (o h7 (o (ratio_Same.does h8) (o (Bool.eq_false_iff.2 h10) f)))))))))) (by kernel_rfl) (ih _ _ _ _ _ _ _ _ _ _ _ _ h)
        · rw [if_pos rfl] at h
          obtain ⟨v24, h10, h⟩ := bnd h
          obtain ⟨v25, h11, h⟩ := bnd h
          obtain ⟨v26, h12, h⟩ := bnd h
          obtain ⟨v28, h13, h⟩ := bnd h
          obtain ⟨v29, h14, h⟩ := bnd h
          by_cases h15 : x9 = true
          · rw [if_pos h15] at h
            obtain ⟨v36, h16, h⟩ := bnd h
            by_cases h17 : v36 < 0
            · rw [if_pos h17] at h
              exact Til.mid Tryz.func124 4 [(2, .b true), (5, ca (.agg [.d (.bool v5.1), .d (L103 v5.2.1), .d (L103 v5.2.2)])), (6, ca (.agg [.d (.bool v6.1), .d (L103 v6.2.1), .d (L103 v6.2.2)])), (7, ca (.agg [.d (.bool v7.1), .d (L103 v7.2)])), (11, ca (.agg [.d (.bool v11.1), .d (L103 v11.2.1), .d (L103 v11.2.2)])), (13, ca (.agg [.d (.bool v13.1), .d (L103 v13.2.1), .d (L103 v13.2.2)])), (14, ca (.agg [.d (.bool v14.1), .d (L103 v14.2.1), .d (L103 v14.2.2)])), (17, .b true), (21, ca (.c (.d (.bool true)))), (24, ca (.agg [.d (.bool v24.1), .d (L103 v24.2)])), (25, ca (.agg [.d (.bool v25.1), .d (L103 v25.2)])), (26, ca (.agg [.d (.bool v26.1), .d (L103 v26.2.1), .d (L103 v26.2.2)])), (28, ca (.agg [.d (.bool v28.1), .d (L103 v28.2.1), .d (L103 v28.2.2)])), (29, ca (.agg [.d (.bool v29.1), .d (L103 v29.2.1), .d (L103 v29.2.2)])), (31, .b true), (36, ca (.c (.d (.int .i64 v36)))), (37, .b true)] (fun _ f => o (decide_eq_true h0) (o (ratio_Of.does h1) (o (ratio_Mul.does h2) (o (ratio_Ceil.does h3) (o (ratio_Int.does h4) (o (ratio_Of.does h5) (o (ratio_over.does h6) (o h7 (o (ratio_Same.does h8) (o (whole_Of.does h10) (o (whole_Add.does h11) (o (ratio_Int.does h12) (o (ratio_Of.does h13) (o (ratio_over.does h14) (o h15 (o (ratio_Cmp.does h16) (o (decide_eq_true h17) f))))))))))))))))) (by kernel_rfl) (ih _ _ _ _ _ _ _ _ _ _ _ _ h)
            · rw [if_neg h17] at h
              exact Til.mid Tryz.func124 4 [(2, .b true), (5, ca (.agg [.d (.bool v5.1), .d (L103 v5.2.1), .d (L103 v5.2.2)])), (6, ca (.agg [.d (.bool v6.1), .d (L103 v6.2.1), .d (L103 v6.2.2)])), (7, ca (.agg [.d (.bool v7.1), .d (L103 v7.2)])), (11, ca (.agg [.d (.bool v11.1), .d (L103 v11.2.1), .d (L103 v11.2.2)])), (13, ca (.agg [.d (.bool v13.1), .d (L103 v13.2.1), .d (L103 v13.2.2)])), (14, ca (.agg [.d (.bool v14.1), .d (L103 v14.2.1), .d (L103 v14.2.2)])), (17, .b true), (21, ca (.c (.d (.bool true)))), (24, ca (.agg [.d (.bool v24.1), .d (L103 v24.2)])), (25, ca (.agg [.d (.bool v25.1), .d (L103 v25.2)])), (26, ca (.agg [.d (.bool v26.1), .d (L103 v26.2.1), .d (L103 v26.2.2)])), (28, ca (.agg [.d (.bool v28.1), .d (L103 v28.2.1), .d (L103 v28.2.2)])), (29, ca (.agg [.d (.bool v29.1), .d (L103 v29.2.1), .d (L103 v29.2.2)])), (31, .b true), (36, ca (.c (.d (.int .i64 v36)))), (37, .b false)] (fun _ f => o (decide_eq_true h0) (o (ratio_Of.does h1) (o (ratio_Mul.does h2) (o (ratio_Ceil.does h3) (o (ratio_Int.does h4) (o (ratio_Of.does h5) (o (ratio_over.does h6) (o h7 (o (ratio_Same.does h8) (o (whole_Of.does h10) (o (whole_Add.does h11) (o (ratio_Int.does h12) (o (ratio_Of.does h13) (o (ratio_over.does h14) (o h15 (o (ratio_Cmp.does h16) (o (decide_eq_false h17) f))))))))))))))))) (by kernel_rfl) (ih _ _ _ _ _ _ _ _ _ _ _ _ h)
          · rw [if_neg h15] at h
            exact Til.mid Tryz.func124 4 [(2, .b true), (5, ca (.agg [.d (.bool v5.1), .d (L103 v5.2.1), .d (L103 v5.2.2)])), (6, ca (.agg [.d (.bool v6.1), .d (L103 v6.2.1), .d (L103 v6.2.2)])), (7, ca (.agg [.d (.bool v7.1), .d (L103 v7.2)])), (11, ca (.agg [.d (.bool v11.1), .d (L103 v11.2.1), .d (L103 v11.2.2)])), (13, ca (.agg [.d (.bool v13.1), .d (L103 v13.2.1), .d (L103 v13.2.2)])), (14, ca (.agg [.d (.bool v14.1), .d (L103 v14.2.1), .d (L103 v14.2.2)])), (17, .b true), (21, ca (.c (.d (.bool true)))), (24, ca (.agg [.d (.bool v24.1), .d (L103 v24.2)])), (25, ca (.agg [.d (.bool v25.1), .d (L103 v25.2)])), (26, ca (.agg [.d (.bool v26.1), .d (L103 v26.2.1), .d (L103 v26.2.2)])), (28, ca (.agg [.d (.bool v28.1), .d (L103 v28.2.1), .d (L103 v28.2.2)])), (29, ca (.agg [.d (.bool v29.1), .d (L103 v29.2.1), .d (L103 v29.2.2)])), (31, .b false)] (fun _ f => o (decide_eq_true h0) (o (ratio_Of.does h1) (o (ratio_Mul.does h2) (o (ratio_Ceil.does h3) (o (ratio_Int.does h4) (o (ratio_Of.does h5) (o (ratio_over.does h6) (o h7 (o (ratio_Same.does h8) (o (whole_Of.does h10) (o (whole_Add.does h11) (o (ratio_Int.does h12) (o (ratio_Of.does h13) (o (ratio_over.does h14) (o (Bool.eq_false_iff.2 h15) f))))))))))))))) (by kernel_rfl) (ih _ _ _ _ _ _ _ _ _ _ _ _ h)
      · rw [if_neg h7] at h
        by_cases h8 : x9 = true
        · rw [if_pos h8] at h
          obtain ⟨v28, h9, h⟩ := bnd h
          by_cases h10 : v28 < 0
          · rw [if_pos h10] at h
            exact Til.mid Tryz.func124 4 [(2, .b true), (5, ca (.agg [.d (.bool v5.1), .d (L103 v5.2.1), .d (L103 v5.2.2)])), (6, ca (.agg [.d (.bool v6.1), .d (L103 v6.2.1), .d (L103 v6.2.2)])), (7, ca (.agg [.d (.bool v7.1), .d (L103 v7.2)])), (11, ca (.agg [.d (.bool v11.1), .d (L103 v11.2.1), .d (L103 v11.2.2)])), (13, ca (.agg [.d (.bool v13.1), .d (L103 v13.2.1), .d (L103 v13.2.2)])), (14, ca (.agg [.d (.bool v14.1), .d (L103 v14.2.1), .d (L103 v14.2.2)])), (17, .b false), (23, .b true), (28, ca (.c (.d (.int .i64 v28)))), (29, .b true)] (fun _ f => o (decide_eq_true h0) (o (ratio_Of.does h1) (o (ratio_Mul.does h2) (o (ratio_Ceil.does h3) (o (ratio_Int.does h4) (o (ratio_Of.does h5) (o (ratio_over.does h6) (o (Bool.eq_false_iff.2 h7) (o h8 (o (ratio_Cmp.does h9) (o (decide_eq_true h10) f))))))))))) (by kernel_rfl) (ih _ _ _ _ _ _ _ _ _ _ _ _ h)
          · rw [if_neg h10] at h
            exact Til.mid Tryz.func124 4 [(2, .b true), (5, ca (.agg [.d (.bool v5.1), .d (L103 v5.2.1), .d (L103 v5.2.2)])), (6, ca (.agg [.d (.bool v6.1), .d (L103 v6.2.1), .d (L103 v6.2.2)])), (7, ca (.agg [.d (.bool v7.1), .d (L103 v7.2)])), (11, ca (.agg [.d (.bool v11.1), .d (L103 v11.2.1), .d (L103 v11.2.2)])), (13, ca (.agg [.d (.bool v13.1), .d (L103 v13.2.1), .d (L103 v13.2.2)])), (14, ca (.agg [.d (.bool v14.1), .d (L103 v14.2.1), .d (L103 v14.2.2)])), (17, .b false), (23, .b true), (28, ca (.c (.d (.int .i64 v28)))), (29, .b false)] (fun _ f => o (decide_eq_true h0) (o (ratio_Of.does h1) (o (ratio_Mul.does h2) (o (ratio_Ceil.does h3) (o (ratio_Int.does h4) (o (ratio_Of.does h5) (o (ratio_over.does h6) (o (Bool.eq_false_iff.2 h7) (o h8 (o (ratio_Cmp.does h9) (o (decide_eq_false h10) f))))))))))) (by kernel_rfl) (ih _ _ _ _ _ _ _ _ _ _ _ _ h)
        · rw [if_neg h8] at h
          exact Til.mid Tryz.func124 4 [(2, .b true), (5, ca (.agg [.d (.bool v5.1), .d (L103 v5.2.1), .d (L103 v5.2.2)])), (6, ca (.agg [.d (.bool v6.1), .d (L103 v6.2.1), .d (L103 v6.2.2)])), (7, ca (.agg [.d (.bool v7.1), .d (L103 v7.2)])), (11, ca (.agg [.d (.bool v11.1), .d (L103 v11.2.1), .d (L103 v11.2.2)])), (13, ca (.agg [.d (.bool v13.1), .d (L103 v13.2.1), .d (L103 v13.2.2)])), (14, ca (.agg [.d (.bool v14.1), .d (L103 v14.2.1), .d (L103 v14.2.2)])), (17, .b false), (23, .b false)] (fun _ f => o (decide_eq_true h0) (o (ratio_Of.does h1) (o (ratio_Mul.does h2) (o (ratio_Ceil.does h3) (o (ratio_Int.does h4) (o (ratio_Of.does h5) (o (ratio_over.does h6) (o (Bool.eq_false_iff.2 h7) (o (Bool.eq_false_iff.2 h8) f))))))))) (by kernel_rfl) (ih _ _ _ _ _ _ _ _ _ _ _ _ h)
    · rw [if_neg h0] at h
      obtain rfl := Option.some.inj h
      exact Til.fin Tryz.func124 [(2, .b false)] (fun _ f => o (decide_eq_false h0) f) (by kernel_rfl)
theorem ratio_upward.does {k : Nat} {a0_0 : Bool} {l0_1 : List Int} {l0_2 : List Int} {a1 : Int} {a2 : Bool} {r : Bool × List Int × List Int × Bool} (h : ratio_upward.f k a0_0 l0_1 l0_2 a1 a2 = some r) :
    Does Tryz.prog 124 [.agg [.d (.bool a0_0), .d (L103 l0_1), .d (L103 l0_2)], .c (.d (.int .i64 a1)), .c (.d (.bool a2))] [] (.tup [.agg [.d (.bool r.1), .d (L103 r.2.1), .d (L103 r.2.2.1)], .c (.d (.bool r.2.2.2))]) none [] := by
  refine does_fn Tryz.func124 (by kernel_rfl) rfl rfl ?_
  unfold ratio_upward.f at h
  have ih := ratio_upward.w k
  exact Til.mid Tryz.func124 4 [] (fun _ f => f) (by kernel_rfl) (ih _ _ _ _ _ _ _ _ _ _ _ _ h)

def ratio_Between.l0E (x2 : Int) (x8 : List (Bool × List Int × List Int)) (b4_0 : Bool) (b4_1 : List Int) (b4_2 : List Int) (b9_0 : Bool) (b9_1 : List Int) (b9_2 : List Int) : Env := [(2, .c (.d (.int .i64 x2))), (4, .c (.ptr 4 0)), (8, .c (.own 8)), (9, .c (.ptr 9 0))]
def ratio_Between.l0B (x2 : Int) (x8 : List (Bool × List Int × List Int)) (b4_0 : Bool) (b4_1 : List Int) (b4_2 : List Int) (b9_0 : Bool) (b9_1 : List Int) (b9_2 : List Int) : Obs := [(4, some (.box [.d (.bool b4_0), .d (L103 b4_1), .d (L103 b4_2)])), (8, some (O27 .own x8)), (9, some (.box [.d (.bool b9_0), .d (L103 b9_1), .d (L103 b9_2)]))]
def ratio_Between.j1E (x2 : Int) (x8 : List (Bool × List Int × List Int)) (x39_0 : Bool) (x39_1 : List Int) (x39_2 : List Int) (x40_0 : Bool) (x40_1 : List Int) (x40_2 : List Int) (x41 : Int) (x42 : Bool) (x52_0 : Bool) (x52_1 : List Int) (x52_2 : List Int) (b4_0 : Bool) (b4_1 : List Int) (b4_2 : List Int) : Env := [(2, .c (.d (.int .i64 x2))), (4, .c (.ptr 4 0)), (8, .c (.own 8)), (39, .agg [.d (.bool x39_0), .d (L103 x39_1), .d (L103 x39_2)]), (40, .agg [.d (.bool x40_0), .d (L103 x40_1), .d (L103 x40_2)]), (41, .c (.d (.int .i64 x41))), (42, .c (.d (.bool x42))), (52, .agg [.d (.bool x52_0), .d (L103 x52_1), .d (L103 x52_2)])]
def ratio_Between.j1B (x2 : Int) (x8 : List (Bool × List Int × List Int)) (x39_0 : Bool) (x39_1 : List Int) (x39_2 : List Int) (x40_0 : Bool) (x40_1 : List Int) (x40_2 : List Int) (x41 : Int) (x42 : Bool) (x52_0 : Bool) (x52_1 : List Int) (x52_2 : List Int) (b4_0 : Bool) (b4_1 : List Int) (b4_2 : List Int) : Obs := [(4, some (.box [.d (.bool b4_0), .d (L103 b4_1), .d (L103 b4_2)])), (8, some (O27 .own x8))]
theorem ratio_Between.w (k : Nat) : (∀  (x2 : Int) (x8 : List (Bool × List Int × List Int)) (b4_0 : Bool) (b4_1 : List Int) (b4_2 : List Int) (b9_0 : Bool) (b9_1 : List Int) (b9_2 : List Int) (r : List (Bool × List Int × List Int) × Int), ratio_Between.l0 k x2 x8 b4_0 b4_1 b4_2 b9_0 b9_1 b9_2 = some r → Til Tryz.prog 80 [] (.tup [.c (.d (L27 r.1)), .c (.d (.int .i64 r.2))]) none [] (at_ Tryz.f80 6) (ratio_Between.l0E x2 x8 b4_0 b4_1 b4_2 b9_0 b9_1 b9_2) (ratio_Between.l0B x2 x8 b4_0 b4_1 b4_2 b9_0 b9_1 b9_2)) ∧
    (∀  (x2 : Int) (x8 : List (Bool × List Int × List Int)) (x39_0 : Bool) (x39_1 : List Int) (x39_2 : List Int) (x40_0 : Bool) (x40_1 : List Int) (x40_2 : List Int) (x41 : Int) (x42 : Bool) (x52_0 : Bool) (x52_1 : List Int) (x52_2 : List Int) (b4_0 : Bool) (b4_1 : List Int) (b4_2 : List Int) (r : List (Bool × List Int × List Int) × Int), ratio_Between.j1 k x2 x8 x39_0 x39_1 x39_2 x40_0 x40_1 x40_2 x41 x42 x52_0 x52_1 x52_2 b4_0 b4_1 b4_2 = some r → Til Tryz.prog 80 [] (.tup [.c (.d (L27 r.1)), .c (.d (.int .i64 r.2))]) none [] (at_ Tryz.f80 14) (ratio_Between.j1E x2 x8 x39_0 x39_1 x39_2 x40_0 x40_1 x40_2 x41 x42 x52_0 x52_1 x52_2 b4_0 b4_1 b4_2) (ratio_Between.j1B x2 x8 x39_0 x39_1 x39_2 x40_0 x40_1 x40_2 x41 x42 x52_0 x52_1 x52_2 b4_0 b4_1 b4_2)) := by
  induction k with
  | zero =>
    exact ⟨fun _ _ _ _ _ _ _ _ _ h => (by cases h), fun _ _ _ _ _ _ _ _ _ _ _ _ _ _ _ _ _ h => (by cases h)⟩
  | succ k ih =>
    refine ⟨?_, ?_⟩
    · intro x2 x8 b4_0 b4_1 b4_2 b9_0 b9_1 b9_2 r h
      rw [ratio_Between.l0] at h
      obtain ⟨v2, h0, h⟩ := bnd h
      by_cases h1 : v2 ≤ 0
      · rw [if_pos h1] at h
        obtain ⟨v9, h2, h⟩ := bnd h
        by_cases h3 : v9.2.2.2 = true
        · rw [if_pos h3] at h
          obtain ⟨v21, h4, h⟩ := bnd h
          by_cases h5 : v21 > 0
          · rw [if_pos h5] at h
            obtain rfl := Option.some.inj h
            exact Til.fin Tryz.func80 [(2, ca (.c (.d (.int .i64 v2)))), (3, .b true), (9, ca (.tup [.agg [.d (.bool v9.1), .d (L103 v9.2.1), .d (L103 v9.2.2.1)], .c (.d (.bool v9.2.2.2))])), (12, .b true), (21, ca (.c (.d (.int .i64 v21)))), (22, .b true)] (fun _ f => o (ratio_Cmp.does h0) (o (decide_eq_true h1) (o (ratio_upward.does h2) (o h3 (o (ratio_Cmp.does h4) (o (decide_eq_true h5) f)))))) (by kernel_rfl)
          · rw [if_neg h5] at h
            by_cases h6 : (x8.length : Int) = 1000
            · rw [if_pos h6] at h
              obtain rfl := Option.some.inj h
              exact Til.fin Tryz.func80 [(2, ca (.c (.d (.int .i64 v2)))), (3, .b true), (9, ca (.tup [.agg [.d (.bool v9.1), .d (L103 v9.2.1), .d (L103 v9.2.2.1)], .c (.d (.bool v9.2.2.2))])), (12, .b true), (21, ca (.c (.d (.int .i64 v21)))), (22, .b false), (26, .b true)] (fun _ f => o (ratio_Cmp.does h0) (o (decide_eq_true h1) (o (ratio_upward.does h2) (o h3 (o (ratio_Cmp.does h4) (o (decide_eq_false h5) (o (beq_iff_eq.2 h6) f))))))) (by kernel_rfl)
            · rw [if_neg h6] at h
              obtain ⟨h7, h⟩ := ifp h
              exact Til.mid Tryz.func80 14 [(2, ca (.c (.d (.int .i64 v2)))), (3, .b true), (9, ca (.tup [.agg [.d (.bool v9.1), .d (L103 v9.2.1), .d (L103 v9.2.2.1)], .c (.d (.bool v9.2.2.2))])), (12, .b true), (21, ca (.c (.d (.int .i64 v21)))), (22, .b false), (26, .b false), (29, Z27 ([(v9.1, v9.2.1, v9.2.2.1)] : List (Bool × List Int × List Int))), (30, Z27 (x8 ++ [(v9.1, v9.2.1, v9.2.2.1)]))] (fun _ f => o (ratio_Cmp.does h0) (o (decide_eq_true h1) (o (ratio_upward.does h2) (o h3 (o (ratio_Cmp.does h4) (o (decide_eq_false h5) (o (beq_false_of_ne h6) (o (lit_ok c27 (false, [], []) ([(v9.1, v9.2.1, v9.2.2.1)] : List (Bool × List Int × List Int))) (o (app1 c27 (false, [], []) x8 (v9.1, v9.2.1, v9.2.2.1) 56 2513169434916 (by decide) h7) f))))))))) (by kernel_rfl) (ih.2 _ _ _ _ _ _ _ _ _ _ _ _ _ _ _ _ _ h)
        · rw [if_neg h3] at h
          obtain rfl := Option.some.inj h
          exact Til.fin Tryz.func80 [(2, ca (.c (.d (.int .i64 v2)))), (3, .b true), (9, ca (.tup [.agg [.d (.bool v9.1), .d (L103 v9.2.1), .d (L103 v9.2.2.1)], .c (.d (.bool v9.2.2.2))])), (12, .b false)] (fun _ f => o (ratio_Cmp.does h0) (o (decide_eq_true h1) (o (ratio_upward.does h2) (o (Bool.eq_false_iff.2 h3) f)))) (by kernel_rfl)
      · rw [if_neg h1] at h
        obtain rfl := Option.some.inj h
        exact Til.fin Tryz.func80 [(2, ca (.c (.d (.int .i64 v2)))), (3, .b false)] (fun _ f => o (ratio_Cmp.does h0) (o (decide_eq_false h1) f)) (by kernel_rfl)
    · intro x2 x8 x39_0 x39_1 x39_2 x40_0 x40_1 x40_2 x41 x42 x52_0 x52_1 x52_2 b4_0 b4_1 b4_2 r h
      rw [ratio_Between.j1] at h
      exact Til.mid Tryz.func80 6 [] (fun _ f => f) (by kernel_rfl) (ih.1 _ _ _ _ _ _ _ _ _ h)
theorem ratio_Between.does {k : Nat} {a0_0 : Bool} {l0_1 : List Int} {l0_2 : List Int} {a1_0 : Bool} {l1_1 : List Int} {l1_2 : List Int} {a2 : Int} {r : List (Bool × List Int × List Int) × Int} (h : ratio_Between.f k a0_0 l0_1 l0_2 a1_0 l1_1 l1_2 a2 = some r) :
    Does Tryz.prog 80 [.agg [.d (.bool a0_0), .d (L103 l0_1), .d (L103 l0_2)], .agg [.d (.bool a1_0), .d (L103 l1_1), .d (L103 l1_2)], .c (.d (.int .i64 a2))] [] (.tup [.c (.d (L27 r.1)), .c (.d (.int .i64 r.2))]) none [] := by
  refine does_fn Tryz.func80 (by kernel_rfl) rfl rfl ?_
  unfold ratio_Between.f at h
  have ih := ratio_Between.w k
  by_cases h0 : a2 < 1
  · rw [if_pos h0] at h
    obtain rfl := Option.some.inj h
    exact Til.fin Tryz.func80 [(5, .b true)] (fun _ f => o (decide_eq_true h0) f) (by kernel_rfl)
  · rw [if_neg h0] at h
    by_cases h1 : a2 > 64
    · rw [if_pos h1] at h
      obtain rfl := Option.some.inj h
      exact Til.fin Tryz.func80 [(5, .b false), (8, .b true)] (fun _ f => o (decide_eq_false h0) (o (decide_eq_true h1) f)) (by kernel_rfl)
    · rw [if_neg h1] at h
      obtain ⟨v11, h2, h⟩ := bnd h
      obtain ⟨v13, h3, h⟩ := bnd h
      exact Til.mid Tryz.func80 6 [(5, .b false), (8, .b false), (11, ca (.agg [.d (.bool v11.1), .d (L103 v11.2.1), .d (L103 v11.2.2)])), (13, ca (.agg [.d (.bool v13.1), .d (L103 v13.2.1), .d (L103 v13.2.2)]))] (fun _ f => o (decide_eq_false h0) (o (decide_eq_false h1) (o (ratio_Clean.does h2) (o (ratio_Clean.does h3) f)))) (by kernel_rfl) (ih.1 _ _ _ _ _ _ _ _ _ h)
end Go.DI
