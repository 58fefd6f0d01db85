/- The code of the functions does what is told of it, part 2. No condition. -/
import Derived.Test.YtopjcdonffcnhaaGreatDoorWReportReads1
set_option linter.all false
namespace Go.DI
open Go Go.RowKit Go.Proofs
set_option linter.unusedVariables false
set_option maxRecDepth 20000
theorem dendronref02_Order.does {k : Nat} {a0_0 : Bool} {l0_1 : List Int} {a1_0 : Bool} {l1_1 : List Int} {r : Int} (h : dendronref02_Order.f k a0_0 l0_1 a1_0 l1_1 = some r) :
    Does Tryz.prog 76 [.agg [.d (.bool a0_0), .d (L3 l0_1)], .agg [.d (.bool a1_0), .d (L3 l1_1)]] [] (.c (.d (.int .i64 r))) none [] := by
  refine does_fn Tryz.func76 (by kernel_rfl) rfl rfl ?_
  unfold dendronref02_Order.f at h
  by_cases h0 : a0_0 = true
  · rw [if_pos h0] at h
    by_cases h1 : a1_0 = true
    · rw [if_pos h1] at h
      by_cases h2 : a0_0 = true
      · rw [if_pos h2] at h
        by_cases h3 : a0_0 = true
        · rw [if_pos h3] at h
          obtain ⟨v23, h4, h⟩ := bnd h
          obtain rfl := Option.some.inj h
          exact Til.fin Tryz.func76 [(4, .b true), (7, .b true), (11, .b true), (18, .b true), (23, ca (.c (.d (.int .i64 v23))))] (fun _ f => o h0 (o h1 (o h2 (o h3 (o (dendronref01_Order.does h4) f))))) (by kernel_rfl)
        · rw [if_neg h3] at h
          obtain ⟨v23, h4, h⟩ := bnd h
          obtain rfl := Option.some.inj h
          exact Til.fin Tryz.func76 [(4, .b true), (7, .b true), (11, .b true), (18, .b false), (23, ca (.c (.d (.int .i64 v23))))] (fun _ f => o h0 (o h1 (o h2 (o (Bool.eq_false_iff.2 h3) (o (dendronref01_Order.does h4) f))))) (by kernel_rfl)
      · rw [if_neg h2] at h
        by_cases h3 : a1_0 = true
        · rw [if_pos h3] at h
          obtain rfl := Option.some.inj h
          exact Til.fin Tryz.func76 [(4, .b true), (7, .b true), (11, .b false), (15, .b true)] (fun _ f => o h0 (o h1 (o (Bool.eq_false_iff.2 h2) (o h3 f)))) (by kernel_rfl)
        · rw [if_neg h3] at h
          by_cases h4 : a0_0 = true
          · rw [if_pos h4] at h
            obtain ⟨v23, h5, h⟩ := bnd h
            obtain rfl := Option.some.inj h
            exact Til.fin Tryz.func76 [(4, .b true), (7, .b true), (11, .b false), (15, .b false), (18, .b true), (23, ca (.c (.d (.int .i64 v23))))] (fun _ f => o h0 (o h1 (o (Bool.eq_false_iff.2 h2) (o (Bool.eq_false_iff.2 h3) (o h4 (o (dendronref01_Order.does h5) f)))))) (by kernel_rfl)
          · rw [if_neg h4] at h
            obtain ⟨v23, h5, h⟩ := bnd h
            obtain rfl := Option.some.inj h
            exact Til.fin Tryz.func76 [(4, .b true), (7, .b true), (11, .b false), (15, .b false), (18, .b false), (23, ca (.c (.d (.int .i64 v23))))] (fun _ f => o h0 (o h1 (o (Bool.eq_false_iff.2 h2) (o (Bool.eq_false_iff.2 h3) (o (Bool.eq_false_iff.2 h4) (o (dendronref01_Order.does h5) f)))))) (by kernel_rfl)
    · rw [if_neg h1] at h
      obtain rfl := Option.some.inj h
      exact Til.fin Tryz.func76 [(4, .b true), (7, .b false)] (fun _ f => o h0 (o (Bool.eq_false_iff.2 h1) f)) (by kernel_rfl)
  · rw [if_neg h0] at h
    by_cases h1 : a0_0 = true
    · rw [if_pos h1] at h
      by_cases h2 : a0_0 = true
      · rw [if_pos h2] at h
        obtain ⟨v23, h3, h⟩ := bnd h
        obtain rfl := Option.some.inj h
        exact Til.fin Tryz.func76 [(4, .b false), (11, .b true), (18, .b true), (23, ca (.c (.d (.int .i64 v23))))] (fun _ f => o (Bool.eq_false_iff.2 h0) (o h1 (o h2 (o (dendronref01_Order.does h3) f)))) (by kernel_rfl)
      · rw [if_neg h2] at h
        obtain ⟨v23, h3, h⟩ := bnd h
        obtain rfl := Option.some.inj h
        exact Til.fin Tryz.func76 [(4, .b false), (11, .b true), (18, .b false), (23, ca (.c (.d (.int .i64 v23))))] (fun _ f => o (Bool.eq_false_iff.2 h0) (o h1 (o (Bool.eq_false_iff.2 h2) (o (dendronref01_Order.does h3) f)))) (by kernel_rfl)
    · rw [if_neg h1] at h
      by_cases h2 : a1_0 = true
      · rw [if_pos h2] at h
        obtain rfl := Option.some.inj h
        exact Til.fin Tryz.func76 [(4, .b false), (11, .b false), (15, .b true)] (fun _ f => o (Bool.eq_false_iff.2 h0) (o (Bool.eq_false_iff.2 h1) (o h2 f))) (by kernel_rfl)
      · rw [if_neg h2] at h
        by_cases h3 : a0_0 = true
        · rw [if_pos h3] at h
          obtain ⟨v23, h4, h⟩ := bnd h
          obtain rfl := Option.some.inj h
          exact Til.fin Tryz.func76 [(4, .b false), (11, .b false), (15, .b false), (18, .b true), (23, ca (.c (.d (.int .i64 v23))))] (fun _ f => o (Bool.eq_false_iff.2 h0) (o (Bool.eq_false_iff.2 h1) (o (Bool.eq_false_iff.2 h2) (o h3 (o (dendronref01_Order.does h4) f))))) (by kernel_rfl)
        · rw [if_neg h3] at h
          obtain ⟨v23, h4, h⟩ := bnd h
          obtain rfl := Option.some.inj h
          exact Til.fin Tryz.func76 [(4, .b false), (11, .b false), (15, .b false), (18, .b false), (23, ca (.c (.d (.int .i64 v23))))] (fun _ f => o (Bool.eq_false_iff.2 h0) (o (Bool.eq_false_iff.2 h1) (o (Bool.eq_false_iff.2 h2) (o (Bool.eq_false_iff.2 h3) (o (dendronref01_Order.does h4) f))))) (by kernel_rfl)

theorem dendronref02_Make.does {a0 : Bool} {l1 : List Int} {r : Bool × List Int} (h : dendronref02_Make.f a0 l1 = some r) :
    Does Tryz.prog 101 [.c (.d (.bool a0)), .c (.d (L3 l1))] [] (.agg [.d (.bool r.1), .d (L3 r.2)]) none [] := by
  refine does_fn Tryz.func101 (by kernel_rfl) rfl rfl ?_
  unfold dendronref02_Make.f at h
  by_cases h0 : a0 = true
  · rw [if_pos h0] at h
    obtain rfl := Option.some.inj h
    exact Til.fin Tryz.func101 [(1, .b true)] (fun _ f => o h0 f) (by kernel_rfl)
  · rw [if_neg h0] at h
    obtain rfl := Option.some.inj h
    exact Til.fin Tryz.func101 [(1, .b false)] (fun _ f => o (Bool.eq_false_iff.2 h0) f) (by kernel_rfl)

def dendronref01_Trim.l0E (x0 : List Int) (x3 : Int) : Env := [(0, .c (.d (L3 x0))), (3, .c (.d (.int .i64 x3)))]
theorem dendronref01_Trim.w (k : Nat) : (∀  (x0 : List Int) (x3 : Int) (r : List Int), dendronref01_Trim.l0 k x0 x3 = some r → Til Tryz.prog 113 [] (.c (.d (L3 r))) none [] (at_ Tryz.f113 2) (dendronref01_Trim.l0E x0 x3) []) := by
  induction k with
  | zero =>
    exact fun _ _ _ h => (by cases h)
  | succ k ih =>
    intro x0 x3 r h
    rw [dendronref01_Trim.l0] at h
    by_cases h0 : x3 > 0
    · rw [if_pos h0] at h
      obtain ⟨h1, h⟩ := ifp h
      obtain ⟨h2, h⟩ := ifp h
      by_cases h3 : (rd x0 (wrap64 (x3 - 1))) = 0
      · rw [if_pos h3] at h
        exact Til.mid Tryz.func113 2 [(1, .b true), (8, .b true)] (fun _ f => o (decide_eq_true h0) (o (o h1 h2) (o (beq_iff_eq.2 h3) f))) (by kernel_rfl) (ih _ _ _ h)
      · rw [if_neg h3] at h
        obtain ⟨h4, h⟩ := ifp h
        obtain ⟨h5, h⟩ := ifp h
        obtain rfl := Option.some.inj h
        exact Til.fin Tryz.func113 [(1, .b true), (8, .b false), (12, Z3 (x0.take ((x3 : Int).toNat)))] (fun _ f => o (decide_eq_true h0) (o (o h1 h2) (o (beq_false_of_ne h3) (o (take_ok c3 0 x0 h4 h5) f)))) (by kernel_rfl)
    · rw [if_neg h0] at h
      obtain ⟨h1, h⟩ := ifp h
      obtain ⟨h2, h⟩ := ifp h
      obtain rfl := Option.some.inj h
      exact Til.fin Tryz.func113 [(1, .b false), (12, Z3 (x0.take ((x3 : Int).toNat)))] (fun _ f => o (decide_eq_false h0) (o (take_ok c3 0 x0 h1 h2) f)) (by kernel_rfl)
theorem dendronref01_Trim.does {k : Nat} {l0 : List Int} {r : List Int} (h : dendronref01_Trim.f k l0 = some r) :
    Does Tryz.prog 113 [.c (.d (L3 l0))] [] (.c (.d (L3 r))) none [] := by
  refine does_fn Tryz.func113 (by kernel_rfl) rfl rfl ?_
  unfold dendronref01_Trim.f at h
  have ih := dendronref01_Trim.w k
  exact Til.mid Tryz.func113 2 [] (fun _ f => f) (by kernel_rfl) (ih _ _ _ h)

def dendronref01_Times.l0E (x0 : List Int) (x1 : List Int) (x5 : List Int) (x6 : Int) : Env := [(0, .c (.d (L3 x0))), (1, .c (.d (L3 x1))), (5, .c (.own 5)), (6, .c (.d (.int .i64 x6)))]
def dendronref01_Times.l0B (x0 : List Int) (x1 : List Int) (x5 : List Int) (x6 : Int) : Obs := [(5, some (O3 .own x5))]
def dendronref01_Times.l1E (x0 : List Int) (x1 : List Int) (x5 : List Int) (x6 : Int) (x7 : Int) (x8 : Int) : Env := [(0, .c (.d (L3 x0))), (1, .c (.d (L3 x1))), (5, .c (.own 5)), (6, .c (.d (.int .i64 x6))), (7, .c (.d (.int .i64 x7))), (8, .c (.d (.int .i64 x8)))]
def dendronref01_Times.l1B (x0 : List Int) (x1 : List Int) (x5 : List Int) (x6 : Int) (x7 : Int) (x8 : Int) : Obs := [(5, some (O3 .own x5))]
theorem dendronref01_Times.w (k : Nat) : (∀  (x0 : List Int) (x1 : List Int) (x5 : List Int) (x6 : Int) (r : List Int), dendronref01_Times.l0 k x0 x1 x5 x6 = some r → Til Tryz.prog 102 [] (.c (.d (L3 r))) none [] (at_ Tryz.f102 3) (dendronref01_Times.l0E x0 x1 x5 x6) (dendronref01_Times.l0B x0 x1 x5 x6)) ∧
    (∀  (x0 : List Int) (x1 : List Int) (x5 : List Int) (x6 : Int) (x7 : Int) (x8 : Int) (r : List Int), dendronref01_Times.l1 k x0 x1 x5 x6 x7 x8 = some r → Til Tryz.prog 102 [] (.c (.d (L3 r))) none [] (at_ Tryz.f102 7) (dendronref01_Times.l1E x0 x1 x5 x6 x7 x8) (dendronref01_Times.l1B x0 x1 x5 x6 x7 x8)) := by
  induction k with
  | zero =>
    exact ⟨fun _ _ _ _ _ h => (by cases h), fun _ _ _ _ _ _ _ h => (by cases h)⟩
  | succ k ih =>
    refine ⟨?_, ?_⟩
    · intro x0 x1 x5 x6 r h
      rw [dendronref01_Times.l0] at h
      by_cases h0 : x6 < (x0.length : Int)
      · rw [if_pos h0] at h
        exact Til.mid Tryz.func102 7 [(3, .b true)] (fun _ f => o (decide_eq_true h0) f) (by kernel_rfl) (ih.2 _ _ _ _ _ _ _ h)
      · rw [if_neg h0] at h
        obtain ⟨v5, h1, h⟩ := bnd h
        obtain rfl := Option.some.inj h
        exact Til.fin Tryz.func102 [(3, .b false), (5, ca (.c (.d (L3 v5))))] (fun _ f => o (decide_eq_false h0) (o (dendronref01_Trim.does h1) f)) (by kernel_rfl)
    · intro x0 x1 x5 x6 x7 x8 r h
      rw [dendronref01_Times.l1] at h
      by_cases h0 : x8 < (x1.length : Int)
      · rw [if_pos h0] at h
        obtain ⟨h1, h⟩ := ifp h
        obtain ⟨h2, h⟩ := ifp h
        obtain ⟨h3, h⟩ := ifp h
        obtain ⟨h4, h⟩ := ifp h
        obtain ⟨h5, h⟩ := ifp h
        exact Til.mid Tryz.func102 7 [(3, .b true), (30, Z3 (x5.set (((wrap64 (x6 + x8)) : Int).toNat) (Int.tmod (wrap64 ((wrap64 (x7 + (rd x5 (wrap64 (x6 + x8))))) + (wrap64 ((rd x0 x6) * (rd x1 x8))))) 10000)))] (fun _ f => o (decide_eq_true h0) (o (o h1 h2) (o (o h3 h4) (o (o h5 h0) (o (by decide : ¬ (10000 : Int) = 0) (o (o h1 h2) (o (set_ok c3 0 (fun _ _ => rfl) x5 (((wrap64 (x6 + x8)) : Int).toNat) (Int.tmod (wrap64 ((wrap64 (x7 + (rd x5 (wrap64 (x6 + x8))))) + (wrap64 ((rd x0 x6) * (rd x1 x8))))) 10000) (lt_ok h1 h2)) (o (by decide : ¬ (10000 : Int) = 0) f)))))))) (by kernel_rfl) (ih.2 _ _ _ _ _ _ _ h)
      · rw [if_neg h0] at h
        obtain ⟨h1, h⟩ := ifp h
        obtain ⟨h2, h⟩ := ifp h
        exact Til.mid Tryz.func102 3 [(3, .b false), (11, Z3 (x5.set (((wrap64 (x6 + (x1.length : Int))) : Int).toNat) x7))] (fun _ f => o (decide_eq_false h0) (o (o h1 h2) (o (set_ok c3 0 (fun _ _ => rfl) x5 (((wrap64 (x6 + (x1.length : Int))) : Int).toNat) x7 (lt_ok h1 h2)) f))) (by kernel_rfl) (ih.1 _ _ _ _ _ h)
theorem dendronref01_Times.does {k : Nat} {l0 : List Int} {l1 : List Int} {r : List Int} (h : dendronref01_Times.f k l0 l1 = some r) :
    Does Tryz.prog 102 [.c (.d (L3 l0)), .c (.d (L3 l1))] [] (.c (.d (L3 r))) none [] := by
  refine does_fn Tryz.func102 (by kernel_rfl) rfl rfl ?_
  unfold dendronref01_Times.f at h
  have ih := dendronref01_Times.w k
  obtain ⟨h0, h⟩ := ifp h
  obtain ⟨h1, h⟩ := ifp h
  exact Til.mid Tryz.func102 3 [(6, Z3 (List.replicate (((wrap64 ((l0.length : Int) + (l1.length : Int))) : Int).toNat) 0 : List Int))] (fun _ f => o (make_ok c3 0 [.int .i64 0] ⟨.refl _, trivial⟩ (wrap64 ((l0.length : Int) + (l1.length : Int))) 8 35184372088832 (by decide) h0 h1) f) (by kernel_rfl) (ih.1 _ _ _ _ _ h)

theorem dendronref02_Times.does {k : Nat} {a0_0 : Bool} {l0_1 : List Int} {a1_0 : Bool} {l1_1 : List Int} {r : Bool × List Int} (h : dendronref02_Times.f k a0_0 l0_1 a1_0 l1_1 = some r) :
    Does Tryz.prog 77 [.agg [.d (.bool a0_0), .d (L3 l0_1)], .agg [.d (.bool a1_0), .d (L3 l1_1)]] [] (.agg [.d (.bool r.1), .d (L3 r.2)]) none [] := by
  refine does_fn Tryz.func77 (by kernel_rfl) rfl rfl ?_
  unfold dendronref02_Times.f at h
  obtain ⟨v12, h0, h⟩ := bnd h
  obtain ⟨v13, h1, h⟩ := bnd h
  obtain rfl := Option.some.inj h
  exact Til.fin Tryz.func77 [(12, ca (.c (.d (L3 v12)))), (13, ca (.agg [.d (.bool v13.1), .d (L3 v13.2)]))] (fun _ f => o (dendronref01_Times.does h0) (o (dendronref02_Make.does h1) f)) (by kernel_rfl)

theorem dendronref03_den.does {a0_0 : Bool} {l0_1 : List Int} {l0_2 : List Int} {r : Bool × List Int} (h : dendronref03_den.f a0_0 l0_1 l0_2 = some r) :
    Does Tryz.prog 78 [.agg [.d (.bool a0_0), .d (L3 l0_1), .d (L3 l0_2)]] [] (.agg [.d (.bool r.1), .d (L3 r.2)]) none [] := by
  refine does_fn Tryz.func78 (by kernel_rfl) rfl rfl ?_
  unfold dendronref03_den.f at h
  obtain ⟨v4, h0, h⟩ := bnd h
  obtain rfl := Option.some.inj h
  exact Til.fin Tryz.func78 [(4, ca (.agg [.d (.bool v4.1), .d (L3 v4.2)]))] (fun _ f => o (dendronref02_Make.does h0) f) (by kernel_rfl)

theorem dendronref03_Order.does {k : Nat} {a0_0 : Bool} {l0_1 : List Int} {l0_2 : List Int} {a1_0 : Bool} {l1_1 : List Int} {l1_2 : List Int} {r : Int} (h : dendronref03_Order.f k a0_0 l0_1 l0_2 a1_0 l1_1 l1_2 = some r) :
    Does Tryz.prog 52 [.agg [.d (.bool a0_0), .d (L3 l0_1), .d (L3 l0_2)], .agg [.d (.bool a1_0), .d (L3 l1_1), .d (L3 l1_2)]] [] (.c (.d (.int .i64 r))) none [] := by
  refine does_fn Tryz.func52 (by kernel_rfl) rfl rfl ?_
  unfold dendronref03_Order.f at h
  obtain ⟨v6, h0, h⟩ := bnd h
  obtain ⟨v7, h1, h⟩ := bnd h
  obtain ⟨v11, h2, h⟩ := bnd h
  obtain ⟨v12, h3, h⟩ := bnd h
  obtain ⟨v13, h4, h⟩ := bnd h
  obtain rfl := Option.some.inj h
  exact Til.fin Tryz.func52 [(6, ca (.agg [.d (.bool v6.1), .d (L3 v6.2)])), (7, ca (.agg [.d (.bool v7.1), .d (L3 v7.2)])), (11, ca (.agg [.d (.bool v11.1), .d (L3 v11.2)])), (12, ca (.agg [.d (.bool v12.1), .d (L3 v12.2)])), (13, ca (.c (.d (.int .i64 v13))))] (fun _ f => o (dendronref03_den.does h0) (o (dendronref02_Times.does h1) (o (dendronref03_den.does h2) (o (dendronref02_Times.does h3) (o (dendronref02_Order.does h4) f))))) (by kernel_rfl)

def dendronref01_Small.l0E (x0 : Int) (x3 : List Int) : Env := [(0, .c (.d (.int .i64 x0))), (3, .c (.own 3))]
def dendronref01_Small.l0B (x0 : Int) (x3 : List Int) : Obs := [(3, some (O3 .own x3))]
theorem dendronref01_Small.w (k : Nat) : (∀  (x0 : Int) (x3 : List Int) (r : List Int), dendronref01_Small.l0 k x0 x3 = some r → Til Tryz.prog 103 [] (.c (.d (L3 r))) none [] (at_ Tryz.f103 2) (dendronref01_Small.l0E x0 x3) (dendronref01_Small.l0B x0 x3)) := by
  induction k with
  | zero =>
    exact fun _ _ _ h => (by cases h)
  | succ k ih =>
    intro x0 x3 r h
    rw [dendronref01_Small.l0] at h
    by_cases h0 : x0 > 0
    · rw [if_pos h0] at h
      obtain ⟨h1, h⟩ := ifp h
      exact Til.mid Tryz.func103 2 [(1, .b true), (5, Z3 ([(Int.tmod x0 10000)] : List Int)), (6, Z3 (x3 ++ [(Int.tmod x0 10000)]))] (fun _ f => o (decide_eq_true h0) (o (by decide : ¬ (10000 : Int) = 0) (o (lit_ok c3 0 ([(Int.tmod x0 10000)] : List Int)) (o (app1 c3 0 x3 (Int.tmod x0 10000) 8 17592186044416 (by decide) h1) (o (by decide : ¬ (10000 : Int) = 0) f))))) (by kernel_rfl) (ih _ _ _ h)
    · rw [if_neg h0] at h
      obtain rfl := Option.some.inj h
      exact Til.fin Tryz.func103 [(1, .b false)] (fun _ f => o (decide_eq_false h0) f) (by kernel_rfl)
theorem dendronref01_Small.does {k : Nat} {a0 : Int} {r : List Int} (h : dendronref01_Small.f k a0 = some r) :
    Does Tryz.prog 103 [.c (.d (.int .i64 a0))] [] (.c (.d (L3 r))) none [] := by
  refine does_fn Tryz.func103 (by kernel_rfl) rfl rfl ?_
  unfold dendronref01_Small.f at h
  have ih := dendronref01_Small.w k
  exact Til.mid Tryz.func103 2 [] (fun _ f => f) (by kernel_rfl) (ih _ _ _ h)

theorem dendronref01_digit.does {l0 : List Int} {a1 : Int} {r : Int} (h : dendronref01_digit.f l0 a1 = some r) :
    Does Tryz.prog 114 [.c (.d (L3 l0)), .c (.d (.int .i64 a1))] [] (.c (.d (.int .i64 r))) none [] := by
  refine does_fn Tryz.func114 (by kernel_rfl) rfl rfl ?_
  unfold dendronref01_digit.f at h
  by_cases h0 : a1 < (l0.length : Int)
  · rw [if_pos h0] at h
    obtain ⟨h1, h⟩ := ifp h
    obtain rfl := Option.some.inj h
    exact Til.fin Tryz.func114 [(4, .b true)] (fun _ f => o (decide_eq_true h0) (o (o h1 h0) f)) (by kernel_rfl)
  · rw [if_neg h0] at h
    obtain rfl := Option.some.inj h
    exact Til.fin Tryz.func114 [(4, .b false)] (fun _ f => o (decide_eq_false h0) f) (by kernel_rfl)

def dendronref01_Plus.l0E (x0 : List Int) (x1 : List Int) (x5 : List Int) (x6 : Int) (x7 : Int) : Env := [(0, .c (.d (L3 x0))), (1, .c (.d (L3 x1))), (5, .c (.own 5)), (6, .c (.d (.int .i64 x6))), (7, .c (.d (.int .i64 x7)))]
def dendronref01_Plus.l0B (x0 : List Int) (x1 : List Int) (x5 : List Int) (x6 : Int) (x7 : Int) : Obs := [(5, some (O3 .own x5))]
theorem dendronref01_Plus.w (k : Nat) : (∀  (x0 : List Int) (x1 : List Int) (x5 : List Int) (x6 : Int) (x7 : Int) (r : List Int), dendronref01_Plus.l0 k x0 x1 x5 x6 x7 = some r → Til Tryz.prog 104 [] (.c (.d (L3 r))) none [] (at_ Tryz.f104 4) (dendronref01_Plus.l0E x0 x1 x5 x6 x7) (dendronref01_Plus.l0B x0 x1 x5 x6 x7)) := by
  induction k with
  | zero =>
    exact fun _ _ _ _ _ _ h => (by cases h)
  | succ k ih =>
    intro x0 x1 x5 x6 x7 r h
    rw [dendronref01_Plus.l0] at h
    by_cases h0 : x7 < (x0.length : Int)
    · rw [if_pos h0] at h
      obtain ⟨v17, h1, h⟩ := bnd h
      obtain ⟨v21, h2, h⟩ := bnd h
      obtain ⟨h3, h⟩ := ifp h
      exact Til.mid Tryz.func104 4 [(3, .b true), (17, ca (.c (.d (.int .i64 v17)))), (21, ca (.c (.d (.int .i64 v21)))), (27, Z3 ([(Int.tmod (wrap64 ((wrap64 (x6 + v17)) + v21)) 10000)] : List Int)), (28, Z3 (x5 ++ [(Int.tmod (wrap64 ((wrap64 (x6 + v17)) + v21)) 10000)]))] (fun _ f => o (decide_eq_true h0) (o (dendronref01_digit.does h1) (o (dendronref01_digit.does h2) (o (by decide : ¬ (10000 : Int) = 0) (o (lit_ok c3 0 ([(Int.tmod (wrap64 ((wrap64 (x6 + v17)) + v21)) 10000)] : List Int)) (o (app1 c3 0 x5 (Int.tmod (wrap64 ((wrap64 (x6 + v17)) + v21)) 10000) 8 17592186044416 (by decide) h3) (o (by decide : ¬ (10000 : Int) = 0) f))))))) (by kernel_rfl) (ih _ _ _ _ _ _ h)
    · rw [if_neg h0] at h
      by_cases h1 : x7 < (x1.length : Int)
      · rw [if_pos h1] at h
        obtain ⟨v17, h2, h⟩ := bnd h
        obtain ⟨v21, h3, h⟩ := bnd h
        obtain ⟨h4, h⟩ := ifp h
        exact Til.mid Tryz.func104 4 [(3, .b false), (8, .b true), (17, ca (.c (.d (.int .i64 v17)))), (21, ca (.c (.d (.int .i64 v21)))), (27, Z3 ([(Int.tmod (wrap64 ((wrap64 (x6 + v17)) + v21)) 10000)] : List Int)), (28, Z3 (x5 ++ [(Int.tmod (wrap64 ((wrap64 (x6 + v17)) + v21)) 10000)]))] (fun _ f => o (decide_eq_false h0) (o (decide_eq_true h1) (o (dendronref01_digit.does h2) (o (dendronref01_digit.does h3) (o (by decide : ¬ (10000 : Int) = 0) (o (lit_ok c3 0 ([(Int.tmod (wrap64 ((wrap64 (x6 + v17)) + v21)) 10000)] : List Int)) (o (app1 c3 0 x5 (Int.tmod (wrap64 ((wrap64 (x6 + v17)) + v21)) 10000) 8 17592186044416 (by decide) h4) (o (by decide : ¬ (10000 : Int) = 0) f)))))))) (by kernel_rfl) (ih _ _ _ _ _ _ h)
      · rw [if_neg h1] at h
        by_cases h2 : x6 > 0
        · rw [if_pos h2] at h
          obtain ⟨v17, h3, h⟩ := bnd h
          obtain ⟨v21, h4, h⟩ := bnd h
          obtain ⟨h5, h⟩ := ifp h
          exact Til.mid Tryz.func104 4 [(3, .b false), (8, .b false), (12, .b true), (17, ca (.c (.d (.int .i64 v17)))), (21, ca (.c (.d (.int .i64 v21)))), (27, Z3 ([(Int.tmod (wrap64 ((wrap64 (x6 + v17)) + v21)) 10000)] : List Int)), (28, Z3 (x5 ++ [(Int.tmod (wrap64 ((wrap64 (x6 + v17)) + v21)) 10000)]))] (fun _ f => o (decide_eq_false h0) (o (decide_eq_false h1) (o (decide_eq_true h2) (o (dendronref01_digit.does h3) (o (dendronref01_digit.does h4) (o (by decide : ¬ (10000 : Int) = 0) (o (lit_ok c3 0 ([(Int.tmod (wrap64 ((wrap64 (x6 + v17)) + v21)) 10000)] : List Int)) (o (app1 c3 0 x5 (Int.tmod (wrap64 ((wrap64 (x6 + v17)) + v21)) 10000) 8 17592186044416 (by decide) h5) (o (by decide : ¬ (10000 : Int) = 0) f))))))))) (by kernel_rfl) (ih _ _ _ _ _ _ h)
        · rw [if_neg h2] at h
          obtain rfl := Option.some.inj h
          exact Til.fin Tryz.func104 [(3, .b false), (8, .b false), (12, .b false)] (fun _ f => o (decide_eq_false h0) (o (decide_eq_false h1) (o (decide_eq_false h2) f))) (by kernel_rfl)
theorem dendronref01_Plus.does {k : Nat} {l0 : List Int} {l1 : List Int} {r : List Int} (h : dendronref01_Plus.f k l0 l1 = some r) :
    Does Tryz.prog 104 [.c (.d (L3 l0)), .c (.d (L3 l1))] [] (.c (.d (L3 r))) none [] := by
  refine does_fn Tryz.func104 (by kernel_rfl) rfl rfl ?_
  unfold dendronref01_Plus.f at h
  have ih := dendronref01_Plus.w k
  exact Til.mid Tryz.func104 4 [] (fun _ f => f) (by kernel_rfl) (ih _ _ _ _ _ _ h)

def dendronref01_From.l0E (x0 : List Int) (x3 : List Int) (x4 : List Int) (x5 : Int) : Env := [(0, .c (.d (L77 x0))), (3, .c (.d (L3 x3))), (4, .c (.d (L3 x4))), (5, .c (.d (.int .i64 x5)))]
theorem dendronref01_From.w (k : Nat) : (∀  (x0 : List Int) (x3 : List Int) (x4 : List Int) (x5 : Int) (r : List Int), dendronref01_From.l0 k x0 x3 x4 x5 = some r → Til Tryz.prog 79 [] (.c (.d (L3 r))) none [] (at_ Tryz.f79 4) (dendronref01_From.l0E x0 x3 x4 x5) []) := by
  induction k with
  | zero =>
    exact fun _ _ _ _ _ h => (by cases h)
  | succ k ih =>
    intro x0 x3 x4 x5 r h
    rw [dendronref01_From.l0] at h
    by_cases h0 : x5 ≥ 0
    · rw [if_pos h0] at h
      obtain ⟨v4, h1, h⟩ := bnd h
      obtain ⟨h2, h⟩ := ifp h
      obtain ⟨v11, h3, h⟩ := bnd h
      obtain ⟨v12, h4, h⟩ := bnd h
      exact Til.mid Tryz.func79 4 [(1, .b true), (4, ca (.c (.d (L3 v4)))), (11, ca (.c (.d (L3 v11)))), (12, ca (.c (.d (L3 v12))))] (fun _ f => o (decide_eq_true h0) (o (dendronref01_Times.does h1) (o (o h0 h2) (o (dendronref01_Small.does h3) (o (dendronref01_Plus.does h4) f))))) (by kernel_rfl) (ih _ _ _ _ _ h)
    · rw [if_neg h0] at h
      obtain rfl := Option.some.inj h
      exact Til.fin Tryz.func79 [(1, .b false)] (fun _ f => o (decide_eq_false h0) f) (by kernel_rfl)
theorem dendronref01_From.does {k : Nat} {l0 : List Int} {r : List Int} (h : dendronref01_From.f k l0 = some r) :
    Does Tryz.prog 79 [.c (.d (L77 l0))] [] (.c (.d (L3 r))) none [] := by
  refine does_fn Tryz.func79 (by kernel_rfl) rfl rfl ?_
  unfold dendronref01_From.f at h
  have ih := dendronref01_From.w k
  obtain ⟨v2, h0, h⟩ := bnd h
  exact Til.mid Tryz.func79 4 [(2, ca (.c (.d (L3 v2))))] (fun _ f => o (dendronref01_Small.does h0) f) (by kernel_rfl) (ih _ _ _ _ _ h)

theorem dendronref02_Small.does {k : Nat} {a0 : Int} {r : Bool × List Int} (h : dendronref02_Small.f k a0 = some r) :
    Does Tryz.prog 105 [.c (.d (.int .i64 a0))] [] (.agg [.d (.bool r.1), .d (L3 r.2)]) none [] := by
  refine does_fn Tryz.func105 (by kernel_rfl) rfl rfl ?_
  unfold dendronref02_Small.f at h
  by_cases h0 : a0 < 0
  · rw [if_pos h0] at h
    obtain ⟨v6, h1, h⟩ := bnd h
    obtain ⟨v7, h2, h⟩ := bnd h
    obtain ⟨v8, h3, h⟩ := bnd h
    obtain ⟨v9, h4, h⟩ := bnd h
    obtain rfl := Option.some.inj h
    exact Til.fin Tryz.func105 [(2, .b true), (6, ca (.c (.d (L3 v6)))), (7, ca (.c (.d (L3 v7)))), (8, ca (.c (.d (L3 v8)))), (9, ca (.agg [.d (.bool v9.1), .d (L3 v9.2)]))] (fun _ f => o (decide_eq_true h0) (o (dendronref01_Small.does h1) (o (dendronref01_Small.does h2) (o (dendronref01_Plus.does h3) (o (dendronref02_Make.does h4) f))))) (by kernel_rfl)
  · rw [if_neg h0] at h
    obtain ⟨v4, h1, h⟩ := bnd h
    obtain ⟨v5, h2, h⟩ := bnd h
    obtain rfl := Option.some.inj h
    exact Til.fin Tryz.func105 [(2, .b false), (4, ca (.c (.d (L3 v4)))), (5, ca (.agg [.d (.bool v5.1), .d (L3 v5.2)]))] (fun _ f => o (decide_eq_false h0) (o (dendronref01_Small.does h1) (o (dendronref02_Make.does h2) f))) (by kernel_rfl)

theorem dendronref03_Small.does {k : Nat} {a0 : Int} {a1 : Int} {r : Bool × List Int × List Int} (h : dendronref03_Small.f k a0 a1 = some r) :
    Does Tryz.prog 80 [.c (.d (.int .i64 a0)), .c (.d (.int .i64 a1))] [] (.agg [.d (.bool r.1), .d (L3 r.2.1), .d (L3 r.2.2)]) none [] := by
  refine does_fn Tryz.func80 (by kernel_rfl) rfl rfl ?_
  unfold dendronref03_Small.f at h
  obtain ⟨v2, h0, h⟩ := bnd h
  obtain ⟨v4, h1, h⟩ := bnd h
  obtain rfl := Option.some.inj h
  exact Til.fin Tryz.func80 [(2, ca (.agg [.d (.bool v2.1), .d (L3 v2.2)])), (4, ca (.c (.d (L3 v4))))] (fun _ f => o (dendronref02_Small.does h0) (o (dendronref01_Small.does h1) f)) (by kernel_rfl)

theorem dendronref02_From.does {k : Nat} {a0_0 : Bool} {l0_1 : List Int} {r : Bool × List Int} (h : dendronref02_From.f k a0_0 l0_1 = some r) :
    Does Tryz.prog 81 [.agg [.d (.bool a0_0), .d (L77 l0_1)]] [] (.agg [.d (.bool r.1), .d (L3 r.2)]) none [] := by
  refine does_fn Tryz.func81 (by kernel_rfl) rfl rfl ?_
  unfold dendronref02_From.f at h
  obtain ⟨v6, h0, h⟩ := bnd h
  obtain ⟨v7, h1, h⟩ := bnd h
  obtain rfl := Option.some.inj h
  exact Til.fin Tryz.func81 [(6, ca (.c (.d (L3 v6)))), (7, ca (.agg [.d (.bool v7.1), .d (L3 v7.2)]))] (fun _ f => o (dendronref01_From.does h0) (o (dendronref02_Make.does h1) f)) (by kernel_rfl)

theorem dendronref03_From.does {k : Nat} {a0_0 : Bool} {l0_1 : List Int} {l0_2 : List Int} {r : Bool × List Int × List Int} (h : dendronref03_From.f k a0_0 l0_1 l0_2 = some r) :
    Does Tryz.prog 53 [.agg [.d (.bool a0_0), .d (L77 l0_1), .d (L77 l0_2)]] [] (.agg [.d (.bool r.1), .d (L3 r.2.1), .d (L3 r.2.2)]) none [] := by
  refine does_fn Tryz.func53 (by kernel_rfl) rfl rfl ?_
  unfold dendronref03_From.f at h
  obtain ⟨v4, h0, h⟩ := bnd h
  by_cases h1 : (v4.length : Int) = 0
  · rw [if_pos h1] at h
    obtain ⟨v9, h2, h⟩ := bnd h
    obtain rfl := Option.some.inj h
    exact Til.fin Tryz.func53 [(4, ca (.c (.d (L3 v4)))), (8, .b true), (9, ca (.agg [.d (.bool v9.1), .d (L3 v9.2.1), .d (L3 v9.2.2)]))] (fun _ f => o (dendronref01_From.does h0) (o (beq_iff_eq.2 h1) (o (dendronref03_Small.does h2) f))) (by kernel_rfl)
  · rw [if_neg h1] at h
    obtain ⟨v11, h2, h⟩ := bnd h
    obtain rfl := Option.some.inj h
    exact Til.fin Tryz.func53 [(4, ca (.c (.d (L3 v4)))), (8, .b false), (11, ca (.agg [.d (.bool v11.1), .d (L3 v11.2)]))] (fun _ f => o (dendronref01_From.does h0) (o (beq_false_of_ne h1) (o (dendronref02_From.does h2) f))) (by kernel_rfl)

def dendronref29_Same.l0E (x5 : Int) (b2_0 : Int) (b2_1 : Int) (b2_2 : Int) (b2_3 : List (List (Bool × List Int × List Int))) (b3_0 : Int) (b3_1 : Int) (b3_2 : Int) (b3_3 : List (List (Bool × List Int × List Int))) : Env := [(2, .c (.ptr 2 0)), (3, .c (.ptr 3 0)), (5, .c (.d (.int .i64 x5)))]
def dendronref29_Same.l0B (x5 : Int) (b2_0 : Int) (b2_1 : Int) (b2_2 : Int) (b2_3 : List (List (Bool × List Int × List Int))) (b3_0 : Int) (b3_1 : Int) (b3_2 : Int) (b3_3 : List (List (Bool × List Int × List Int))) : Obs := [(2, some (.box [.d (.int .i64 b2_0), .d (.int .i64 b2_1), .d (.int .i64 b2_2), .d (L35 b2_3)])), (3, some (.box [.d (.int .i64 b3_0), .d (.int .i64 b3_1), .d (.int .i64 b3_2), .d (L35 b3_3)]))]
def dendronref29_Same.l1E (x5 : Int) (x6 : Int) (b2_0 : Int) (b2_1 : Int) (b2_2 : Int) (b2_3 : List (List (Bool × List Int × List Int))) (b3_0 : Int) (b3_1 : Int) (b3_2 : Int) (b3_3 : List (List (Bool × List Int × List Int))) : Env := [(2, .c (.ptr 2 0)), (3, .c (.ptr 3 0)), (5, .c (.d (.int .i64 x5))), (6, .c (.d (.int .i64 x6)))]
def dendronref29_Same.l1B (x5 : Int) (x6 : Int) (b2_0 : Int) (b2_1 : Int) (b2_2 : Int) (b2_3 : List (List (Bool × List Int × List Int))) (b3_0 : Int) (b3_1 : Int) (b3_2 : Int) (b3_3 : List (List (Bool × List Int × List Int))) : Obs := [(2, some (.box [.d (.int .i64 b2_0), .d (.int .i64 b2_1), .d (.int .i64 b2_2), .d (L35 b2_3)])), (3, some (.box [.d (.int .i64 b3_0), .d (.int .i64 b3_1), .d (.int .i64 b3_2), .d (L35 b3_3)]))]
theorem dendronref29_Same.w (k : Nat) : (∀  (x5 : Int) (b2_0 : Int) (b2_1 : Int) (b2_2 : Int) (b2_3 : List (List (Bool × List Int × List Int))) (b3_0 : Int) (b3_1 : Int) (b3_2 : Int) (b3_3 : List (List (Bool × List Int × List Int))) (r : Bool), dendronref29_Same.l0 k x5 b2_0 b2_1 b2_2 b2_3 b3_0 b3_1 b3_2 b3_3 = some r → Til Tryz.prog 26 [] (.c (.d (.bool r))) none [] (at_ Tryz.f26 4) (dendronref29_Same.l0E x5 b2_0 b2_1 b2_2 b2_3 b3_0 b3_1 b3_2 b3_3) (dendronref29_Same.l0B x5 b2_0 b2_1 b2_2 b2_3 b3_0 b3_1 b3_2 b3_3)) ∧
    (∀  (x5 : Int) (x6 : Int) (b2_0 : Int) (b2_1 : Int) (b2_2 : Int) (b2_3 : List (List (Bool × List Int × List Int))) (b3_0 : Int) (b3_1 : Int) (b3_2 : Int) (b3_3 : List (List (Bool × List Int × List Int))) (r : Bool), dendronref29_Same.l1 k x5 x6 b2_0 b2_1 b2_2 b2_3 b3_0 b3_1 b3_2 b3_3 = some r → Til Tryz.prog 26 [] (.c (.d (.bool r))) none [] (at_ Tryz.f26 9) (dendronref29_Same.l1E x5 x6 b2_0 b2_1 b2_2 b2_3 b3_0 b3_1 b3_2 b3_3) (dendronref29_Same.l1B x5 x6 b2_0 b2_1 b2_2 b2_3 b3_0 b3_1 b3_2 b3_3)) := by
  induction k with
  | zero =>
    exact ⟨fun _ _ _ _ _ _ _ _ _ _ h => (by cases h), fun _ _ _ _ _ _ _ _ _ _ _ h => (by cases h)⟩
  | succ k ih =>
    refine ⟨?_, ?_⟩
    · intro x5 b2_0 b2_1 b2_2 b2_3 b3_0 b3_1 b3_2 b3_3 r h
      rw [dendronref29_Same.l0] at h
      by_cases h0 : x5 < (b2_3.length : Int)
      · rw [if_pos h0] at h
        obtain ⟨h1, h⟩ := ifp h
        obtain ⟨h2, h⟩ := ifp h
        by_cases h3 : ((gt [] b2_3 x5).length : Int) ≠ ((gt [] b3_3 x5).length : Int)
        · rw [if_pos h3] at h
          obtain rfl := Option.some.inj h
          exact Til.fin Tryz.func26 [(4, .b true), (17, .b true)] (fun _ f => o (decide_eq_true h0) (o (o h1 h0) (o (o h1 h2) (o (bne_iff_ne.2 h3) f)))) (by kernel_rfl)
        · rw [if_neg h3] at h
          exact Til.mid Tryz.func26 9 [(4, .b true), (17, .b false)] (fun _ f => o (decide_eq_true h0) (o (o h1 h0) (o (o h1 h2) (o (ne_f h3) f)))) (by kernel_rfl) (ih.2 _ _ _ _ _ _ _ _ _ _ _ h)
      · rw [if_neg h0] at h
        obtain rfl := Option.some.inj h
        exact Til.fin Tryz.func26 [(4, .b false)] (fun _ f => o (decide_eq_false h0) f) (by kernel_rfl)
    · intro x5 x6 b2_0 b2_1 b2_2 b2_3 b3_0 b3_1 b3_2 b3_3 r h
      rw [dendronref29_Same.l1] at h
      obtain ⟨h0, h⟩ := ifp h
      obtain ⟨h1, h⟩ := ifp h
      by_cases h2 : x6 < ((gt [] b2_3 x5).length : Int)
      · rw [if_pos h2] at h
        obtain ⟨h3, h⟩ := ifp h
        obtain ⟨v16, h4, h⟩ := bnd h
        obtain ⟨h5, h⟩ := ifp h
        obtain ⟨h6, h⟩ := ifp h
        obtain ⟨v25, h7, h⟩ := bnd h
        obtain ⟨v26, h8, h⟩ := bnd h
        by_cases h9 : v26 ≠ 0
        · rw [if_pos h9] at h
          obtain rfl := Option.some.inj h
          exact Til.fin Tryz.func26 [(7, .b true), (16, ca (.agg [.d (.bool v16.1), .d (L3 v16.2.1), .d (L3 v16.2.2)])), (25, ca (.agg [.d (.bool v25.1), .d (L3 v25.2.1), .d (L3 v25.2.2)])), (26, ca (.c (.d (.int .i64 v26)))), (27, .b true)] (fun _ f => o (o h0 h1) (o (decide_eq_true h2) (o (o h0 h1) (o (o h3 h2) (o (dendronref03_From.does h4) (o (o h0 h5) (o (o h3 h6) (o (dendronref03_From.does h7) (o (dendronref03_Order.does h8) (o (bne_iff_ne.2 h9) f)))))))))) (by kernel_rfl)
        · rw [if_neg h9] at h
          exact Til.mid Tryz.func26 9 [(7, .b true), (16, ca (.agg [.d (.bool v16.1), .d (L3 v16.2.1), .d (L3 v16.2.2)])), (25, ca (.agg [.d (.bool v25.1), .d (L3 v25.2.1), .d (L3 v25.2.2)])), (26, ca (.c (.d (.int .i64 v26)))), (27, .b false)] (fun _ f => o (o h0 h1) (o (decide_eq_true h2) (o (o h0 h1) (o (o h3 h2) (o (dendronref03_From.does h4) (o (o h0 h5) (o (o h3 h6) (o (dendronref03_From.does h7) (o (dendronref03_Order.does h8) (o (ne_f h9) f)))))))))) (by kernel_rfl) (ih.2 _ _ _ _ _ _ _ _ _ _ _ h)
      · rw [if_neg h2] at h
        exact Til.mid Tryz.func26 4 [(7, .b false)] (fun _ f => o (o h0 h1) (o (decide_eq_false h2) f)) (by kernel_rfl) (ih.1 _ _ _ _ _ _ _ _ _ _ h)
theorem dendronref29_Same.does {k : Nat} {a0_0 : Int} {a0_1 : Int} {a0_2 : Int} {l0_3 : List (List (Bool × List Int × List Int))} {a1_0 : Int} {a1_1 : Int} {a1_2 : Int} {l1_3 : List (List (Bool × List Int × List Int))} {r : Bool} (h : dendronref29_Same.f k a0_0 a0_1 a0_2 l0_3 a1_0 a1_1 a1_2 l1_3 = some r) :
    Does Tryz.prog 26 [.agg [.d (.int .i64 a0_0), .d (.int .i64 a0_1), .d (.int .i64 a0_2), .d (L35 l0_3)], .agg [.d (.int .i64 a1_0), .d (.int .i64 a1_1), .d (.int .i64 a1_2), .d (L35 l1_3)]] [] (.c (.d (.bool r))) none [] := by
  refine does_fn Tryz.func26 (by kernel_rfl) rfl rfl ?_
  unfold dendronref29_Same.f at h
  have ih := dendronref29_Same.w k
  by_cases h0 : a0_0 ≠ a1_0
  · rw [if_pos h0] at h
    obtain rfl := Option.some.inj h
    exact Til.fin Tryz.func26 [(7, .b true)] (fun _ f => o (bne_iff_ne.2 h0) f) (by kernel_rfl)
  · rw [if_neg h0] at h
    by_cases h1 : a0_1 ≠ a1_1
    · rw [if_pos h1] at h
      obtain rfl := Option.some.inj h
      exact Til.fin Tryz.func26 [(7, .b false), (13, .b true)] (fun _ f => o (ne_f h0) (o (bne_iff_ne.2 h1) f)) (by kernel_rfl)
    · rw [if_neg h1] at h
      by_cases h2 : a0_2 ≠ a1_2
      · rw [if_pos h2] at h
        obtain rfl := Option.some.inj h
        exact Til.fin Tryz.func26 [(7, .b false), (13, .b false), (20, .b true)] (fun _ f => o (ne_f h0) (o (ne_f h1) (o (bne_iff_ne.2 h2) f))) (by kernel_rfl)
      · rw [if_neg h2] at h
        by_cases h3 : (l0_3.length : Int) ≠ (l1_3.length : Int)
        · rw [if_pos h3] at h
          obtain rfl := Option.some.inj h
          exact Til.fin Tryz.func26 [(7, .b false), (13, .b false), (20, .b false), (29, .b true)] (fun _ f => o (ne_f h0) (o (ne_f h1) (o (ne_f h2) (o (bne_iff_ne.2 h3) f)))) (by kernel_rfl)
        · rw [if_neg h3] at h
          exact Til.mid Tryz.func26 4 [(7, .b false), (13, .b false), (20, .b false), (29, .b false)] (fun _ f => o (ne_f h0) (o (ne_f h1) (o (ne_f h2) (o (ne_f h3) f)))) (by kernel_rfl) (ih.1 _ _ _ _ _ _ _ _ _ _ h)

def dendronref29_All.l0E (x0 : List (Int × Int × Int × List (List (Bool × List Int × List Int)))) (x1 : List (Int × Int × Int × List (List (Bool × List Int × List Int)))) (x5 : Int) : Env := [(0, .c (.d (L34 x0))), (1, .c (.d (L34 x1))), (5, .c (.d (.int .i64 x5)))]
theorem dendronref29_All.w (k : Nat) : (∀  (x0 : List (Int × Int × Int × List (List (Bool × List Int × List Int)))) (x1 : List (Int × Int × Int × List (List (Bool × List Int × List Int)))) (x5 : Int) (r : Bool), dendronref29_All.l0 k x0 x1 x5 = some r → Til Tryz.prog 8 [] (.c (.d (.bool r))) none [] (at_ Tryz.f8 4) (dendronref29_All.l0E x0 x1 x5) []) := by
  induction k with
  | zero =>
    exact fun _ _ _ _ h => (by cases h)
  | succ k ih =>
    intro x0 x1 x5 r h
    rw [dendronref29_All.l0] at h
    by_cases h0 : x5 < (x0.length : Int)
    · rw [if_pos h0] at h
      obtain ⟨h1, h⟩ := ifp h
      obtain ⟨h2, h⟩ := ifp h
      obtain ⟨v12, h3, h⟩ := bnd h
      cases v12
      · rw [if_neg (by decide)] at h
        obtain rfl := Option.some.inj h
        exact Til.fin Tryz.func8 [(3, .b true), (12, ca (.c (.d (.bool false))))] (fun _ f => o (decide_eq_true h0) (o (o h1 h0) (o (o h1 h2) (o (dendronref29_Same.does h3) f)))) (by kernel_rfl)
      · rw [if_pos rfl] at h
        exact Til.mid Tryz.func8 4 [(3, .b true), (12, ca (.c (.d (.bool true))))] (fun _ f => o (decide_eq_true h0) (o (o h1 h0) (o (o h1 h2) (o (dendronref29_Same.does h3) f)))) (by kernel_rfl) (ih _ _ _ _ h)
    · rw [if_neg h0] at h
      obtain rfl := Option.some.inj h
      exact Til.fin Tryz.func8 [(3, .b false)] (fun _ f => o (decide_eq_false h0) f) (by kernel_rfl)
theorem dendronref29_All.does {k : Nat} {l0 : List (Int × Int × Int × List (List (Bool × List Int × List Int)))} {l1 : List (Int × Int × Int × List (List (Bool × List Int × List Int)))} {r : Bool} (h : dendronref29_All.f k l0 l1 = some r) :
    Does Tryz.prog 8 [.c (.d (L34 l0)), .c (.d (L34 l1))] [] (.c (.d (.bool r))) none [] := by
  refine does_fn Tryz.func8 (by kernel_rfl) rfl rfl ?_
  unfold dendronref29_All.f at h
  have ih := dendronref29_All.w k
  by_cases h0 : (l0.length : Int) ≠ (l1.length : Int)
  · rw [if_pos h0] at h
    obtain rfl := Option.some.inj h
    exact Til.fin Tryz.func8 [(5, .b true)] (fun _ f => o (bne_iff_ne.2 h0) f) (by kernel_rfl)
  · rw [if_neg h0] at h
    exact Til.mid Tryz.func8 4 [(5, .b false)] (fun _ f => o (ne_f h0) f) (by kernel_rfl) (ih _ _ _ _ h)

theorem whole_Sign.does {k : Nat} {a0_0 : Bool} {l0_1 : List Int} {r : Int} (h : whole_Sign.f k a0_0 l0_1 = some r) :
    Does Tryz.prog 83 [.agg [.d (.bool a0_0), .d (L77 l0_1)]] [] (.c (.d (.int .i64 r))) none [] := by
  refine does_fn Tryz.func83 (by kernel_rfl) rfl rfl ?_
  unfold whole_Sign.f at h
  obtain ⟨v3, h0, h⟩ := bnd h
  by_cases h1 : v3.1 = true
  · rw [if_pos h1] at h
    obtain rfl := Option.some.inj h
    exact Til.fin Tryz.func83 [(3, ca (.agg [.d (.bool v3.1), .d (L77 v3.2)])), (6, .b true)] (fun _ f => o (whole_Clean.does h0) (o h1 f)) (by kernel_rfl)
  · rw [if_neg h1] at h
    by_cases h2 : (v3.2.length : Int) = 0
    · rw [if_pos h2] at h
      obtain rfl := Option.some.inj h
      exact Til.fin Tryz.func83 [(3, ca (.agg [.d (.bool v3.1), .d (L77 v3.2)])), (6, .b false), (11, .b true)] (fun _ f => o (whole_Clean.does h0) (o (Bool.eq_false_iff.2 h1) (o (beq_iff_eq.2 h2) f))) (by kernel_rfl)
    · rw [if_neg h2] at h
      obtain rfl := Option.some.inj h
      exact Til.fin Tryz.func83 [(3, ca (.agg [.d (.bool v3.1), .d (L77 v3.2)])), (6, .b false), (11, .b false)] (fun _ f => o (whole_Clean.does h0) (o (Bool.eq_false_iff.2 h1) (o (beq_false_of_ne h2) f))) (by kernel_rfl)

theorem ratio_Make.does {k : Nat} {a0_0 : Bool} {l0_1 : List Int} {a1_0 : Bool} {l1_1 : List Int} {r : Bool × List Int × List Int × Int} (h : ratio_Make.f k a0_0 l0_1 a1_0 l1_1 = some r) :
    Does Tryz.prog 54 [.agg [.d (.bool a0_0), .d (L77 l0_1)], .agg [.d (.bool a1_0), .d (L77 l1_1)]] [] (.tup [.agg [.d (.bool r.1), .d (L77 r.2.1), .d (L77 r.2.2.1)], .c (.d (.int .i64 r.2.2.2))]) none [] := by
  refine does_fn Tryz.func54 (by kernel_rfl) rfl rfl ?_
  unfold ratio_Make.f at h
  obtain ⟨v5, h0, h⟩ := bnd h
  obtain ⟨v7, h1, h⟩ := bnd h
  obtain ⟨v11, h2, h⟩ := bnd h
  by_cases h3 : v11 = 0
  · rw [if_pos h3] at h
    obtain rfl := Option.some.inj h
    exact Til.fin Tryz.func54 [(5, ca (.agg [.d (.bool v5.1), .d (L77 v5.2)])), (7, ca (.agg [.d (.bool v7.1), .d (L77 v7.2)])), (11, ca (.c (.d (.int .i64 v11)))), (12, .b true)] (fun _ f => o (whole_Clean.does h0) (o (whole_Clean.does h1) (o (whole_Sign.does h2) (o (beq_iff_eq.2 h3) f)))) (by kernel_rfl)
  · rw [if_neg h3] at h
    by_cases h4 : v7.1 = true
    · rw [if_pos h4] at h
      obtain ⟨v16, h5, h⟩ := bnd h
      obtain ⟨v21, h6, h⟩ := bnd h
      obtain rfl := Option.some.inj h
      exact Til.fin Tryz.func54 [(5, ca (.agg [.d (.bool v5.1), .d (L77 v5.2)])), (7, ca (.agg [.d (.bool v7.1), .d (L77 v7.2)])), (11, ca (.c (.d (.int .i64 v11)))), (12, .b false), (14, .b true), (16, ca (.agg [.d (.bool v16.1), .d (L77 v16.2)])), (21, ca (.agg [.d (.bool v21.1), .d (L77 v21.2.1), .d (L77 v21.2.2)]))] (fun _ f => o (whole_Clean.does h0) (o (whole_Clean.does h1) (o (whole_Sign.does h2) (o (beq_false_of_ne h3) (o h4 (o (whole_Neg.does h5) (o (ratio_form.does h6) f))))))) (by kernel_rfl)
    · rw [if_neg h4] at h
      obtain ⟨v18, h5, h⟩ := bnd h
      obtain rfl := Option.some.inj h
      exact Til.fin Tryz.func54 [(5, ca (.agg [.d (.bool v5.1), .d (L77 v5.2)])), (7, ca (.agg [.d (.bool v7.1), .d (L77 v7.2)])), (11, ca (.c (.d (.int .i64 v11)))), (12, .b false), (14, .b false), (18, ca (.agg [.d (.bool v18.1), .d (L77 v18.2.1), .d (L77 v18.2.2)]))] (fun _ f => o (whole_Clean.does h0) (o (whole_Clean.does h1) (o (whole_Sign.does h2) (o (beq_false_of_ne h3) (o (Bool.eq_false_iff.2 h4) (o (ratio_form.does h5) f)))))) (by kernel_rfl)

theorem ratio_Frac.does {k : Nat} {a0 : Int} {a1 : Int} {r : Bool × List Int × List Int} (h : ratio_Frac.f k a0 a1 = some r) :
    Does Tryz.prog 27 [.c (.d (.int .i64 a0)), .c (.d (.int .i64 a1))] [] (.agg [.d (.bool r.1), .d (L77 r.2.1), .d (L77 r.2.2)]) none [] := by
  refine does_fn Tryz.func27 (by kernel_rfl) rfl rfl ?_
  unfold ratio_Frac.f at h
  obtain ⟨v2, h0, h⟩ := bnd h
  obtain ⟨v4, h1, h⟩ := bnd h
  obtain ⟨v5, h2, h⟩ := bnd h
  obtain ⟨v13, h3, h⟩ := bnd h
  obtain rfl := Option.some.inj h
  exact Til.fin Tryz.func27 [(2, ca (.agg [.d (.bool v2.1), .d (L77 v2.2)])), (4, ca (.agg [.d (.bool v4.1), .d (L77 v4.2)])), (5, ca (.tup [.agg [.d (.bool v5.1), .d (L77 v5.2.1), .d (L77 v5.2.2.1)], .c (.d (.int .i64 v5.2.2.2))])), (13, ca (.agg [.d (.bool v13.1), .d (L77 v13.2.1), .d (L77 v13.2.2)]))] (fun _ f => o (whole_Of.does h0) (o (whole_Of.does h1) (o (ratio_Make.does h2) (o (ratio_Clean.does h3) f)))) (by kernel_rfl)

theorem dendronlaw29_awake.does {k : Nat}  {r : Bool} (h : dendronlaw29_awake.f k = some r) :
    Does Tryz.prog 9 [] [] (.c (.d (.bool r))) none [] := by
  refine does_fn Tryz.func9 (by kernel_rfl) rfl rfl ?_
  unfold dendronlaw29_awake.f at h
  obtain ⟨v1, h0, h⟩ := bnd h
  obtain ⟨v6, h1, h⟩ := bnd h
  by_cases h2 : v6.1 = cst_0edf54b5
  · rw [if_pos h2] at h
    by_cases h3 : v6.2 = 0
    · rw [if_pos h3] at h
      obtain rfl := Option.some.inj h
      exact Til.fin Tryz.func9 [(1, ca (.agg [.d (.bool v1.1), .d (L77 v1.2.1), .d (L77 v1.2.2)])), (2, Z42 ([(v1.1, v1.2.1, v1.2.2)] : List (Bool × List Int × List Int))), (3, Z35 ([([(v1.1, v1.2.1, v1.2.2)] : List (Bool × List Int × List Int))] : List (List (Bool × List Int × List Int)))), (5, Z34 ([(0, 2, 0, ([([(v1.1, v1.2.1, v1.2.2)] : List (Bool × List Int × List Int))] : List (List (Bool × List Int × List Int))))] : List (Int × Int × Int × List (List (Bool × List Int × List Int))))), (6, ca (.tup [.c (.d (.str v6.1)), .c (.d (.int .i64 v6.2))])), (13, .b true), (16, .b true)] (fun _ f => o (ratio_Frac.does h0) (o (lit_ok c42 (false, [], []) ([(v1.1, v1.2.1, v1.2.2)] : List (Bool × List Int × List Int))) (o (lit_ok c35 [] ([([(v1.1, v1.2.1, v1.2.2)] : List (Bool × List Int × List Int))] : List (List (Bool × List Int × List Int)))) (o (lit_ok c34 (0, 0, 0, []) ([(0, 2, 0, ([([(v1.1, v1.2.1, v1.2.2)] : List (Bool × List Int × List Int))] : List (List (Bool × List Int × List Int))))] : List (Int × Int × Int × List (List (Bool × List Int × List Int))))) (o (report_Write.does h1) (o (str_t h2) (o (beq_iff_eq.2 h3) f))))))) (by kernel_rfl)
    · rw [if_neg h3] at h
      obtain rfl := Option.some.inj h
      exact Til.fin Tryz.func9 [(1, ca (.agg [.d (.bool v1.1), .d (L77 v1.2.1), .d (L77 v1.2.2)])), (2, Z42 ([(v1.1, v1.2.1, v1.2.2)] : List (Bool × List Int × List Int))), (3, Z35 ([([(v1.1, v1.2.1, v1.2.2)] : List (Bool × List Int × List Int))] : List (List (Bool × List Int × List Int)))), (5, Z34 ([(0, 2, 0, ([([(v1.1, v1.2.1, v1.2.2)] : List (Bool × List Int × List Int))] : List (List (Bool × List Int × List Int))))] : List (Int × Int × Int × List (List (Bool × List Int × List Int))))), (6, ca (.tup [.c (.d (.str v6.1)), .c (.d (.int .i64 v6.2))])), (13, .b true), (16, .b false)] (fun _ f => o (ratio_Frac.does h0) (o (lit_ok c42 (false, [], []) ([(v1.1, v1.2.1, v1.2.2)] : List (Bool × List Int × List Int))) (o (lit_ok c35 [] ([([(v1.1, v1.2.1, v1.2.2)] : List (Bool × List Int × List Int))] : List (List (Bool × List Int × List Int)))) (o (lit_ok c34 (0, 0, 0, []) ([(0, 2, 0, ([([(v1.1, v1.2.1, v1.2.2)] : List (Bool × List Int × List Int))] : List (List (Bool × List Int × List Int))))] : List (Int × Int × Int × List (List (Bool × List Int × List Int))))) (o (report_Write.does h1) (o (str_t h2) (o (beq_false_of_ne h3) f))))))) (by kernel_rfl)
  · rw [if_neg h2] at h
    obtain rfl := Option.some.inj h
    exact Til.fin Tryz.func9 [(1, ca (.agg [.d (.bool v1.1), .d (L77 v1.2.1), .d (L77 v1.2.2)])), (2, Z42 ([(v1.1, v1.2.1, v1.2.2)] : List (Bool × List Int × List Int))), (3, Z35 ([([(v1.1, v1.2.1, v1.2.2)] : List (Bool × List Int × List Int))] : List (List (Bool × List Int × List Int)))), (5, Z34 ([(0, 2, 0, ([([(v1.1, v1.2.1, v1.2.2)] : List (Bool × List Int × List Int))] : List (List (Bool × List Int × List Int))))] : List (Int × Int × Int × List (List (Bool × List Int × List Int))))), (6, ca (.tup [.c (.d (.str v6.1)), .c (.d (.int .i64 v6.2))])), (13, .b false)] (fun _ f => o (ratio_Frac.does h0) (o (lit_ok c42 (false, [], []) ([(v1.1, v1.2.1, v1.2.2)] : List (Bool × List Int × List Int))) (o (lit_ok c35 [] ([([(v1.1, v1.2.1, v1.2.2)] : List (Bool × List Int × List Int))] : List (List (Bool × List Int × List Int)))) (o (lit_ok c34 (0, 0, 0, []) ([(0, 2, 0, ([([(v1.1, v1.2.1, v1.2.2)] : List (Bool × List Int × List Int))] : List (List (Bool × List Int × List Int))))] : List (Int × Int × Int × List (List (Bool × List Int × List Int))))) (o (report_Write.does h1) (o (str_f h2) f)))))) (by kernel_rfl)

theorem dendronlaw29_ReportReads.does {k : Nat} {a0 : ByteArray} {r : Bool} (h : dendronlaw29_ReportReads.f k a0 = some r) :
    Does Tryz.prog 3 [.c (.d (.str a0))] [] (.c (.d (.bool r))) none [] := by
  refine does_fn Tryz.func3 (by kernel_rfl) rfl rfl ?_
  unfold dendronlaw29_ReportReads.f at h
  by_cases h0 : (a0.size : Int) > 2000
  · rw [if_pos h0] at h
    obtain ⟨h1, h⟩ := ifp h
    obtain ⟨v8, h2, h⟩ := bnd h
    obtain ⟨v15, h3, h⟩ := bnd h
    obtain ⟨v23, h4, h⟩ := bnd h
    cases v23
    · rw [if_neg (by decide)] at h
      obtain rfl := Option.some.inj h
      exact Til.fin Tryz.func3 [(3, .b true), (8, ca (.tup [.c (.d (L34 v8.1)), .c (.d (.int .i64 v8.2))])), (15, ca (.tup [.c (.d (L34 v15.1)), .c (.d (.int .i64 v15.2))])), (23, ca (.c (.d (.bool false))))] (fun _ f => o (decide_eq_true h0) (o (o (nn 2000) h1) (o (report_Read.does h2) (o (dendronlaw29_read.does h3) (o (dendronref29_All.does h4) f))))) (by kernel_rfl)
    · rw [if_pos rfl] at h
      by_cases h6 : v8.2 = v15.2
      · rw [if_pos h6] at h
        obtain ⟨v30, h7, h⟩ := bnd h
        obtain rfl := Option.some.inj h
        exact Til.fin Tryz.func3 [(3, .b true), (8, ca (.tup [.c (.d (L34 v8.1)), .c (.d (.int .i64 v8.2))])), (15, ca (.tup [.c (.d (L34 v15.1)), .c (.d (.int .i64 v15.2))])), (23, ca (.c (.d (.bool true)))), (27, .b true), (30, ca (.c (.d (.bool v30))))] (fun _ f => o (decide_eq_true h0) (o (o (nn 2000) h1) (o (report_Read.does h2) (o (dendronlaw29_read.does h3) (o (dendronref29_All.does h4) (o (beq_iff_eq.2 h6) (o (dendronlaw29_awake.does h7) f))))))) (by kernel_rfl)
      · rw [if_neg h6] at h
        obtain rfl := Option.some.inj h
        exact Til.fin Tryz.func3 [(3, .b true), (8, ca (.tup [.c (.d (L34 v8.1)), .c (.d (.int .i64 v8.2))])), (15, ca (.tup [.c (.d (L34 v15.1)), .c (.d (.int .i64 v15.2))])), (23, ca (.c (.d (.bool true)))), (27, .b false)] (fun _ f => o (decide_eq_true h0) (o (o (nn 2000) h1) (o (report_Read.does h2) (o (dendronlaw29_read.does h3) (o (dendronref29_All.does h4) (o (beq_false_of_ne h6) f)))))) (by kernel_rfl)
  · rw [if_neg h0] at h
    obtain ⟨v5, h1, h⟩ := bnd h
    obtain ⟨v12, h2, h⟩ := bnd h
    obtain ⟨v20, h3, h⟩ := bnd h
    cases v20
    · rw [if_neg (by decide)] at h
      obtain rfl := Option.some.inj h
      exact Til.fin Tryz.func3 [(3, .b false), (5, ca (.tup [.c (.d (L34 v5.1)), .c (.d (.int .i64 v5.2))])), (12, ca (.tup [.c (.d (L34 v12.1)), .c (.d (.int .i64 v12.2))])), (20, ca (.c (.d (.bool false))))] (fun _ f => o (decide_eq_false h0) (o (report_Read.does h1) (o (dendronlaw29_read.does h2) (o (dendronref29_All.does h3) f)))) (by kernel_rfl)
    · rw [if_pos rfl] at h
      by_cases h5 : v5.2 = v12.2
      · rw [if_pos h5] at h
        obtain ⟨v27, h6, h⟩ := bnd h
        obtain rfl := Option.some.inj h
        exact Til.fin Tryz.func3 [(3, .b false), (5, ca (.tup [.c (.d (L34 v5.1)), .c (.d (.int .i64 v5.2))])), (12, ca (.tup [.c (.d (L34 v12.1)), .c (.d (.int .i64 v12.2))])), (20, ca (.c (.d (.bool true)))), (24, .b true), (27, ca (.c (.d (.bool v27))))] (fun _ f => o (decide_eq_false h0) (o (report_Read.does h1) (o (dendronlaw29_read.does h2) (o (dendronref29_All.does h3) (o (beq_iff_eq.2 h5) (o (dendronlaw29_awake.does h6) f)))))) (by kernel_rfl)
      · rw [if_neg h5] at h
        obtain rfl := Option.some.inj h
        exact Til.fin Tryz.func3 [(3, .b false), (5, ca (.tup [.c (.d (L34 v5.1)), .c (.d (.int .i64 v5.2))])), (12, ca (.tup [.c (.d (L34 v12.1)), .c (.d (.int .i64 v12.2))])), (20, ca (.c (.d (.bool true)))), (24, .b false)] (fun _ f => o (decide_eq_false h0) (o (report_Read.does h1) (o (dendronlaw29_read.does h2) (o (dendronref29_All.does h3) (o (beq_false_of_ne h5) f))))) (by kernel_rfl)

end Go.DI
