/- The code of the functions does what is told of it, part 2. No condition. -/
import Derived.Test.YtajagmmjkmmchaaGreatDoorWValidParses1
set_option linter.all false
namespace Go.DI
open Go Go.RowKit Go.Proofs
set_option linter.unusedVariables false
set_option maxRecDepth 20000
def dendronlaw08_rule.l0E (x0 : List (Bool × Int × Bool × List Int × List Int × Int × Int × Bool × Bool × List Int × List Int × Bool × List Int × List Int)) (x1 : Int) (x2 : Int) (x8 : Int) : Env := [(0, .c (.d (L54 x0))), (1, .c (.d (.int .i64 x1))), (2, .c (.d (.int .i64 x2))), (8, .c (.d (.int .i64 x8)))]
theorem dendronlaw08_rule.w (k : Nat) : (∀  (x0 : List (Bool × Int × Bool × List Int × List Int × Int × Int × Bool × Bool × List Int × List Int × Bool × List Int × List Int)) (x1 : Int) (x2 : Int) (x8 : Int) (r : Int × Int), dendronlaw08_rule.l0 k x0 x1 x2 x8 = some r → Til Tryz.prog 18 [] (.tup [.c (.d (.int .i64 r.1)), .c (.d (.int .i64 r.2))]) none [] (at_ Tryz.f18 2) (dendronlaw08_rule.l0E x0 x1 x2 x8) []) := by
  induction k with
  | zero =>
    exact fun _ _ _ _ _ h => (by cases h)
  | succ k ih =>
    intro x0 x1 x2 x8 r h
    rw [dendronlaw08_rule.l0] at h
    by_cases h0 : x8 < (x0.length : Int)
    · rw [if_pos h0] at h
      obtain ⟨h1, h⟩ := ifp h
      by_cases h2 : x2 = 0
      · rw [if_pos h2] at h
        by_cases h3 : ((gt (false, 0, false, [], [], 0, 0, false, false, [], [], false, [], []) x0 x8).1) = true
        · rw [if_pos h3] at h
          exact Til.mid Tryz.func18 2 [(3, .b true), (11, .b true), (14, .b true)] (fun _ f => o (decide_eq_true h0) (o (o h1 h0) (o (beq_iff_eq.2 h2) (o h3 f)))) (by kernel_rfl) (ih _ _ _ _ _ h)
        · rw [if_neg h3] at h
          by_cases h4 : (gt (false, 0, false, [], [], 0, 0, false, false, [], [], false, [], []) x0 x8).2.1 ≥ x1
          · rw [if_pos h4] at h
            obtain rfl := Option.some.inj h
            exact Til.fin Tryz.func18 [(3, .b true), (11, .b true), (14, .b false), (20, .b true)] (fun _ f => o (decide_eq_true h0) (o (o h1 h0) (o (beq_iff_eq.2 h2) (o (Bool.eq_false_iff.2 h3) (o (decide_eq_true h4) f))))) (by kernel_rfl)
          · rw [if_neg h4] at h
            by_cases h5 : (gt (false, 0, false, [], [], 0, 0, false, false, [], [], false, [], []) x0 x8).2.2.2.2.2.1 < 1
            · rw [if_pos h5] at h
              obtain rfl := Option.some.inj h
              exact Til.fin Tryz.func18 [(3, .b true), (11, .b true), (14, .b false), (20, .b false), (24, .b true)] (fun _ f => o (decide_eq_true h0) (o (o h1 h0) (o (beq_iff_eq.2 h2) (o (Bool.eq_false_iff.2 h3) (o (decide_eq_false h4) (o (decide_eq_true h5) f)))))) (by kernel_rfl)
            · rw [if_neg h5] at h
              by_cases h6 : (gt (false, 0, false, [], [], 0, 0, false, false, [], [], false, [], []) x0 x8).2.2.2.2.2.1 ≥ (x0.length : Int)
              · rw [if_pos h6] at h
                obtain rfl := Option.some.inj h
                exact Til.fin Tryz.func18 [(3, .b true), (11, .b true), (14, .b false), (20, .b false), (24, .b false), (31, .b true)] (fun _ f => o (decide_eq_true h0) (o (o h1 h0) (o (beq_iff_eq.2 h2) (o (Bool.eq_false_iff.2 h3) (o (decide_eq_false h4) (o (decide_eq_false h5) (o (decide_eq_true h6) f))))))) (by kernel_rfl)
              · rw [if_neg h6] at h
                by_cases h7 : (gt (false, 0, false, [], [], 0, 0, false, false, [], [], false, [], []) x0 x8).2.2.2.2.2.2.1 < 1
                · rw [if_pos h7] at h
                  obtain rfl := Option.some.inj h
                  exact Til.fin Tryz.func18 [(3, .b true), (11, .b true), (14, .b false), (20, .b false), (24, .b false), (31, .b false), (36, .b true)] (fun _ f => o (decide_eq_true h0) (o (o h1 h0) (o (beq_iff_eq.2 h2) (o (Bool.eq_false_iff.2 h3) (o (decide_eq_false h4) (o (decide_eq_false h5) (o (decide_eq_false h6) (o (decide_eq_true h7) f)))))))) (by kernel_rfl)
                · rw [if_neg h7] at h
                  by_cases h8 : (gt (false, 0, false, [], [], 0, 0, false, false, [], [], false, [], []) x0 x8).2.2.2.2.2.2.1 ≥ (x0.length : Int)
                  · rw [if_pos h8] at h
                    obtain rfl := Option.some.inj h
                    exact Til.fin Tryz.func18 [(3, .b true), (11, .b true), (14, .b false), (20, .b false), (24, .b false), (31, .b false), (36, .b false), (43, .b true)] (fun _ f => o (decide_eq_true h0) (o (o h1 h0) (o (beq_iff_eq.2 h2) (o (Bool.eq_false_iff.2 h3) (o (decide_eq_false h4) (o (decide_eq_false h5) (o (decide_eq_false h6) (o (decide_eq_false h7) (o (decide_eq_true h8) f))))))))) (by kernel_rfl)
                  · rw [if_neg h8] at h
                    exact Til.mid Tryz.func18 2 [(3, .b true), (11, .b true), (14, .b false), (20, .b false), (24, .b false), (31, .b false), (36, .b false), (43, .b false)] (fun _ f => o (decide_eq_true h0) (o (o h1 h0) (o (beq_iff_eq.2 h2) (o (Bool.eq_false_iff.2 h3) (o (decide_eq_false h4) (o (decide_eq_false h5) (o (decide_eq_false h6) (o (decide_eq_false h7) (o (decide_eq_false h8) f))))))))) (by kernel_rfl) (ih _ _ _ _ _ h)
      · rw [if_neg h2] at h
        by_cases h3 : x2 = 1
        · rw [if_pos h3] at h
          by_cases h4 : x8 > 0
          · rw [if_pos h4] at h
            obtain ⟨v20, h5, h⟩ := bnd h
            by_cases h6 : v20 ≠ 1
            · rw [if_pos h6] at h
              obtain rfl := Option.some.inj h
              exact Til.fin Tryz.func18 [(3, .b true), (11, .b false), (13, .b true), (16, .b true), (20, ca (.c (.d (.int .i64 v20)))), (21, .b true)] (fun _ f => o (decide_eq_true h0) (o (o h1 h0) (o (beq_false_of_ne h2) (o (beq_iff_eq.2 h3) (o (decide_eq_true h4) (o (dendronlaw08_parents.does h5) (o (bne_iff_ne.2 h6) f))))))) (by kernel_rfl)
            · rw [if_neg h6] at h
              exact Til.mid Tryz.func18 2 [(3, .b true), (11, .b false), (13, .b true), (16, .b true), (20, ca (.c (.d (.int .i64 v20)))), (21, .b false)] (fun _ f => o (decide_eq_true h0) (o (o h1 h0) (o (beq_false_of_ne h2) (o (beq_iff_eq.2 h3) (o (decide_eq_true h4) (o (dendronlaw08_parents.does h5) (o (ne_f h6) f))))))) (by kernel_rfl) (ih _ _ _ _ _ h)
          · rw [if_neg h4] at h
            exact Til.mid Tryz.func18 2 [(3, .b true), (11, .b false), (13, .b true), (16, .b false)] (fun _ f => o (decide_eq_true h0) (o (o h1 h0) (o (beq_false_of_ne h2) (o (beq_iff_eq.2 h3) (o (decide_eq_false h4) f))))) (by kernel_rfl) (ih _ _ _ _ _ h)
        · rw [if_neg h3] at h
          by_cases h4 : x2 = 2
          · rw [if_pos h4] at h
            obtain ⟨v19, h5, h⟩ := bnd h
            cases v19
            · rw [if_neg (by decide)] at h
              obtain rfl := Option.some.inj h
              exact Til.fin Tryz.func18 [(3, .b true), (11, .b false), (13, .b false), (15, .b true), (19, ca (.c (.d (.bool false))))] (fun _ f => o (decide_eq_true h0) (o (o h1 h0) (o (beq_false_of_ne h2) (o (beq_false_of_ne h3) (o (beq_iff_eq.2 h4) (o (dendronlaw08_reached.does h5) f)))))) (by kernel_rfl)
            · rw [if_pos rfl] at h
              exact Til.mid Tryz.func18 2 [(3, .b true), (11, .b false), (13, .b false), (15, .b true), (19, ca (.c (.d (.bool true))))] (fun _ f => o (decide_eq_true h0) (o (o h1 h0) (o (beq_false_of_ne h2) (o (beq_false_of_ne h3) (o (beq_iff_eq.2 h4) (o (dendronlaw08_reached.does h5) f)))))) (by kernel_rfl) (ih _ _ _ _ _ h)
          · rw [if_neg h4] at h
            by_cases h5 : x2 = 3
            · rw [if_pos h5] at h
              obtain ⟨v21, h6, h⟩ := bnd h
              by_cases h7 : v21 ≤ 0
              · rw [if_pos h7] at h
                obtain rfl := Option.some.inj h
                exact Til.fin Tryz.func18 [(3, .b true), (11, .b false), (13, .b false), (15, .b false), (17, .b true), (21, ca (.c (.d (.int .i64 v21)))), (22, .b true)] (fun _ f => o (decide_eq_true h0) (o (o h1 h0) (o (beq_false_of_ne h2) (o (beq_false_of_ne h3) (o (beq_false_of_ne h4) (o (beq_iff_eq.2 h5) (o (ratio_Sign.does h6) (o (decide_eq_true h7) f)))))))) (by kernel_rfl)
              · rw [if_neg h7] at h
                exact Til.mid Tryz.func18 2 [(3, .b true), (11, .b false), (13, .b false), (15, .b false), (17, .b true), (21, ca (.c (.d (.int .i64 v21)))), (22, .b false)] (fun _ f => o (decide_eq_true h0) (o (o h1 h0) (o (beq_false_of_ne h2) (o (beq_false_of_ne h3) (o (beq_false_of_ne h4) (o (beq_iff_eq.2 h5) (o (ratio_Sign.does h6) (o (decide_eq_false h7) f)))))))) (by kernel_rfl) (ih _ _ _ _ _ h)
            · rw [if_neg h5] at h
              by_cases h6 : ((gt (false, 0, false, [], [], 0, 0, false, false, [], [], false, [], []) x0 x8).1) = true
              · rw [if_pos h6] at h
                exact Til.mid Tryz.func18 2 [(3, .b true), (11, .b false), (13, .b false), (15, .b false), (17, .b false), (20, .b true)] (fun _ f => o (decide_eq_true h0) (o (o h1 h0) (o (beq_false_of_ne h2) (o (beq_false_of_ne h3) (o (beq_false_of_ne h4) (o (beq_false_of_ne h5) (o h6 f))))))) (by kernel_rfl) (ih _ _ _ _ _ h)
              · rw [if_neg h6] at h
                obtain ⟨h7, h⟩ := ifp h
                obtain ⟨h8, h⟩ := ifp h
                obtain ⟨h9, h⟩ := ifp h
                obtain ⟨h10, h⟩ := ifp h
                obtain ⟨v37, h11, h⟩ := bnd h
                obtain ⟨v38, h12, h⟩ := bnd h
                cases v38
                · rw [if_neg (by decide)] at h
                  obtain rfl := Option.some.inj h
                  exact Til.fin Tryz.func18 [(3, .b true), (11, .b false), (13, .b false), (15, .b false), (17, .b false), (20, .b false), (37, ca (.agg [.d (.bool v37.1), .d (L75 v37.2.1), .d (L75 v37.2.2)])), (38, ca (.c (.d (.bool false))))] (fun _ f => o (decide_eq_true h0) (o (o h1 h0) (o (beq_false_of_ne h2) (o (beq_false_of_ne h3) (o (beq_false_of_ne h4) (o (beq_false_of_ne h5) (o (Bool.eq_false_iff.2 h6) (o (o h7 h8) (o (o h9 h10) (o (ratio_Add.does h11) (o (ratio_Same.does h12) f))))))))))) (by kernel_rfl)
                · rw [if_pos rfl] at h
                  exact Til.mid Tryz.func18 2 [(3, .b true), (11, .b false), (13, .b false), (15, .b false), (17, .b false), (20, .b false), (37, ca (.agg [.d (.bool v37.1), .d (L75 v37.2.1), .d (L75 v37.2.2)])), (38, ca (.c (.d (.bool true))))] (fun _ f => o (decide_eq_true h0) (o (o h1 h0) (o (beq_false_of_ne h2) (o (beq_false_of_ne h3) (o (beq_false_of_ne h4) (o (beq_false_of_ne h5) (o (Bool.eq_false_iff.2 h6) (o (o h7 h8) (o (o h9 h10) (o (ratio_Add.does h11) (o (ratio_Same.does h12) f))))))))))) (by kernel_rfl) (ih _ _ _ _ _ h)
    · rw [if_neg h0] at h
      obtain rfl := Option.some.inj h
      exact Til.fin Tryz.func18 [(3, .b false)] (fun _ f => o (decide_eq_false h0) f) (by kernel_rfl)
theorem dendronlaw08_rule.does {k : Nat} {l0 : List (Bool × Int × Bool × List Int × List Int × Int × Int × Bool × Bool × List Int × List Int × Bool × List Int × List Int)} {a1 : Int} {a2 : Int} {r : Int × Int} (h : dendronlaw08_rule.f k l0 a1 a2 = some r) :
    Does Tryz.prog 18 [.c (.d (L54 l0)), .c (.d (.int .i64 a1)), .c (.d (.int .i64 a2))] [] (.tup [.c (.d (.int .i64 r.1)), .c (.d (.int .i64 r.2))]) none [] := by
  refine does_fn Tryz.func18 (by kernel_rfl) rfl rfl ?_
  unfold dendronlaw08_rule.f at h
  have ih := dendronlaw08_rule.w k
  exact Til.mid Tryz.func18 2 [] (fun _ f => f) (by kernel_rfl) (ih _ _ _ _ _ h)

def c43 (x : List Int) : List Dat := [L3 x]
def L43 (xs : List (List Int)) : Dat := fr 1 c43 [] xs
def Z43 (xs : List (List Int)) : Sup := .r xs.length (enc c43 [] xs)
def O43 (k : RK) (xs : List (List Int)) : Ob := .row k 43 1 xs.length (enc c43 [] xs)

def dendronlaw08_check.l0E (x3 : List (List Int)) (x4 : Int) (b1_0 : Int) (b1_1 : List (List (Bool × Int × Bool × List Int × List Int × Int × Int × Bool × Bool × List Int × List Int × Bool × List Int × List Int))) (b2_0 : Int) (b2_1 : Int) (b2_2 : Int) (b2_3 : Int) : Env := [(1, .c (.ptr 1 0)), (2, .c (.ptr 2 0)), (3, .c (.own 3)), (4, .c (.d (.int .i64 x4)))]
def dendronlaw08_check.l0B (x3 : List (List Int)) (x4 : Int) (b1_0 : Int) (b1_1 : List (List (Bool × Int × Bool × List Int × List Int × Int × Int × Bool × Bool × List Int × List Int × Bool × List Int × List Int))) (b2_0 : Int) (b2_1 : Int) (b2_2 : Int) (b2_3 : Int) : Obs := [(1, some (.box [.d (.int .i64 b1_0), .d (L38 b1_1)])), (2, some (.box [.d (.int .i64 b2_0), .d (.int .i64 b2_1), .d (.int .i64 b2_2), .d (.int .i64 b2_3)])), (3, some (O43 .own x3))]
def dendronlaw08_check.l1E (x3 : List (List Int)) (x4 : Int) (x5 : Int) (b1_0 : Int) (b1_1 : List (List (Bool × Int × Bool × List Int × List Int × Int × Int × Bool × Bool × List Int × List Int × Bool × List Int × List Int))) (b2_0 : Int) (b2_1 : Int) (b2_2 : Int) (b2_3 : Int) : Env := [(1, .c (.ptr 1 0)), (2, .c (.ptr 2 0)), (3, .c (.own 3)), (4, .c (.d (.int .i64 x4))), (5, .c (.d (.int .i64 x5)))]
def dendronlaw08_check.l1B (x3 : List (List Int)) (x4 : Int) (x5 : Int) (b1_0 : Int) (b1_1 : List (List (Bool × Int × Bool × List Int × List Int × Int × Int × Bool × Bool × List Int × List Int × Bool × List Int × List Int))) (b2_0 : Int) (b2_1 : Int) (b2_2 : Int) (b2_3 : Int) : Obs := [(1, some (.box [.d (.int .i64 b1_0), .d (L38 b1_1)])), (2, some (.box [.d (.int .i64 b2_0), .d (.int .i64 b2_1), .d (.int .i64 b2_2), .d (.int .i64 b2_3)])), (3, some (O43 .own x3))]
def dendronlaw08_check.l2E (x3 : List (List Int)) (x4 : Int) (x5 : Int) (x6 : Int) (b1_0 : Int) (b1_1 : List (List (Bool × Int × Bool × List Int × List Int × Int × Int × Bool × Bool × List Int × List Int × Bool × List Int × List Int))) (b2_0 : Int) (b2_1 : Int) (b2_2 : Int) (b2_3 : Int) : Env := [(1, .c (.ptr 1 0)), (2, .c (.ptr 2 0)), (3, .c (.own 3)), (4, .c (.d (.int .i64 x4))), (5, .c (.d (.int .i64 x5))), (6, .c (.d (.int .i64 x6)))]
def dendronlaw08_check.l2B (x3 : List (List Int)) (x4 : Int) (x5 : Int) (x6 : Int) (b1_0 : Int) (b1_1 : List (List (Bool × Int × Bool × List Int × List Int × Int × Int × Bool × Bool × List Int × List Int × Bool × List Int × List Int))) (b2_0 : Int) (b2_1 : Int) (b2_2 : Int) (b2_3 : Int) : Obs := [(1, some (.box [.d (.int .i64 b1_0), .d (L38 b1_1)])), (2, some (.box [.d (.int .i64 b2_0), .d (.int .i64 b2_1), .d (.int .i64 b2_2), .d (.int .i64 b2_3)])), (3, some (O43 .own x3))]
theorem dendronlaw08_check.w (k : Nat) : (∀  (x3 : List (List Int)) (x4 : Int) (b1_0 : Int) (b1_1 : List (List (Bool × Int × Bool × List Int × List Int × Int × Int × Bool × Bool × List Int × List Int × Bool × List Int × List Int))) (b2_0 : Int) (b2_1 : Int) (b2_2 : Int) (b2_3 : Int) (r : Int × Int × Int × Int), dendronlaw08_check.l0 k x3 x4 b1_0 b1_1 b2_0 b2_1 b2_2 b2_3 = some r → Til Tryz.prog 6 [] (.agg [.d (.int .i64 r.1), .d (.int .i64 r.2.1), .d (.int .i64 r.2.2.1), .d (.int .i64 r.2.2.2)]) none [] (at_ Tryz.f6 5) (dendronlaw08_check.l0E x3 x4 b1_0 b1_1 b2_0 b2_1 b2_2 b2_3) (dendronlaw08_check.l0B x3 x4 b1_0 b1_1 b2_0 b2_1 b2_2 b2_3)) ∧
    (∀  (x3 : List (List Int)) (x4 : Int) (x5 : Int) (b1_0 : Int) (b1_1 : List (List (Bool × Int × Bool × List Int × List Int × Int × Int × Bool × Bool × List Int × List Int × Bool × List Int × List Int))) (b2_0 : Int) (b2_1 : Int) (b2_2 : Int) (b2_3 : Int) (r : Int × Int × Int × Int), dendronlaw08_check.l1 k x3 x4 x5 b1_0 b1_1 b2_0 b2_1 b2_2 b2_3 = some r → Til Tryz.prog 6 [] (.agg [.d (.int .i64 r.1), .d (.int .i64 r.2.1), .d (.int .i64 r.2.2.1), .d (.int .i64 r.2.2.2)]) none [] (at_ Tryz.f6 8) (dendronlaw08_check.l1E x3 x4 x5 b1_0 b1_1 b2_0 b2_1 b2_2 b2_3) (dendronlaw08_check.l1B x3 x4 x5 b1_0 b1_1 b2_0 b2_1 b2_2 b2_3)) ∧
    (∀  (x3 : List (List Int)) (x4 : Int) (x5 : Int) (x6 : Int) (b1_0 : Int) (b1_1 : List (List (Bool × Int × Bool × List Int × List Int × Int × Int × Bool × Bool × List Int × List Int × Bool × List Int × List Int))) (b2_0 : Int) (b2_1 : Int) (b2_2 : Int) (b2_3 : Int) (r : Int × Int × Int × Int), dendronlaw08_check.l2 k x3 x4 x5 x6 b1_0 b1_1 b2_0 b2_1 b2_2 b2_3 = some r → Til Tryz.prog 6 [] (.agg [.d (.int .i64 r.1), .d (.int .i64 r.2.1), .d (.int .i64 r.2.2.1), .d (.int .i64 r.2.2.2)]) none [] (at_ Tryz.f6 11) (dendronlaw08_check.l2E x3 x4 x5 x6 b1_0 b1_1 b2_0 b2_1 b2_2 b2_3) (dendronlaw08_check.l2B x3 x4 x5 x6 b1_0 b1_1 b2_0 b2_1 b2_2 b2_3)) := by
  induction k with
  | zero =>
    exact ⟨fun _ _ _ _ _ _ _ _ _ h => (by cases h), fun _ _ _ _ _ _ _ _ _ _ h => (by cases h), fun _ _ _ _ _ _ _ _ _ _ _ h => (by cases h)⟩
  | succ k ih =>
    refine ⟨?_, ?_, ?_⟩
    · intro x3 x4 b1_0 b1_1 b2_0 b2_1 b2_2 b2_3 r h
      rw [dendronlaw08_check.l0] at h
      by_cases h0 : x4 < (x3.length : Int)
      · rw [if_pos h0] at h
        exact Til.mid Tryz.func6 8 [(3, .b true)] (fun _ f => o (decide_eq_true h0) f) (by kernel_rfl) (ih.2.1 _ _ _ _ _ _ _ _ _ _ h)
      · rw [if_neg h0] at h
        obtain rfl := Option.some.inj h
        exact Til.fin Tryz.func6 [(3, .b false)] (fun _ f => o (decide_eq_false h0) f) (by kernel_rfl)
    · intro x3 x4 x5 b1_0 b1_1 b2_0 b2_1 b2_2 b2_3 r h
      rw [dendronlaw08_check.l1] at h
      by_cases h0 : x5 < (b1_1.length : Int)
      · rw [if_pos h0] at h
        exact Til.mid Tryz.func6 11 [(4, .b true)] (fun _ f => o (decide_eq_true h0) f) (by kernel_rfl) (ih.2.2 _ _ _ _ _ _ _ _ _ _ _ h)
      · rw [if_neg h0] at h
        exact Til.mid Tryz.func6 5 [(4, .b false)] (fun _ f => o (decide_eq_false h0) f) (by kernel_rfl) (ih.1 _ _ _ _ _ _ _ _ _ h)
    · intro x3 x4 x5 x6 b1_0 b1_1 b2_0 b2_1 b2_2 b2_3 r h
      rw [dendronlaw08_check.l2] at h
      obtain ⟨h0, h⟩ := ifp h
      obtain ⟨h1, h⟩ := ifp h
      by_cases h2 : x6 < ((x3.getD ((x4 : Int).toNat) []).length : Int)
      · rw [if_pos h2] at h
        obtain ⟨h3, h⟩ := ifp h
        obtain ⟨h4, h⟩ := ifp h
        obtain ⟨h5, h⟩ := ifp h
        obtain ⟨v21, h6, h⟩ := bnd h
        by_cases h7 : v21.2 ≠ 0
        · rw [if_pos h7] at h
          obtain rfl := Option.some.inj h
          exact Til.fin Tryz.func6 [(6, .b true), (21, ca (.tup [.c (.d (.int .i64 v21.1)), .c (.d (.int .i64 v21.2))])), (28, .b true)] (fun _ f => o (o h0 h1) (o (decide_eq_true h2) (o (o h3 h4) (o (o h0 h1) (o (o h5 h2) (o (dendronlaw08_rule.does h6) (o (bne_iff_ne.2 h7) f))))))) (by kernel_rfl)
        · rw [if_neg h7] at h
          exact Til.mid Tryz.func6 11 [(6, .b true), (21, ca (.tup [.c (.d (.int .i64 v21.1)), .c (.d (.int .i64 v21.2))])), (28, .b false)] (fun _ f => o (o h0 h1) (o (decide_eq_true h2) (o (o h3 h4) (o (o h0 h1) (o (o h5 h2) (o (dendronlaw08_rule.does h6) (o (ne_f h7) f))))))) (by kernel_rfl) (ih.2.2 _ _ _ _ _ _ _ _ _ _ _ h)
      · rw [if_neg h2] at h
        exact Til.mid Tryz.func6 8 [(6, .b false)] (fun _ f => o (o h0 h1) (o (decide_eq_false h2) f)) (by kernel_rfl) (ih.2.1 _ _ _ _ _ _ _ _ _ _ h)
theorem dendronlaw08_check.does {k : Nat} {a0_0 : Int} {l0_1 : List (List (Bool × Int × Bool × List Int × List Int × Int × Int × Bool × Bool × List Int × List Int × Bool × List Int × List Int))} {r : Int × Int × Int × Int} (h : dendronlaw08_check.f k a0_0 l0_1 = some r) :
    Does Tryz.prog 6 [.agg [.d (.int .i64 a0_0), .d (L38 l0_1)]] [] (.agg [.d (.int .i64 r.1), .d (.int .i64 r.2.1), .d (.int .i64 r.2.2.1), .d (.int .i64 r.2.2.2)]) none [] := by
  refine does_fn Tryz.func6 (by kernel_rfl) rfl rfl ?_
  unfold dendronlaw08_check.f at h
  have ih := dendronlaw08_check.w k
  obtain ⟨v3, h0, h⟩ := bnd h
  cases v3
  · rw [if_neg (by decide)] at h
    obtain rfl := Option.some.inj h
    exact Til.fin Tryz.func6 [(3, ca (.c (.d (.bool false))))] (fun _ f => o (model_Fits.does h0) f) (by kernel_rfl)
  · rw [if_pos rfl] at h
    exact Til.mid Tryz.func6 5 [(3, ca (.c (.d (.bool true)))), (5, Z3 ([0] : List Int)), (6, Z3 ([1, 2] : List Int)), (7, Z3 ([3] : List Int)), (8, Z3 ([4] : List Int)), (9, Z43 ([([0] : List Int), ([1, 2] : List Int), ([3] : List Int), ([4] : List Int)] : List (List Int)))] (fun _ f => o (model_Fits.does h0) (o (lit_ok c3 0 ([0] : List Int)) (o (lit_ok c3 0 ([1, 2] : List Int)) (o (lit_ok c3 0 ([3] : List Int)) (o (lit_ok c3 0 ([4] : List Int)) (o (lit_ok c43 [] ([([0] : List Int), ([1, 2] : List Int), ([3] : List Int), ([4] : List Int)] : List (List Int))) f)))))) (by kernel_rfl) (ih.1 _ _ _ _ _ _ _ _ _ h)

def dendronref07_exact.l0E (x5 : Int) (b2_0 : Bool) (b2_1 : List Int) (b2_2 : List Int) (b3_0 : Bool) (b3_1 : List Int) (b3_2 : List Int) : Env := [(2, .c (.ptr 2 0)), (3, .c (.ptr 3 0)), (5, .c (.d (.int .i64 x5)))]
def dendronref07_exact.l0B (x5 : Int) (b2_0 : Bool) (b2_1 : List Int) (b2_2 : List Int) (b3_0 : Bool) (b3_1 : List Int) (b3_2 : List Int) : Obs := [(2, some (.box [.d (.bool b2_0), .d (L75 b2_1), .d (L75 b2_2)])), (3, some (.box [.d (.bool b3_0), .d (L75 b3_1), .d (L75 b3_2)]))]
def dendronref07_exact.l1E (x6 : Int) (b2_0 : Bool) (b2_1 : List Int) (b2_2 : List Int) (b3_0 : Bool) (b3_1 : List Int) (b3_2 : List Int) : Env := [(2, .c (.ptr 2 0)), (3, .c (.ptr 3 0)), (6, .c (.d (.int .i64 x6)))]
def dendronref07_exact.l1B (x6 : Int) (b2_0 : Bool) (b2_1 : List Int) (b2_2 : List Int) (b3_0 : Bool) (b3_1 : List Int) (b3_2 : List Int) : Obs := [(2, some (.box [.d (.bool b2_0), .d (L75 b2_1), .d (L75 b2_2)])), (3, some (.box [.d (.bool b3_0), .d (L75 b3_1), .d (L75 b3_2)]))]
theorem dendronref07_exact.w (k : Nat) : (∀  (x5 : Int) (b2_0 : Bool) (b2_1 : List Int) (b2_2 : List Int) (b3_0 : Bool) (b3_1 : List Int) (b3_2 : List Int) (r : Bool), dendronref07_exact.l0 k x5 b2_0 b2_1 b2_2 b3_0 b3_1 b3_2 = some r → Til Tryz.prog 19 [] (.c (.d (.bool r))) none [] (at_ Tryz.f19 4) (dendronref07_exact.l0E x5 b2_0 b2_1 b2_2 b3_0 b3_1 b3_2) (dendronref07_exact.l0B x5 b2_0 b2_1 b2_2 b3_0 b3_1 b3_2)) ∧
    (∀  (x6 : Int) (b2_0 : Bool) (b2_1 : List Int) (b2_2 : List Int) (b3_0 : Bool) (b3_1 : List Int) (b3_2 : List Int) (r : Bool), dendronref07_exact.l1 k x6 b2_0 b2_1 b2_2 b3_0 b3_1 b3_2 = some r → Til Tryz.prog 19 [] (.c (.d (.bool r))) none [] (at_ Tryz.f19 9) (dendronref07_exact.l1E x6 b2_0 b2_1 b2_2 b3_0 b3_1 b3_2) (dendronref07_exact.l1B x6 b2_0 b2_1 b2_2 b3_0 b3_1 b3_2)) := by
  induction k with
  | zero =>
    exact ⟨fun _ _ _ _ _ _ _ _ h => (by cases h), fun _ _ _ _ _ _ _ _ h => (by cases h)⟩
  | succ k ih =>
    refine ⟨?_, ?_⟩
    · intro x5 b2_0 b2_1 b2_2 b3_0 b3_1 b3_2 r h
      rw [dendronref07_exact.l0] at h
      by_cases h0 : x5 < (b2_1.length : Int)
      · rw [if_pos h0] at h
        obtain ⟨h1, h⟩ := ifp h
        obtain ⟨h2, h⟩ := ifp h
        by_cases h3 : (rd b2_1 x5) ≠ (rd b3_1 x5)
        · rw [if_pos h3] at h
          obtain rfl := Option.some.inj h
          exact Til.fin Tryz.func19 [(5, .b true), (18, .b true)] (fun _ f => o (decide_eq_true h0) (o (o h1 h0) (o (o h1 h2) (o (bne_iff_ne.2 h3) f)))) (by kernel_rfl)
        · rw [if_neg h3] at h
          exact Til.mid Tryz.func19 4 [(5, .b true), (18, .b false)] (fun _ f => o (decide_eq_true h0) (o (o h1 h0) (o (o h1 h2) (o (ne_f h3) f)))) (by kernel_rfl) (ih.1 _ _ _ _ _ _ _ _ h)
      · rw [if_neg h0] at h
        exact Til.mid Tryz.func19 9 [(5, .b false)] (fun _ f => o (decide_eq_false h0) f) (by kernel_rfl) (ih.2 _ _ _ _ _ _ _ _ h)
    · intro x6 b2_0 b2_1 b2_2 b3_0 b3_1 b3_2 r h
      rw [dendronref07_exact.l1] at h
      by_cases h0 : x6 < (b2_2.length : Int)
      · rw [if_pos h0] at h
        obtain ⟨h1, h⟩ := ifp h
        obtain ⟨h2, h⟩ := ifp h
        by_cases h3 : (rd b2_2 x6) ≠ (rd b3_2 x6)
        · rw [if_pos h3] at h
          obtain rfl := Option.some.inj h
          exact Til.fin Tryz.func19 [(4, .b true), (15, .b true)] (fun _ f => o (decide_eq_true h0) (o (o h1 h0) (o (o h1 h2) (o (bne_iff_ne.2 h3) f)))) (by kernel_rfl)
        · rw [if_neg h3] at h
          exact Til.mid Tryz.func19 9 [(4, .b true), (15, .b false)] (fun _ f => o (decide_eq_true h0) (o (o h1 h0) (o (o h1 h2) (o (ne_f h3) f)))) (by kernel_rfl) (ih.2 _ _ _ _ _ _ _ _ h)
      · rw [if_neg h0] at h
        obtain rfl := Option.some.inj h
        exact Til.fin Tryz.func19 [(4, .b false)] (fun _ f => o (decide_eq_false h0) f) (by kernel_rfl)
theorem dendronref07_exact.does {k : Nat} {a0_0 : Bool} {l0_1 : List Int} {l0_2 : List Int} {a1_0 : Bool} {l1_1 : List Int} {l1_2 : List Int} {r : Bool} (h : dendronref07_exact.f k a0_0 l0_1 l0_2 a1_0 l1_1 l1_2 = some r) :
    Does Tryz.prog 19 [.agg [.d (.bool a0_0), .d (L75 l0_1), .d (L75 l0_2)], .agg [.d (.bool a1_0), .d (L75 l1_1), .d (L75 l1_2)]] [] (.c (.d (.bool r))) none [] := by
  refine does_fn Tryz.func19 (by kernel_rfl) rfl rfl ?_
  unfold dendronref07_exact.f at h
  have ih := dendronref07_exact.w k
  by_cases h0 : a0_0 ≠ a1_0
  · rw [if_pos h0] at h
    obtain rfl := Option.some.inj h
    exact Til.fin Tryz.func19 [(9, .b true)] (fun _ f => o (nb_t h0) f) (by kernel_rfl)
  · rw [if_neg h0] at h
    by_cases h1 : (l0_1.length : Int) ≠ (l1_1.length : Int)
    · rw [if_pos h1] at h
      obtain rfl := Option.some.inj h
      exact Til.fin Tryz.func19 [(9, .b false), (19, .b true)] (fun _ f => o (nb_f h0) (o (bne_iff_ne.2 h1) f)) (by kernel_rfl)
    · rw [if_neg h1] at h
      by_cases h2 : (l0_2.length : Int) ≠ (l1_2.length : Int)
      · rw [if_pos h2] at h
        obtain rfl := Option.some.inj h
        exact Til.fin Tryz.func19 [(9, .b false), (19, .b false), (28, .b true)] (fun _ f => o (nb_f h0) (o (ne_f h1) (o (bne_iff_ne.2 h2) f))) (by kernel_rfl)
      · rw [if_neg h2] at h
        exact Til.mid Tryz.func19 4 [(9, .b false), (19, .b false), (28, .b false)] (fun _ f => o (nb_f h0) (o (ne_f h1) (o (ne_f h2) f))) (by kernel_rfl) (ih.1 _ _ _ _ _ _ _ _ h)

def dendronref07_Same.l0E (x5 : Int) (b2_0 : Int) (b2_1 : List (List (Bool × Int × Bool × List Int × List Int × Int × Int × Bool × Bool × List Int × List Int × Bool × List Int × List Int))) (b3_0 : Int) (b3_1 : List (List (Bool × Int × Bool × List Int × List Int × Int × Int × Bool × Bool × List Int × List Int × Bool × List Int × List Int))) : Env := [(2, .c (.ptr 2 0)), (3, .c (.ptr 3 0)), (5, .c (.d (.int .i64 x5)))]
def dendronref07_Same.l0B (x5 : Int) (b2_0 : Int) (b2_1 : List (List (Bool × Int × Bool × List Int × List Int × Int × Int × Bool × Bool × List Int × List Int × Bool × List Int × List Int))) (b3_0 : Int) (b3_1 : List (List (Bool × Int × Bool × List Int × List Int × Int × Int × Bool × Bool × List Int × List Int × Bool × List Int × List Int))) : Obs := [(2, some (.box [.d (.int .i64 b2_0), .d (L38 b2_1)])), (3, some (.box [.d (.int .i64 b3_0), .d (L38 b3_1)]))]
def dendronref07_Same.l1E (x5 : Int) (x6 : Int) (b2_0 : Int) (b2_1 : List (List (Bool × Int × Bool × List Int × List Int × Int × Int × Bool × Bool × List Int × List Int × Bool × List Int × List Int))) (b3_0 : Int) (b3_1 : List (List (Bool × Int × Bool × List Int × List Int × Int × Int × Bool × Bool × List Int × List Int × Bool × List Int × List Int))) : Env := [(2, .c (.ptr 2 0)), (3, .c (.ptr 3 0)), (5, .c (.d (.int .i64 x5))), (6, .c (.d (.int .i64 x6)))]
def dendronref07_Same.l1B (x5 : Int) (x6 : Int) (b2_0 : Int) (b2_1 : List (List (Bool × Int × Bool × List Int × List Int × Int × Int × Bool × Bool × List Int × List Int × Bool × List Int × List Int))) (b3_0 : Int) (b3_1 : List (List (Bool × Int × Bool × List Int × List Int × Int × Int × Bool × Bool × List Int × List Int × Bool × List Int × List Int))) : Obs := [(2, some (.box [.d (.int .i64 b2_0), .d (L38 b2_1)])), (3, some (.box [.d (.int .i64 b3_0), .d (L38 b3_1)]))]
theorem dendronref07_Same.w (k : Nat) : (∀  (x5 : Int) (b2_0 : Int) (b2_1 : List (List (Bool × Int × Bool × List Int × List Int × Int × Int × Bool × Bool × List Int × List Int × Bool × List Int × List Int))) (b3_0 : Int) (b3_1 : List (List (Bool × Int × Bool × List Int × List Int × Int × Int × Bool × Bool × List Int × List Int × Bool × List Int × List Int))) (r : Bool), dendronref07_Same.l0 k x5 b2_0 b2_1 b3_0 b3_1 = some r → Til Tryz.prog 7 [] (.c (.d (.bool r))) none [] (at_ Tryz.f7 4) (dendronref07_Same.l0E x5 b2_0 b2_1 b3_0 b3_1) (dendronref07_Same.l0B x5 b2_0 b2_1 b3_0 b3_1)) ∧
    (∀  (x5 : Int) (x6 : Int) (b2_0 : Int) (b2_1 : List (List (Bool × Int × Bool × List Int × List Int × Int × Int × Bool × Bool × List Int × List Int × Bool × List Int × List Int))) (b3_0 : Int) (b3_1 : List (List (Bool × Int × Bool × List Int × List Int × Int × Int × Bool × Bool × List Int × List Int × Bool × List Int × List Int))) (r : Bool), dendronref07_Same.l1 k x5 x6 b2_0 b2_1 b3_0 b3_1 = some r → Til Tryz.prog 7 [] (.c (.d (.bool r))) none [] (at_ Tryz.f7 9) (dendronref07_Same.l1E x5 x6 b2_0 b2_1 b3_0 b3_1) (dendronref07_Same.l1B x5 x6 b2_0 b2_1 b3_0 b3_1)) := by
  induction k with
  | zero =>
    exact ⟨fun _ _ _ _ _ _ h => (by cases h), fun _ _ _ _ _ _ _ h => (by cases h)⟩
  | succ k ih =>
    refine ⟨?_, ?_⟩
    · intro x5 b2_0 b2_1 b3_0 b3_1 r h
      rw [dendronref07_Same.l0] at h
      by_cases h0 : x5 < (b2_1.length : Int)
      · rw [if_pos h0] at h
        obtain ⟨h1, h⟩ := ifp h
        obtain ⟨h2, h⟩ := ifp h
        by_cases h3 : ((gt [] b2_1 x5).length : Int) ≠ ((gt [] b3_1 x5).length : Int)
        · rw [if_pos h3] at h
          obtain rfl := Option.some.inj h
          exact Til.fin Tryz.func7 [(4, .b true), (17, .b true)] (fun _ f => o (decide_eq_true h0) (o (o h1 h0) (o (o h1 h2) (o (bne_iff_ne.2 h3) f)))) (by kernel_rfl)
        · rw [if_neg h3] at h
          exact Til.mid Tryz.func7 9 [(4, .b true), (17, .b false)] (fun _ f => o (decide_eq_true h0) (o (o h1 h0) (o (o h1 h2) (o (ne_f h3) f)))) (by kernel_rfl) (ih.2 _ _ _ _ _ _ _ h)
      · rw [if_neg h0] at h
        obtain rfl := Option.some.inj h
        exact Til.fin Tryz.func7 [(4, .b false)] (fun _ f => o (decide_eq_false h0) f) (by kernel_rfl)
    · intro x5 x6 b2_0 b2_1 b3_0 b3_1 r h
      rw [dendronref07_Same.l1] at h
      obtain ⟨h0, h⟩ := ifp h
      obtain ⟨h1, h⟩ := ifp h
      by_cases h2 : x6 < ((gt [] b2_1 x5).length : Int)
      · rw [if_pos h2] at h
        obtain ⟨h3, h⟩ := ifp h
        obtain ⟨h4, h⟩ := ifp h
        obtain ⟨h5, h⟩ := ifp h
        by_cases h6 : (gt (false, 0, false, [], [], 0, 0, false, false, [], [], false, [], []) (gt [] b2_1 x5) x6).1 ≠ (gt (false, 0, false, [], [], 0, 0, false, false, [], [], false, [], []) (gt [] b3_1 x5) x6).1
        · rw [if_pos h6] at h
          obtain rfl := Option.some.inj h
          exact Til.fin Tryz.func7 [(7, .b true), (32, .b true)] (fun _ f => o (o h0 h1) (o (decide_eq_true h2) (o (o h0 h1) (o (o h3 h2) (o (o h0 h4) (o (o h3 h5) (o (nb_t h6) f))))))) (by kernel_rfl)
        · rw [if_neg h6] at h
          by_cases h7 : (gt (false, 0, false, [], [], 0, 0, false, false, [], [], false, [], []) (gt [] b2_1 x5) x6).2.1 ≠ (gt (false, 0, false, [], [], 0, 0, false, false, [], [], false, [], []) (gt [] b3_1 x5) x6).2.1
          · rw [if_pos h7] at h
            obtain rfl := Option.some.inj h
            exact Til.fin Tryz.func7 [(7, .b true), (32, .b false), (38, .b true)] (fun _ f => o (o h0 h1) (o (decide_eq_true h2) (o (o h0 h1) (o (o h3 h2) (o (o h0 h4) (o (o h3 h5) (o (nb_f h6) (o (bne_iff_ne.2 h7) f)))))))) (by kernel_rfl)
          · rw [if_neg h7] at h
            by_cases h8 : (gt (false, 0, false, [], [], 0, 0, false, false, [], [], false, [], []) (gt [] b2_1 x5) x6).2.2.2.2.2.1 ≠ (gt (false, 0, false, [], [], 0, 0, false, false, [], [], false, [], []) (gt [] b3_1 x5) x6).2.2.2.2.2.1
            · rw [if_pos h8] at h
              obtain rfl := Option.some.inj h
              exact Til.fin Tryz.func7 [(7, .b true), (32, .b false), (38, .b false), (45, .b true)] (fun _ f => o (o h0 h1) (o (decide_eq_true h2) (o (o h0 h1) (o (o h3 h2) (o (o h0 h4) (o (o h3 h5) (o (nb_f h6) (o (ne_f h7) (o (bne_iff_ne.2 h8) f))))))))) (by kernel_rfl)
            · rw [if_neg h8] at h
              by_cases h9 : (gt (false, 0, false, [], [], 0, 0, false, false, [], [], false, [], []) (gt [] b2_1 x5) x6).2.2.2.2.2.2.1 ≠ (gt (false, 0, false, [], [], 0, 0, false, false, [], [], false, [], []) (gt [] b3_1 x5) x6).2.2.2.2.2.2.1
              · rw [if_pos h9] at h
                obtain rfl := Option.some.inj h
                exact Til.fin Tryz.func7 [(7, .b true), (32, .b false), (38, .b false), (45, .b false), (52, .b true)] (fun _ f => o (o h0 h1) (o (decide_eq_true h2) (o (o h0 h1) (o (o h3 h2) (o (o h0 h4) (o (o h3 h5) (o (nb_f h6) (o (ne_f h7) (o (ne_f h8) (o (bne_iff_ne.2 h9) f)))))))))) (by kernel_rfl)
              · rw [if_neg h9] at h
                by_cases h10 : (gt (false, 0, false, [], [], 0, 0, false, false, [], [], false, [], []) (gt [] b2_1 x5) x6).2.2.2.2.2.2.2.1 ≠ (gt (false, 0, false, [], [], 0, 0, false, false, [], [], false, [], []) (gt [] b3_1 x5) x6).2.2.2.2.2.2.2.1
                · rw [if_pos h10] at h
                  obtain rfl := Option.some.inj h
                  exact Til.fin Tryz.func7 [(7, .b true), (32, .b false), (38, .b false), (45, .b false), (52, .b false), (59, .b true)] (fun _ f => o (o h0 h1) (o (decide_eq_true h2) (o (o h0 h1) (o (o h3 h2) (o (o h0 h4) (o (o h3 h5) (o (nb_f h6) (o (ne_f h7) (o (ne_f h8) (o (ne_f h9) (o (nb_t h10) f))))))))))) (by kernel_rfl)
                · rw [if_neg h10] at h
                  obtain ⟨v66, h11, h⟩ := bnd h
                  cases v66
                  · rw [if_neg (by decide)] at h
                    obtain rfl := Option.some.inj h
                    exact Til.fin Tryz.func7 [(7, .b true), (32, .b false), (38, .b false), (45, .b false), (52, .b false), (59, .b false), (66, ca (.c (.d (.bool false))))] (fun _ f => o (o h0 h1) (o (decide_eq_true h2) (o (o h0 h1) (o (o h3 h2) (o (o h0 h4) (o (o h3 h5) (o (nb_f h6) (o (ne_f h7) (o (ne_f h8) (o (ne_f h9) (o (nb_f h10) (o (dendronref07_exact.does h11) f)))))))))))) (by kernel_rfl)
                  · rw [if_pos rfl] at h
                    obtain ⟨v74, h13, h⟩ := bnd h
                    cases v74
                    · rw [if_neg (by decide)] at h
                      obtain rfl := Option.some.inj h
                      exact Til.fin Tryz.func7 [(7, .b true), (32, .b false), (38, .b false), (45, .b false), (52, .b false), (59, .b false), (66, ca (.c (.d (.bool true)))), (74, ca (.c (.d (.bool false))))] (fun _ f => o (o h0 h1) (o (decide_eq_true h2) (o (o h0 h1) (o (o h3 h2) (o (o h0 h4) (o (o h3 h5) (o (nb_f h6) (o (ne_f h7) (o (ne_f h8) (o (ne_f h9) (o (nb_f h10) (o (dendronref07_exact.does h11) (o (dendronref07_exact.does h13) f))))))))))))) (by kernel_rfl)
                    · rw [if_pos rfl] at h
                      obtain ⟨v82, h15, h⟩ := bnd h
                      cases v82
                      · rw [if_neg (by decide)] at h
                        obtain rfl := Option.some.inj h
                        exact Til.fin Tryz.func7 [(7, .b true), (32, .b false), (38, .b false), (45, .b false), (52, .b false), (59, .b false), (66, ca (.c (.d (.bool true)))), (74, ca (.c (.d (.bool true)))), (82, ca (.c (.d (.bool false))))] (fun _ f => o (o h0 h1) (o (decide_eq_true h2) (o (o h0 h1) (o (o h3 h2) (o (o h0 h4) (o (o h3 h5) (o (nb_f h6) (o (ne_f h7) (o (ne_f h8) (o (ne_f h9) (o (nb_f h10) (o (dendronref07_exact.does h11) (o (dendronref07_exact.does h13) (o (dendronref07_exact.does h15) f)))))))))))))) (by kernel_rfl)
                      · rw [if_pos rfl] at h
                        exact Til.mid Tryz.func7 9 [(7, .b true), (32, .b false), (38, .b false), (45, .b false), (52, .b false), (59, .b false), (66, ca (.c (.d (.bool true)))), (74, ca (.c (.d (.bool true)))), (82, ca (.c (.d (.bool true))))] (fun _ f => o (o h0 h1) (o (decide_eq_true h2) (o (o h0 h1) (o (o h3 h2) (o (o h0 h4) (o (o h3 h5) (o (nb_f h6) (o (ne_f h7) (o (ne_f h8) (o (ne_f h9) (o (nb_f h10) (o (dendronref07_exact.does h11) (o (dendronref07_exact.does h13) (o (dendronref07_exact.does h15) f)))))))))))))) (by kernel_rfl) (ih.2 _ _ _ _ _ _ _ h)
      · rw [if_neg h2] at h
        exact Til.mid Tryz.func7 4 [(7, .b false)] (fun _ f => o (o h0 h1) (o (decide_eq_false h2) f)) (by kernel_rfl) (ih.1 _ _ _ _ _ _ h)
theorem dendronref07_Same.does {k : Nat} {a0_0 : Int} {l0_1 : List (List (Bool × Int × Bool × List Int × List Int × Int × Int × Bool × Bool × List Int × List Int × Bool × List Int × List Int))} {a1_0 : Int} {l1_1 : List (List (Bool × Int × Bool × List Int × List Int × Int × Int × Bool × Bool × List Int × List Int × Bool × List Int × List Int))} {r : Bool} (h : dendronref07_Same.f k a0_0 l0_1 a1_0 l1_1 = some r) :
    Does Tryz.prog 7 [.agg [.d (.int .i64 a0_0), .d (L38 l0_1)], .agg [.d (.int .i64 a1_0), .d (L38 l1_1)]] [] (.c (.d (.bool r))) none [] := by
  refine does_fn Tryz.func7 (by kernel_rfl) rfl rfl ?_
  unfold dendronref07_Same.f at h
  have ih := dendronref07_Same.w k
  by_cases h0 : a0_0 ≠ a1_0
  · rw [if_pos h0] at h
    obtain rfl := Option.some.inj h
    exact Til.fin Tryz.func7 [(7, .b true)] (fun _ f => o (bne_iff_ne.2 h0) f) (by kernel_rfl)
  · rw [if_neg h0] at h
    by_cases h1 : (l0_1.length : Int) ≠ (l1_1.length : Int)
    · rw [if_pos h1] at h
      obtain rfl := Option.some.inj h
      exact Til.fin Tryz.func7 [(7, .b false), (15, .b true)] (fun _ f => o (ne_f h0) (o (bne_iff_ne.2 h1) f)) (by kernel_rfl)
    · rw [if_neg h1] at h
      exact Til.mid Tryz.func7 4 [(7, .b false), (15, .b false)] (fun _ f => o (ne_f h0) (o (ne_f h1) f)) (by kernel_rfl) (ih.1 _ _ _ _ _ _ h)

theorem whole_Of.does {k : Nat} {a0 : Int} {r : Bool × List Int} (h : whole_Of.f k a0 = some r) :
    Does Tryz.prog 53 [.c (.d (.int .i64 a0))] [] (.agg [.d (.bool r.1), .d (L75 r.2)]) none [] := by
  refine does_fn Tryz.func53 (by kernel_rfl) rfl rfl ?_
  unfold whole_Of.f at h
  by_cases h0 : a0 < 0
  · rw [if_pos h0] at h
    obtain ⟨v6, h1, h⟩ := bnd h
    obtain ⟨v7, h2, h⟩ := bnd h
    obtain rfl := Option.some.inj h
    exact Til.fin Tryz.func53 [(2, .b true), (6, ca (.c (.d (L75 v6)))), (7, ca (.agg [.d (.bool v7.1), .d (L75 v7.2)]))] (fun _ f => o (decide_eq_true h0) (o (nat_Of.does h1) (o (whole_sign.does h2) f))) (by kernel_rfl)
  · rw [if_neg h0] at h
    obtain ⟨v5, h1, h⟩ := bnd h
    obtain ⟨v6, h2, h⟩ := bnd h
    obtain rfl := Option.some.inj h
    exact Til.fin Tryz.func53 [(2, .b false), (5, ca (.c (.d (L75 v5)))), (6, ca (.agg [.d (.bool v6.1), .d (L75 v6.2)]))] (fun _ f => o (decide_eq_false h0) (o (nat_Of.does h1) (o (whole_sign.does h2) f))) (by kernel_rfl)

theorem ratio_Of.does {k : Nat} {a0 : Int} {r : Bool × List Int × List Int} (h : ratio_Of.f k a0 = some r) :
    Does Tryz.prog 41 [.c (.d (.int .i64 a0))] [] (.agg [.d (.bool r.1), .d (L75 r.2.1), .d (L75 r.2.2)]) none [] := by
  refine does_fn Tryz.func41 (by kernel_rfl) rfl rfl ?_
  unfold ratio_Of.f at h
  obtain ⟨v2, h0, h⟩ := bnd h
  obtain ⟨v3, h1, h⟩ := bnd h
  obtain rfl := Option.some.inj h
  exact Til.fin Tryz.func41 [(2, ca (.agg [.d (.bool v2.1), .d (L75 v2.2)])), (3, ca (.c (.d (L75 v3))))] (fun _ f => o (whole_Of.does h0) (o (nat_Of.does h1) f)) (by kernel_rfl)

theorem ratio_One.does {k : Nat}  {r : Bool × List Int × List Int} (h : ratio_One.f k = some r) :
    Does Tryz.prog 20 [] [] (.agg [.d (.bool r.1), .d (L75 r.2.1), .d (L75 r.2.2)]) none [] := by
  refine does_fn Tryz.func20 (by kernel_rfl) rfl rfl ?_
  unfold ratio_One.f at h
  obtain ⟨v1, h0, h⟩ := bnd h
  obtain rfl := Option.some.inj h
  exact Til.fin Tryz.func20 [(1, ca (.agg [.d (.bool v1.1), .d (L75 v1.2.1), .d (L75 v1.2.2)]))] (fun _ f => o (ratio_Of.does h0) f) (by kernel_rfl)

theorem valid_Ok.does {k : Nat} {a0_0 : Int} {l0_1 : List (List (Bool × Int × Bool × List Int × List Int × Int × Int × Bool × Bool × List Int × List Int × Bool × List Int × List Int))} {r : Bool} (h : valid_Ok.f k a0_0 l0_1 = some r) :
    Does Tryz.prog 21 [.agg [.d (.int .i64 a0_0), .d (L38 l0_1)]] [] (.c (.d (.bool r))) none [] := by
  refine does_fn Tryz.func21 (by kernel_rfl) rfl rfl ?_
  unfold valid_Ok.f at h
  obtain ⟨v3, h0, h⟩ := bnd h
  obtain rfl := Option.some.inj h
  exact Til.fin Tryz.func21 [(3, ca (.agg [.d (.int .i64 v3.1), .d (.int .i64 v3.2.1), .d (.int .i64 v3.2.2.1), .d (.int .i64 v3.2.2.2)]))] (fun _ f => o (valid_Check.does h0) f) (by kernel_rfl)

theorem dendronlaw08_awake.does {k : Nat}  {r : Bool} (h : dendronlaw08_awake.f k = some r) :
    Does Tryz.prog 8 [] [] (.c (.d (.bool r))) none [] := by
  refine does_fn Tryz.func8 (by kernel_rfl) rfl rfl ?_
  unfold dendronlaw08_awake.f at h
  obtain ⟨v1, h0, h⟩ := bnd h
  obtain ⟨v14, h1, h⟩ := bnd h
  by_cases h2 : ((v14.1 == 11) && ((v14.2.1 == 0) && ((v14.2.2.1 == 0) && ((v14.2.2.2 == 1) && true)))) = true
  · rw [if_pos h2] at h
    obtain ⟨v19, h3, h⟩ := bnd h
    obtain rfl := Option.some.inj h
    exact Til.fin Tryz.func8 [(1, ca (.agg [.d (.bool v1.1), .d (L75 v1.2.1), .d (L75 v1.2.2)])), (8, Z54 ([(false, 0, false, ([] : List Int), ([] : List Int), 1, 1, false, false, ([] : List Int), ([] : List Int), v1.1, v1.2.1, v1.2.2), (true, 0, false, ([] : List Int), ([] : List Int), 0, 0, false, false, ([] : List Int), ([] : List Int), v1.1, v1.2.1, v1.2.2)] : List (Bool × Int × Bool × List Int × List Int × Int × Int × Bool × Bool × List Int × List Int × Bool × List Int × List Int))), (9, Z38 ([([(false, 0, false, ([] : List Int), ([] : List Int), 1, 1, false, false, ([] : List Int), ([] : List Int), v1.1, v1.2.1, v1.2.2), (true, 0, false, ([] : List Int), ([] : List Int), 0, 0, false, false, ([] : List Int), ([] : List Int), v1.1, v1.2.1, v1.2.2)] : List (Bool × Int × Bool × List Int × List Int × Int × Int × Bool × Bool × List Int × List Int × Bool × List Int × List Int))] : List (List (Bool × Int × Bool × List Int × List Int × Int × Int × Bool × Bool × List Int × List Int × Bool × List Int × List Int)))), (14, ca (.agg [.d (.int .i64 v14.1), .d (.int .i64 v14.2.1), .d (.int .i64 v14.2.2.1), .d (.int .i64 v14.2.2.2)])), (16, .b true), (19, .call [(0, .agg [.u, .d (L38 ([] : List (List (Bool × Int × Bool × List Int × List Int × Int × Int × Bool × Bool × List Int × List Int × Bool × List Int × List Int))))])] [] (.c (.d (.bool v19))) none [] [])] (fun _ f => o (ratio_One.does h0) (o (lit_sim c54 (false, 0, false, [], [], 0, 0, false, false, [], [], false, [], []) ([(false, 0, false, ([] : List Int), ([] : List Int), 1, 1, false, false, ([] : List Int), ([] : List Int), v1.1, v1.2.1, v1.2.2), (true, 0, false, ([] : List Int), ([] : List Int), 0, 0, false, false, ([] : List Int), ([] : List Int), v1.1, v1.2.1, v1.2.2)] : List (Bool × Int × Bool × List Int × List Int × Int × Int × Bool × Bool × List Int × List Int × Bool × List Int × List Int)) [[.bool false, .int .i64 0, .bool false, .fro 0 0 fun _ => [], .fro 0 0 fun _ => [], .int .i64 1, .int .i64 1, .bool false, .bool false, .fro 0 0 fun _ => [], .fro 0 0 fun _ => [], .bool v1.1, L75 v1.2.1, L75 v1.2.2], [.bool true, .int .i64 0, .bool false, .fro 0 0 fun _ => [], .fro 0 0 fun _ => [], .int .i64 0, .int .i64 0, .bool false, .bool false, .fro 0 0 fun _ => [], .fro 0 0 fun _ => [], .bool v1.1, L75 v1.2.1, L75 v1.2.2]] ⟨⟨.refl _, ⟨.refl _, ⟨.refl _, ⟨.nil _ _ _ _, ⟨.nil _ _ _ _, ⟨.refl _, ⟨.refl _, ⟨.refl _, ⟨.refl _, ⟨.nil _ _ _ _, ⟨.nil _ _ _ _, ⟨.refl _, ⟨.refl _, ⟨.refl _, trivial⟩⟩⟩⟩⟩⟩⟩⟩⟩⟩⟩⟩⟩⟩, ⟨⟨.refl _, ⟨.refl _, ⟨.refl _, ⟨.nil _ _ _ _, ⟨.nil _ _ _ _, ⟨.refl _, ⟨.refl _, ⟨.refl _, ⟨.refl _, ⟨.nil _ _ _ _, ⟨.nil _ _ _ _, ⟨.refl _, ⟨.refl _, ⟨.refl _, trivial⟩⟩⟩⟩⟩⟩⟩⟩⟩⟩⟩⟩⟩⟩, trivial⟩⟩) (o (lit_ok c38 [] ([([(false, 0, false, ([] : List Int), ([] : List Int), 1, 1, false, false, ([] : List Int), ([] : List Int), v1.1, v1.2.1, v1.2.2), (true, 0, false, ([] : List Int), ([] : List Int), 0, 0, false, false, ([] : List Int), ([] : List Int), v1.1, v1.2.1, v1.2.2)] : List (Bool × Int × Bool × List Int × List Int × Int × Int × Bool × Bool × List Int × List Int × Bool × List Int × List Int))] : List (List (Bool × Int × Bool × List Int × List Int × Int × Int × Bool × Bool × List Int × List Int × Bool × List Int × List Int)))) (o (valid_Check.does h1) (o h2 (o (valid_Ok.does h3) f)))))) (by kernel_rfl)
  · rw [if_neg h2] at h
    obtain rfl := Option.some.inj h
    exact Til.fin Tryz.func8 [(1, ca (.agg [.d (.bool v1.1), .d (L75 v1.2.1), .d (L75 v1.2.2)])), (8, Z54 ([(false, 0, false, ([] : List Int), ([] : List Int), 1, 1, false, false, ([] : List Int), ([] : List Int), v1.1, v1.2.1, v1.2.2), (true, 0, false, ([] : List Int), ([] : List Int), 0, 0, false, false, ([] : List Int), ([] : List Int), v1.1, v1.2.1, v1.2.2)] : List (Bool × Int × Bool × List Int × List Int × Int × Int × Bool × Bool × List Int × List Int × Bool × List Int × List Int))), (9, Z38 ([([(false, 0, false, ([] : List Int), ([] : List Int), 1, 1, false, false, ([] : List Int), ([] : List Int), v1.1, v1.2.1, v1.2.2), (true, 0, false, ([] : List Int), ([] : List Int), 0, 0, false, false, ([] : List Int), ([] : List Int), v1.1, v1.2.1, v1.2.2)] : List (Bool × Int × Bool × List Int × List Int × Int × Int × Bool × Bool × List Int × List Int × Bool × List Int × List Int))] : List (List (Bool × Int × Bool × List Int × List Int × Int × Int × Bool × Bool × List Int × List Int × Bool × List Int × List Int)))), (14, ca (.agg [.d (.int .i64 v14.1), .d (.int .i64 v14.2.1), .d (.int .i64 v14.2.2.1), .d (.int .i64 v14.2.2.2)])), (16, .b false)] (fun _ f => o (ratio_One.does h0) (o (lit_sim c54 (false, 0, false, [], [], 0, 0, false, false, [], [], false, [], []) ([(false, 0, false, ([] : List Int), ([] : List Int), 1, 1, false, false, ([] : List Int), ([] : List Int), v1.1, v1.2.1, v1.2.2), (true, 0, false, ([] : List Int), ([] : List Int), 0, 0, false, false, ([] : List Int), ([] : List Int), v1.1, v1.2.1, v1.2.2)] : List (Bool × Int × Bool × List Int × List Int × Int × Int × Bool × Bool × List Int × List Int × Bool × List Int × List Int)) [[.bool false, .int .i64 0, .bool false, .fro 0 0 fun _ => [], .fro 0 0 fun _ => [], .int .i64 1, .int .i64 1, .bool false, .bool false, .fro 0 0 fun _ => [], .fro 0 0 fun _ => [], .bool v1.1, L75 v1.2.1, L75 v1.2.2], [.bool true, .int .i64 0, .bool false, .fro 0 0 fun _ => [], .fro 0 0 fun _ => [], .int .i64 0, .int .i64 0, .bool false, .bool false, .fro 0 0 fun _ => [], .fro 0 0 fun _ => [], .bool v1.1, L75 v1.2.1, L75 v1.2.2]] ⟨⟨.refl _, ⟨.refl _, ⟨.refl _, ⟨.nil _ _ _ _, ⟨.nil _ _ _ _, ⟨.refl _, ⟨.refl _, ⟨.refl _, ⟨.refl _, ⟨.nil _ _ _ _, ⟨.nil _ _ _ _, ⟨.refl _, ⟨.refl _, ⟨.refl _, trivial⟩⟩⟩⟩⟩⟩⟩⟩⟩⟩⟩⟩⟩⟩, ⟨⟨.refl _, ⟨.refl _, ⟨.refl _, ⟨.nil _ _ _ _, ⟨.nil _ _ _ _, ⟨.refl _, ⟨.refl _, ⟨.refl _, ⟨.refl _, ⟨.nil _ _ _ _, ⟨.nil _ _ _ _, ⟨.refl _, ⟨.refl _, ⟨.refl _, trivial⟩⟩⟩⟩⟩⟩⟩⟩⟩⟩⟩⟩⟩⟩, trivial⟩⟩) (o (lit_ok c38 [] ([([(false, 0, false, ([] : List Int), ([] : List Int), 1, 1, false, false, ([] : List Int), ([] : List Int), v1.1, v1.2.1, v1.2.2), (true, 0, false, ([] : List Int), ([] : List Int), 0, 0, false, false, ([] : List Int), ([] : List Int), v1.1, v1.2.1, v1.2.2)] : List (Bool × Int × Bool × List Int × List Int × Int × Int × Bool × Bool × List Int × List Int × Bool × List Int × List Int))] : List (List (Bool × Int × Bool × List Int × List Int × Int × Int × Bool × Bool × List Int × List Int × Bool × List Int × List Int)))) (o (valid_Check.does h1) (o (Bool.eq_false_iff.2 h2) f))))) (by kernel_rfl)

theorem dendronlaw08_ValidParses.does {k : Nat} {a0 : ByteArray} {r : Bool} (h : dendronlaw08_ValidParses.f k a0 = some r) :
    Does Tryz.prog 3 [.c (.d (.str a0))] [] (.c (.d (.bool r))) none [] := by
  refine does_fn Tryz.func3 (by kernel_rfl) rfl rfl ?_
  unfold dendronlaw08_ValidParses.f at h
  by_cases h0 : (a0.size : Int) > 4000
  · rw [if_pos h0] at h
    obtain ⟨h1, h⟩ := ifp h
    obtain ⟨v8, h2, h⟩ := bnd h
    obtain ⟨v17, h3, h⟩ := bnd h
    by_cases h4 : v17.2.2.1 = 0
    · rw [if_pos h4] at h
      obtain ⟨v29, h5, h⟩ := bnd h
      by_cases h6 : v29.1 ≠ 0
      · rw [if_pos h6] at h
        by_cases h7 : ((v8.2.2.1 == v29.1) && ((v8.2.2.2.1 == v29.2.1) && ((v8.2.2.2.2.1 == v29.2.2.1) && ((v8.2.2.2.2.2 == v29.2.2.2) && true)))) = true
        · rw [if_pos h7] at h
          obtain ⟨v40, h8, h⟩ := bnd h
          cases v40
          · rw [if_neg (by decide)] at h
            obtain rfl := Option.some.inj h
            exact Til.fin Tryz.func3 [(3, .b true), (8, ca (.tup [.agg [.d (.int .i64 v8.1), .d (L38 v8.2.1)], .agg [.d (.int .i64 v8.2.2.1), .d (.int .i64 v8.2.2.2.1), .d (.int .i64 v8.2.2.2.2.1), .d (.int .i64 v8.2.2.2.2.2)]])), (17, ca (.tup [.agg [.d (.int .i64 v17.1), .d (L38 v17.2.1)], .agg [.d (.int .i64 v17.2.2.1), .d (.int .i64 v17.2.2.2.1), .d (.int .i64 v17.2.2.2.2.1), .d (.int .i64 v17.2.2.2.2.2)]])), (27, .b true), (29, ca (.agg [.d (.int .i64 v29.1), .d (.int .i64 v29.2.1), .d (.int .i64 v29.2.2.1), .d (.int .i64 v29.2.2.2)])), (33, .b true), (36, .b true), (40, .call [(1, .agg [.u, .d (L38 ([] : List (List (Bool × Int × Bool × List Int × List Int × Int × Int × Bool × Bool × List Int × List Int × Bool × List Int × List Int))))])] [] (.c (.d (.bool false))) none [] [])] (fun _ f => o (decide_eq_true h0) (o (o (nn 4000) h1) (o (valid_Parse.does h2) (o (model_Read.does h3) (o (beq_iff_eq.2 h4) (o (dendronlaw08_check.does h5) (o (bne_iff_ne.2 h6) (o h7 (o (dendronref07_Same.does h8) f))))))))) (by kernel_rfl)
          · rw [if_pos rfl] at h
            obtain ⟨v43, h10, h⟩ := bnd h
            obtain rfl := Option.some.inj h
            exact Til.fin Tryz.func3 [(3, .b true), (8, ca (.tup [.agg [.d (.int .i64 v8.1), .d (L38 v8.2.1)], .agg [.d (.int .i64 v8.2.2.1), .d (.int .i64 v8.2.2.2.1), .d (.int .i64 v8.2.2.2.2.1), .d (.int .i64 v8.2.2.2.2.2)]])), (17, ca (.tup [.agg [.d (.int .i64 v17.1), .d (L38 v17.2.1)], .agg [.d (.int .i64 v17.2.2.1), .d (.int .i64 v17.2.2.2.1), .d (.int .i64 v17.2.2.2.2.1), .d (.int .i64 v17.2.2.2.2.2)]])), (27, .b true), (29, ca (.agg [.d (.int .i64 v29.1), .d (.int .i64 v29.2.1), .d (.int .i64 v29.2.2.1), .d (.int .i64 v29.2.2.2)])), (33, .b true), (36, .b true), (40, .call [(1, .agg [.u, .d (L38 ([] : List (List (Bool × Int × Bool × List Int × List Int × Int × Int × Bool × Bool × List Int × List Int × Bool × List Int × List Int))))])] [] (.c (.d (.bool true))) none [] []), (43, ca (.c (.d (.bool v43))))] (fun _ f => o (decide_eq_true h0) (o (o (nn 4000) h1) (o (valid_Parse.does h2) (o (model_Read.does h3) (o (beq_iff_eq.2 h4) (o (dendronlaw08_check.does h5) (o (bne_iff_ne.2 h6) (o h7 (o (dendronref07_Same.does h8) (o (dendronlaw08_awake.does h10) f)))))))))) (by kernel_rfl)
        · rw [if_neg h7] at h
          obtain rfl := Option.some.inj h
          exact Til.fin Tryz.func3 [(3, .b true), (8, ca (.tup [.agg [.d (.int .i64 v8.1), .d (L38 v8.2.1)], .agg [.d (.int .i64 v8.2.2.1), .d (.int .i64 v8.2.2.2.1), .d (.int .i64 v8.2.2.2.2.1), .d (.int .i64 v8.2.2.2.2.2)]])), (17, ca (.tup [.agg [.d (.int .i64 v17.1), .d (L38 v17.2.1)], .agg [.d (.int .i64 v17.2.2.1), .d (.int .i64 v17.2.2.2.1), .d (.int .i64 v17.2.2.2.2.1), .d (.int .i64 v17.2.2.2.2.2)]])), (27, .b true), (29, ca (.agg [.d (.int .i64 v29.1), .d (.int .i64 v29.2.1), .d (.int .i64 v29.2.2.1), .d (.int .i64 v29.2.2.2)])), (33, .b true), (36, .b false)] (fun _ f => o (decide_eq_true h0) (o (o (nn 4000) h1) (o (valid_Parse.does h2) (o (model_Read.does h3) (o (beq_iff_eq.2 h4) (o (dendronlaw08_check.does h5) (o (bne_iff_ne.2 h6) (o (Bool.eq_false_iff.2 h7) f)))))))) (by kernel_rfl)
      · rw [if_neg h6] at h
        by_cases h7 : ((v8.2.2.1 == v29.1) && ((v8.2.2.2.1 == v29.2.1) && ((v8.2.2.2.2.1 == v29.2.2.1) && ((v8.2.2.2.2.2 == v29.2.2.2) && true)))) = true
        · rw [if_pos h7] at h
          obtain ⟨v40, h8, h⟩ := bnd h
          cases v40
          · rw [if_neg (by decide)] at h
            obtain rfl := Option.some.inj h
            exact Til.fin Tryz.func3 [(3, .b true), (8, ca (.tup [.agg [.d (.int .i64 v8.1), .d (L38 v8.2.1)], .agg [.d (.int .i64 v8.2.2.1), .d (.int .i64 v8.2.2.2.1), .d (.int .i64 v8.2.2.2.2.1), .d (.int .i64 v8.2.2.2.2.2)]])), (17, ca (.tup [.agg [.d (.int .i64 v17.1), .d (L38 v17.2.1)], .agg [.d (.int .i64 v17.2.2.1), .d (.int .i64 v17.2.2.2.1), .d (.int .i64 v17.2.2.2.2.1), .d (.int .i64 v17.2.2.2.2.2)]])), (27, .b true), (29, ca (.agg [.d (.int .i64 v29.1), .d (.int .i64 v29.2.1), .d (.int .i64 v29.2.2.1), .d (.int .i64 v29.2.2.2)])), (33, .b false), (36, .b true), (40, ca (.c (.d (.bool false))))] (fun _ f => o (decide_eq_true h0) (o (o (nn 4000) h1) (o (valid_Parse.does h2) (o (model_Read.does h3) (o (beq_iff_eq.2 h4) (o (dendronlaw08_check.does h5) (o (ne_f h6) (o h7 (o (dendronref07_Same.does h8) f))))))))) (by kernel_rfl)
          · rw [if_pos rfl] at h
            obtain ⟨v43, h10, h⟩ := bnd h
            obtain rfl := Option.some.inj h
            exact Til.fin Tryz.func3 [(3, .b true), (8, ca (.tup [.agg [.d (.int .i64 v8.1), .d (L38 v8.2.1)], .agg [.d (.int .i64 v8.2.2.1), .d (.int .i64 v8.2.2.2.1), .d (.int .i64 v8.2.2.2.2.1), .d (.int .i64 v8.2.2.2.2.2)]])), (17, ca (.tup [.agg [.d (.int .i64 v17.1), .d (L38 v17.2.1)], .agg [.d (.int .i64 v17.2.2.1), .d (.int .i64 v17.2.2.2.1), .d (.int .i64 v17.2.2.2.2.1), .d (.int .i64 v17.2.2.2.2.2)]])), (27, .b true), (29, ca (.agg [.d (.int .i64 v29.1), .d (.int .i64 v29.2.1), .d (.int .i64 v29.2.2.1), .d (.int .i64 v29.2.2.2)])), (33, .b false), (36, .b true), (40, ca (.c (.d (.bool true)))), (43, ca (.c (.d (.bool v43))))] (fun _ f => o (decide_eq_true h0) (o (o (nn 4000) h1) (o (valid_Parse.does h2) (o (model_Read.does h3) (o (beq_iff_eq.2 h4) (o (dendronlaw08_check.does h5) (o (ne_f h6) (o h7 (o (dendronref07_Same.does h8) (o (dendronlaw08_awake.does h10) f)))))))))) (by kernel_rfl)
        · rw [if_neg h7] at h
          obtain rfl := Option.some.inj h
          exact Til.fin Tryz.func3 [(3, .b true), (8, ca (.tup [.agg [.d (.int .i64 v8.1), .d (L38 v8.2.1)], .agg [.d (.int .i64 v8.2.2.1), .d (.int .i64 v8.2.2.2.1), .d (.int .i64 v8.2.2.2.2.1), .d (.int .i64 v8.2.2.2.2.2)]])), (17, ca (.tup [.agg [.d (.int .i64 v17.1), .d (L38 v17.2.1)], .agg [.d (.int .i64 v17.2.2.1), .d (.int .i64 v17.2.2.2.1), .d (.int .i64 v17.2.2.2.2.1), .d (.int .i64 v17.2.2.2.2.2)]])), (27, .b true), (29, ca (.agg [.d (.int .i64 v29.1), .d (.int .i64 v29.2.1), .d (.int .i64 v29.2.2.1), .d (.int .i64 v29.2.2.2)])), (33, .b false), (36, .b false)] (fun _ f => o (decide_eq_true h0) (o (o (nn 4000) h1) (o (valid_Parse.does h2) (o (model_Read.does h3) (o (beq_iff_eq.2 h4) (o (dendronlaw08_check.does h5) (o (ne_f h6) (o (Bool.eq_false_iff.2 h7) f)))))))) (by kernel_rfl)
    · rw [if_neg h4] at h
      by_cases h5 : v17.2.2.1 ≠ 0
      · rw [if_pos h5] at h
        by_cases h6 : ((v8.2.2.1 == v17.2.2.1) && ((v8.2.2.2.1 == v17.2.2.2.1) && ((v8.2.2.2.2.1 == v17.2.2.2.2.1) && ((v8.2.2.2.2.2 == v17.2.2.2.2.2) && true)))) = true
        · rw [if_pos h6] at h
          obtain ⟨v37, h7, h⟩ := bnd h
          cases v37
          · rw [if_neg (by decide)] at h
            obtain rfl := Option.some.inj h
            exact Til.fin Tryz.func3 [(3, .b true), (8, ca (.tup [.agg [.d (.int .i64 v8.1), .d (L38 v8.2.1)], .agg [.d (.int .i64 v8.2.2.1), .d (.int .i64 v8.2.2.2.1), .d (.int .i64 v8.2.2.2.2.1), .d (.int .i64 v8.2.2.2.2.2)]])), (17, ca (.tup [.agg [.d (.int .i64 v17.1), .d (L38 v17.2.1)], .agg [.d (.int .i64 v17.2.2.1), .d (.int .i64 v17.2.2.2.1), .d (.int .i64 v17.2.2.2.2.1), .d (.int .i64 v17.2.2.2.2.2)]])), (27, .b false), (30, .b true), (33, .b true), (37, .call [(1, .agg [.u, .d (L38 ([] : List (List (Bool × Int × Bool × List Int × List Int × Int × Int × Bool × Bool × List Int × List Int × Bool × List Int × List Int))))])] [] (.c (.d (.bool false))) none [] [])] (fun _ f => o (decide_eq_true h0) (o (o (nn 4000) h1) (o (valid_Parse.does h2) (o (model_Read.does h3) (o (beq_false_of_ne h4) (o (bne_iff_ne.2 h5) (o h6 (o (dendronref07_Same.does h7) f)))))))) (by kernel_rfl)
          · rw [if_pos rfl] at h
            obtain ⟨v40, h9, h⟩ := bnd h
            obtain rfl := Option.some.inj h
            exact Til.fin Tryz.func3 [(3, .b true), (8, ca (.tup [.agg [.d (.int .i64 v8.1), .d (L38 v8.2.1)], .agg [.d (.int .i64 v8.2.2.1), .d (.int .i64 v8.2.2.2.1), .d (.int .i64 v8.2.2.2.2.1), .d (.int .i64 v8.2.2.2.2.2)]])), (17, ca (.tup [.agg [.d (.int .i64 v17.1), .d (L38 v17.2.1)], .agg [.d (.int .i64 v17.2.2.1), .d (.int .i64 v17.2.2.2.1), .d (.int .i64 v17.2.2.2.2.1), .d (.int .i64 v17.2.2.2.2.2)]])), (27, .b false), (30, .b true), (33, .b true), (37, .call [(1, .agg [.u, .d (L38 ([] : List (List (Bool × Int × Bool × List Int × List Int × Int × Int × Bool × Bool × List Int × List Int × Bool × List Int × List Int))))])] [] (.c (.d (.bool true))) none [] []), (40, ca (.c (.d (.bool v40))))] (fun _ f => o (decide_eq_true h0) (o (o (nn 4000) h1) (o (valid_Parse.does h2) (o (model_Read.does h3) (o (beq_false_of_ne h4) (o (bne_iff_ne.2 h5) (o h6 (o (dendronref07_Same.does h7) (o (dendronlaw08_awake.does h9) f))))))))) (by kernel_rfl)
        · rw [if_neg h6] at h
          obtain rfl := Option.some.inj h
          exact Til.fin Tryz.func3 [(3, .b true), (8, ca (.tup [.agg [.d (.int .i64 v8.1), .d (L38 v8.2.1)], .agg [.d (.int .i64 v8.2.2.1), .d (.int .i64 v8.2.2.2.1), .d (.int .i64 v8.2.2.2.2.1), .d (.int .i64 v8.2.2.2.2.2)]])), (17, ca (.tup [.agg [.d (.int .i64 v17.1), .d (L38 v17.2.1)], .agg [.d (.int .i64 v17.2.2.1), .d (.int .i64 v17.2.2.2.1), .d (.int .i64 v17.2.2.2.2.1), .d (.int .i64 v17.2.2.2.2.2)]])), (27, .b false), (30, .b true), (33, .b false)] (fun _ f => o (decide_eq_true h0) (o (o (nn 4000) h1) (o (valid_Parse.does h2) (o (model_Read.does h3) (o (beq_false_of_ne h4) (o (bne_iff_ne.2 h5) (o (Bool.eq_false_iff.2 h6) f))))))) (by kernel_rfl)
      · rw [if_neg h5] at h
        by_cases h6 : ((v8.2.2.1 == v17.2.2.1) && ((v8.2.2.2.1 == v17.2.2.2.1) && ((v8.2.2.2.2.1 == v17.2.2.2.2.1) && ((v8.2.2.2.2.2 == v17.2.2.2.2.2) && true)))) = true
        · rw [if_pos h6] at h
          obtain ⟨v37, h7, h⟩ := bnd h
          cases v37
          · rw [if_neg (by decide)] at h
            obtain rfl := Option.some.inj h
            exact Til.fin Tryz.func3 [(3, .b true), (8, ca (.tup [.agg [.d (.int .i64 v8.1), .d (L38 v8.2.1)], .agg [.d (.int .i64 v8.2.2.1), .d (.int .i64 v8.2.2.2.1), .d (.int .i64 v8.2.2.2.2.1), .d (.int .i64 v8.2.2.2.2.2)]])), (17, ca (.tup [.agg [.d (.int .i64 v17.1), .d (L38 v17.2.1)], .agg [.d (.int .i64 v17.2.2.1), .d (.int .i64 v17.2.2.2.1), .d (.int .i64 v17.2.2.2.2.1), .d (.int .i64 v17.2.2.2.2.2)]])), (27, .b false), (30, .b false), (33, .b true), (37, ca (.c (.d (.bool false))))] (fun _ f => o (decide_eq_true h0) (o (o (nn 4000) h1) (o (valid_Parse.does h2) (o (model_Read.does h3) (o (beq_false_of_ne h4) (o (ne_f h5) (o h6 (o (dendronref07_Same.does h7) f)))))))) (by kernel_rfl)
          · rw [if_pos rfl] at h
            obtain ⟨v40, h9, h⟩ := bnd h
            obtain rfl := Option.some.inj h
            exact Til.fin Tryz.func3 [(3, .b true), (8, ca (.tup [.agg [.d (.int .i64 v8.1), .d (L38 v8.2.1)], .agg [.d (.int .i64 v8.2.2.1), .d (.int .i64 v8.2.2.2.1), .d (.int .i64 v8.2.2.2.2.1), .d (.int .i64 v8.2.2.2.2.2)]])), (17, ca (.tup [.agg [.d (.int .i64 v17.1), .d (L38 v17.2.1)], .agg [.d (.int .i64 v17.2.2.1), .d (.int .i64 v17.2.2.2.1), .d (.int .i64 v17.2.2.2.2.1), .d (.int .i64 v17.2.2.2.2.2)]])), (27, .b false), (30, .b false), (33, .b true), (37, ca (.c (.d (.bool true)))), (40, ca (.c (.d (.bool v40))))] (fun _ f => o (decide_eq_true h0) (o (o (nn 4000) h1) (o (valid_Parse.does h2) (o (model_Read.does h3) (o (beq_false_of_ne h4) (o (ne_f h5) (o h6 (o (dendronref07_Same.does h7) (o (dendronlaw08_awake.does h9) f))))))))) (by kernel_rfl)
        · rw [if_neg h6] at h
          obtain rfl := Option.some.inj h
          exact Til.fin Tryz.func3 [(3, .b true), (8, ca (.tup [.agg [.d (.int .i64 v8.1), .d (L38 v8.2.1)], .agg [.d (.int .i64 v8.2.2.1), .d (.int .i64 v8.2.2.2.1), .d (.int .i64 v8.2.2.2.2.1), .d (.int .i64 v8.2.2.2.2.2)]])), (17, ca (.tup [.agg [.d (.int .i64 v17.1), .d (L38 v17.2.1)], .agg [.d (.int .i64 v17.2.2.1), .d (.int .i64 v17.2.2.2.1), .d (.int .i64 v17.2.2.2.2.1), .d (.int .i64 v17.2.2.2.2.2)]])), (27, .b false), (30, .b false), (33, .b false)] (fun _ f => o (decide_eq_true h0) (o (o (nn 4000) h1) (o (valid_Parse.does h2) (o (model_Read.does h3) (o (beq_false_of_ne h4) (o (ne_f h5) (o (Bool.eq_false_iff.2 h6) f))))))) (by kernel_rfl)
  · rw [if_neg h0] at h
    obtain ⟨v5, h1, h⟩ := bnd h
    obtain ⟨v14, h2, h⟩ := bnd h
    by_cases h3 : v14.2.2.1 = 0
    · rw [if_pos h3] at h
      obtain ⟨v26, h4, h⟩ := bnd h
      by_cases h5 : v26.1 ≠ 0
      · rw [if_pos h5] at h
        by_cases h6 : ((v5.2.2.1 == v26.1) && ((v5.2.2.2.1 == v26.2.1) && ((v5.2.2.2.2.1 == v26.2.2.1) && ((v5.2.2.2.2.2 == v26.2.2.2) && true)))) = true
        · rw [if_pos h6] at h
          obtain ⟨v37, h7, h⟩ := bnd h
          cases v37
          · rw [if_neg (by decide)] at h
            obtain rfl := Option.some.inj h
            exact Til.fin Tryz.func3 [(3, .b false), (5, ca (.tup [.agg [.d (.int .i64 v5.1), .d (L38 v5.2.1)], .agg [.d (.int .i64 v5.2.2.1), .d (.int .i64 v5.2.2.2.1), .d (.int .i64 v5.2.2.2.2.1), .d (.int .i64 v5.2.2.2.2.2)]])), (14, ca (.tup [.agg [.d (.int .i64 v14.1), .d (L38 v14.2.1)], .agg [.d (.int .i64 v14.2.2.1), .d (.int .i64 v14.2.2.2.1), .d (.int .i64 v14.2.2.2.2.1), .d (.int .i64 v14.2.2.2.2.2)]])), (24, .b true), (26, ca (.agg [.d (.int .i64 v26.1), .d (.int .i64 v26.2.1), .d (.int .i64 v26.2.2.1), .d (.int .i64 v26.2.2.2)])), (30, .b true), (33, .b true), (37, .call [(1, .agg [.u, .d (L38 ([] : List (List (Bool × Int × Bool × List Int × List Int × Int × Int × Bool × Bool × List Int × List Int × Bool × List Int × List Int))))])] [] (.c (.d (.bool false))) none [] [])] (fun _ f => o (decide_eq_false h0) (o (valid_Parse.does h1) (o (model_Read.does h2) (o (beq_iff_eq.2 h3) (o (dendronlaw08_check.does h4) (o (bne_iff_ne.2 h5) (o h6 (o (dendronref07_Same.does h7) f)))))))) (by kernel_rfl)
          · rw [if_pos rfl] at h
            obtain ⟨v40, h9, h⟩ := bnd h
            obtain rfl := Option.some.inj h
            exact Til.fin Tryz.func3 [(3, .b false), (5, ca (.tup [.agg [.d (.int .i64 v5.1), .d (L38 v5.2.1)], .agg [.d (.int .i64 v5.2.2.1), .d (.int .i64 v5.2.2.2.1), .d (.int .i64 v5.2.2.2.2.1), .d (.int .i64 v5.2.2.2.2.2)]])), (14, ca (.tup [.agg [.d (.int .i64 v14.1), .d (L38 v14.2.1)], .agg [.d (.int .i64 v14.2.2.1), .d (.int .i64 v14.2.2.2.1), .d (.int .i64 v14.2.2.2.2.1), .d (.int .i64 v14.2.2.2.2.2)]])), (24, .b true), (26, ca (.agg [.d (.int .i64 v26.1), .d (.int .i64 v26.2.1), .d (.int .i64 v26.2.2.1), .d (.int .i64 v26.2.2.2)])), (30, .b true), (33, .b true), (37, .call [(1, .agg [.u, .d (L38 ([] : List (List (Bool × Int × Bool × List Int × List Int × Int × Int × Bool × Bool × List Int × List Int × Bool × List Int × List Int))))])] [] (.c (.d (.bool true))) none [] []), (40, ca (.c (.d (.bool v40))))] (fun _ f => o (decide_eq_false h0) (o (valid_Parse.does h1) (o (model_Read.does h2) (o (beq_iff_eq.2 h3) (o (dendronlaw08_check.does h4) (o (bne_iff_ne.2 h5) (o h6 (o (dendronref07_Same.does h7) (o (dendronlaw08_awake.does h9) f))))))))) (by kernel_rfl)
        · rw [if_neg h6] at h
          obtain rfl := Option.some.inj h
          exact Til.fin Tryz.func3 [(3, .b false), (5, ca (.tup [.agg [.d (.int .i64 v5.1), .d (L38 v5.2.1)], .agg [.d (.int .i64 v5.2.2.1), .d (.int .i64 v5.2.2.2.1), .d (.int .i64 v5.2.2.2.2.1), .d (.int .i64 v5.2.2.2.2.2)]])), (14, ca (.tup [.agg [.d (.int .i64 v14.1), .d (L38 v14.2.1)], .agg [.d (.int .i64 v14.2.2.1), .d (.int .i64 v14.2.2.2.1), .d (.int .i64 v14.2.2.2.2.1), .d (.int .i64 v14.2.2.2.2.2)]])), (24, .b true), (26, ca (.agg [.d (.int .i64 v26.1), .d (.int .i64 v26.2.1), .d (.int .i64 v26.2.2.1), .d (.int .i64 v26.2.2.2)])), (30, .b true), (33, .b false)] (fun _ f => o (decide_eq_false h0) (o (valid_Parse.does h1) (o (model_Read.does h2) (o (beq_iff_eq.2 h3) (o (dendronlaw08_check.does h4) (o (bne_iff_ne.2 h5) (o (Bool.eq_false_iff.2 h6) f))))))) (by kernel_rfl)
      · rw [if_neg h5] at h
        by_cases h6 : ((v5.2.2.1 == v26.1) && ((v5.2.2.2.1 == v26.2.1) && ((v5.2.2.2.2.1 == v26.2.2.1) && ((v5.2.2.2.2.2 == v26.2.2.2) && true)))) = true
        · rw [if_pos h6] at h
          obtain ⟨v37, h7, h⟩ := bnd h
          cases v37
          · rw [if_neg (by decide)] at h
            obtain rfl := Option.some.inj h
            exact Til.fin Tryz.func3 [(3, .b false), (5, ca (.tup [.agg [.d (.int .i64 v5.1), .d (L38 v5.2.1)], .agg [.d (.int .i64 v5.2.2.1), .d (.int .i64 v5.2.2.2.1), .d (.int .i64 v5.2.2.2.2.1), .d (.int .i64 v5.2.2.2.2.2)]])), (14, ca (.tup [.agg [.d (.int .i64 v14.1), .d (L38 v14.2.1)], .agg [.d (.int .i64 v14.2.2.1), .d (.int .i64 v14.2.2.2.1), .d (.int .i64 v14.2.2.2.2.1), .d (.int .i64 v14.2.2.2.2.2)]])), (24, .b true), (26, ca (.agg [.d (.int .i64 v26.1), .d (.int .i64 v26.2.1), .d (.int .i64 v26.2.2.1), .d (.int .i64 v26.2.2.2)])), (30, .b false), (33, .b true), (37, ca (.c (.d (.bool false))))] (fun _ f => o (decide_eq_false h0) (o (valid_Parse.does h1) (o (model_Read.does h2) (o (beq_iff_eq.2 h3) (o (dendronlaw08_check.does h4) (o (ne_f h5) (o h6 (o (dendronref07_Same.does h7) f)))))))) (by kernel_rfl)
          · rw [if_pos rfl] at h
            obtain ⟨v40, h9, h⟩ := bnd h
            obtain rfl := Option.some.inj h
            exact Til.fin Tryz.func3 [(3, .b false), (5, ca (.tup [.agg [.d (.int .i64 v5.1), .d (L38 v5.2.1)], .agg [.d (.int .i64 v5.2.2.1), .d (.int .i64 v5.2.2.2.1), .d (.int .i64 v5.2.2.2.2.1), .d (.int .i64 v5.2.2.2.2.2)]])), (14, ca (.tup [.agg [.d (.int .i64 v14.1), .d (L38 v14.2.1)], .agg [.d (.int .i64 v14.2.2.1), .d (.int .i64 v14.2.2.2.1), .d (.int .i64 v14.2.2.2.2.1), .d (.int .i64 v14.2.2.2.2.2)]])), (24, .b true), (26, ca (.agg [.d (.int .i64 v26.1), .d (.int .i64 v26.2.1), .d (.int .i64 v26.2.2.1), .d (.int .i64 v26.2.2.2)])), (30, .b false), (33, .b true), (37, ca (.c (.d (.bool true)))), (40, ca (.c (.d (.bool v40))))] (fun _ f => o (decide_eq_false h0) (o (valid_Parse.does h1) (o (model_Read.does h2) (o (beq_iff_eq.2 h3) (o (dendronlaw08_check.does h4) (o (ne_f h5) (o h6 (o (dendronref07_Same.does h7) (o (dendronlaw08_awake.does h9) f))))))))) (by kernel_rfl)
        · rw [if_neg h6] at h
          obtain rfl := Option.some.inj h
          exact Til.fin Tryz.func3 [(3, .b false), (5, ca (.tup [.agg [.d (.int .i64 v5.1), .d (L38 v5.2.1)], .agg [.d (.int .i64 v5.2.2.1), .d (.int .i64 v5.2.2.2.1), .d (.int .i64 v5.2.2.2.2.1), .d (.int .i64 v5.2.2.2.2.2)]])), (14, ca (.tup [.agg [.d (.int .i64 v14.1), .d (L38 v14.2.1)], .agg [.d (.int .i64 v14.2.2.1), .d (.int .i64 v14.2.2.2.1), .d (.int .i64 v14.2.2.2.2.1), .d (.int .i64 v14.2.2.2.2.2)]])), (24, .b true), (26, ca (.agg [.d (.int .i64 v26.1), .d (.int .i64 v26.2.1), .d (.int .i64 v26.2.2.1), .d (.int .i64 v26.2.2.2)])), (30, .b false), (33, .b false)] (fun _ f => o (decide_eq_false h0) (o (valid_Parse.does h1) (o (model_Read.does h2) (o (beq_iff_eq.2 h3) (o (dendronlaw08_check.does h4) (o (ne_f h5) (o (Bool.eq_false_iff.2 h6) f))))))) (by kernel_rfl)
    · rw [if_neg h3] at h
      by_cases h4 : v14.2.2.1 ≠ 0
      · rw [if_pos h4] at h
        by_cases h5 : ((v5.2.2.1 == v14.2.2.1) && ((v5.2.2.2.1 == v14.2.2.2.1) && ((v5.2.2.2.2.1 == v14.2.2.2.2.1) && ((v5.2.2.2.2.2 == v14.2.2.2.2.2) && true)))) = true
        · rw [if_pos h5] at h
          obtain ⟨v34, h6, h⟩ := bnd h
          cases v34
          · rw [if_neg (by decide)] at h
            obtain rfl := Option.some.inj h
            exact Til.fin Tryz.func3 [(3, .b false), (5, ca (.tup [.agg [.d (.int .i64 v5.1), .d (L38 v5.2.1)], .agg [.d (.int .i64 v5.2.2.1), .d (.int .i64 v5.2.2.2.1), .d (.int .i64 v5.2.2.2.2.1), .d (.int .i64 v5.2.2.2.2.2)]])), (14, ca (.tup [.agg [.d (.int .i64 v14.1), .d (L38 v14.2.1)], .agg [.d (.int .i64 v14.2.2.1), .d (.int .i64 v14.2.2.2.1), .d (.int .i64 v14.2.2.2.2.1), .d (.int .i64 v14.2.2.2.2.2)]])), (24, .b false), (27, .b true), (30, .b true), (34, .call [(1, .agg [.u, .d (L38 ([] : List (List (Bool × Int × Bool × List Int × List Int × Int × Int × Bool × Bool × List Int × List Int × Bool × List Int × List Int))))])] [] (.c (.d (.bool false))) none [] [])] (fun _ f => o (decide_eq_false h0) (o (valid_Parse.does h1) (o (model_Read.does h2) (o (beq_false_of_ne h3) (o (bne_iff_ne.2 h4) (o h5 (o (dendronref07_Same.does h6) f))))))) (by kernel_rfl)
          · rw [if_pos rfl] at h
            obtain ⟨v37, h8, h⟩ := bnd h
            obtain rfl := Option.some.inj h
            exact Til.fin Tryz.func3 [(3, .b false), (5, ca (.tup [.agg [.d (.int .i64 v5.1), .d (L38 v5.2.1)], .agg [.d (.int .i64 v5.2.2.1), .d (.int .i64 v5.2.2.2.1), .d (.int .i64 v5.2.2.2.2.1), .d (.int .i64 v5.2.2.2.2.2)]])), (14, ca (.tup [.agg [.d (.int .i64 v14.1), .d (L38 v14.2.1)], .agg [.d (.int .i64 v14.2.2.1), .d (.int .i64 v14.2.2.2.1), .d (.int .i64 v14.2.2.2.2.1), .d (.int .i64 v14.2.2.2.2.2)]])), (24, .b false), (27, .b true), (30, .b true), (34, .call [(1, .agg [.u, .d (L38 ([] : List (List (Bool × Int × Bool × List Int × List Int × Int × Int × Bool × Bool × List Int × List Int × Bool × List Int × List Int))))])] [] (.c (.d (.bool true))) none [] []), (37, ca (.c (.d (.bool v37))))] (fun _ f => o (decide_eq_false h0) (o (valid_Parse.does h1) (o (model_Read.does h2) (o (beq_false_of_ne h3) (o (bne_iff_ne.2 h4) (o h5 (o (dendronref07_Same.does h6) (o (dendronlaw08_awake.does h8) f)))))))) (by kernel_rfl)
        · rw [if_neg h5] at h
          obtain rfl := Option.some.inj h
          exact Til.fin Tryz.func3 [(3, .b false), (5, ca (.tup [.agg [.d (.int .i64 v5.1), .d (L38 v5.2.1)], .agg [.d (.int .i64 v5.2.2.1), .d (.int .i64 v5.2.2.2.1), .d (.int .i64 v5.2.2.2.2.1), .d (.int .i64 v5.2.2.2.2.2)]])), (14, ca (.tup [.agg [.d (.int .i64 v14.1), .d (L38 v14.2.1)], .agg [.d (.int .i64 v14.2.2.1), .d (.int .i64 v14.2.2.2.1), .d (.int .i64 v14.2.2.2.2.1), .d (.int .i64 v14.2.2.2.2.2)]])), (24, .b false), (27, .b true), (30, .b false)] (fun _ f => o (decide_eq_false h0) (o (valid_Parse.does h1) (o (model_Read.does h2) (o (beq_false_of_ne h3) (o (bne_iff_ne.2 h4) (o (Bool.eq_false_iff.2 h5) f)))))) (by kernel_rfl)
      · rw [if_neg h4] at h
        by_cases h5 : ((v5.2.2.1 == v14.2.2.1) && ((v5.2.2.2.1 == v14.2.2.2.1) && ((v5.2.2.2.2.1 == v14.2.2.2.2.1) && ((v5.2.2.2.2.2 == v14.2.2.2.2.2) && true)))) = true
        · rw [if_pos h5] at h
          obtain ⟨v34, h6, h⟩ := bnd h
          cases v34
          · rw [if_neg (by decide)] at h
            obtain rfl := Option.some.inj h
            exact Til.fin Tryz.func3 [(3, .b false), (5, ca (.tup [.agg [.d (.int .i64 v5.1), .d (L38 v5.2.1)], .agg [.d (.int .i64 v5.2.2.1), .d (.int .i64 v5.2.2.2.1), .d (.int .i64 v5.2.2.2.2.1), .d (.int .i64 v5.2.2.2.2.2)]])), (14, ca (.tup [.agg [.d (.int .i64 v14.1), .d (L38 v14.2.1)], .agg [.d (.int .i64 v14.2.2.1), .d (.int .i64 v14.2.2.2.1), .d (.int .i64 v14.2.2.2.2.1), .d (.int .i64 v14.2.2.2.2.2)]])), (24, .b false), (27, .b false), (30, .b true), (34, ca (.c (.d (.bool false))))] (fun _ f => o (decide_eq_false h0) (o (valid_Parse.does h1) (o (model_Read.does h2) (o (beq_false_of_ne h3) (o (ne_f h4) (o h5 (o (dendronref07_Same.does h6) f))))))) (by kernel_rfl)
          · rw [if_pos rfl] at h
            obtain ⟨v37, h8, h⟩ := bnd h
            obtain rfl := Option.some.inj h
            exact Til.fin Tryz.func3 [(3, .b false), (5, ca (.tup [.agg [.d (.int .i64 v5.1), .d (L38 v5.2.1)], .agg [.d (.int .i64 v5.2.2.1), .d (.int .i64 v5.2.2.2.1), .d (.int .i64 v5.2.2.2.2.1), .d (.int .i64 v5.2.2.2.2.2)]])), (14, ca (.tup [.agg [.d (.int .i64 v14.1), .d (L38 v14.2.1)], .agg [.d (.int .i64 v14.2.2.1), .d (.int .i64 v14.2.2.2.1), .d (.int .i64 v14.2.2.2.2.1), .d (.int .i64 v14.2.2.2.2.2)]])), (24, .b false), (27, .b false), (30, .b true), (34, ca (.c (.d (.bool true)))), (37, ca (.c (.d (.bool v37))))] (fun _ f => o (decide_eq_false h0) (o (valid_Parse.does h1) (o (model_Read.does h2) (o (beq_false_of_ne h3) (o (ne_f h4) (o h5 (o (dendronref07_Same.does h6) (o (dendronlaw08_awake.does h8) f)))))))) (by kernel_rfl)
        · rw [if_neg h5] at h
          obtain rfl := Option.some.inj h
          exact Til.fin Tryz.func3 [(3, .b false), (5, ca (.tup [.agg [.d (.int .i64 v5.1), .d (L38 v5.2.1)], .agg [.d (.int .i64 v5.2.2.1), .d (.int .i64 v5.2.2.2.1), .d (.int .i64 v5.2.2.2.2.1), .d (.int .i64 v5.2.2.2.2.2)]])), (14, ca (.tup [.agg [.d (.int .i64 v14.1), .d (L38 v14.2.1)], .agg [.d (.int .i64 v14.2.2.1), .d (.int .i64 v14.2.2.2.1), .d (.int .i64 v14.2.2.2.2.1), .d (.int .i64 v14.2.2.2.2.2)]])), (24, .b false), (27, .b false), (30, .b false)] (fun _ f => o (decide_eq_false h0) (o (valid_Parse.does h1) (o (model_Read.does h2) (o (beq_false_of_ne h3) (o (ne_f h4) (o (Bool.eq_false_iff.2 h5) f)))))) (by kernel_rfl)

end Go.DI
