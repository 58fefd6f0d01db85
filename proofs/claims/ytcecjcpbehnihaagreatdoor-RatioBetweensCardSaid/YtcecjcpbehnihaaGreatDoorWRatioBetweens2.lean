/- The code of the functions does what is told of it, part 2. No condition. -/
import Derived.Test.YtcecjcpbehnihaaGreatDoorWRatioBetweens1
set_option linter.all false
namespace Go.DI
open Go Go.RowKit Go.Proofs
set_option linter.unusedVariables false
set_option maxRecDepth 20000
def dendronlaw03_RatioBetweens.l0E (x2 : Int) (x9 : List (Bool × List Int × List Int)) (x10 : Int) (x12 : Int) (x13 : Int) (b7_0 : Bool) (b7_1 : List Int) (b7_2 : List Int) (b8_0 : Bool) (b8_1 : List Int) (b8_2 : List Int) (b11_0 : Bool) (b11_1 : List Int) (b11_2 : List Int) : Env := [(2, .c (.d (.int .i64 x2))), (7, .c (.ptr 7 0)), (8, .c (.ptr 8 0)), (9, .c (.d (L27 x9))), (10, .c (.d (.int .i64 x10))), (11, .c (.ptr 11 0)), (12, .c (.d (.int .i64 x12))), (13, .c (.d (.int .i64 x13)))]
def dendronlaw03_RatioBetweens.l0B (x2 : Int) (x9 : List (Bool × List Int × List Int)) (x10 : Int) (x12 : Int) (x13 : Int) (b7_0 : Bool) (b7_1 : List Int) (b7_2 : List Int) (b8_0 : Bool) (b8_1 : List Int) (b8_2 : List Int) (b11_0 : Bool) (b11_1 : List Int) (b11_2 : List Int) : Obs := [(7, some (.box [.d (.bool b7_0), .d (L3 b7_1), .d (L3 b7_2)])), (8, some (.box [.d (.bool b8_0), .d (L3 b8_1), .d (L3 b8_2)])), (11, some (.box [.d (.bool b11_0), .d (L3 b11_1), .d (L3 b11_2)]))]
def dendronlaw03_RatioBetweens.l1E (x2 : Int) (x9 : List (Bool × List Int × List Int)) (x10 : Int) (x12 : Int) (x15 : Int) (b7_0 : Bool) (b7_1 : List Int) (b7_2 : List Int) (b8_0 : Bool) (b8_1 : List Int) (b8_2 : List Int) : Env := [(2, .c (.d (.int .i64 x2))), (7, .c (.ptr 7 0)), (8, .c (.ptr 8 0)), (9, .c (.d (L27 x9))), (10, .c (.d (.int .i64 x10))), (12, .c (.d (.int .i64 x12))), (15, .c (.d (.int .i64 x15)))]
def dendronlaw03_RatioBetweens.l1B (x2 : Int) (x9 : List (Bool × List Int × List Int)) (x10 : Int) (x12 : Int) (x15 : Int) (b7_0 : Bool) (b7_1 : List Int) (b7_2 : List Int) (b8_0 : Bool) (b8_1 : List Int) (b8_2 : List Int) : Obs := [(7, some (.box [.d (.bool b7_0), .d (L3 b7_1), .d (L3 b7_2)])), (8, some (.box [.d (.bool b8_0), .d (L3 b8_1), .d (L3 b8_2)]))]
def dendronlaw03_RatioBetweens.l2E (x2 : Int) (x9 : List (Bool × List Int × List Int)) (x10 : Int) (x12 : Int) (x15 : Int) (b7_0 : Bool) (b7_1 : List Int) (b7_2 : List Int) (b8_0 : Bool) (b8_1 : List Int) (b8_2 : List Int) (b17_0 : Bool) (b17_1 : List Int) (b18_0 : Bool) (b18_1 : List Int) : Env := [(2, .c (.d (.int .i64 x2))), (7, .c (.ptr 7 0)), (8, .c (.ptr 8 0)), (9, .c (.d (L27 x9))), (10, .c (.d (.int .i64 x10))), (12, .c (.d (.int .i64 x12))), (15, .c (.d (.int .i64 x15))), (17, .c (.ptr 17 0)), (18, .c (.ptr 18 0))]
def dendronlaw03_RatioBetweens.l2B (x2 : Int) (x9 : List (Bool × List Int × List Int)) (x10 : Int) (x12 : Int) (x15 : Int) (b7_0 : Bool) (b7_1 : List Int) (b7_2 : List Int) (b8_0 : Bool) (b8_1 : List Int) (b8_2 : List Int) (b17_0 : Bool) (b17_1 : List Int) (b18_0 : Bool) (b18_1 : List Int) : Obs := [(7, some (.box [.d (.bool b7_0), .d (L3 b7_1), .d (L3 b7_2)])), (8, some (.box [.d (.bool b8_0), .d (L3 b8_1), .d (L3 b8_2)])), (17, some (.box [.d (.bool b17_0), .d (L3 b17_1)])), (18, some (.box [.d (.bool b18_0), .d (L3 b18_1)]))]
def dendronlaw03_RatioBetweens.j3E (x2 : Int) (x9 : List (Bool × List Int × List Int)) (x10 : Int) (x12 : Int) (x15 : Int) (x152_0 : Bool) (x152_1 : List Int) (b7_0 : Bool) (b7_1 : List Int) (b7_2 : List Int) (b8_0 : Bool) (b8_1 : List Int) (b8_2 : List Int) (b17_0 : Bool) (b17_1 : List Int) : Env := [(2, .c (.d (.int .i64 x2))), (7, .c (.ptr 7 0)), (8, .c (.ptr 8 0)), (9, .c (.d (L27 x9))), (10, .c (.d (.int .i64 x10))), (12, .c (.d (.int .i64 x12))), (15, .c (.d (.int .i64 x15))), (17, .c (.ptr 17 0)), (152, .agg [.d (.bool x152_0), .d (L3 x152_1)])]
def dendronlaw03_RatioBetweens.j3B (x2 : Int) (x9 : List (Bool × List Int × List Int)) (x10 : Int) (x12 : Int) (x15 : Int) (x152_0 : Bool) (x152_1 : List Int) (b7_0 : Bool) (b7_1 : List Int) (b7_2 : List Int) (b8_0 : Bool) (b8_1 : List Int) (b8_2 : List Int) (b17_0 : Bool) (b17_1 : List Int) : Obs := [(7, some (.box [.d (.bool b7_0), .d (L3 b7_1), .d (L3 b7_2)])), (8, some (.box [.d (.bool b8_0), .d (L3 b8_1), .d (L3 b8_2)])), (17, some (.box [.d (.bool b17_0), .d (L3 b17_1)]))]
theorem dendronlaw03_RatioBetweens.w (k : Nat) : (∀  (x2 : Int) (x9 : List (Bool × List Int × List Int)) (x10 : Int) (x12 : Int) (x13 : Int) (b7_0 : Bool) (b7_1 : List Int) (b7_2 : List Int) (b8_0 : Bool) (b8_1 : List Int) (b8_2 : List Int) (b11_0 : Bool) (b11_1 : List Int) (b11_2 : List Int) (r : Bool), dendronlaw03_RatioBetweens.l0 k x2 x9 x10 x12 x13 b7_0 b7_1 b7_2 b8_0 b8_1 b8_2 b11_0 b11_1 b11_2 = some r → Til Tryz.prog 15 [] (.c (.d (.bool r))) none [] (at_ Tryz.f15 13) (dendronlaw03_RatioBetweens.l0E x2 x9 x10 x12 x13 b7_0 b7_1 b7_2 b8_0 b8_1 b8_2 b11_0 b11_1 b11_2) (dendronlaw03_RatioBetweens.l0B x2 x9 x10 x12 x13 b7_0 b7_1 b7_2 b8_0 b8_1 b8_2 b11_0 b11_1 b11_2)) ∧
    (∀  (x2 : Int) (x9 : List (Bool × List Int × List Int)) (x10 : Int) (x12 : Int) (x15 : Int) (b7_0 : Bool) (b7_1 : List Int) (b7_2 : List Int) (b8_0 : Bool) (b8_1 : List Int) (b8_2 : List Int) (r : Bool), dendronlaw03_RatioBetweens.l1 k x2 x9 x10 x12 x15 b7_0 b7_1 b7_2 b8_0 b8_1 b8_2 = some r → Til Tryz.prog 15 [] (.c (.d (.bool r))) none [] (at_ Tryz.f15 20) (dendronlaw03_RatioBetweens.l1E x2 x9 x10 x12 x15 b7_0 b7_1 b7_2 b8_0 b8_1 b8_2) (dendronlaw03_RatioBetweens.l1B x2 x9 x10 x12 x15 b7_0 b7_1 b7_2 b8_0 b8_1 b8_2)) ∧
    (∀  (x2 : Int) (x9 : List (Bool × List Int × List Int)) (x10 : Int) (x12 : Int) (x15 : Int) (b7_0 : Bool) (b7_1 : List Int) (b7_2 : List Int) (b8_0 : Bool) (b8_1 : List Int) (b8_2 : List Int) (b17_0 : Bool) (b17_1 : List Int) (b18_0 : Bool) (b18_1 : List Int) (r : Bool), dendronlaw03_RatioBetweens.l2 k x2 x9 x10 x12 x15 b7_0 b7_1 b7_2 b8_0 b8_1 b8_2 b17_0 b17_1 b18_0 b18_1 = some r → Til Tryz.prog 15 [] (.c (.d (.bool r))) none [] (at_ Tryz.f15 25) (dendronlaw03_RatioBetweens.l2E x2 x9 x10 x12 x15 b7_0 b7_1 b7_2 b8_0 b8_1 b8_2 b17_0 b17_1 b18_0 b18_1) (dendronlaw03_RatioBetweens.l2B x2 x9 x10 x12 x15 b7_0 b7_1 b7_2 b8_0 b8_1 b8_2 b17_0 b17_1 b18_0 b18_1)) ∧
    (∀  (x2 : Int) (x9 : List (Bool × List Int × List Int)) (x10 : Int) (x12 : Int) (x15 : Int) (x152_0 : Bool) (x152_1 : List Int) (b7_0 : Bool) (b7_1 : List Int) (b7_2 : List Int) (b8_0 : Bool) (b8_1 : List Int) (b8_2 : List Int) (b17_0 : Bool) (b17_1 : List Int) (r : Bool), dendronlaw03_RatioBetweens.j3 k x2 x9 x10 x12 x15 x152_0 x152_1 b7_0 b7_1 b7_2 b8_0 b8_1 b8_2 b17_0 b17_1 = some r → Til Tryz.prog 15 [] (.c (.d (.bool r))) none [] (at_ Tryz.f15 30) (dendronlaw03_RatioBetweens.j3E x2 x9 x10 x12 x15 x152_0 x152_1 b7_0 b7_1 b7_2 b8_0 b8_1 b8_2 b17_0 b17_1) (dendronlaw03_RatioBetweens.j3B x2 x9 x10 x12 x15 x152_0 x152_1 b7_0 b7_1 b7_2 b8_0 b8_1 b8_2 b17_0 b17_1)) := by
  induction k with
  | zero =>
    exact ⟨fun _ _ _ _ _ _ _ _ _ _ _ _ _ _ _ h => (by cases h), fun _ _ _ _ _ _ _ _ _ _ _ _ h => (by cases h), fun _ _ _ _ _ _ _ _ _ _ _ _ _ _ _ _ h => (by cases h), fun _ _ _ _ _ _ _ _ _ _ _ _ _ _ _ _ h => (by cases h)⟩
  | succ k ih =>
    refine ⟨?_, ?_, ?_, ?_⟩
    · intro x2 x9 x10 x12 x13 b7_0 b7_1 b7_2 b8_0 b8_1 b8_2 b11_0 b11_1 b11_2 r h
      rw [dendronlaw03_RatioBetweens.l0] at h
      by_cases h0 : x13 < (x9.length : Int)
      · rw [if_pos h0] at h
        obtain ⟨h1, h⟩ := ifp h
        obtain ⟨v8, h2, h⟩ := bnd h
        obtain ⟨v15, h3, h⟩ := bnd h
        cases v15
        · rw [if_neg (by decide)] at h
          obtain rfl := Option.some.inj h
          exact Til.fin Tryz.func15 [(3, .b true), (8, ca (.agg [.d (.bool v8.1), .d (L3 v8.2.1), .d (L3 v8.2.2)])), (15, ca (.c (.d (.bool false))))] (fun _ f => o (decide_eq_true h0) (o (o h1 h0) (o (dendronref03_From.does h2) (o (o h1 h0) (o (dendronref03_Right.does h3) f))))) (by kernel_rfl)
        · rw [if_pos rfl] at h
          obtain ⟨v20, h5, h⟩ := bnd h
          by_cases h6 : v20 ≤ 0
          · rw [if_pos h6] at h
            obtain rfl := Option.some.inj h
            exact Til.fin Tryz.func15 [(3, .b true), (8, ca (.agg [.d (.bool v8.1), .d (L3 v8.2.1), .d (L3 v8.2.2)])), (15, ca (.c (.d (.bool true)))), (20, ca (.c (.d (.int .i64 v20)))), (21, .b true)] (fun _ f => o (decide_eq_true h0) (o (o h1 h0) (o (dendronref03_From.does h2) (o (o h1 h0) (o (dendronref03_Right.does h3) (o (dendronref03_Order.does h5) (o (decide_eq_true h6) f))))))) (by kernel_rfl)
          · rw [if_neg h6] at h
            obtain ⟨v26, h7, h⟩ := bnd h
            by_cases h8 : v26 < 0
            · rw [if_pos h8] at h
              obtain rfl := Option.some.inj h
              exact Til.fin Tryz.func15 [(3, .b true), (8, ca (.agg [.d (.bool v8.1), .d (L3 v8.2.1), .d (L3 v8.2.2)])), (15, ca (.c (.d (.bool true)))), (20, ca (.c (.d (.int .i64 v20)))), (21, .b false), (26, ca (.c (.d (.int .i64 v26)))), (27, .b true)] (fun _ f => o (decide_eq_true h0) (o (o h1 h0) (o (dendronref03_From.does h2) (o (o h1 h0) (o (dendronref03_Right.does h3) (o (dendronref03_Order.does h5) (o (decide_eq_false h6) (o (dendronref03_Order.does h7) (o (decide_eq_true h8) f))))))))) (by kernel_rfl)
            · rw [if_neg h8] at h
              obtain ⟨v32, h9, h⟩ := bnd h
              by_cases h10 : v32 > 0
              · rw [if_pos h10] at h
                obtain rfl := Option.some.inj h
                exact Til.fin Tryz.func15 [(3, .b true), (8, ca (.agg [.d (.bool v8.1), .d (L3 v8.2.1), .d (L3 v8.2.2)])), (15, ca (.c (.d (.bool true)))), (20, ca (.c (.d (.int .i64 v20)))), (21, .b false), (26, ca (.c (.d (.int .i64 v26)))), (27, .b false), (32, ca (.c (.d (.int .i64 v32)))), (33, .b true)] (fun _ f => o (decide_eq_true h0) (o (o h1 h0) (o (dendronref03_From.does h2) (o (o h1 h0) (o (dendronref03_Right.does h3) (o (dendronref03_Order.does h5) (o (decide_eq_false h6) (o (dendronref03_Order.does h7) (o (decide_eq_false h8) (o (dendronref03_Order.does h9) (o (decide_eq_true h10) f))))))))))) (by kernel_rfl)
              · rw [if_neg h10] at h
                obtain ⟨v41, h11, h⟩ := bnd h
                obtain ⟨v43, h12, h⟩ := bnd h
                obtain ⟨v44, h13, h⟩ := bnd h
                by_cases h14 : v44 > 0
                · rw [if_pos h14] at h
                  obtain rfl := Option.some.inj h
                  exact Til.fin Tryz.func15 [(3, .b true), (8, ca (.agg [.d (.bool v8.1), .d (L3 v8.2.1), .d (L3 v8.2.2)])), (15, ca (.c (.d (.bool true)))), (20, ca (.c (.d (.int .i64 v20)))), (21, .b false), (26, ca (.c (.d (.int .i64 v26)))), (27, .b false), (32, ca (.c (.d (.int .i64 v32)))), (33, .b false), (41, ca (.c (.d (L3 v41)))), (43, ca (.c (.d (L3 v43)))), (44, ca (.c (.d (.int .i64 v44)))), (45, .b true)] (fun _ f => o (decide_eq_true h0) (o (o h1 h0) (o (dendronref03_From.does h2) (o (o h1 h0) (o (dendronref03_Right.does h3) (o (dendronref03_Order.does h5) (o (decide_eq_false h6) (o (dendronref03_Order.does h7) (o (decide_eq_false h8) (o (dendronref03_Order.does h9) (o (decide_eq_false h10) (o (o h1 h0) (o (dendronref01_From.does h11) (o (dendronref01_Small.does h12) (o (dendronref01_Order.does h13) (o (decide_eq_true h14) f)))))))))))))))) (by kernel_rfl)
                · rw [if_neg h14] at h
                  exact Til.mid Tryz.func15 13 [(3, .b true), (8, ca (.agg [.d (.bool v8.1), .d (L3 v8.2.1), .d (L3 v8.2.2)])), (15, ca (.c (.d (.bool true)))), (20, ca (.c (.d (.int .i64 v20)))), (21, .b false), (26, ca (.c (.d (.int .i64 v26)))), (27, .b false), (32, ca (.c (.d (.int .i64 v32)))), (33, .b false), (41, ca (.c (.d (L3 v41)))), (43, ca (.c (.d (L3 v43)))), (44, ca (.c (.d (.int .i64 v44)))), (45, .b false)] (fun _ f => o (decide_eq_true h0) (o (o h1 h0) (o (dendronref03_From.does h2) (o (o h1 h0) (o (dendronref03_Right.does h3) (o (dendronref03_Order.does h5) (o (decide_eq_false h6) (o (dendronref03_Order.does h7) (o (decide_eq_false h8) (o (dendronref03_Order.does h9) (o (decide_eq_false h10) (o (o h1 h0) (o (dendronref01_From.does h11) (o (dendronref01_Small.does h12) (o (dendronref01_Order.does h13) (o (decide_eq_false h14) f)))))))))))))))) (by kernel_rfl) (ih.1 _ _ _ _ _ _ _ _ _ _ _ _ _ _ _ h)
      · rw [if_neg h0] at h
        exact Til.mid Tryz.func15 20 [(3, .b false)] (fun _ f => o (decide_eq_false h0) f) (by kernel_rfl) (ih.2.1 _ _ _ _ _ _ _ _ _ _ _ _ h)
    · intro x2 x9 x10 x12 x15 b7_0 b7_1 b7_2 b8_0 b8_1 b8_2 r h
      rw [dendronlaw03_RatioBetweens.l1] at h
      by_cases h0 : x15 ≤ x2
      · rw [if_pos h0] at h
        obtain ⟨v5, h1, h⟩ := bnd h
        obtain ⟨v6, h2, h⟩ := bnd h
        obtain ⟨v7, h3, h⟩ := bnd h
        obtain ⟨v8, h4, h⟩ := bnd h
        obtain ⟨v9, h5, h⟩ := bnd h
        obtain ⟨v14, h6, h⟩ := bnd h
        obtain ⟨v15, h7, h⟩ := bnd h
        obtain ⟨v16, h8, h⟩ := bnd h
        exact Til.mid Tryz.func15 25 [(2, .b true), (5, ca (.agg [.d (.bool v5.1), .d (L3 v5.2.1), .d (L3 v5.2.2)])), (6, ca (.agg [.d (.bool v6.1), .d (L3 v6.2.1), .d (L3 v6.2.2)])), (7, ca (.agg [.d (.bool v7.1), .d (L3 v7.2.1), .d (L3 v7.2.2)])), (8, ca (.agg [.d (.bool v8.1), .d (L3 v8.2)])), (9, ca (.agg [.d (.bool v9.1), .d (L3 v9.2)])), (14, ca (.agg [.d (.bool v14.1), .d (L3 v14.2.1), .d (L3 v14.2.2)])), (15, ca (.agg [.d (.bool v15.1), .d (L3 v15.2.1), .d (L3 v15.2.2)])), (16, ca (.agg [.d (.bool v16.1), .d (L3 v16.2)]))] (fun _ f => o (decide_eq_true h0) (o (dendronref03_Small.does h1) (o (dendronref03_Times.does h2) (o (dendronref03_Minus.does h3) (o (dendronref03_Floor.does h4) (o (dendronref02_Minus.does h5) (o (dendronref03_Small.does h6) (o (dendronref03_Times.does h7) (o (dendronref03_Floor.does h8) f))))))))) (by kernel_rfl) (ih.2.2.1 _ _ _ _ _ _ _ _ _ _ _ _ _ _ _ _ h)
      · rw [if_neg h0] at h
        by_cases h1 : x10 = 0
        · rw [if_pos h1] at h
          by_cases h2 : x12 = (x9.length : Int)
          · rw [if_pos h2] at h
            obtain ⟨v12, h3, h⟩ := bnd h
            obtain rfl := Option.some.inj h
            exact Til.fin Tryz.func15 [(2, .b false), (4, .b true), (9, .b true), (12, ca (.c (.d (.bool v12))))] (fun _ f => o (decide_eq_false h0) (o (beq_iff_eq.2 h1) (o (beq_iff_eq.2 h2) (o (dendronlaw03_awake.does h3) f)))) (by kernel_rfl)
          · rw [if_neg h2] at h
            obtain rfl := Option.some.inj h
            exact Til.fin Tryz.func15 [(2, .b false), (4, .b true), (9, .b false)] (fun _ f => o (decide_eq_false h0) (o (beq_iff_eq.2 h1) (o (beq_false_of_ne h2) f))) (by kernel_rfl)
        · rw [if_neg h1] at h
          obtain rfl := Option.some.inj h
          exact Til.fin Tryz.func15 [(2, .b false), (4, .b false)] (fun _ f => o (decide_eq_false h0) (o (beq_false_of_ne h1) f)) (by kernel_rfl)
    · intro x2 x9 x10 x12 x15 b7_0 b7_1 b7_2 b8_0 b8_1 b8_2 b17_0 b17_1 b18_0 b18_1 r h
      rw [dendronlaw03_RatioBetweens.l2] at h
      obtain ⟨v2, h0, h⟩ := bnd h
      by_cases h1 : v2 ≤ 0
      · rw [if_pos h1] at h
        obtain ⟨v7, h2, h⟩ := bnd h
        obtain ⟨v8, h3, h⟩ := bnd h
        obtain ⟨v9, h4, h⟩ := bnd h
        obtain ⟨v10, h5, h⟩ := bnd h
        by_cases h6 : v10 = 0
        · rw [if_pos h6] at h
          exact Til.mid Tryz.func15 30 [(2, ca (.c (.d (.int .i64 v2)))), (3, .b true), (7, ca (.c (.d (L3 v7)))), (8, ca (.c (.d (L3 v8)))), (9, ca (.c (.d (L3 v9)))), (10, ca (.c (.d (.int .i64 v10)))), (11, .b true)] (fun _ f => o (dendronref02_Order.does h0) (o (decide_eq_true h1) (o (dendronref01_Small.does h2) (o (dendronref01_Gcd.does h3) (o (dendronref01_Small.does h4) (o (dendronref01_Order.does h5) (o (beq_iff_eq.2 h6) f))))))) (by kernel_rfl) (ih.2.2.2 _ _ _ _ _ _ _ _ _ _ _ _ _ _ _ _ h)
        · rw [if_neg h6] at h
          exact Til.mid Tryz.func15 30 [(2, ca (.c (.d (.int .i64 v2)))), (3, .b true), (7, ca (.c (.d (L3 v7)))), (8, ca (.c (.d (L3 v8)))), (9, ca (.c (.d (L3 v9)))), (10, ca (.c (.d (.int .i64 v10)))), (11, .b false)] (fun _ f => o (dendronref02_Order.does h0) (o (decide_eq_true h1) (o (dendronref01_Small.does h2) (o (dendronref01_Gcd.does h3) (o (dendronref01_Small.does h4) (o (dendronref01_Order.does h5) (o (beq_false_of_ne h6) f))))))) (by kernel_rfl) (ih.2.2.2 _ _ _ _ _ _ _ _ _ _ _ _ _ _ _ _ h)
      · rw [if_neg h1] at h
        exact Til.mid Tryz.func15 20 [(2, ca (.c (.d (.int .i64 v2)))), (3, .b false)] (fun _ f => o (dendronref02_Order.does h0) (o (decide_eq_false h1) f)) (by kernel_rfl) (ih.2.1 _ _ _ _ _ _ _ _ _ _ _ _ h)
    · intro x2 x9 x10 x12 x15 x152_0 x152_1 b7_0 b7_1 b7_2 b8_0 b8_1 b8_2 b17_0 b17_1 r h
      rw [dendronlaw03_RatioBetweens.j3] at h
      obtain ⟨v3, h0, h⟩ := bnd h
      obtain ⟨v4, h1, h⟩ := bnd h
      exact Til.mid Tryz.func15 25 [(3, ca (.agg [.d (.bool v3.1), .d (L3 v3.2)])), (4, ca (.agg [.d (.bool v4.1), .d (L3 v4.2)]))] (fun _ f => o (dendronref02_Small.does h0) (o (dendronref02_Plus.does h1) f)) (by kernel_rfl) (ih.2.2.1 _ _ _ _ _ _ _ _ _ _ _ _ _ _ _ _ h)
theorem dendronlaw03_RatioBetweens.does {k : Nat} {a0_0 : Bool} {l0_1 : List Int} {l0_2 : List Int} {a1_0 : Bool} {l1_1 : List Int} {l1_2 : List Int} {a2 : Int} {r : Bool} (h : dendronlaw03_RatioBetweens.f k a0_0 l0_1 l0_2 a1_0 l1_1 l1_2 a2 = some r) :
    Does Tryz.prog 15 [.agg [.d (.bool a0_0), .d (L103 l0_1), .d (L103 l0_2)], .agg [.d (.bool a1_0), .d (L103 l1_1), .d (L103 l1_2)], .c (.d (.int .i64 a2))] [] (.c (.d (.bool r))) none [] := by
  refine does_fn Tryz.func15 (by kernel_rfl) rfl rfl ?_
  unfold dendronlaw03_RatioBetweens.f at h
  have ih := dendronlaw03_RatioBetweens.w k
  obtain ⟨v4, h0, h⟩ := bnd h
  obtain ⟨v7, h1, h⟩ := bnd h
  obtain ⟨v10, h2, h⟩ := bnd h
  obtain ⟨v14, h3, h⟩ := bnd h
  by_cases h4 : a2 > 8
  · rw [if_pos h4] at h
    by_cases h5 : a2 ≤ 64
    · rw [if_pos h5] at h
      obtain ⟨v32, h6, h⟩ := bnd h
      obtain rfl := Option.some.inj h
      exact Til.fin Tryz.func15 [(4, ca (.agg [.d (.bool v4.1), .d (L103 v4.2.1), .d (L103 v4.2.2)])), (7, ca (.agg [.d (.bool v7.1), .d (L103 v7.2.1), .d (L103 v7.2.2)])), (10, ca (.agg [.d (.bool v10.1), .d (L3 v10.2.1), .d (L3 v10.2.2)])), (14, ca (.agg [.d (.bool v14.1), .d (L3 v14.2.1), .d (L3 v14.2.2)])), (18, .b true), (21, .b true), (32, ca (.c (.d (.bool v32))))] (fun _ f => o (dendronlaw03_tiny.does h0) (o (dendronlaw03_tiny.does h1) (o (dendronref03_From.does h2) (o (dendronref03_From.does h3) (o (decide_eq_true h4) (o (decide_eq_true h5) (o (dendronlaw03_awake.does h6) f))))))) (by kernel_rfl)
    · rw [if_neg h5] at h
      obtain ⟨v26, h6, h⟩ := bnd h
      obtain ⟨v27, h7, h⟩ := bnd h
      obtain ⟨v28, h8, h⟩ := bnd h
      obtain ⟨v29, h9, h⟩ := bnd h
      by_cases h10 : v29 > 0
      · rw [if_pos h10] at h
        obtain ⟨v32, h11, h⟩ := bnd h
        obtain rfl := Option.some.inj h
        exact Til.fin Tryz.func15 [(4, ca (.agg [.d (.bool v4.1), .d (L103 v4.2.1), .d (L103 v4.2.2)])), (7, ca (.agg [.d (.bool v7.1), .d (L103 v7.2.1), .d (L103 v7.2.2)])), (10, ca (.agg [.d (.bool v10.1), .d (L3 v10.2.1), .d (L3 v10.2.2)])), (14, ca (.agg [.d (.bool v14.1), .d (L3 v14.2.1), .d (L3 v14.2.2)])), (18, .b true), (21, .b false), (26, ca (.agg [.d (.bool v26.1), .d (L3 v26.2.1), .d (L3 v26.2.2)])), (27, ca (.agg [.d (.bool v27.1), .d (L3 v27.2.1), .d (L3 v27.2.2)])), (28, ca (.agg [.d (.bool v28.1), .d (L3 v28.2.1), .d (L3 v28.2.2)])), (29, ca (.c (.d (.int .i64 v29)))), (30, .b true), (32, ca (.c (.d (.bool v32))))] (fun _ f => o (dendronlaw03_tiny.does h0) (o (dendronlaw03_tiny.does h1) (o (dendronref03_From.does h2) (o (dendronref03_From.does h3) (o (decide_eq_true h4) (o (decide_eq_false h5) (o (dendronref03_Minus.does h6) (o (dendronref03_Plus.does h7) (o (dendronref03_Small.does h8) (o (dendronref03_Order.does h9) (o (decide_eq_true h10) (o (dendronlaw03_awake.does h11) f)))))))))))) (by kernel_rfl)
      · rw [if_neg h10] at h
        obtain ⟨v35, h11, h⟩ := bnd h
        by_cases h12 : a2 < 1
        · rw [if_pos h12] at h
          by_cases h13 : (v35.1.length : Int) = 0
          · rw [if_pos h13] at h
            by_cases h14 : v35.2 = 8
            · rw [if_pos h14] at h
              obtain ⟨v55, h15, h⟩ := bnd h
              obtain rfl := Option.some.inj h
              exact Til.fin Tryz.func15 [(4, ca (.agg [.d (.bool v4.1), .d (L103 v4.2.1), .d (L103 v4.2.2)])), (7, ca (.agg [.d (.bool v7.1), .d (L103 v7.2.1), .d (L103 v7.2.2)])), (10, ca (.agg [.d (.bool v10.1), .d (L3 v10.2.1), .d (L3 v10.2.2)])), (14, ca (.agg [.d (.bool v14.1), .d (L3 v14.2.1), .d (L3 v14.2.2)])), (18, .b true), (21, .b false), (26, ca (.agg [.d (.bool v26.1), .d (L3 v26.2.1), .d (L3 v26.2.2)])), (27, ca (.agg [.d (.bool v27.1), .d (L3 v27.2.1), .d (L3 v27.2.2)])), (28, ca (.agg [.d (.bool v28.1), .d (L3 v28.2.1), .d (L3 v28.2.2)])), (29, ca (.c (.d (.int .i64 v29)))), (30, .b false), (35, ca (.tup [.c (.d (L27 v35.1)), .c (.d (.int .i64 v35.2))])), (42, .b true), (49, .b true), (52, .b true), (55, ca (.c (.d (.bool v55))))] (fun _ f => o (dendronlaw03_tiny.does h0) (o (dendronlaw03_tiny.does h1) (o (dendronref03_From.does h2) (o (dendronref03_From.does h3) (o (decide_eq_true h4) (o (decide_eq_false h5) (o (dendronref03_Minus.does h6) (o (dendronref03_Plus.does h7) (o (dendronref03_Small.does h8) (o (dendronref03_Order.does h9) (o (decide_eq_false h10) (o (ratio_Between.does h11) (o (decide_eq_true h12) (o (beq_iff_eq.2 h13) (o (beq_iff_eq.2 h14) (o (dendronlaw03_awake.does h15) f)))))))))))))))) (by kernel_rfl)
            · rw [if_neg h14] at h
              obtain rfl := Option.some.inj h
              exact Til.fin Tryz.func15 [(4, ca (.agg [.d (.bool v4.1), .d (L103 v4.2.1), .d (L103 v4.2.2)])), (7, ca (.agg [.d (.bool v7.1), .d (L103 v7.2.1), .d (L103 v7.2.2)])), (10, ca (.agg [.d (.bool v10.1), .d (L3 v10.2.1), .d (L3 v10.2.2)])), (14, ca (.agg [.d (.bool v14.1), .d (L3 v14.2.1), .d (L3 v14.2.2)])), (18, .b true), (21, .b false), (26, ca (.agg [.d (.bool v26.1), .d (L3 v26.2.1), .d (L3 v26.2.2)])), (27, ca (.agg [.d (.bool v27.1), .d (L3 v27.2.1), .d (L3 v27.2.2)])), (28, ca (.agg [.d (.bool v28.1), .d (L3 v28.2.1), .d (L3 v28.2.2)])), (29, ca (.c (.d (.int .i64 v29)))), (30, .b false), (35, ca (.tup [.c (.d (L27 v35.1)), .c (.d (.int .i64 v35.2))])), (42, .b true), (49, .b true), (52, .b false)] (fun _ f => o (dendronlaw03_tiny.does h0) (o (dendronlaw03_tiny.does h1) (o (dendronref03_From.does h2) (o (dendronref03_From.does h3) (o (decide_eq_true h4) (o (decide_eq_false h5) (o (dendronref03_Minus.does h6) (o (dendronref03_Plus.does h7) (o (dendronref03_Small.does h8) (o (dendronref03_Order.does h9) (o (decide_eq_false h10) (o (ratio_Between.does h11) (o (decide_eq_true h12) (o (beq_iff_eq.2 h13) (o (beq_false_of_ne h14) f))))))))))))))) (by kernel_rfl)
          · rw [if_neg h13] at h
            obtain rfl := Option.some.inj h
            exact Til.fin Tryz.func15 [(4, ca (.agg [.d (.bool v4.1), .d (L103 v4.2.1), .d (L103 v4.2.2)])), (7, ca (.agg [.d (.bool v7.1), .d (L103 v7.2.1), .d (L103 v7.2.2)])), (10, ca (.agg [.d (.bool v10.1), .d (L3 v10.2.1), .d (L3 v10.2.2)])), (14, ca (.agg [.d (.bool v14.1), .d (L3 v14.2.1), .d (L3 v14.2.2)])), (18, .b true), (21, .b false), (26, ca (.agg [.d (.bool v26.1), .d (L3 v26.2.1), .d (L3 v26.2.2)])), (27, ca (.agg [.d (.bool v27.1), .d (L3 v27.2.1), .d (L3 v27.2.2)])), (28, ca (.agg [.d (.bool v28.1), .d (L3 v28.2.1), .d (L3 v28.2.2)])), (29, ca (.c (.d (.int .i64 v29)))), (30, .b false), (35, ca (.tup [.c (.d (L27 v35.1)), .c (.d (.int .i64 v35.2))])), (42, .b true), (49, .b false)] (fun _ f => o (dendronlaw03_tiny.does h0) (o (dendronlaw03_tiny.does h1) (o (dendronref03_From.does h2) (o (dendronref03_From.does h3) (o (decide_eq_true h4) (o (decide_eq_false h5) (o (dendronref03_Minus.does h6) (o (dendronref03_Plus.does h7) (o (dendronref03_Small.does h8) (o (dendronref03_Order.does h9) (o (decide_eq_false h10) (o (ratio_Between.does h11) (o (decide_eq_true h12) (o (beq_false_of_ne h13) f)))))))))))))) (by kernel_rfl)
        · rw [if_neg h12] at h
          by_cases h13 : a2 > 64
          · rw [if_pos h13] at h
            by_cases h14 : (v35.1.length : Int) = 0
            · rw [if_pos h14] at h
              by_cases h15 : v35.2 = 8
              · rw [if_pos h15] at h
                obtain ⟨v55, h16, h⟩ := bnd h
                obtain rfl := Option.some.inj h
                exact Til.fin Tryz.func15 [(4, ca (.agg [.d (.bool v4.1), .d (L103 v4.2.1), .d (L103 v4.2.2)])), (7, ca (.agg [.d (.bool v7.1), .d (L103 v7.2.1), .d (L103 v7.2.2)])), (10, ca (.agg [.d (.bool v10.1), .d (L3 v10.2.1), .d (L3 v10.2.2)])), (14, ca (.agg [.d (.bool v14.1), .d (L3 v14.2.1), .d (L3 v14.2.2)])), (18, .b true), (21, .b false), (26, ca (.agg [.d (.bool v26.1), .d (L3 v26.2.1), .d (L3 v26.2.2)])), (27, ca (.agg [.d (.bool v27.1), .d (L3 v27.2.1), .d (L3 v27.2.2)])), (28, ca (.agg [.d (.bool v28.1), .d (L3 v28.2.1), .d (L3 v28.2.2)])), (29, ca (.c (.d (.int .i64 v29)))), (30, .b false), (35, ca (.tup [.c (.d (L27 v35.1)), .c (.d (.int .i64 v35.2))])), (42, .b false), (45, .b true), (49, .b true), (52, .b true), (55, ca (.c (.d (.bool v55))))] (fun _ f => o (dendronlaw03_tiny.does h0) (o (dendronlaw03_tiny.does h1) (o (dendronref03_From.does h2) (o (dendronref03_From.does h3) (o (decide_eq_true h4) (o (decide_eq_false h5) (o (dendronref03_Minus.does h6) (o (dendronref03_Plus.does h7) (o (dendronref03_Small.does h8) (o (dendronref03_Order.does h9) (o (decide_eq_false h10) (o (ratio_Between.does h11) (o (decide_eq_false h12) (o (decide_eq_true h13) (o (beq_iff_eq.2 h14) (o (beq_iff_eq.2 h15) (o (dendronlaw03_awake.does h16) f))))))))))))))))) (by kernel_rfl)
              · rw [if_neg h15] at h
                obtain rfl := Option.some.inj h
                exact Til.fin Tryz.func15 [(4, ca (.agg [.d (.bool v4.1), .d (L103 v4.2.1), .d (L103 v4.2.2)])), (7, ca (.agg [.d (.bool v7.1), .d (L103 v7.2.1), .d (L103 v7.2.2)])), (10, ca (.agg [.d (.bool v10.1), .d (L3 v10.2.1), .d (L3 v10.2.2)])), (14, ca (.agg [.d (.bool v14.1), .d (L3 v14.2.1), .d (L3 v14.2.2)])), (18, .b true), (21, .b false), (26, ca (.agg [.d (.bool v26.1), .d (L3 v26.2.1), .d (L3 v26.2.2)])), (27, ca (.agg [.d (.bool v27.1), .d (L3 v27.2.1), .d (L3 v27.2.2)])), (28, ca (.agg [.d (.bool v28.1), .d (L3 v28.2.1), .d (L3 v28.2.2)])), (29, ca (.c (.d (.int .i64 v29)))), (30, .b false), (35, ca (.tup [.c (.d (L27 v35.1)), .c (.d (.int .i64 v35.2))])), (42, .b false), (45, .b true), (49, .b true), (52, .b false)] (fun _ f => o (dendronlaw03_tiny.does h0) (o (dendronlaw03_tiny.does h1) (o (dendronref03_From.does h2) (o (dendronref03_From.does h3) (o (decide_eq_true h4) (o (decide_eq_false h5) (o (dendronref03_Minus.does h6) (o (dendronref03_Plus.does h7) (o (dendronref03_Small.does h8) (o (dendronref03_Order.does h9) (o (decide_eq_false h10) (o (ratio_Between.does h11) (o (decide_eq_false h12) (o (decide_eq_true h13) (o (beq_iff_eq.2 h14) (o (beq_false_of_ne h15) f)))))))))))))))) (by kernel_rfl)
            · rw [if_neg h14] at h
              obtain rfl := Option.some.inj h
              exact Til.fin Tryz.func15 [(4, ca (.agg [.d (.bool v4.1), .d (L103 v4.2.1), .d (L103 v4.2.2)])), (7, ca (.agg [.d (.bool v7.1), .d (L103 v7.2.1), .d (L103 v7.2.2)])), (10, ca (.agg [.d (.bool v10.1), .d (L3 v10.2.1), .d (L3 v10.2.2)])), (14, ca (.agg [.d (.bool v14.1), .d (L3 v14.2.1), .d (L3 v14.2.2)])), (18, .b true), (21, .b false), (26, ca (.agg [.d (.bool v26.1), .d (L3 v26.2.1), .d (L3 v26.2.2)])), (27, ca (.agg [.d (.bool v27.1), .d (L3 v27.2.1), .d (L3 v27.2.2)])), (28, ca (.agg [.d (.bool v28.1), .d (L3 v28.2.1), .d (L3 v28.2.2)])), (29, ca (.c (.d (.int .i64 v29)))), (30, .b false), (35, ca (.tup [.c (.d (L27 v35.1)), .c (.d (.int .i64 v35.2))])), (42, .b false), (45, .b true), (49, .b false)] (fun _ f => o (dendronlaw03_tiny.does h0) (o (dendronlaw03_tiny.does h1) (o (dendronref03_From.does h2) (o (dendronref03_From.does h3) (o (decide_eq_true h4) (o (decide_eq_false h5) (o (dendronref03_Minus.does h6) (o (dendronref03_Plus.does h7) (o (dendronref03_Small.does h8) (o (dendronref03_Order.does h9) (o (decide_eq_false h10) (o (ratio_Between.does h11) (o (decide_eq_false h12) (o (decide_eq_true h13) (o (beq_false_of_ne h14) f))))))))))))))) (by kernel_rfl)
          · rw [if_neg h13] at h
            obtain ⟨v48, h14, h⟩ := bnd h
            obtain ⟨v49, h15, h⟩ := bnd h
            exact Til.mid Tryz.func15 13 [(4, ca (.agg [.d (.bool v4.1), .d (L103 v4.2.1), .d (L103 v4.2.2)])), (7, ca (.agg [.d (.bool v7.1), .d (L103 v7.2.1), .d (L103 v7.2.2)])), (10, ca (.agg [.d (.bool v10.1), .d (L3 v10.2.1), .d (L3 v10.2.2)])), (14, ca (.agg [.d (.bool v14.1), .d (L3 v14.2.1), .d (L3 v14.2.2)])), (18, .b true), (21, .b false), (26, ca (.agg [.d (.bool v26.1), .d (L3 v26.2.1), .d (L3 v26.2.2)])), (27, ca (.agg [.d (.bool v27.1), .d (L3 v27.2.1), .d (L3 v27.2.2)])), (28, ca (.agg [.d (.bool v28.1), .d (L3 v28.2.1), .d (L3 v28.2.2)])), (29, ca (.c (.d (.int .i64 v29)))), (30, .b false), (35, ca (.tup [.c (.d (L27 v35.1)), .c (.d (.int .i64 v35.2))])), (42, .b false), (45, .b false), (48, ca (.agg [.d (.bool v48.1), .d (L3 v48.2.1), .d (L3 v48.2.2)])), (49, ca (.agg [.d (.bool v49.1), .d (L3 v49.2.1), .d (L3 v49.2.2)]))] (fun _ f => o (dendronlaw03_tiny.does h0) (o (dendronlaw03_tiny.does h1) (o (dendronref03_From.does h2) (o (dendronref03_From.does h3) (o (decide_eq_true h4) (o (decide_eq_false h5) (o (dendronref03_Minus.does h6) (o (dendronref03_Plus.does h7) (o (dendronref03_Small.does h8) (o (dendronref03_Order.does h9) (o (decide_eq_false h10) (o (ratio_Between.does h11) (o (decide_eq_false h12) (o (decide_eq_false h13) (o (dendronref03_Small.does h14) (o (dendronref03_Plus.does h15) f)))))))))))))))) (by kernel_rfl) (ih.1 _ _ _ _ _ _ _ _ _ _ _ _ _ _ _ h)
  · rw [if_neg h4] at h
    obtain ⟨v26, h5, h⟩ := bnd h
    obtain ⟨v27, h6, h⟩ := bnd h
    obtain ⟨v28, h7, h⟩ := bnd h
    obtain ⟨v29, h8, h⟩ := bnd h
    by_cases h9 : v29 > 0
    · rw [if_pos h9] at h
      obtain ⟨v32, h10, h⟩ := bnd h
      obtain rfl := Option.some.inj h
      exact Til.fin Tryz.func15 [(4, ca (.agg [.d (.bool v4.1), .d (L103 v4.2.1), .d (L103 v4.2.2)])), (7, ca (.agg [.d (.bool v7.1), .d (L103 v7.2.1), .d (L103 v7.2.2)])), (10, ca (.agg [.d (.bool v10.1), .d (L3 v10.2.1), .d (L3 v10.2.2)])), (14, ca (.agg [.d (.bool v14.1), .d (L3 v14.2.1), .d (L3 v14.2.2)])), (18, .b false), (26, ca (.agg [.d (.bool v26.1), .d (L3 v26.2.1), .d (L3 v26.2.2)])), (27, ca (.agg [.d (.bool v27.1), .d (L3 v27.2.1), .d (L3 v27.2.2)])), (28, ca (.agg [.d (.bool v28.1), .d (L3 v28.2.1), .d (L3 v28.2.2)])), (29, ca (.c (.d (.int .i64 v29)))), (30, .b true), (32, ca (.c (.d (.bool v32))))] (fun _ f => o (dendronlaw03_tiny.does h0) (o (dendronlaw03_tiny.does h1) (o (dendronref03_From.does h2) (o (dendronref03_From.does h3) (o (decide_eq_false h4) (o (dendronref03_Minus.does h5) (o (dendronref03_Plus.does h6) (o (dendronref03_Small.does h7) (o (dendronref03_Order.does h8) (o (decide_eq_true h9) (o (dendronlaw03_awake.does h10) f))))))))))) (by kernel_rfl)
    · rw [if_neg h9] at h
      obtain ⟨v35, h10, h⟩ := bnd h
      by_cases h11 : a2 < 1
      · rw [if_pos h11] at h
        by_cases h12 : (v35.1.length : Int) = 0
        · rw [if_pos h12] at h
          by_cases h13 : v35.2 = 8
          · rw [if_pos h13] at h
            obtain ⟨v55, h14, h⟩ := bnd h
            obtain rfl := Option.some.inj h
            exact Til.fin Tryz.func15 [(4, ca (.agg [.d (.bool v4.1), .d (L103 v4.2.1), .d (L103 v4.2.2)])), (7, ca (.agg [.d (.bool v7.1), .d (L103 v7.2.1), .d (L103 v7.2.2)])), (10, ca (.agg [.d (.bool v10.1), .d (L3 v10.2.1), .d (L3 v10.2.2)])), (14, ca (.agg [.d (.bool v14.1), .d (L3 v14.2.1), .d (L3 v14.2.2)])), (18, .b false), (26, ca (.agg [.d (.bool v26.1), .d (L3 v26.2.1), .d (L3 v26.2.2)])), (27, ca (.agg [.d (.bool v27.1), .d (L3 v27.2.1), .d (L3 v27.2.2)])), (28, ca (.agg [.d (.bool v28.1), .d (L3 v28.2.1), .d (L3 v28.2.2)])), (29, ca (.c (.d (.int .i64 v29)))), (30, .b false), (35, ca (.tup [.c (.d (L27 v35.1)), .c (.d (.int .i64 v35.2))])), (42, .b true), (49, .b true), (52, .b true), (55, ca (.c (.d (.bool v55))))] (fun _ f => o (dendronlaw03_tiny.does h0) (o (dendronlaw03_tiny.does h1) (o (dendronref03_From.does h2) (o (dendronref03_From.does h3) (o (decide_eq_false h4) (o (dendronref03_Minus.does h5) (o (dendronref03_Plus.does h6) (o (dendronref03_Small.does h7) (o (dendronref03_Order.does h8) (o (decide_eq_false h9) (o (ratio_Between.does h10) (o (decide_eq_true h11) (o (beq_iff_eq.2 h12) (o (beq_iff_eq.2 h13) (o (dendronlaw03_awake.does h14) f))))))))))))))) (by kernel_rfl)
          · rw [if_neg h13] at h
            obtain rfl := Option.some.inj h
            exact Til.fin Tryz.func15 [(4, ca (.agg [.d (.bool v4.1), .d (L103 v4.2.1), .d (L103 v4.2.2)])), (7, ca (.agg [.d (.bool v7.1), .d (L103 v7.2.1), .d (L103 v7.2.2)])), (10, ca (.agg [.d (.bool v10.1), .d (L3 v10.2.1), .d (L3 v10.2.2)])), (14, ca (.agg [.d (.bool v14.1), .d (L3 v14.2.1), .d (L3 v14.2.2)])), (18, .b false), (26, ca (.agg [.d (.bool v26.1), .d (L3 v26.2.1), .d (L3 v26.2.2)])), (27, ca (.agg [.d (.bool v27.1), .d (L3 v27.2.1), .d (L3 v27.2.2)])), (28, ca (.agg [.d (.bool v28.1), .d (L3 v28.2.1), .d (L3 v28.2.2)])), (29, ca (.c (.d (.int .i64 v29)))), (30, .b false), (35, ca (.tup [.c (.d (L27 v35.1)), .c (.d (.int .i64 v35.2))])), (42, .b true), (49, .b true), (52, .b false)] (fun _ f => o (dendronlaw03_tiny.does h0) (o (dendronlaw03_tiny.does h1) (o (dendronref03_From.does h2) (o (dendronref03_From.does h3) (o (decide_eq_false h4) (o (dendronref03_Minus.does h5) (o (dendronref03_Plus.does h6) (o (dendronref03_Small.does h7) (o (dendronref03_Order.does h8) (o (decide_eq_false h9) (o (ratio_Between.does h10) (o (decide_eq_true h11) (o (beq_iff_eq.2 h12) (o (beq_false_of_ne h13) f)))))))))))))) (by kernel_rfl)
        · rw [if_neg h12] at h
          obtain rfl := Option.some.inj h
          exact Til.fin Tryz.func15 [(4, ca (.agg [.d (.bool v4.1), .d (L103 v4.2.1), .d (L103 v4.2.2)])), (7, ca (.agg [.d (.bool v7.1), .d (L103 v7.2.1), .d (L103 v7.2.2)])), (10, ca (.agg [.d (.bool v10.1), .d (L3 v10.2.1), .d (L3 v10.2.2)])), (14, ca (.agg [.d (.bool v14.1), .d (L3 v14.2.1), .d (L3 v14.2.2)])), (18, .b false), (26, ca (.agg [.d (.bool v26.1), .d (L3 v26.2.1), .d (L3 v26.2.2)])), (27, ca (.agg [.d (.bool v27.1), .d (L3 v27.2.1), .d (L3 v27.2.2)])), (28, ca (.agg [.d (.bool v28.1), .d (L3 v28.2.1), .d (L3 v28.2.2)])), (29, ca (.c (.d (.int .i64 v29)))), (30, .b false), (35, ca (.tup [.c (.d (L27 v35.1)), .c (.d (.int .i64 v35.2))])), (42, .b true), (49, .b false)] (fun _ f => o (dendronlaw03_tiny.does h0) (o (dendronlaw03_tiny.does h1) (o (dendronref03_From.does h2) (o (dendronref03_From.does h3) (o (decide_eq_false h4) (o (dendronref03_Minus.does h5) (o (dendronref03_Plus.does h6) (o (dendronref03_Small.does h7) (o (dendronref03_Order.does h8) (o (decide_eq_false h9) (o (ratio_Between.does h10) (o (decide_eq_true h11) (o (beq_false_of_ne h12) f))))))))))))) (by kernel_rfl)
      · rw [if_neg h11] at h
        by_cases h12 : a2 > 64
        · rw [if_pos h12] at h
          by_cases h13 : (v35.1.length : Int) = 0
          · rw [if_pos h13] at h
            by_cases h14 : v35.2 = 8
            · rw [if_pos h14] at h
              obtain ⟨v55, h15, h⟩ := bnd h
              obtain rfl := Option.some.inj h
              exact Til.fin Tryz.func15 [(4, ca (.agg [.d (.bool v4.1), .d (L103 v4.2.1), .d (L103 v4.2.2)])), (7, ca (.agg [.d (.bool v7.1), .d (L103 v7.2.1), .d (L103 v7.2.2)])), (10, ca (.agg [.d (.bool v10.1), .d (L3 v10.2.1), .d (L3 v10.2.2)])), (14, ca (.agg [.d (.bool v14.1), .d (L3 v14.2.1), .d (L3 v14.2.2)])), (18, .b false), (26, ca (.agg [.d (.bool v26.1), .d (L3 v26.2.1), .d (L3 v26.2.2)])), (27, ca (.agg [.d (.bool v27.1), .d (L3 v27.2.1), .d (L3 v27.2.2)])), (28, ca (.agg [.d (.bool v28.1), .d (L3 v28.2.1), .d (L3 v28.2.2)])), (29, ca (.c (.d (.int .i64 v29)))), (30, .b false), (35, ca (.tup [.c (.d (L27 v35.1)), .c (.d (.int .i64 v35.2))])), (42, .b false), (45, .b true), (49, .b true), (52, .b true), (55, ca (.c (.d (.bool v55))))] (fun _ f => o (dendronlaw03_tiny.does h0) (o (dendronlaw03_tiny.does h1) (o (dendronref03_From.does h2) (o (dendronref03_From.does h3) (o (decide_eq_false h4) (o (dendronref03_Minus.does h5) (o (dendronref03_Plus.does h6) (o (dendronref03_Small.does h7) (o (dendronref03_Order.does h8) (o (decide_eq_false h9) (o (ratio_Between.does h10) (o (decide_eq_false h11) (o (decide_eq_true h12) (o (beq_iff_eq.2 h13) (o (beq_iff_eq.2 h14) (o (dendronlaw03_awake.does h15) f)))))))))))))))) (by kernel_rfl)
            · rw [if_neg h14] at h
              obtain rfl := Option.some.inj h
              exact Til.fin Tryz.func15 [(4, ca (.agg [.d (.bool v4.1), .d (L103 v4.2.1), .d (L103 v4.2.2)])), (7, ca (.agg [.d (.bool v7.1), .d (L103 v7.2.1), .d (L103 v7.2.2)])), (10, ca (.agg [.d (.bool v10.1), .d (L3 v10.2.1), .d (L3 v10.2.2)])), (14, ca (.agg [.d (.bool v14.1), .d (L3 v14.2.1), .d (L3 v14.2.2)])), (18, .b false), (26, ca (.agg [.d (.bool v26.1), .d (L3 v26.2.1), .d (L3 v26.2.2)])), (27, ca (.agg [.d (.bool v27.1), .d (L3 v27.2.1), .d (L3 v27.2.2)])), (28, ca (.agg [.d (.bool v28.1), .d (L3 v28.2.1), .d (L3 v28.2.2)])), (29, ca (.c (.d (.int .i64 v29)))), (30, .b false), (35, ca (.tup [.c (.d (L27 v35.1)), .c (.d (.int .i64 v35.2))])), (42, .b false), (45, .b true), (49, .b true), (52, .b false)] (fun _ f => o (dendronlaw03_tiny.does h0) (o (dendronlaw03_tiny.does h1) (o (dendronref03_From.does h2) (o (dendronref03_From.does h3) (o (decide_eq_false h4) (o (dendronref03_Minus.does h5) (o (dendronref03_Plus.does h6) (o (dendronref03_Small.does h7) (o (dendronref03_Order.does h8) (o (decide_eq_false h9) (o (ratio_Between.does h10) (o (decide_eq_false h11) (o (decide_eq_true h12) (o (beq_iff_eq.2 h13) (o (beq_false_of_ne h14) f))))))))))))))) (by kernel_rfl)
          · rw [if_neg h13] at h
            obtain rfl := Option.some.inj h
            exact Til.fin Tryz.func15 [(4, ca (.agg [.d (.bool v4.1), .d (L103 v4.2.1), .d (L103 v4.2.2)])), (7, ca (.agg [.d (.bool v7.1), .d (L103 v7.2.1), .d (L103 v7.2.2)])), (10, ca (.agg [.d (.bool v10.1), .d (L3 v10.2.1), .d (L3 v10.2.2)])), (14, ca (.agg [.d (.bool v14.1), .d (L3 v14.2.1), .d (L3 v14.2.2)])), (18, .b false), (26, ca (.agg [.d (.bool v26.1), .d (L3 v26.2.1), .d (L3 v26.2.2)])), (27, ca (.agg [.d (.bool v27.1), .d (L3 v27.2.1), .d (L3 v27.2.2)])), (28, ca (.agg [.d (.bool v28.1), .d (L3 v28.2.1), .d (L3 v28.2.2)])), (29, ca (.c (.d (.int .i64 v29)))), (30, .b false), (35, ca (.tup [.c (.d (L27 v35.1)), .c (.d (.int .i64 v35.2))])), (42, .b false), (45, .b true), (49, .b false)] (fun _ f => o (dendronlaw03_tiny.does h0) (o (dendronlaw03_tiny.does h1) (o (dendronref03_From.does h2) (o (dendronref03_From.does h3) (o (decide_eq_false h4) (o (dendronref03_Minus.does h5) (o (dendronref03_Plus.does h6) (o (dendronref03_Small.does h7) (o (dendronref03_Order.does h8) (o (decide_eq_false h9) (o (ratio_Between.does h10) (o (decide_eq_false h11) (o (decide_eq_true h12) (o (beq_false_of_ne h13) f)))))))))))))) (by kernel_rfl)
        · rw [if_neg h12] at h
          obtain ⟨v48, h13, h⟩ := bnd h
          obtain ⟨v49, h14, h⟩ := bnd h
          exact Til.mid Tryz.func15 13 [(4, ca (.agg [.d (.bool v4.1), .d (L103 v4.2.1), .d (L103 v4.2.2)])), (7, ca (.agg [.d (.bool v7.1), .d (L103 v7.2.1), .d (L103 v7.2.2)])), (10, ca (.agg [.d (.bool v10.1), .d (L3 v10.2.1), .d (L3 v10.2.2)])), (14, ca (.agg [.d (.bool v14.1), .d (L3 v14.2.1), .d (L3 v14.2.2)])), (18, .b false), (26, ca (.agg [.d (.bool v26.1), .d (L3 v26.2.1), .d (L3 v26.2.2)])), (27, ca (.agg [.d (.bool v27.1), .d (L3 v27.2.1), .d (L3 v27.2.2)])), (28, ca (.agg [.d (.bool v28.1), .d (L3 v28.2.1), .d (L3 v28.2.2)])), (29, ca (.c (.d (.int .i64 v29)))), (30, .b false), (35, ca (.tup [.c (.d (L27 v35.1)), .c (.d (.int .i64 v35.2))])), (42, .b false), (45, .b false), (48, ca (.agg [.d (.bool v48.1), .d (L3 v48.2.1), .d (L3 v48.2.2)])), (49, ca (.agg [.d (.bool v49.1), .d (L3 v49.2.1), .d (L3 v49.2.2)]))] (fun _ f => o (dendronlaw03_tiny.does h0) (o (dendronlaw03_tiny.does h1) (o (dendronref03_From.does h2) (o (dendronref03_From.does h3) (o (decide_eq_false h4) (o (dendronref03_Minus.does h5) (o (dendronref03_Plus.does h6) (o (dendronref03_Small.does h7) (o (dendronref03_Order.does h8) (o (decide_eq_false h9) (o (ratio_Between.does h10) (o (decide_eq_false h11) (o (decide_eq_false h12) (o (dendronref03_Small.does h13) (o (dendronref03_Plus.does h14) f))))))))))))))) (by kernel_rfl) (ih.1 _ _ _ _ _ _ _ _ _ _ _ _ _ _ _ h)

def c25 (x : Bool × List Int) : List Dat := [.bool x.1, L103 x.2]
def L25 (xs : List (Bool × List Int)) : Dat := fr 2 c25 (false, []) xs
def Z25 (xs : List (Bool × List Int)) : Sup := .r xs.length (enc c25 (false, []) xs)
def O25 (k : RK) (xs : List (Bool × List Int)) : Ob := .row k 25 2 xs.length (enc c25 (false, []) xs)

def c4 (x : Bool) : List Dat := [.bool x]
def L4 (xs : List Bool) : Dat := fr 1 c4 false xs
def Z4 (xs : List Bool) : Sup := .r xs.length (enc c4 false xs)
def O4 (k : RK) (xs : List Bool) : Ob := .row k 4 1 xs.length (enc c4 false xs)

def c23 (x : List Int) : List Dat := [L103 x]
def L23 (xs : List (List Int)) : Dat := fr 1 c23 [] xs
def Z23 (xs : List (List Int)) : Sup := .r xs.length (enc c23 [] xs)
def O23 (k : RK) (xs : List (List Int)) : Ob := .row k 23 1 xs.length (enc c23 [] xs)

end Go.DI
