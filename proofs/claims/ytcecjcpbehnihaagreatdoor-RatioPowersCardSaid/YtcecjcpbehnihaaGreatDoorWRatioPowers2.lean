/- The code of the functions does what is told of it, part 2. No condition. -/
import Derived.Test.YtcecjcpbehnihaaGreatDoorWRatioPowers1
set_option linter.all false
namespace Go.DI
open Go Go.RowKit Go.Proofs
set_option linter.unusedVariables false
set_option maxRecDepth 20000
def dendronlaw03_RatioPowers.l0E (x1 : Int) (x6 : Int) (x9 : Int) (b5_0 : Bool) (b5_1 : List Int) (b5_2 : List Int) (b7_0 : Bool) (b7_1 : List Int) (b7_2 : List Int) (b8_0 : Bool) (b8_1 : List Int) (b8_2 : List Int) : Env := [(1, .c (.d (.int .i64 x1))), (5, .c (.ptr 5 0)), (6, .c (.d (.int .i64 x6))), (7, .c (.ptr 7 0)), (8, .c (.ptr 8 0)), (9, .c (.d (.int .i64 x9)))]
def dendronlaw03_RatioPowers.l0B (x1 : Int) (x6 : Int) (x9 : Int) (b5_0 : Bool) (b5_1 : List Int) (b5_2 : List Int) (b7_0 : Bool) (b7_1 : List Int) (b7_2 : List Int) (b8_0 : Bool) (b8_1 : List Int) (b8_2 : List Int) : Obs := [(5, some (.box [.d (.bool b5_0), .d (L103 b5_1), .d (L103 b5_2)])), (7, some (.box [.d (.bool b7_0), .d (L3 b7_1), .d (L3 b7_2)])), (8, some (.box [.d (.bool b8_0), .d (L3 b8_1), .d (L3 b8_2)]))]
theorem dendronlaw03_RatioPowers.w (k : Nat) : (∀  (x1 : Int) (x6 : Int) (x9 : Int) (b5_0 : Bool) (b5_1 : List Int) (b5_2 : List Int) (b7_0 : Bool) (b7_1 : List Int) (b7_2 : List Int) (b8_0 : Bool) (b8_1 : List Int) (b8_2 : List Int) (r : Bool), dendronlaw03_RatioPowers.l0 k x1 x6 x9 b5_0 b5_1 b5_2 b7_0 b7_1 b7_2 b8_0 b8_1 b8_2 = some r → Til Tryz.prog 16 [] (.c (.d (.bool r))) none [] (at_ Tryz.f16 15) (dendronlaw03_RatioPowers.l0E x1 x6 x9 b5_0 b5_1 b5_2 b7_0 b7_1 b7_2 b8_0 b8_1 b8_2) (dendronlaw03_RatioPowers.l0B x1 x6 x9 b5_0 b5_1 b5_2 b7_0 b7_1 b7_2 b8_0 b8_1 b8_2)) := by
  induction k with
  | zero =>
    exact fun _ _ _ _ _ _ _ _ _ _ _ _ _ h => (by cases h)
  | succ k ih =>
    intro x1 x6 x9 b5_0 b5_1 b5_2 b7_0 b7_1 b7_2 b8_0 b8_1 b8_2 r h
    rw [dendronlaw03_RatioPowers.l0] at h
    by_cases h0 : x9 < x1
    · rw [if_pos h0] at h
      obtain ⟨v5, h1, h⟩ := bnd h
      exact Til.mid Tryz.func16 15 [(2, .b true), (5, ca (.agg [.d (.bool v5.1), .d (L3 v5.2.1), .d (L3 v5.2.2)]))] (fun _ f => o (decide_eq_true h0) (o (dendronref03_Times.does h1) f)) (by kernel_rfl) (ih _ _ _ _ _ _ _ _ _ _ _ _ _ h)
    · rw [if_neg h0] at h
      by_cases h1 : x6 = 0
      · rw [if_pos h1] at h
        obtain ⟨v8, h2, h⟩ := bnd h
        cases v8
        · rw [if_neg (by decide)] at h
          obtain rfl := Option.some.inj h
          exact Til.fin Tryz.func16 [(2, .b false), (4, .b true), (8, ca (.c (.d (.bool false))))] (fun _ f => o (decide_eq_false h0) (o (beq_iff_eq.2 h1) (o (dendronref03_Is.does h2) f))) (by kernel_rfl)
        · rw [if_pos rfl] at h
          obtain ⟨v11, h4, h⟩ := bnd h
          obtain rfl := Option.some.inj h
          exact Til.fin Tryz.func16 [(2, .b false), (4, .b true), (8, ca (.c (.d (.bool true)))), (11, ca (.c (.d (.bool v11))))] (fun _ f => o (decide_eq_false h0) (o (beq_iff_eq.2 h1) (o (dendronref03_Is.does h2) (o (dendronlaw03_awake.does h4) f)))) (by kernel_rfl)
      · rw [if_neg h1] at h
        obtain rfl := Option.some.inj h
        exact Til.fin Tryz.func16 [(2, .b false), (4, .b false)] (fun _ f => o (decide_eq_false h0) (o (beq_false_of_ne h1) f)) (by kernel_rfl)
theorem dendronlaw03_RatioPowers.does {k : Nat} {a0_0 : Bool} {l0_1 : List Int} {l0_2 : List Int} {a1 : Int} {r : Bool} (h : dendronlaw03_RatioPowers.f k a0_0 l0_1 l0_2 a1 = some r) :
    Does Tryz.prog 16 [.agg [.d (.bool a0_0), .d (L103 l0_1), .d (L103 l0_2)], .c (.d (.int .i64 a1))] [] (.c (.d (.bool r))) none [] := by
  refine does_fn Tryz.func16 (by kernel_rfl) rfl rfl ?_
  unfold dendronlaw03_RatioPowers.f at h
  have ih := dendronlaw03_RatioPowers.w k
  obtain ⟨v3, h0, h⟩ := bnd h
  by_cases h1 : a1 < (-12)
  · rw [if_pos h1] at h
    by_cases h2 : a1 ≥ (-4096)
    · rw [if_pos h2] at h
      by_cases h3 : a1 ≤ 4096
      · rw [if_pos h3] at h
        obtain ⟨v19, h4, h⟩ := bnd h
        obtain rfl := Option.some.inj h
        exact Til.fin Tryz.func16 [(3, ca (.agg [.d (.bool v3.1), .d (L103 v3.2.1), .d (L103 v3.2.2)])), (6, .b true), (13, .b true), (17, .b true), (19, ca (.c (.d (.bool v19))))] (fun _ f => o (dendronlaw03_tiny.does h0) (o (decide_eq_true h1) (o (decide_eq_true h2) (o (decide_eq_true h3) (o (dendronlaw03_awake.does h4) f))))) (by kernel_rfl)
      · rw [if_neg h3] at h
        obtain ⟨v21, h4, h⟩ := bnd h
        obtain ⟨v29, h5, h⟩ := bnd h
        by_cases h6 : a1 < (-4096)
        · rw [if_pos h6] at h
          obtain ⟨v39, h7, h⟩ := bnd h
          cases v39
          · rw [if_neg (by decide)] at h
            obtain rfl := Option.some.inj h
            exact Til.fin Tryz.func16 [(3, ca (.agg [.d (.bool v3.1), .d (L103 v3.2.1), .d (L103 v3.2.2)])), (6, .b true), (13, .b true), (17, .b false), (21, ca (.tup [.agg [.d (.bool v21.1), .d (L103 v21.2.1), .d (L103 v21.2.2.1)], .c (.d (.int .i64 v21.2.2.2))])), (29, ca (.agg [.d (.bool v29.1), .d (L3 v29.2.1), .d (L3 v29.2.2)])), (33, .b true), (39, ca (.c (.d (.bool false))))] (fun _ f => o (dendronlaw03_tiny.does h0) (o (decide_eq_true h1) (o (decide_eq_true h2) (o (decide_eq_false h3) (o (ratio_Pow.does h4) (o (dendronref03_From.does h5) (o (decide_eq_true h6) (o (dendronref03_None.does h7) f)))))))) (by kernel_rfl)
          · rw [if_pos rfl] at h
            by_cases h9 : v21.2.2.2 = 8
            · rw [if_pos h9] at h
              obtain ⟨v45, h10, h⟩ := bnd h
              obtain rfl := Option.some.inj h
              exact Til.fin Tryz.func16 [(3, ca (.agg [.d (.bool v3.1), .d (L103 v3.2.1), .d (L103 v3.2.2)])), (6, .b true), (13, .b true), (17, .b false), (21, ca (.tup [.agg [.d (.bool v21.1), .d (L103 v21.2.1), .d (L103 v21.2.2.1)], .c (.d (.int .i64 v21.2.2.2))])), (29, ca (.agg [.d (.bool v29.1), .d (L3 v29.2.1), .d (L3 v29.2.2)])), (33, .b true), (39, ca (.c (.d (.bool true)))), (42, .b true), (45, ca (.c (.d (.bool v45))))] (fun _ f => o (dendronlaw03_tiny.does h0) (o (decide_eq_true h1) (o (decide_eq_true h2) (o (decide_eq_false h3) (o (ratio_Pow.does h4) (o (dendronref03_From.does h5) (o (decide_eq_true h6) (o (dendronref03_None.does h7) (o (beq_iff_eq.2 h9) (o (dendronlaw03_awake.does h10) f)))))))))) (by kernel_rfl)
            · rw [if_neg h9] at h
              obtain rfl := Option.some.inj h
              exact Til.fin Tryz.func16 [(3, ca (.agg [.d (.bool v3.1), .d (L103 v3.2.1), .d (L103 v3.2.2)])), (6, .b true), (13, .b true), (17, .b false), (21, ca (.tup [.agg [.d (.bool v21.1), .d (L103 v21.2.1), .d (L103 v21.2.2.1)], .c (.d (.int .i64 v21.2.2.2))])), (29, ca (.agg [.d (.bool v29.1), .d (L3 v29.2.1), .d (L3 v29.2.2)])), (33, .b true), (39, ca (.c (.d (.bool true)))), (42, .b false)] (fun _ f => o (dendronlaw03_tiny.does h0) (o (decide_eq_true h1) (o (decide_eq_true h2) (o (decide_eq_false h3) (o (ratio_Pow.does h4) (o (dendronref03_From.does h5) (o (decide_eq_true h6) (o (dendronref03_None.does h7) (o (beq_false_of_ne h9) f))))))))) (by kernel_rfl)
        · rw [if_neg h6] at h
          by_cases h7 : a1 > 4096
          · rw [if_pos h7] at h
            obtain ⟨v39, h8, h⟩ := bnd h
            cases v39
            · rw [if_neg (by decide)] at h
              obtain rfl := Option.some.inj h
              exact Til.fin Tryz.func16 [(3, ca (.agg [.d (.bool v3.1), .d (L103 v3.2.1), .d (L103 v3.2.2)])), (6, .b true), (13, .b true), (17, .b false), (21, ca (.tup [.agg [.d (.bool v21.1), .d (L103 v21.2.1), .d (L103 v21.2.2.1)], .c (.d (.int .i64 v21.2.2.2))])), (29, ca (.agg [.d (.bool v29.1), .d (L3 v29.2.1), .d (L3 v29.2.2)])), (33, .b false), (36, .b true), (39, ca (.c (.d (.bool false))))] (fun _ f => o (dendronlaw03_tiny.does h0) (o (decide_eq_true h1) (o (decide_eq_true h2) (o (decide_eq_false h3) (o (ratio_Pow.does h4) (o (dendronref03_From.does h5) (o (decide_eq_false h6) (o (decide_eq_true h7) (o (dendronref03_None.does h8) f))))))))) (by kernel_rfl)
            · rw [if_pos rfl] at h
              by_cases h10 : v21.2.2.2 = 8
              · rw [if_pos h10] at h
                obtain ⟨v45, h11, h⟩ := bnd h
                obtain rfl := Option.some.inj h
                exact Til.fin Tryz.func16 [(3, ca (.agg [.d (.bool v3.1), .d (L103 v3.2.1), .d (L103 v3.2.2)])), (6, .b true), (13, .b true), (17, .b false), (21, ca (.tup [.agg [.d (.bool v21.1), .d (L103 v21.2.1), .d (L103 v21.2.2.1)], .c (.d (.int .i64 v21.2.2.2))])), (29, ca (.agg [.d (.bool v29.1), .d (L3 v29.2.1), .d (L3 v29.2.2)])), (33, .b false), (36, .b true), (39, ca (.c (.d (.bool true)))), (42, .b true), (45, ca (.c (.d (.bool v45))))] (fun _ f => o (dendronlaw03_tiny.does h0) (o (decide_eq_true h1) (o (decide_eq_true h2) (o (decide_eq_false h3) (o (ratio_Pow.does h4) (o (dendronref03_From.does h5) (o (decide_eq_false h6) (o (decide_eq_true h7) (o (dendronref03_None.does h8) (o (beq_iff_eq.2 h10) (o (dendronlaw03_awake.does h11) f))))))))))) (by kernel_rfl)
              · rw [if_neg h10] at h
                obtain rfl := Option.some.inj h
                exact Til.fin Tryz.func16 [(3, ca (.agg [.d (.bool v3.1), .d (L103 v3.2.1), .d (L103 v3.2.2)])), (6, .b true), (13, .b true), (17, .b false), (21, ca (.tup [.agg [.d (.bool v21.1), .d (L103 v21.2.1), .d (L103 v21.2.2.1)], .c (.d (.int .i64 v21.2.2.2))])), (29, ca (.agg [.d (.bool v29.1), .d (L3 v29.2.1), .d (L3 v29.2.2)])), (33, .b false), (36, .b true), (39, ca (.c (.d (.bool true)))), (42, .b false)] (fun _ f => o (dendronlaw03_tiny.does h0) (o (decide_eq_true h1) (o (decide_eq_true h2) (o (decide_eq_false h3) (o (ratio_Pow.does h4) (o (dendronref03_From.does h5) (o (decide_eq_false h6) (o (decide_eq_true h7) (o (dendronref03_None.does h8) (o (beq_false_of_ne h10) f)))))))))) (by kernel_rfl)
          · rw [if_neg h7] at h
            by_cases h8 : a1 < 0
            · rw [if_pos h8] at h
              by_cases h9 : (v29.2.1.length : Int) = 0
              · rw [if_pos h9] at h
                obtain ⟨v46, h10, h⟩ := bnd h
                cases v46
                · rw [if_neg (by decide)] at h
                  obtain rfl := Option.some.inj h
                  exact Til.fin Tryz.func16 [(3, ca (.agg [.d (.bool v3.1), .d (L103 v3.2.1), .d (L103 v3.2.2)])), (6, .b true), (13, .b true), (17, .b false), (21, ca (.tup [.agg [.d (.bool v21.1), .d (L103 v21.2.1), .d (L103 v21.2.2.1)], .c (.d (.int .i64 v21.2.2.2))])), (29, ca (.agg [.d (.bool v29.1), .d (L3 v29.2.1), .d (L3 v29.2.2)])), (33, .b false), (36, .b false), (39, .b true), (44, .b true), (46, ca (.c (.d (.bool false))))] (fun _ f => o (dendronlaw03_tiny.does h0) (o (decide_eq_true h1) (o (decide_eq_true h2) (o (decide_eq_false h3) (o (ratio_Pow.does h4) (o (dendronref03_From.does h5) (o (decide_eq_false h6) (o (decide_eq_false h7) (o (decide_eq_true h8) (o (beq_iff_eq.2 h9) (o (dendronref03_None.does h10) f))))))))))) (by kernel_rfl)
                · rw [if_pos rfl] at h
                  by_cases h12 : v21.2.2.2 = 2
                  · rw [if_pos h12] at h
                    obtain ⟨v52, h13, h⟩ := bnd h
                    obtain rfl := Option.some.inj h
                    exact Til.fin Tryz.func16 [(3, ca (.agg [.d (.bool v3.1), .d (L103 v3.2.1), .d (L103 v3.2.2)])), (6, .b true), (13, .b true), (17, .b false), (21, ca (.tup [.agg [.d (.bool v21.1), .d (L103 v21.2.1), .d (L103 v21.2.2.1)], .c (.d (.int .i64 v21.2.2.2))])), (29, ca (.agg [.d (.bool v29.1), .d (L3 v29.2.1), .d (L3 v29.2.2)])), (33, .b false), (36, .b false), (39, .b true), (44, .b true), (46, ca (.c (.d (.bool true)))), (49, .b true), (52, ca (.c (.d (.bool v52))))] (fun _ f => o (dendronlaw03_tiny.does h0) (o (decide_eq_true h1) (o (decide_eq_true h2) (o (decide_eq_false h3) (o (ratio_Pow.does h4) (o (dendronref03_From.does h5) (o (decide_eq_false h6) (o (decide_eq_false h7) (o (decide_eq_true h8) (o (beq_iff_eq.2 h9) (o (dendronref03_None.does h10) (o (beq_iff_eq.2 h12) (o (dendronlaw03_awake.does h13) f))))))))))))) (by kernel_rfl)
                  · rw [if_neg h12] at h
                    obtain rfl := Option.some.inj h
                    exact Til.fin Tryz.func16 [(3, ca (.agg [.d (.bool v3.1), .d (L103 v3.2.1), .d (L103 v3.2.2)])), (6, .b true), (13, .b true), (17, .b false), (21, ca (.tup [.agg [.d (.bool v21.1), .d (L103 v21.2.1), .d (L103 v21.2.2.1)], .c (.d (.int .i64 v21.2.2.2))])), (29, ca (.agg [.d (.bool v29.1), .d (L3 v29.2.1), .d (L3 v29.2.2)])), (33, .b false), (36, .b false), (39, .b true), (44, .b true), (46, ca (.c (.d (.bool true)))), (49, .b false)] (fun _ f => o (dendronlaw03_tiny.does h0) (o (decide_eq_true h1) (o (decide_eq_true h2) (o (decide_eq_false h3) (o (ratio_Pow.does h4) (o (dendronref03_From.does h5) (o (decide_eq_false h6) (o (decide_eq_false h7) (o (decide_eq_true h8) (o (beq_iff_eq.2 h9) (o (dendronref03_None.does h10) (o (beq_false_of_ne h12) f)))))))))))) (by kernel_rfl)
              · rw [if_neg h9] at h
                obtain ⟨v46, h10, h⟩ := bnd h
                obtain ⟨v51, h11, h⟩ := bnd h
                exact Til.mid Tryz.func16 15 [(3, ca (.agg [.d (.bool v3.1), .d (L103 v3.2.1), .d (L103 v3.2.2)])), (6, .b true), (13, .b true), (17, .b false), (21, ca (.tup [.agg [.d (.bool v21.1), .d (L103 v21.2.1), .d (L103 v21.2.2.1)], .c (.d (.int .i64 v21.2.2.2))])), (29, ca (.agg [.d (.bool v29.1), .d (L3 v29.2.1), .d (L3 v29.2.2)])), (33, .b false), (36, .b false), (39, .b true), (44, .b false), (46, ca (.agg [.d (.bool v46.1), .d (L3 v46.2.1), .d (L3 v46.2.2)])), (51, ca (.agg [.d (.bool v51.1), .d (L3 v51.2.1), .d (L3 v51.2.2)]))] (fun _ f => o (dendronlaw03_tiny.does h0) (o (decide_eq_true h1) (o (decide_eq_true h2) (o (decide_eq_false h3) (o (ratio_Pow.does h4) (o (dendronref03_From.does h5) (o (decide_eq_false h6) (o (decide_eq_false h7) (o (decide_eq_true h8) (o (beq_false_of_ne h9) (o (dendronref03_Inverse.does h10) (o (dendronref03_Small.does h11) f)))))))))))) (by kernel_rfl) (ih _ _ _ _ _ _ _ _ _ _ _ _ _ h)
            · rw [if_neg h8] at h
              obtain ⟨v40, h9, h⟩ := bnd h
              exact Til.mid Tryz.func16 15 [(3, ca (.agg [.d (.bool v3.1), .d (L103 v3.2.1), .d (L103 v3.2.2)])), (6, .b true), (13, .b true), (17, .b false), (21, ca (.tup [.agg [.d (.bool v21.1), .d (L103 v21.2.1), .d (L103 v21.2.2.1)], .c (.d (.int .i64 v21.2.2.2))])), (29, ca (.agg [.d (.bool v29.1), .d (L3 v29.2.1), .d (L3 v29.2.2)])), (33, .b false), (36, .b false), (39, .b false), (40, ca (.agg [.d (.bool v40.1), .d (L3 v40.2.1), .d (L3 v40.2.2)]))] (fun _ f => o (dendronlaw03_tiny.does h0) (o (decide_eq_true h1) (o (decide_eq_true h2) (o (decide_eq_false h3) (o (ratio_Pow.does h4) (o (dendronref03_From.does h5) (o (decide_eq_false h6) (o (decide_eq_false h7) (o (decide_eq_false h8) (o (dendronref03_Small.does h9) f)))))))))) (by kernel_rfl) (ih _ _ _ _ _ _ _ _ _ _ _ _ _ h)
    · rw [if_neg h2] at h
      obtain ⟨v21, h3, h⟩ := bnd h
      obtain ⟨v29, h4, h⟩ := bnd h
      by_cases h5 : a1 < (-4096)
      · rw [if_pos h5] at h
        obtain ⟨v39, h6, h⟩ := bnd h
        cases v39
        · rw [if_neg (by decide)] at h
          obtain rfl := Option.some.inj h
          exact Til.fin Tryz.func16 [(3, ca (.agg [.d (.bool v3.1), .d (L103 v3.2.1), .d (L103 v3.2.2)])), (6, .b true), (13, .b false), (21, ca (.tup [.agg [.d (.bool v21.1), .d (L103 v21.2.1), .d (L103 v21.2.2.1)], .c (.d (.int .i64 v21.2.2.2))])), (29, ca (.agg [.d (.bool v29.1), .d (L3 v29.2.1), .d (L3 v29.2.2)])), (33, .b true), (39, ca (.c (.d (.bool false))))] (fun _ f => o (dendronlaw03_tiny.does h0) (o (decide_eq_true h1) (o (decide_eq_false h2) (o (ratio_Pow.does h3) (o (dendronref03_From.does h4) (o (decide_eq_true h5) (o (dendronref03_None.does h6) f))))))) (by kernel_rfl)
        · rw [if_pos rfl] at h
          by_cases h8 : v21.2.2.2 = 8
          · rw [if_pos h8] at h
            obtain ⟨v45, h9, h⟩ := bnd h
            obtain rfl := Option.some.inj h
            exact Til.fin Tryz.func16 [(3, ca (.agg [.d (.bool v3.1), .d (L103 v3.2.1), .d (L103 v3.2.2)])), (6, .b true), (13, .b false), (21, ca (.tup [.agg [.d (.bool v21.1), .d (L103 v21.2.1), .d (L103 v21.2.2.1)], .c (.d (.int .i64 v21.2.2.2))])), (29, ca (.agg [.d (.bool v29.1), .d (L3 v29.2.1), .d (L3 v29.2.2)])), (33, .b true), (39, ca (.c (.d (.bool true)))), (42, .b true), (45, ca (.c (.d (.bool v45))))] (fun _ f => o (dendronlaw03_tiny.does h0) (o (decide_eq_true h1) (o (decide_eq_false h2) (o (ratio_Pow.does h3) (o (dendronref03_From.does h4) (o (decide_eq_true h5) (o (dendronref03_None.does h6) (o (beq_iff_eq.2 h8) (o (dendronlaw03_awake.does h9) f))))))))) (by kernel_rfl)
          · rw [if_neg h8] at h
            obtain rfl := Option.some.inj h
            exact Til.fin Tryz.func16 [(3, ca (.agg [.d (.bool v3.1), .d (L103 v3.2.1), .d (L103 v3.2.2)])), (6, .b true), (13, .b false), (21, ca (.tup [.agg [.d (.bool v21.1), .d (L103 v21.2.1), .d (L103 v21.2.2.1)], .c (.d (.int .i64 v21.2.2.2))])), (29, ca (.agg [.d (.bool v29.1), .d (L3 v29.2.1), .d (L3 v29.2.2)])), (33, .b true), (39, ca (.c (.d (.bool true)))), (42, .b false)] (fun _ f => o (dendronlaw03_tiny.does h0) (o (decide_eq_true h1) (o (decide_eq_false h2) (o (ratio_Pow.does h3) (o (dendronref03_From.does h4) (o (decide_eq_true h5) (o (dendronref03_None.does h6) (o (beq_false_of_ne h8) f)))))))) (by kernel_rfl)
      · rw [if_neg h5] at h
        by_cases h6 : a1 > 4096
        · rw [if_pos h6] at h
          obtain ⟨v39, h7, h⟩ := bnd h
          cases v39
          · rw [if_neg (by decide)] at h
            obtain rfl := Option.some.inj h
            exact Til.fin Tryz.func16 [(3, ca (.agg [.d (.bool v3.1), .d (L103 v3.2.1), .d (L103 v3.2.2)])), (6, .b true), (13, .b false), (21, ca (.tup [.agg [.d (.bool v21.1), .d (L103 v21.2.1), .d (L103 v21.2.2.1)], .c (.d (.int .i64 v21.2.2.2))])), (29, ca (.agg [.d (.bool v29.1), .d (L3 v29.2.1), .d (L3 v29.2.2)])), (33, .b false), (36, .b true), (39, ca (.c (.d (.bool false))))] (fun _ f => o (dendronlaw03_tiny.does h0) (o (decide_eq_true h1) (o (decide_eq_false h2) (o (ratio_Pow.does h3) (o (dendronref03_From.does h4) (o (decide_eq_false h5) (o (decide_eq_true h6) (o (dendronref03_None.does h7) f)))))))) (by kernel_rfl)
          · rw [if_pos rfl] at h
            by_cases h9 : v21.2.2.2 = 8
            · rw [if_pos h9] at h
              obtain ⟨v45, h10, h⟩ := bnd h
              obtain rfl := Option.some.inj h
              exact Til.fin Tryz.func16 [(3, ca (.agg [.d (.bool v3.1), .d (L103 v3.2.1), .d (L103 v3.2.2)])), (6, .b true), (13, .b false), (21, ca (.tup [.agg [.d (.bool v21.1), .d (L103 v21.2.1), .d (L103 v21.2.2.1)], .c (.d (.int .i64 v21.2.2.2))])), (29, ca (.agg [.d (.bool v29.1), .d (L3 v29.2.1), .d (L3 v29.2.2)])), (33, .b false), (36, .b true), (39, ca (.c (.d (.bool true)))), (42, .b true), (45, ca (.c (.d (.bool v45))))] (fun _ f => o (dendronlaw03_tiny.does h0) (o (decide_eq_true h1) (o (decide_eq_false h2) (o (ratio_Pow.does h3) (o (dendronref03_From.does h4) (o (decide_eq_false h5) (o (decide_eq_true h6) (o (dendronref03_None.does h7) (o (beq_iff_eq.2 h9) (o (dendronlaw03_awake.does h10) f)))))))))) (by kernel_rfl)
            · rw [if_neg h9] at h
              obtain rfl := Option.some.inj h
              exact Til.fin Tryz.func16 [(3, ca (.agg [.d (.bool v3.1), .d (L103 v3.2.1), .d (L103 v3.2.2)])), (6, .b true), (13, .b false), (21, ca (.tup [.agg [.d (.bool v21.1), .d (L103 v21.2.1), .d (L103 v21.2.2.1)], .c (.d (.int .i64 v21.2.2.2))])), (29, ca (.agg [.d (.bool v29.1), .d (L3 v29.2.1), .d (L3 v29.2.2)])), (33, .b false), (36, .b true), (39, ca (.c (.d (.bool true)))), (42, .b false)] (fun _ f => o (dendronlaw03_tiny.does h0) (o (decide_eq_true h1) (o (decide_eq_false h2) (o (ratio_Pow.does h3) (o (dendronref03_From.does h4) (o (decide_eq_false h5) (o (decide_eq_true h6) (o (dendronref03_None.does h7) (o (beq_false_of_ne h9) f))))))))) (by kernel_rfl)
        · rw [if_neg h6] at h
          by_cases h7 : a1 < 0
          · rw [if_pos h7] at h
            by_cases h8 : (v29.2.1.length : Int) = 0
            · rw [if_pos h8] at h
              obtain ⟨v46, h9, h⟩ := bnd h
              cases v46
              · rw [if_neg (by decide)] at h
                obtain rfl := Option.some.inj h
                exact Til.fin Tryz.func16 [(3, ca (.agg [.d (.bool v3.1), .d (L103 v3.2.1), .d (L103 v3.2.2)])), (6, .b true), (13, .b false), (21, ca (.tup [.agg [.d (.bool v21.1), .d (L103 v21.2.1), .d (L103 v21.2.2.1)], .c (.d (.int .i64 v21.2.2.2))])), (29, ca (.agg [.d (.bool v29.1), .d (L3 v29.2.1), .d (L3 v29.2.2)])), (33, .b false), (36, .b false), (39, .b true), (44, .b true), (46, ca (.c (.d (.bool false))))] (fun _ f => o (dendronlaw03_tiny.does h0) (o (decide_eq_true h1) (o (decide_eq_false h2) (o (ratio_Pow.does h3) (o (dendronref03_From.does h4) (o (decide_eq_false h5) (o (decide_eq_false h6) (o (decide_eq_true h7) (o (beq_iff_eq.2 h8) (o (dendronref03_None.does h9) f)))))))))) (by kernel_rfl)
              · rw [if_pos rfl] at h
                by_cases h11 : v21.2.2.2 = 2
                · rw [if_pos h11] at h
                  obtain ⟨v52, h12, h⟩ := bnd h
                  obtain rfl := Option.some.inj h
                  exact Til.fin Tryz.func16 [(3, ca (.agg [.d (.bool v3.1), .d (L103 v3.2.1), .d (L103 v3.2.2)])), (6, .b true), (13, .b false), (21, ca (.tup [.agg [.d (.bool v21.1), .d (L103 v21.2.1), .d (L103 v21.2.2.1)], .c (.d (.int .i64 v21.2.2.2))])), (29, ca (.agg [.d (.bool v29.1), .d (L3 v29.2.1), .d (L3 v29.2.2)])), (33, .b false), (36, .b false), (39, .b true), (44, .b true), (46, ca (.c (.d (.bool true)))), (49, .b true), (52, ca (.c (.d (.bool v52))))] (fun _ f => o (dendronlaw03_tiny.does h0) (o (decide_eq_true h1) (o (decide_eq_false h2) (o (ratio_Pow.does h3) (o (dendronref03_From.does h4) (o (decide_eq_false h5) (o (decide_eq_false h6) (o (decide_eq_true h7) (o (beq_iff_eq.2 h8) (o (dendronref03_None.does h9) (o (beq_iff_eq.2 h11) (o (dendronlaw03_awake.does h12) f)))))))))))) (by kernel_rfl)
                · rw [if_neg h11] at h
                  obtain rfl := Option.some.inj h
                  exact Til.fin Tryz.func16 [(3, ca (.agg [.d (.bool v3.1), .d (L103 v3.2.1), .d (L103 v3.2.2)])), (6, .b true), (13, .b false), (21, ca (.tup [.agg [.d (.bool v21.1), .d (L103 v21.2.1), .d (L103 v21.2.2.1)], .c (.d (.int .i64 v21.2.2.2))])), (29, ca (.agg [.d (.bool v29.1), .d (L3 v29.2.1), .d (L3 v29.2.2)])), (33, .b false), (36, .b false), (39, .b true), (44, .b true), (46, ca (.c (.d (.bool true)))), (49, .b false)] (fun _ f => o (dendronlaw03_tiny.does h0) (o (decide_eq_true h1) (o (decide_eq_false h2) (o (ratio_Pow.does h3) (o (dendronref03_From.does h4) (o (decide_eq_false h5) (o (decide_eq_false h6) (o (decide_eq_true h7) (o (beq_iff_eq.2 h8) (o (dendronref03_None.does h9) (o (beq_false_of_ne h11) f))))))))))) (by kernel_rfl)
            · rw [if_neg h8] at h
              obtain ⟨v46, h9, h⟩ := bnd h
              obtain ⟨v51, h10, h⟩ := bnd h
              exact Til.mid Tryz.func16 15 [(3, ca (.agg [.d (.bool v3.1), .d (L103 v3.2.1), .d (L103 v3.2.2)])), (6, .b true), (13, .b false), (21, ca (.tup [.agg [.d (.bool v21.1), .d (L103 v21.2.1), .d (L103 v21.2.2.1)], .c (.d (.int .i64 v21.2.2.2))])), (29, ca (.agg [.d (.bool v29.1), .d (L3 v29.2.1), .d (L3 v29.2.2)])), (33, .b false), (36, .b false), (39, .b true), (44, .b false), (46, ca (.agg [.d (.bool v46.1), .d (L3 v46.2.1), .d (L3 v46.2.2)])), (51, ca (.agg [.d (.bool v51.1), .d (L3 v51.2.1), .d (L3 v51.2.2)]))] (fun _ f => o (dendronlaw03_tiny.does h0) (o (decide_eq_true h1) (o (decide_eq_false h2) (o (ratio_Pow.does h3) (o (dendronref03_From.does h4) (o (decide_eq_false h5) (o (decide_eq_false h6) (o (decide_eq_true h7) (o (beq_false_of_ne h8) (o (dendronref03_Inverse.does h9) (o (dendronref03_Small.does h10) f))))))))))) (by kernel_rfl) (ih _ _ _ _ _ _ _ _ _ _ _ _ _ h)
          · rw [if_neg h7] at h
            obtain ⟨v40, h8, h⟩ := bnd h
            exact Til.mid Tryz.func16 15 [(3, ca (.agg [.d (.bool v3.1), .d (L103 v3.2.1), .d (L103 v3.2.2)])), (6, .b true), (13, .b false), (21, ca (.tup [.agg [.d (.bool v21.1), .d (L103 v21.2.1), .d (L103 v21.2.2.1)], .c (.d (.int .i64 v21.2.2.2))])), (29, ca (.agg [.d (.bool v29.1), .d (L3 v29.2.1), .d (L3 v29.2.2)])), (33, .b false), (36, .b false), (39, .b false), (40, ca (.agg [.d (.bool v40.1), .d (L3 v40.2.1), .d (L3 v40.2.2)]))] (fun _ f => o (dendronlaw03_tiny.does h0) (o (decide_eq_true h1) (o (decide_eq_false h2) (o (ratio_Pow.does h3) (o (dendronref03_From.does h4) (o (decide_eq_false h5) (o (decide_eq_false h6) (o (decide_eq_false h7) (o (dendronref03_Small.does h8) f))))))))) (by kernel_rfl) (ih _ _ _ _ _ _ _ _ _ _ _ _ _ h)
  · rw [if_neg h1] at h
    by_cases h2 : a1 > 12
    · rw [if_pos h2] at h
      by_cases h3 : a1 ≥ (-4096)
      · rw [if_pos h3] at h
        by_cases h4 : a1 ≤ 4096
        · rw [if_pos h4] at h
          obtain ⟨v19, h5, h⟩ := bnd h
          obtain rfl := Option.some.inj h
          exact Til.fin Tryz.func16 [(3, ca (.agg [.d (.bool v3.1), .d (L103 v3.2.1), .d (L103 v3.2.2)])), (6, .b false), (9, .b true), (13, .b true), (17, .b true), (19, ca (.c (.d (.bool v19))))] (fun _ f => o (dendronlaw03_tiny.does h0) (o (decide_eq_false h1) (o (decide_eq_true h2) (o (decide_eq_true h3) (o (decide_eq_true h4) (o (dendronlaw03_awake.does h5) f)))))) (by kernel_rfl)
        · rw [if_neg h4] at h
          obtain ⟨v21, h5, h⟩ := bnd h
          obtain ⟨v29, h6, h⟩ := bnd h
          by_cases h7 : a1 < (-4096)
          · rw [if_pos h7] at h
            obtain ⟨v39, h8, h⟩ := bnd h
            cases v39
            · rw [if_neg (by decide)] at h
              obtain rfl := Option.some.inj h
              exact Til.fin Tryz.func16 [(3, ca (.agg [.d (.bool v3.1), .d (L103 v3.2.1), .d (L103 v3.2.2)])), (6, .b false), (9, .b true), (13, .b true), (17, .b false), (21, ca (.tup [.agg [.d (.bool v21.1), .d (L103 v21.2.1), .d (L103 v21.2.2.1)], .c (.d (.int .i64 v21.2.2.2))])), (29, ca (.agg [.d (.bool v29.1), .d (L3 v29.2.1), .d (L3 v29.2.2)])), (33, .b true), (39, ca (.c (.d (.bool false))))] (fun _ f => o (dendronlaw03_tiny.does h0) (o (decide_eq_false h1) (o (decide_eq_true h2) (o (decide_eq_true h3) (o (decide_eq_false h4) (o (ratio_Pow.does h5) (o (dendronref03_From.does h6) (o (decide_eq_true h7) (o (dendronref03_None.does h8) f))))))))) (by kernel_rfl)
            · rw [if_pos rfl] at h
              by_cases h10 : v21.2.2.2 = 8
              · rw [if_pos h10] at h
                obtain ⟨v45, h11, h⟩ := bnd h
                obtain rfl := Option.some.inj h
                exact Til.fin Tryz.func16 [(3, ca (.agg [.d (.bool v3.1), .d (L103 v3.2.1), .d (L103 v3.2.2)])), (6, .b false), (9, .b true), (13, .b true), (17, .b false), (21, ca (.tup [.agg [.d (.bool v21.1), .d (L103 v21.2.1), .d (L103 v21.2.2.1)], .c (.d (.int .i64 v21.2.2.2))])), (29, ca (.agg [.d (.bool v29.1), .d (L3 v29.2.1), .d (L3 v29.2.2)])), (33, .b true), (39, ca (.c (.d (.bool true)))), (42, .b true), (45, ca (.c (.d (.bool v45))))] (fun _ f => o (dendronlaw03_tiny.does h0) (o (decide_eq_false h1) (o (decide_eq_true h2) (o (decide_eq_true h3) (o (decide_eq_false h4) (o (ratio_Pow.does h5) (o (dendronref03_From.does h6) (o (decide_eq_true h7) (o (dendronref03_None.does h8) (o (beq_iff_eq.2 h10) (o (dendronlaw03_awake.does h11) f))))))))))) (by kernel_rfl)
              · rw [if_neg h10] at h
                obtain rfl := Option.some.inj h
                exact Til.fin Tryz.func16 [(3, ca (.agg [.d (.bool v3.1), .d (L103 v3.2.1), .d (L103 v3.2.2)])), (6, .b false), (9, .b true), (13, .b true), (17, .b false), (21, ca (.tup [.agg [.d (.bool v21.1), .d (L103 v21.2.1), .d (L103 v21.2.2.1)], .c (.d (.int .i64 v21.2.2.2))])), (29, ca (.agg [.d (.bool v29.1), .d (L3 v29.2.1), .d (L3 v29.2.2)])), (33, .b true), (39, ca (.c (.d (.bool true)))), (42, .b false)] (fun _ f => o (dendronlaw03_tiny.does h0) (o (decide_eq_false h1) (o (decide_eq_true h2) (o (decide_eq_true h3) (o (decide_eq_false h4) (o (ratio_Pow.does h5) (o (dendronref03_From.does h6) (o (decide_eq_true h7) (o (dendronref03_None.does h8) (o (beq_false_of_ne h10) f)))))))))) (by kernel_rfl)
          · rw [if_neg h7] at h
            by_cases h8 : a1 > 4096
            · rw [if_pos h8] at h
              obtain ⟨v39, h9, h⟩ := bnd h
              cases v39
              · rw [if_neg (by decide)] at h
                obtain rfl := Option.some.inj h
                exact Til.fin Tryz.func16 [(3, ca (.agg [.d (.bool v3.1), .d (L103 v3.2.1), .d (L103 v3.2.2)])), (6, .b false), (9, .b true), (13, .b true), (17, .b false), (21, ca (.tup [.agg [.d (.bool v21.1), .d (L103 v21.2.1), .d (L103 v21.2.2.1)], .c (.d (.int .i64 v21.2.2.2))])), (29, ca (.agg [.d (.bool v29.1), .d (L3 v29.2.1), .d (L3 v29.2.2)])), (33, .b false), (36, .b true), (39, ca (.c (.d (.bool false))))] (fun _ f => o (dendronlaw03_tiny.does h0) (o (decide_eq_false h1) (o (decide_eq_true h2) (o (decide_eq_true h3) (o (decide_eq_false h4) (o (ratio_Pow.does h5) (o (dendronref03_From.does h6) (o (decide_eq_false h7) (o (decide_eq_true h8) (o (dendronref03_None.does h9) f)))))))))) (by kernel_rfl)
              · rw [if_pos rfl] at h
                by_cases h11 : v21.2.2.2 = 8
                · rw [if_pos h11] at h
                  obtain ⟨v45, h12, h⟩ := bnd h
                  obtain rfl := Option.some.inj h
                  exact Til.fin Tryz.func16 [(3, ca (.agg [.d (.bool v3.1), .d (L103 v3.2.1), .d (L103 v3.2.2)])), (6, .b false), (9, .b true), (13, .b true), (17, .b false), (21, ca (.tup [.agg [.d (.bool v21.1), .d (L103 v21.2.1), .d (L103 v21.2.2.1)], .c (.d (.int .i64 v21.2.2.2))])), (29, ca (.agg [.d (.bool v29.1), .d (L3 v29.2.1), .d (L3 v29.2.2)])), (33, .b false), (36, .b true), (39, ca (.c (.d (.bool true)))), (42, .b true), (45, ca (.c (.d (.bool v45))))] (fun _ f => o (dendronlaw03_tiny.does h0) (o (decide_eq_false h1) (o (decide_eq_true h2) (o (decide_eq_true h3) (o (decide_eq_false h4) (o (ratio_Pow.does h5) (o (dendronref03_From.does h6) (o (decide_eq_false h7) (o (decide_eq_true h8) (o (dendronref03_None.does h9) (o (beq_iff_eq.2 h11) (o (dendronlaw03_awake.does h12) f)))))))))))) (by kernel_rfl)
                · rw [if_neg h11] at h
                  obtain rfl := Option.some.inj h
                  exact Til.fin Tryz.func16 [(3, ca (.agg [.d (.bool v3.1), .d (L103 v3.2.1), .d (L103 v3.2.2)])), (6, .b false), (9, .b true), (13, .b true), (17, .b false), (21, ca (.tup [.agg [.d (.bool v21.1), .d (L103 v21.2.1), .d (L103 v21.2.2.1)], .c (.d (.int .i64 v21.2.2.2))])), (29, ca (.agg [.d (.bool v29.1), .d (L3 v29.2.1), .d (L3 v29.2.2)])), (33, .b false), (36, .b true), (39, ca (.c (.d (.bool true)))), (42, .b false)] (fun _ f => o (dendronlaw03_tiny.does h0) (o (decide_eq_false h1) (o (decide_eq_true h2) (o (decide_eq_true h3) (o (decide_eq_false h4) (o (ratio_Pow.does h5) (o (dendronref03_From.does h6) (o (decide_eq_false h7) (o (decide_eq_true h8) (o (dendronref03_None.does h9) (o (beq_false_of_ne h11) f))))))))))) (by kernel_rfl)
            · rw [if_neg h8] at h
              by_cases h9 : a1 < 0
              · rw [if_pos h9] at h
                by_cases h10 : (v29.2.1.length : Int) = 0
                · rw [if_pos h10] at h
                  obtain ⟨v46, h11, h⟩ := bnd h
                  cases v46
                  · rw [if_neg (by decide)] at h
                    obtain rfl := Option.some.inj h
                    exact Til.fin Tryz.func16 [(3, ca (.agg [.d (.bool v3.1), .d (L103 v3.2.1), .d (L103 v3.2.2)])), (6, .b false), (9, .b true), (13, .b true), (17, .b false), (21, ca (.tup [.agg [.d (.bool v21.1), .d (L103 v21.2.1), .d (L103 v21.2.2.1)], .c (.d (.int .i64 v21.2.2.2))])), (29, ca (.agg [.d (.bool v29.1), .d (L3 v29.2.1), .d (L3 v29.2.2)])), (33, .b false), (36, .b false), (39, .b true), (44, .b true), (46, ca (.c (.d (.bool false))))] (fun _ f => o (dendronlaw03_tiny.does h0) (o (decide_eq_false h1) (o (decide_eq_true h2) (o (decide_eq_true h3) (o (decide_eq_false h4) (o (ratio_Pow.does h5) (o (dendronref03_From.does h6) (o (decide_eq_false h7) (o (decide_eq_false h8) (o (decide_eq_true h9) (o (beq_iff_eq.2 h10) (o (dendronref03_None.does h11) f)))))))))))) (by kernel_rfl)
                  · rw [if_pos rfl] at h
                    by_cases h13 : v21.2.2.2 = 2
                    · rw [if_pos h13] at h
                      obtain ⟨v52, h14, h⟩ := bnd h
                      obtain rfl := Option.some.inj h
                      exact Til.fin Tryz.func16 [(3, ca (.agg [.d (.bool v3.1), .d (L103 v3.2.1), .d (L103 v3.2.2)])), (6, .b false), (9, .b true), (13, .b true), (17, .b false), (21, ca (.tup [.agg [.d (.bool v21.1), .d (L103 v21.2.1), .d (L103 v21.2.2.1)], .c (.d (.int .i64 v21.2.2.2))])), (29, ca (.agg [.d (.bool v29.1), .d (L3 v29.2.1), .d (L3 v29.2.2)])), (33, .b false), (36, .b false), (39, .b true), (44, .b true), (46, ca (.c (.d (.bool true)))), (49, .b true), (52, ca (.c (.d (.bool v52))))] (fun _ f => o (dendronlaw03_tiny.does h0) (o (decide_eq_false h1) (o (decide_eq_true h2) (o (decide_eq_true h3) (o (decide_eq_false h4) (o (ratio_Pow.does h5) (o (dendronref03_From.does h6) (o (decide_eq_false h7) (o (decide_eq_false h8) (o (decide_eq_true h9) (o (beq_iff_eq.2 h10) (o (dendronref03_None.does h11) (o (beq_iff_eq.2 h13) (o (dendronlaw03_awake.does h14) f)))))))))))))) (by kernel_rfl)
                    · rw [if_neg h13] at h
                      obtain rfl := Option.some.inj h
                      exact Til.fin Tryz.func16 [(3, ca (.agg [.d (.bool v3.1), .d (L103 v3.2.1), .d (L103 v3.2.2)])), (6, .b false), (9, .b true), (13, .b true), (17, .b false), (21, ca (.tup [.agg [.d (.bool v21.1), .d (L103 v21.2.1), .d (L103 v21.2.2.1)], .c (.d (.int .i64 v21.2.2.2))])), (29, ca (.agg [.d (.bool v29.1), .d (L3 v29.2.1), .d (L3 v29.2.2)])), (33, .b false), (36, .b false), (39, .b true), (44, .b true), (46, ca (.c (.d (.bool true)))), (49, .b false)] (fun _ f => o (dendronlaw03_tiny.does h0) (o (decide_eq_false h1) (o (decide_eq_true h2) (o (decide_eq_true h3) (o (decide_eq_false h4) (o (ratio_Pow.does h5) (o (dendronref03_From.does h6) (o (decide_eq_false h7) (o (decide_eq_false h8) (o (decide_eq_true h9) (o (beq_iff_eq.2 h10) (o (dendronref03_None.does h11) (o (beq_false_of_ne h13) f))))))))))))) (by kernel_rfl)
                · rw [if_neg h10] at h
                  obtain ⟨v46, h11, h⟩ := bnd h
                  obtain ⟨v51, h12, h⟩ := bnd h
                  exact Til.mid Tryz.func16 15 [(3, ca (.agg [.d (.bool v3.1), .d (L103 v3.2.1), .d (L103 v3.2.2)])), (6, .b false), (9, .b true), (13, .b true), (17, .b false), (21, ca (.tup [.agg [.d (.bool v21.1), .d (L103 v21.2.1), .d (L103 v21.2.2.1)], .c (.d (.int .i64 v21.2.2.2))])), (29, ca (.agg [.d (.bool v29.1), .d (L3 v29.2.1), .d (L3 v29.2.2)])), (33, .b false), (36, .b false), (39, .b true), (44, .b false), (46, ca (.agg [.d (.bool v46.1), .d (L3 v46.2.1), .d (L3 v46.2.2)])), (51, ca (.agg [.d (.bool v51.1), .d (L3 v51.2.1), .d (L3 v51.2.2)]))] (fun _ f => o (dendronlaw03_tiny.does h0) (o (decide_eq_false h1) (o (decide_eq_true h2) (o (decide_eq_true h3) (o (decide_eq_false h4) (o (ratio_Pow.does h5) (o (dendronref03_From.does h6) (o (decide_eq_false h7) (o (decide_eq_false h8) (o (decide_eq_true h9) (o (beq_false_of_ne h10) (o (dendronref03_Inverse.does h11) (o (dendronref03_Small.does h12) f))))))))))))) (by kernel_rfl) (ih _ _ _ _ _ _ _ _ _ _ _ _ _ h)
              · rw [if_neg h9] at h
                obtain ⟨v40, h10, h⟩ := bnd h
                exact Til.mid Tryz.func16 15 [(3, ca (.agg [.d (.bool v3.1), .d (L103 v3.2.1), .d (L103 v3.2.2)])), (6, .b false), (9, .b true), (13, .b true), (17, .b false), (21, ca (.tup [.agg [.d (.bool v21.1), .d (L103 v21.2.1), .d (L103 v21.2.2.1)], .c (.d (.int .i64 v21.2.2.2))])), (29, ca (.agg [.d (.bool v29.1), .d (L3 v29.2.1), .d (L3 v29.2.2)])), (33, .b false), (36, .b false), (39, .b false), (40, ca (.agg [.d (.bool v40.1), .d (L3 v40.2.1), .d (L3 v40.2.2)]))] (fun _ f => o (dendronlaw03_tiny.does h0) (o (decide_eq_false h1) (o (decide_eq_true h2) (o (decide_eq_true h3) (o (decide_eq_false h4) (o (ratio_Pow.does h5) (o (dendronref03_From.does h6) (o (decide_eq_false h7) (o (decide_eq_false h8) (o (decide_eq_false h9) (o (dendronref03_Small.does h10) f))))))))))) (by kernel_rfl) (ih _ _ _ _ _ _ _ _ _ _ _ _ _ h)
      · rw [if_neg h3] at h
        obtain ⟨v21, h4, h⟩ := bnd h
        obtain ⟨v29, h5, h⟩ := bnd h
        by_cases h6 : a1 < (-4096)
        · rw [if_pos h6] at h
          obtain ⟨v39, h7, h⟩ := bnd h
          cases v39
          · rw [if_neg (by decide)] at h
            obtain rfl := Option.some.inj h
            exact Til.fin Tryz.func16 [(3, ca (.agg [.d (.bool v3.1), .d (L103 v3.2.1), .d (L103 v3.2.2)])), (6, .b false), (9, .b true), (13, .b false), (21, ca (.tup [.agg [.d (.bool v21.1), .d (L103 v21.2.1), .d (L103 v21.2.2.1)], .c (.d (.int .i64 v21.2.2.2))])), (29, ca (.agg [.d (.bool v29.1), .d (L3 v29.2.1), .d (L3 v29.2.2)])), (33, .b true), (39, ca (.c (.d (.bool false))))] (fun _ f => o (dendronlaw03_tiny.does h0) (o (decide_eq_false h1) (o (decide_eq_true h2) (o (decide_eq_false h3) (o (ratio_Pow.does h4) (o (dendronref03_From.does h5) (o (decide_eq_true h6) (o (dendronref03_None.does h7) f)))))))) (by kernel_rfl)
          · rw [if_pos rfl] at h
            by_cases h9 : v21.2.2.2 = 8
            · rw [if_pos h9] at h
              obtain ⟨v45, h10, h⟩ := bnd h
              obtain rfl := Option.some.inj h
              exact Til.fin Tryz.func16 [(3, ca (.agg [.d (.bool v3.1), .d (L103 v3.2.1), .d (L103 v3.2.2)])), (6, .b false), (9, .b true), (13, .b false), (21, ca (.tup [.agg [.d (.bool v21.1), .d (L103 v21.2.1), .d (L103 v21.2.2.1)], .c (.d (.int .i64 v21.2.2.2))])), (29, ca (.agg [.d (.bool v29.1), .d (L3 v29.2.1), .d (L3 v29.2.2)])), (33, .b true), (39, ca (.c (.d (.bool true)))), (42, .b true), (45, ca (.c (.d (.bool v45))))] (fun _ f => o (dendronlaw03_tiny.does h0) (o (decide_eq_false h1) (o (decide_eq_true h2) (o (decide_eq_false h3) (o (ratio_Pow.does h4) (o (dendronref03_From.does h5) (o (decide_eq_true h6) (o (dendronref03_None.does h7) (o (beq_iff_eq.2 h9) (o (dendronlaw03_awake.does h10) f)))))))))) (by kernel_rfl)
            · rw [if_neg h9] at h
              obtain rfl := Option.some.inj h
              exact Til.fin Tryz.func16 [(3, ca (.agg [.d (.bool v3.1), .d (L103 v3.2.1), .d (L103 v3.2.2)])), (6, .b false), (9, .b true), (13, .b false), (21, ca (.tup [.agg [.d (.bool v21.1), .d (L103 v21.2.1), .d (L103 v21.2.2.1)], .c (.d (.int .i64 v21.2.2.2))])), (29, ca (.agg [.d (.bool v29.1), .d (L3 v29.2.1), .d (L3 v29.2.2)])), (33, .b true), (39, ca (.c (.d (.bool true)))), (42, .b false)] (fun _ f => o (dendronlaw03_tiny.does h0) (o (decide_eq_false h1) (o (decide_eq_true h2) (o (decide_eq_false h3) (o (ratio_Pow.does h4) (o (dendronref03_From.does h5) (o (decide_eq_true h6) (o (dendronref03_None.does h7) (o (beq_false_of_ne h9) f))))))))) (by kernel_rfl)
        · rw [if_neg h6] at h
          by_cases h7 : a1 > 4096
          · rw [if_pos h7] at h
            obtain ⟨v39, h8, h⟩ := bnd h
            cases v39
            · rw [if_neg (by decide)] at h
              obtain rfl := Option.some.inj h
              exact Til.fin Tryz.func16 [(3, ca (.agg [.d (.bool v3.1), .d (L103 v3.2.1), .d (L103 v3.2.2)])), (6, .b false), (9, .b true), (13, .b false), (21, ca (.tup [.agg [.d (.bool v21.1), .d (L103 v21.2.1), .d (L103 v21.2.2.1)], .c (.d (.int .i64 v21.2.2.2))])), (29, ca (.agg [.d (.bool v29.1), .d (L3 v29.2.1), .d (L3 v29.2.2)])), (33, .b false), (36, .b true), (39, ca (.c (.d (.bool false))))] (fun _ f => o (dendronlaw03_tiny.does h0) (o (decide_eq_false h1) (o (decide_eq_true h2) (o (decide_eq_false h3) (o (ratio_Pow.does h4) (o (dendronref03_From.does h5) (o (decide_eq_false h6) (o (decide_eq_true h7) (o (dendronref03_None.does h8) f))))))))) (by kernel_rfl)
            · rw [if_pos rfl] at h
              by_cases h10 : v21.2.2.2 = 8
              · rw [if_pos h10] at h
                obtain ⟨v45, h11, h⟩ := bnd h
                obtain rfl := Option.some.inj h
                exact Til.fin Tryz.func16 [(3, ca (.agg [.d (.bool v3.1), .d (L103 v3.2.1), .d (L103 v3.2.2)])), (6, .b false), (9, .b true), (13, .b false), (21, ca (.tup [.agg [.d (.bool v21.1), .d (L103 v21.2.1), .d (L103 v21.2.2.1)], .c (.d (.int .i64 v21.2.2.2))])), (29, ca (.agg [.d (.bool v29.1), .d (L3 v29.2.1), .d (L3 v29.2.2)])), (33, .b false), (36, .b true), (39, ca (.c (.d (.bool true)))), (42, .b true), (45, ca (.c (.d (.bool v45))))] (fun _ f => o (dendronlaw03_tiny.does h0) (o (decide_eq_false h1) (o (decide_eq_true h2) (o (decide_eq_false h3) (o (ratio_Pow.does h4) (o (dendronref03_From.does h5) (o (decide_eq_false h6) (o (decide_eq_true h7) (o (dendronref03_None.does h8) (o (beq_iff_eq.2 h10) (o (dendronlaw03_awake.does h11) f))))))))))) (by kernel_rfl)
              · rw [if_neg h10] at h
                obtain rfl := Option.some.inj h
                exact Til.fin Tryz.func16 [(3, ca (.agg [.d (.bool v3.1), .d (L103 v3.2.1), .d (L103 v3.2.2)])), (6, .b false), (9, .b true), (13, .b false), (21, ca (.tup [.agg [.d (.bool v21.1), .d (L103 v21.2.1), .d (L103 v21.2.2.1)], .c (.d (.int .i64 v21.2.2.2))])), (29, ca (.agg [.d (.bool v29.1), .d (L3 v29.2.1), .d (L3 v29.2.2)])), (33, .b false), (36, .b true), (39, ca (.c (.d (.bool true)))), (42, .b false)] (fun _ f => o (dendronlaw03_tiny.does h0) (o (decide_eq_false h1) (o (decide_eq_true h2) (o (decide_eq_false h3) (o (ratio_Pow.does h4) (o (dendronref03_From.does h5) (o (decide_eq_false h6) (o (decide_eq_true h7) (o (dendronref03_None.does h8) (o (beq_false_of_ne h10) f)))))))))) (by kernel_rfl)
          · rw [if_neg h7] at h
            by_cases h8 : a1 < 0
            · rw [if_pos h8] at h
              by_cases h9 : (v29.2.1.length : Int) = 0
              · rw [if_pos h9] at h
                obtain ⟨v46, h10, h⟩ := bnd h
                cases v46
                · rw [if_neg (by decide)] at h
                  obtain rfl := Option.some.inj h
                  exact Til.fin Tryz.func16 [(3, ca (.agg [.d (.bool v3.1), .d (L103 v3.2.1), .d (L103 v3.2.2)])), (6, .b false), (9, .b true), (13, .b false), (21, ca (.tup [.agg [.d (.bool v21.1), .d (L103 v21.2.1), .d (L103 v21.2.2.1)], .c (.d (.int .i64 v21.2.2.2))])), (29, ca (.agg [.d (.bool v29.1), .d (L3 v29.2.1), .d (L3 v29.2.2)])), (33, .b false), (36, .b false), (39, .b true), (44, .b true), (46, ca (.c (.d (.bool false))))] (fun _ f => o (dendronlaw03_tiny.does h0) (o (decide_eq_false h1) (o (decide_eq_true h2) (o (decide_eq_false h3) (o (ratio_Pow.does h4) (o (dendronref03_From.does h5) (o (decide_eq_false h6) (o (decide_eq_false h7) (o (decide_eq_true h8) (o (beq_iff_eq.2 h9) (o (dendronref03_None.does h10) f))))))))))) (by kernel_rfl)
                · rw [if_pos rfl] at h
                  by_cases h12 : v21.2.2.2 = 2
                  · rw [if_pos h12] at h
                    obtain ⟨v52, h13, h⟩ := bnd h
                    obtain rfl := Option.some.inj h
                    exact Til.fin Tryz.func16 [(3, ca (.agg [.d (.bool v3.1), .d (L103 v3.2.1), .d (L103 v3.2.2)])), (6, .b false), (9, .b true), (13, .b false), (21, ca (.tup [.agg [.d (.bool v21.1), .d (L103 v21.2.1), .d (L103 v21.2.2.1)], .c (.d (.int .i64 v21.2.2.2))])), (29, ca (.agg [.d (.bool v29.1), .d (L3 v29.2.1), .d (L3 v29.2.2)])), (33, .b false), (36, .b false), (39, .b true), (44, .b true), (46, ca (.c (.d (.bool true)))), (49, .b true), (52, ca (.c (.d (.bool v52))))] (fun _ f => o (dendronlaw03_tiny.does h0) (o (decide_eq_false h1) (o (decide_eq_true h2) (o (decide_eq_false h3) (o (ratio_Pow.does h4) (o (dendronref03_From.does h5) (o (decide_eq_false h6) (o (decide_eq_false h7) (o (decide_eq_true h8) (o (beq_iff_eq.2 h9) (o (dendronref03_None.does h10) (o (beq_iff_eq.2 h12) (o (dendronlaw03_awake.does h13) f))))))))))))) (by kernel_rfl)
                  · rw [if_neg h12] at h
                    obtain rfl := Option.some.inj h
                    exact Til.fin Tryz.func16 [(3, ca (.agg [.d (.bool v3.1), .d (L103 v3.2.1), .d (L103 v3.2.2)])), (6, .b false), (9, .b true), (13, .b false), (21, ca (.tup [.agg [.d (.bool v21.1), .d (L103 v21.2.1), .d (L103 v21.2.2.1)], .c (.d (.int .i64 v21.2.2.2))])), (29, ca (.agg [.d (.bool v29.1), .d (L3 v29.2.1), .d (L3 v29.2.2)])), (33, .b false), (36, .b false), (39, .b true), (44, .b true), (46, ca (.c (.d (.bool true)))), (49, .b false)] (fun _ f => o (dendronlaw03_tiny.does h0) (o (decide_eq_false h1) (o (decide_eq_true h2) (o (decide_eq_false h3) (o (ratio_Pow.does h4) (o (dendronref03_From.does h5) (o (decide_eq_false h6) (o (decide_eq_false h7) (o (decide_eq_true h8) (o (beq_iff_eq.2 h9) (o (dendronref03_None.does h10) (o (beq_false_of_ne h12) f)))))))))))) (by kernel_rfl)
              · rw [if_neg h9] at h
                obtain ⟨v46, h10, h⟩ := bnd h
                obtain ⟨v51, h11, h⟩ := bnd h
                exact Til.mid Tryz.func16 15 [(3, ca (.agg [.d (.bool v3.1), .d (L103 v3.2.1), .d (L103 v3.2.2)])), (6, .b false), (9, .b true), (13, .b false), (21, ca (.tup [.agg [.d (.bool v21.1), .d (L103 v21.2.1), .d (L103 v21.2.2.1)], .c (.d (.int .i64 v21.2.2.2))])), (29, ca (.agg [.d (.bool v29.1), .d (L3 v29.2.1), .d (L3 v29.2.2)])), (33, .b false), (36, .b false), (39, .b true), (44, .b false), (46, ca (.agg [.d (.bool v46.1), .d (L3 v46.2.1), .d (L3 v46.2.2)])), (51, ca (.agg [.d (.bool v51.1), .d (L3 v51.2.1), .d (L3 v51.2.2)]))] (fun _ f => o (dendronlaw03_tiny.does h0) (o (decide_eq_false h1) (o (decide_eq_true h2) (o (decide_eq_false h3) (o (ratio_Pow.does h4) (o (dendronref03_From.does h5) (o (decide_eq_false h6) (o (decide_eq_false h7) (o (decide_eq_true h8) (o (beq_false_of_ne h9) (o (dendronref03_Inverse.does h10) (o (dendronref03_Small.does h11) f)))))))))))) (by kernel_rfl) (ih _ _ _ _ _ _ _ _ _ _ _ _ _ h)
            · rw [if_neg h8] at h
              obtain ⟨v40, h9, h⟩ := bnd h
              exact Til.mid Tryz.func16 15 [(3, ca (.agg [.d (.bool v3.1), .d (L103 v3.2.1), .d (L103 v3.2.2)])), (6, .b false), (9, .b true), (13, .b false), (21, ca (.tup [.agg [.d (.bool v21.1), .d (L103 v21.2.1), .d (L103 v21.2.2.1)], .c (.d (.int .i64 v21.2.2.2))])), (29, ca (.agg [.d (.bool v29.1), .d (L3 v29.2.1), .d (L3 v29.2.2)])), (33, .b false), (36, .b false), (39, .b false), (40, ca (.agg [.d (.bool v40.1), .d (L3 v40.2.1), .d (L3 v40.2.2)]))] (fun _ f => o (dendronlaw03_tiny.does h0) (o (decide_eq_false h1) (o (decide_eq_true h2) (o (decide_eq_false h3) (o (ratio_Pow.does h4) (o (dendronref03_From.does h5) (o (decide_eq_false h6) (o (decide_eq_false h7) (o (decide_eq_false h8) (o (dendronref03_Small.does h9) f)))))))))) (by kernel_rfl) (ih _ _ _ _ _ _ _ _ _ _ _ _ _ h)
    · rw [if_neg h2] at h
      obtain ⟨v21, h3, h⟩ := bnd h
      obtain ⟨v29, h4, h⟩ := bnd h
      by_cases h5 : a1 < (-4096)
      · rw [if_pos h5] at h
        obtain ⟨v39, h6, h⟩ := bnd h
        cases v39
        · rw [if_neg (by decide)] at h
          obtain rfl := Option.some.inj h
          exact Til.fin Tryz.func16 [(3, ca (.agg [.d (.bool v3.1), .d (L103 v3.2.1), .d (L103 v3.2.2)])), (6, .b false), (9, .b false), (21, ca (.tup [.agg [.d (.bool v21.1), .d (L103 v21.2.1), .d (L103 v21.2.2.1)], .c (.d (.int .i64 v21.2.2.2))])), (29, ca (.agg [.d (.bool v29.1), .d (L3 v29.2.1), .d (L3 v29.2.2)])), (33, .b true), (39, ca (.c (.d (.bool false))))] (fun _ f => o (dendronlaw03_tiny.does h0) (o (decide_eq_false h1) (o (decide_eq_false h2) (o (ratio_Pow.does h3) (o (dendronref03_From.does h4) (o (decide_eq_true h5) (o (dendronref03_None.does h6) f))))))) (by kernel_rfl)
        · rw [if_pos rfl] at h
          by_cases h8 : v21.2.2.2 = 8
          · rw [if_pos h8] at h
            obtain ⟨v45, h9, h⟩ := bnd h
            obtain rfl := Option.some.inj h
            exact Til.fin Tryz.func16 [(3, ca (.agg [.d (.bool v3.1), .d (L103 v3.2.1), .d (L103 v3.2.2)])), (6, .b false), (9, .b false), (21, ca (.tup [.agg [.d (.bool v21.1), .d (L103 v21.2.1), .d (L103 v21.2.2.1)], .c (.d (.int .i64 v21.2.2.2))])), (29, ca (.agg [.d (.bool v29.1), .d (L3 v29.2.1), .d (L3 v29.2.2)])), (33, .b true), (39, ca (.c (.d (.bool true)))), (42, .b true), (45, ca (.c (.d (.bool v45))))] (fun _ f => o (dendronlaw03_tiny.does h0) (o (decide_eq_false h1) (o (decide_eq_false h2) (o (ratio_Pow.does h3) (o (dendronref03_From.does h4) (o (decide_eq_true h5) (o (dendronref03_None.does h6) (o (beq_iff_eq.2 h8) (o (dendronlaw03_awake.does h9) f))))))))) (by kernel_rfl)
          · rw [if_neg h8] at h
            obtain rfl := Option.some.inj h
            exact Til.fin Tryz.func16 [(3, ca (.agg [.d (.bool v3.1), .d (L103 v3.2.1), .d (L103 v3.2.2)])), (6, .b false), (9, .b false), (21, ca (.tup [.agg [.d (.bool v21.1), .d (L103 v21.2.1), .d (L103 v21.2.2.1)], .c (.d (.int .i64 v21.2.2.2))])), (29, ca (.agg [.d (.bool v29.1), .d (L3 v29.2.1), .d (L3 v29.2.2)])), (33, .b true), (39, ca (.c (.d (.bool true)))), (42, .b false)] (fun _ f => o (dendronlaw03_tiny.does h0) (o (decide_eq_false h1) (o (decide_eq_false h2) (o (ratio_Pow.does h3) (o (dendronref03_From.does h4) (o (decide_eq_true h5) (o (dendronref03_None.does h6) (o (beq_false_of_ne h8) f)))))))) (by kernel_rfl)
      · rw [if_neg h5] at h
        by_cases h6 : a1 > 4096
        · rw [if_pos h6] at h
          obtain ⟨v39, h7, h⟩ := bnd h
          cases v39
          · rw [if_neg (by decide)] at h
            obtain rfl := Option.some.inj h
            exact Til.fin Tryz.func16 [(3, ca (.agg [.d (.bool v3.1), .d (L103 v3.2.1), .d (L103 v3.2.2)])), (6, .b false), (9, .b false), (21, ca (.tup [.agg [.d (.bool v21.1), .d (L103 v21.2.1), .d (L103 v21.2.2.1)], .c (.d (.int .i64 v21.2.2.2))])), (29, ca (.agg [.d (.bool v29.1), .d (L3 v29.2.1), .d (L3 v29.2.2)])), (33, .b false), (36, .b true), (39, ca (.c (.d (.bool false))))] (fun _ f => o (dendronlaw03_tiny.does h0) (o (decide_eq_false h1) (o (decide_eq_false h2) (o (ratio_Pow.does h3) (o (dendronref03_From.does h4) (o (decide_eq_false h5) (o (decide_eq_true h6) (o (dendronref03_None.does h7) f)))))))) (by kernel_rfl)
          · rw [if_pos rfl] at h
            by_cases h9 : v21.2.2.2 = 8
            · rw [if_pos h9] at h
              obtain ⟨v45, h10, h⟩ := bnd h
              obtain rfl := Option.some.inj h
              exact Til.fin Tryz.func16 [(3, ca (.agg [.d (.bool v3.1), .d (L103 v3.2.1), .d (L103 v3.2.2)])), (6, .b false), (9, .b false), (21, ca (.tup [.agg [.d (.bool v21.1), .d (L103 v21.2.1), .d (L103 v21.2.2.1)], .c (.d (.int .i64 v21.2.2.2))])), (29, ca (.agg [.d (.bool v29.1), .d (L3 v29.2.1), .d (L3 v29.2.2)])), (33, .b false), (36, .b true), (39, ca (.c (.d (.bool true)))), (42, .b true), (45, ca (.c (.d (.bool v45))))] (fun _ f => o (dendronlaw03_tiny.does h0) (o (decide_eq_false h1) (o (decide_eq_false h2) (o (ratio_Pow.does h3) (o (dendronref03_From.does h4) (o (decide_eq_false h5) (o (decide_eq_true h6) (o (dendronref03_None.does h7) (o (beq_iff_eq.2 h9) (o (dendronlaw03_awake.does h10) f)))))))))) (by kernel_rfl)
            · rw [if_neg h9] at h
              obtain rfl := Option.some.inj h
              exact Til.fin Tryz.func16 [(3, ca (.agg [.d (.bool v3.1), .d (L103 v3.2.1), .d (L103 v3.2.2)])), (6, .b false), (9, .b false), (21, ca (.tup [.agg [.d (.bool v21.1), .d (L103 v21.2.1), .d (L103 v21.2.2.1)], .c (.d (.int .i64 v21.2.2.2))])), (29, ca (.agg [.d (.bool v29.1), .d (L3 v29.2.1), .d (L3 v29.2.2)])), (33, .b false), (36, .b true), (39, ca (.c (.d (.bool true)))), (42, .b false)] (fun _ f => o (dendronlaw03_tiny.does h0) (o (decide_eq_false h1) (o (decide_eq_false h2) (o (ratio_Pow.does h3) (o (dendronref03_From.does h4) (o (decide_eq_false h5) (o (decide_eq_true h6) (o (dendronref03_None.does h7) (o (beq_false_of_ne h9) f))))))))) (by kernel_rfl)
        · rw [if_neg h6] at h
          by_cases h7 : a1 < 0
          · rw [if_pos h7] at h
            by_cases h8 : (v29.2.1.length : Int) = 0
            · rw [if_pos h8] at h
              obtain ⟨v46, h9, h⟩ := bnd h
              cases v46
              · rw [if_neg (by decide)] at h
                obtain rfl := Option.some.inj h
                exact Til.fin Tryz.func16 [(3, ca (.agg [.d (.bool v3.1), .d (L103 v3.2.1), .d (L103 v3.2.2)])), (6, .b false), (9, .b false), (21, ca (.tup [.agg [.d (.bool v21.1), .d (L103 v21.2.1), .d (L103 v21.2.2.1)], .c (.d (.int .i64 v21.2.2.2))])), (29, ca (.agg [.d (.bool v29.1), .d (L3 v29.2.1), .d (L3 v29.2.2)])), (33, .b false), (36, .b false), (39, .b true), (44, .b true), (46, ca (.c (.d (.bool false))))] (fun _ f => o (dendronlaw03_tiny.does h0) (o (decide_eq_false h1) (o (decide_eq_false h2) (o (ratio_Pow.does h3) (o (dendronref03_From.does h4) (o (decide_eq_false h5) (o (decide_eq_false h6) (o (decide_eq_true h7) (o (beq_iff_eq.2 h8) (o (dendronref03_None.does h9) f)))))))))) (by kernel_rfl)
              · rw [if_pos rfl] at h
                by_cases h11 : v21.2.2.2 = 2
                · rw [if_pos h11] at h
                  obtain ⟨v52, h12, h⟩ := bnd h
                  obtain rfl := Option.some.inj h
                  exact Til.fin Tryz.func16 [(3, ca (.agg [.d (.bool v3.1), .d (L103 v3.2.1), .d (L103 v3.2.2)])), (6, .b false), (9, .b false), (21, ca (.tup [.agg [.d (.bool v21.1), .d (L103 v21.2.1), .d (L103 v21.2.2.1)], .c (.d (.int .i64 v21.2.2.2))])), (29, ca (.agg [.d (.bool v29.1), .d (L3 v29.2.1), .d (L3 v29.2.2)])), (33, .b false), (36, .b false), (39, .b true), (44, .b true), (46, ca (.c (.d (.bool true)))), (49, .b true), (52, ca (.c (.d (.bool v52))))] (fun _ f => o (dendronlaw03_tiny.does h0) (o (decide_eq_false h1) (o (decide_eq_false h2) (o (ratio_Pow.does h3) (o (dendronref03_From.does h4) (o (decide_eq_false h5) (o (decide_eq_false h6) (o (decide_eq_true h7) (o (beq_iff_eq.2 h8) (o (dendronref03_None.does h9) (o (beq_iff_eq.2 h11) (o (dendronlaw03_awake.does h12) f)))))))))))) (by kernel_rfl)
                · rw [if_neg h11] at h
                  obtain rfl := Option.some.inj h
                  exact Til.fin Tryz.func16 [(3, ca (.agg [.d (.bool v3.1), .d (L103 v3.2.1), .d (L103 v3.2.2)])), (6, .b false), (9, .b false), (21, ca (.tup [.agg [.d (.bool v21.1), .d (L103 v21.2.1), .d (L103 v21.2.2.1)], .c (.d (.int .i64 v21.2.2.2))])), (29, ca (.agg [.d (.bool v29.1), .d (L3 v29.2.1), .d (L3 v29.2.2)])), (33, .b false), (36, .b false), (39, .b true), (44, .b true), (46, ca (.c (.d (.bool true)))), (49, .b false)] (fun _ f => o (dendronlaw03_tiny.does h0) (o (decide_eq_false h1) (o (decide_eq_false h2) (o (ratio_Pow.does h3) (o (dendronref03_From.does h4) (o (decide_eq_false h5) (o (decide_eq_false h6) (o (decide_eq_true h7) (o (beq_iff_eq.2 h8) (o (dendronref03_None.does h9) (o (beq_false_of_ne h11) f))))))))))) (by kernel_rfl)
            · rw [if_neg h8] at h
              obtain ⟨v46, h9, h⟩ := bnd h
              obtain ⟨v51, h10, h⟩ := bnd h
              exact Til.mid Tryz.func16 15 [(3, ca (.agg [.d (.bool v3.1), .d (L103 v3.2.1), .d (L103 v3.2.2)])), (6, .b false), (9, .b false), (21, ca (.tup [.agg [.d (.bool v21.1), .d (L103 v21.2.1), .d (L103 v21.2.2.1)], .c (.d (.int .i64 v21.2.2.2))])), (29, ca (.agg [.d (.bool v29.1), .d (L3 v29.2.1), .d (L3 v29.2.2)])), (33, .b false), (36, .b false), (39, .b true), (44, .b false), (46, ca (.agg [.d (.bool v46.1), .d (L3 v46.2.1), .d (L3 v46.2.2)])), (51, ca (.agg [.d (.bool v51.1), .d (L3 v51.2.1), .d (L3 v51.2.2)]))] (fun _ f => o (dendronlaw03_tiny.does h0) (o (decide_eq_false h1) (o (decide_eq_false h2) (o (ratio_Pow.does h3) (o (dendronref03_From.does h4) (o (decide_eq_false h5) (o (decide_eq_false h6) (o (decide_eq_true h7) (o (beq_false_of_ne h8) (o (dendronref03_Inverse.does h9) (o (dendronref03_Small.does h10) f))))))))))) (by kernel_rfl) (ih _ _ _ _ _ _ _ _ _ _ _ _ _ h)
          · rw [if_neg h7] at h
            obtain ⟨v40, h8, h⟩ := bnd h
            exact Til.mid Tryz.func16 15 [(3, ca (.agg [.d (.bool v3.1), .d (L103 v3.2.1), .d (L103 v3.2.2)])), (6, .b false), (9, .b false), (21, ca (.tup [.agg [.d (.bool v21.1), .d (L103 v21.2.1), .d (L103 v21.2.2.1)], .c (.d (.int .i64 v21.2.2.2))])), (29, ca (.agg [.d (.bool v29.1), .d (L3 v29.2.1), .d (L3 v29.2.2)])), (33, .b false), (36, .b false), (39, .b false), (40, ca (.agg [.d (.bool v40.1), .d (L3 v40.2.1), .d (L3 v40.2.2)]))] (fun _ f => o (dendronlaw03_tiny.does h0) (o (decide_eq_false h1) (o (decide_eq_false h2) (o (ratio_Pow.does h3) (o (dendronref03_From.does h4) (o (decide_eq_false h5) (o (decide_eq_false h6) (o (decide_eq_false h7) (o (dendronref03_Small.does h8) f))))))))) (by kernel_rfl) (ih _ _ _ _ _ _ _ _ _ _ _ _ _ h)

def c25 (x : Bool × List Int) : List Dat := [.bool x.1, L103 x.2]
def L25 (xs : List (Bool × List Int)) : Dat := fr 2 c25 (false, []) xs
def Z25 (xs : List (Bool × List Int)) : Sup := .r xs.length (enc c25 (false, []) xs)
def O25 (k : RK) (xs : List (Bool × List Int)) : Ob := .row k 25 2 xs.length (enc c25 (false, []) xs)

def c4 (x : Bool) : List Dat := [.bool x]
def L4 (xs : List Bool) : Dat := fr 1 c4 false xs
def Z4 (xs : List Bool) : Sup := .r xs.length (enc c4 false xs)
def O4 (k : RK) (xs : List Bool) : Ob := .row k 4 1 xs.length (enc c4 false xs)

def c23 (x : List Int) : List Dat := [L103 x]
def L23 (xs : List (List Int)) : Dat := fr 1 c23 [] xs
def Z23 (xs : List (List Int)) : Sup := .r xs.length (enc c23 [] xs)
def O23 (k : RK) (xs : List (List Int)) : Ob := .row k 23 1 xs.length (enc c23 [] xs)

end Go.DI
