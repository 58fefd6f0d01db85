/- The code of the functions does what is told of it, part 2. No condition. -/
import Derived.Test.YtjpkpmkohcdcbaaDoorWModelAgain1
set_option linter.all false
namespace Go.DI
open Go Go.RowKit Go.Proofs
set_option linter.unusedVariables false
set_option maxRecDepth 20000
theorem dendronlaw07_ModelAgain.does {k : Nat} {a0 : ByteArray} {r : Bool} (h : dendronlaw07_ModelAgain.f k a0 = some r) :
    Does Tryd.prog 7 [.c (.d (.str a0))] [] (.c (.d (.bool r))) none [] := by
  refine does_fn Tryd.func7 (by kernel_rfl) rfl rfl ?_
  unfold dendronlaw07_ModelAgain.f at h
  by_cases h0 : (a0.size : Int) > 4000
  · rw [if_pos h0] at h
    obtain ⟨h1, h⟩ := ifp h
    obtain ⟨v8, h2, h⟩ := bnd h
    by_cases h3 : v8.2.2.1 ≠ 0
    · rw [if_pos h3] at h
      obtain ⟨v21, h4, h⟩ := bnd h
      cases v21
      · rw [if_neg (by decide)] at h
        obtain rfl := Option.some.inj h
        exact Til.fin Tryd.func7 [(3, .b true), (8, ca (.tup [.agg [.d (.int .i64 v8.1), .d (L38 v8.2.1)], .agg [.d (.int .i64 v8.2.2.1), .d (.int .i64 v8.2.2.2.1), .d (.int .i64 v8.2.2.2.2.1), .d (.int .i64 v8.2.2.2.2.2)]])), (18, .b true), (21, .call [(1, .agg [.u, .d (L38 ([] : List (List (Bool × Int × Bool × List Int × List Int × Int × Int × Bool × Bool × List Int × List Int × Bool × List Int × List Int))))])] [] (.c (.d (.bool false))) none [] [])] (fun _ f => o (decide_eq_true h0) (o (o (nn 4000) h1) (o (model_Read.does h2) (o (bne_iff_ne.2 h3) (o (dendronref07_Same.does h4) f))))) (by kernel_rfl)
      · rw [if_pos rfl] at h
        by_cases h6 : v8.2.2.2.2.1 = 0
        · rw [if_pos h6] at h
          by_cases h7 : v8.2.2.2.2.2 = 0
          · rw [if_pos h7] at h
            by_cases h8 : v8.2.2.2.1 ≥ 0
            · rw [if_pos h8] at h
              by_cases h9 : v8.2.2.2.1 ≤ ((a0.extract 0 4000).size : Int)
              · rw [if_pos h9] at h
                obtain ⟨v45, h10, h⟩ := bnd h
                obtain rfl := Option.some.inj h
                exact Til.fin Tryd.func7 [(3, .b true), (8, ca (.tup [.agg [.d (.int .i64 v8.1), .d (L38 v8.2.1)], .agg [.d (.int .i64 v8.2.2.1), .d (.int .i64 v8.2.2.2.1), .d (.int .i64 v8.2.2.2.2.1), .d (.int .i64 v8.2.2.2.2.2)]])), (18, .b true), (21, .call [(1, .agg [.u, .d (L38 ([] : List (List (Bool × Int × Bool × List Int × List Int × Int × Int × Bool × Bool × List Int × List Int × Bool × List Int × List Int))))])] [] (.c (.d (.bool true))) none [] []), (25, .b true), (30, .b true), (35, .b true), (42, .b true), (45, ca (.c (.d (.bool v45))))] (fun _ f => o (decide_eq_true h0) (o (o (nn 4000) h1) (o (model_Read.does h2) (o (bne_iff_ne.2 h3) (o (dendronref07_Same.does h4) (o (beq_iff_eq.2 h6) (o (beq_iff_eq.2 h7) (o (decide_eq_true h8) (o (decide_eq_true h9) (o (dendronlaw07_awake.does h10) f)))))))))) (by kernel_rfl)
              · rw [if_neg h9] at h
                obtain rfl := Option.some.inj h
                exact Til.fin Tryd.func7 [(3, .b true), (8, ca (.tup [.agg [.d (.int .i64 v8.1), .d (L38 v8.2.1)], .agg [.d (.int .i64 v8.2.2.1), .d (.int .i64 v8.2.2.2.1), .d (.int .i64 v8.2.2.2.2.1), .d (.int .i64 v8.2.2.2.2.2)]])), (18, .b true), (21, .call [(1, .agg [.u, .d (L38 ([] : List (List (Bool × Int × Bool × List Int × List Int × Int × Int × Bool × Bool × List Int × List Int × Bool × List Int × List Int))))])] [] (.c (.d (.bool true))) none [] []), (25, .b true), (30, .b true), (35, .b true), (42, .b false)] (fun _ f => o (decide_eq_true h0) (o (o (nn 4000) h1) (o (model_Read.does h2) (o (bne_iff_ne.2 h3) (o (dendronref07_Same.does h4) (o (beq_iff_eq.2 h6) (o (beq_iff_eq.2 h7) (o (decide_eq_true h8) (o (decide_eq_false h9) f))))))))) (by kernel_rfl)
            · rw [if_neg h8] at h
              obtain rfl := Option.some.inj h
              exact Til.fin Tryd.func7 [(3, .b true), (8, ca (.tup [.agg [.d (.int .i64 v8.1), .d (L38 v8.2.1)], .agg [.d (.int .i64 v8.2.2.1), .d (.int .i64 v8.2.2.2.1), .d (.int .i64 v8.2.2.2.2.1), .d (.int .i64 v8.2.2.2.2.2)]])), (18, .b true), (21, .call [(1, .agg [.u, .d (L38 ([] : List (List (Bool × Int × Bool × List Int × List Int × Int × Int × Bool × Bool × List Int × List Int × Bool × List Int × List Int))))])] [] (.c (.d (.bool true))) none [] []), (25, .b true), (30, .b true), (35, .b false)] (fun _ f => o (decide_eq_true h0) (o (o (nn 4000) h1) (o (model_Read.does h2) (o (bne_iff_ne.2 h3) (o (dendronref07_Same.does h4) (o (beq_iff_eq.2 h6) (o (beq_iff_eq.2 h7) (o (decide_eq_false h8) f)))))))) (by kernel_rfl)
          · rw [if_neg h7] at h
            obtain rfl := Option.some.inj h
            exact Til.fin Tryd.func7 [(3, .b true), (8, ca (.tup [.agg [.d (.int .i64 v8.1), .d (L38 v8.2.1)], .agg [.d (.int .i64 v8.2.2.1), .d (.int .i64 v8.2.2.2.1), .d (.int .i64 v8.2.2.2.2.1), .d (.int .i64 v8.2.2.2.2.2)]])), (18, .b true), (21, .call [(1, .agg [.u, .d (L38 ([] : List (List (Bool × Int × Bool × List Int × List Int × Int × Int × Bool × Bool × List Int × List Int × Bool × List Int × List Int))))])] [] (.c (.d (.bool true))) none [] []), (25, .b true), (30, .b false)] (fun _ f => o (decide_eq_true h0) (o (o (nn 4000) h1) (o (model_Read.does h2) (o (bne_iff_ne.2 h3) (o (dendronref07_Same.does h4) (o (beq_iff_eq.2 h6) (o (beq_false_of_ne h7) f))))))) (by kernel_rfl)
        · rw [if_neg h6] at h
          obtain rfl := Option.some.inj h
          exact Til.fin Tryd.func7 [(3, .b true), (8, ca (.tup [.agg [.d (.int .i64 v8.1), .d (L38 v8.2.1)], .agg [.d (.int .i64 v8.2.2.1), .d (.int .i64 v8.2.2.2.1), .d (.int .i64 v8.2.2.2.2.1), .d (.int .i64 v8.2.2.2.2.2)]])), (18, .b true), (21, .call [(1, .agg [.u, .d (L38 ([] : List (List (Bool × Int × Bool × List Int × List Int × Int × Int × Bool × Bool × List Int × List Int × Bool × List Int × List Int))))])] [] (.c (.d (.bool true))) none [] []), (25, .b false)] (fun _ f => o (decide_eq_true h0) (o (o (nn 4000) h1) (o (model_Read.does h2) (o (bne_iff_ne.2 h3) (o (dendronref07_Same.does h4) (o (beq_false_of_ne h6) f)))))) (by kernel_rfl)
    · rw [if_neg h3] at h
      obtain ⟨v20, h4, h⟩ := bnd h
      obtain ⟨v27, h5, h⟩ := bnd h
      obtain ⟨v36, h6, h⟩ := bnd h
      obtain ⟨v43, h7, h⟩ := bnd h
      cases v43
      · rw [if_neg (by decide)] at h
        obtain rfl := Option.some.inj h
        exact Til.fin Tryd.func7 [(3, .b true), (8, ca (.tup [.agg [.d (.int .i64 v8.1), .d (L38 v8.2.1)], .agg [.d (.int .i64 v8.2.2.1), .d (.int .i64 v8.2.2.2.1), .d (.int .i64 v8.2.2.2.2.1), .d (.int .i64 v8.2.2.2.2.2)]])), (18, .b false), (20, ca (.tup [.c (.d (.str v20.1)), .c (.d (.int .i64 v20.2))])), (27, ca (.tup [.agg [.d (.int .i64 v27.1), .d (L38 v27.2.1)], .agg [.d (.int .i64 v27.2.2.1), .d (.int .i64 v27.2.2.2.1), .d (.int .i64 v27.2.2.2.2.1), .d (.int .i64 v27.2.2.2.2.2)]])), (36, ca (.tup [.c (.d (.str v36.1)), .c (.d (.int .i64 v36.2))])), (43, ca (.c (.d (.bool false))))] (fun _ f => o (decide_eq_true h0) (o (o (nn 4000) h1) (o (model_Read.does h2) (o (ne_f h3) (o (model_Write.does h4) (o (model_Read.does h5) (o (model_Write.does h6) (o (dendronlaw07_fits.does h7) f)))))))) (by kernel_rfl)
      · rw [if_pos rfl] at h
        obtain ⟨v47, h9, h⟩ := bnd h
        obtain ⟨v48, h10, h⟩ := bnd h
        cases v48
        · rw [if_neg (by decide)] at h
          obtain rfl := Option.some.inj h
          exact Til.fin Tryd.func7 [(3, .b true), (8, ca (.tup [.agg [.d (.int .i64 v8.1), .d (L38 v8.2.1)], .agg [.d (.int .i64 v8.2.2.1), .d (.int .i64 v8.2.2.2.1), .d (.int .i64 v8.2.2.2.2.1), .d (.int .i64 v8.2.2.2.2.2)]])), (18, .b false), (20, ca (.tup [.c (.d (.str v20.1)), .c (.d (.int .i64 v20.2))])), (27, ca (.tup [.agg [.d (.int .i64 v27.1), .d (L38 v27.2.1)], .agg [.d (.int .i64 v27.2.2.1), .d (.int .i64 v27.2.2.2.1), .d (.int .i64 v27.2.2.2.2.1), .d (.int .i64 v27.2.2.2.2.2)]])), (36, ca (.tup [.c (.d (.str v36.1)), .c (.d (.int .i64 v36.2))])), (43, ca (.c (.d (.bool true)))), (47, ca (.agg [.d (.int .i64 v47.1), .d (L38 v47.2)])), (48, ca (.c (.d (.bool false))))] (fun _ f => o (decide_eq_true h0) (o (o (nn 4000) h1) (o (model_Read.does h2) (o (ne_f h3) (o (model_Write.does h4) (o (model_Read.does h5) (o (model_Write.does h6) (o (dendronlaw07_fits.does h7) (o (dendronlaw07_tidy.does h9) (o (dendronref07_Same.does h10) f)))))))))) (by kernel_rfl)
        · rw [if_pos rfl] at h
          by_cases h12 : v20.2 = 0
          · rw [if_pos h12] at h
            by_cases h13 : ((v27.2.2.1 == 0) && ((v27.2.2.2.1 == 0) && ((v27.2.2.2.2.1 == 0) && ((v27.2.2.2.2.2 == 0) && true)))) = true
            · rw [if_pos h13] at h
              obtain ⟨v62, h14, h⟩ := bnd h
              cases v62
              · rw [if_neg (by decide)] at h
                obtain rfl := Option.some.inj h
                exact Til.fin Tryd.func7 [(3, .b true), (8, ca (.tup [.agg [.d (.int .i64 v8.1), .d (L38 v8.2.1)], .agg [.d (.int .i64 v8.2.2.1), .d (.int .i64 v8.2.2.2.1), .d (.int .i64 v8.2.2.2.2.1), .d (.int .i64 v8.2.2.2.2.2)]])), (18, .b false), (20, ca (.tup [.c (.d (.str v20.1)), .c (.d (.int .i64 v20.2))])), (27, ca (.tup [.agg [.d (.int .i64 v27.1), .d (L38 v27.2.1)], .agg [.d (.int .i64 v27.2.2.1), .d (.int .i64 v27.2.2.2.1), .d (.int .i64 v27.2.2.2.2.1), .d (.int .i64 v27.2.2.2.2.2)]])), (36, ca (.tup [.c (.d (.str v36.1)), .c (.d (.int .i64 v36.2))])), (43, ca (.c (.d (.bool true)))), (47, ca (.agg [.d (.int .i64 v47.1), .d (L38 v47.2)])), (48, ca (.c (.d (.bool true)))), (52, .b true), (57, .b true), (62, ca (.c (.d (.bool false))))] (fun _ f => o (decide_eq_true h0) (o (o (nn 4000) h1) (o (model_Read.does h2) (o (ne_f h3) (o (model_Write.does h4) (o (model_Read.does h5) (o (model_Write.does h6) (o (dendronlaw07_fits.does h7) (o (dendronlaw07_tidy.does h9) (o (dendronref07_Same.does h10) (o (beq_iff_eq.2 h12) (o h13 (o (dendronref07_Same.does h14) f))))))))))))) (by kernel_rfl)
              · rw [if_pos rfl] at h
                by_cases h16 : v36.2 = 0
                · rw [if_pos h16] at h
                  by_cases h17 : v36.1 = v20.1
                  · rw [if_pos h17] at h
                    obtain ⟨v74, h18, h⟩ := bnd h
                    obtain rfl := Option.some.inj h
                    exact Til.fin Tryd.func7 [(3, .b true), (8, ca (.tup [.agg [.d (.int .i64 v8.1), .d (L38 v8.2.1)], .agg [.d (.int .i64 v8.2.2.1), .d (.int .i64 v8.2.2.2.1), .d (.int .i64 v8.2.2.2.2.1), .d (.int .i64 v8.2.2.2.2.2)]])), (18, .b false), (20, ca (.tup [.c (.d (.str v20.1)), .c (.d (.int .i64 v20.2))])), (27, ca (.tup [.agg [.d (.int .i64 v27.1), .d (L38 v27.2.1)], .agg [.d (.int .i64 v27.2.2.1), .d (.int .i64 v27.2.2.2.1), .d (.int .i64 v27.2.2.2.2.1), .d (.int .i64 v27.2.2.2.2.2)]])), (36, ca (.tup [.c (.d (.str v36.1)), .c (.d (.int .i64 v36.2))])), (43, ca (.c (.d (.bool true)))), (47, ca (.agg [.d (.int .i64 v47.1), .d (L38 v47.2)])), (48, ca (.c (.d (.bool true)))), (52, .b true), (57, .b true), (62, ca (.c (.d (.bool true)))), (66, .b true), (71, .b true), (74, ca (.c (.d (.bool v74))))] (fun _ f => o (decide_eq_true h0) (o (o (nn 4000) h1) (o (model_Read.does h2) (o (ne_f h3) (o (model_Write.does h4) (o (model_Read.does h5) (o (model_Write.does h6) (o (dendronlaw07_fits.does h7) (o (dendronlaw07_tidy.does h9) (o (dendronref07_Same.does h10) (o (beq_iff_eq.2 h12) (o h13 (o (dendronref07_Same.does h14) (o (beq_iff_eq.2 h16) (o (str_t h17) (o (dendronlaw07_awake.does h18) f)))))))))))))))) (by kernel_rfl)
                  · rw [if_neg h17] at h
                    obtain rfl := Option.some.inj h
                    exact Til.fin Tryd.func7 [(3, .b true), (8, ca (.tup [.agg [.d (.int .i64 v8.1), .d (L38 v8.2.1)], .agg [.d (.int .i64 v8.2.2.1), .d (.int .i64 v8.2.2.2.1), .d (.int .i64 v8.2.2.2.2.1), .d (.int .i64 v8.2.2.2.2.2)]])), (18, .b false), (20, ca (.tup [.c (.d (.str v20.1)), .c (.d (.int .i64 v20.2))])), (27, ca (.tup [.agg [.d (.int .i64 v27.1), .d (L38 v27.2.1)], .agg [.d (.int .i64 v27.2.2.1), .d (.int .i64 v27.2.2.2.1), .d (.int .i64 v27.2.2.2.2.1), .d (.int .i64 v27.2.2.2.2.2)]])), (36, ca (.tup [.c (.d (.str v36.1)), .c (.d (.int .i64 v36.2))])), (43, ca (.c (.d (.bool true)))), (47, ca (.agg [.d (.int .i64 v47.1), .d (L38 v47.2)])), (48, ca (.c (.d (.bool true)))), (52, .b true), (57, .b true), (62, ca (.c (.d (.bool true)))), (66, .b true), (71, .b false)] (fun _ f => o (decide_eq_true h0) (o (o (nn 4000) h1) (o (model_Read.does h2) (o (ne_f h3) (o (model_Write.does h4) (o (model_Read.does h5) (o (model_Write.does h6) (o (dendronlaw07_fits.does h7) (o (dendronlaw07_tidy.does h9) (o (dendronref07_Same.does h10) (o (beq_iff_eq.2 h12) (o h13 (o (dendronref07_Same.does h14) (o (beq_iff_eq.2 h16) (o (str_f h17) f))))))))))))))) (by kernel_rfl)
                · rw [if_neg h16] at h
                  obtain rfl := Option.some.inj h
                  exact Til.fin Tryd.func7 [(3, .b true), (8, ca (.tup [.agg [.d (.int .i64 v8.1), .d (L38 v8.2.1)], .agg [.d (.int .i64 v8.2.2.1), .d (.int .i64 v8.2.2.2.1), .d (.int .i64 v8.2.2.2.2.1), .d (.int .i64 v8.2.2.2.2.2)]])), (18, .b false), (20, ca (.tup [.c (.d (.str v20.1)), .c (.d (.int .i64 v20.2))])), (27, ca (.tup [.agg [.d (.int .i64 v27.1), .d (L38 v27.2.1)], .agg [.d (.int .i64 v27.2.2.1), .d (.int .i64 v27.2.2.2.1), .d (.int .i64 v27.2.2.2.2.1), .d (.int .i64 v27.2.2.2.2.2)]])), (36, ca (.tup [.c (.d (.str v36.1)), .c (.d (.int .i64 v36.2))])), (43, ca (.c (.d (.bool true)))), (47, ca (.agg [.d (.int .i64 v47.1), .d (L38 v47.2)])), (48, ca (.c (.d (.bool true)))), (52, .b true), (57, .b true), (62, ca (.c (.d (.bool true)))), (66, .b false)] (fun _ f => o (decide_eq_true h0) (o (o (nn 4000) h1) (o (model_Read.does h2) (o (ne_f h3) (o (model_Write.does h4) (o (model_Read.does h5) (o (model_Write.does h6) (o (dendronlaw07_fits.does h7) (o (dendronlaw07_tidy.does h9) (o (dendronref07_Same.does h10) (o (beq_iff_eq.2 h12) (o h13 (o (dendronref07_Same.does h14) (o (beq_false_of_ne h16) f)))))))))))))) (by kernel_rfl)
            · rw [if_neg h13] at h
              obtain rfl := Option.some.inj h
              exact Til.fin Tryd.func7 [(3, .b true), (8, ca (.tup [.agg [.d (.int .i64 v8.1), .d (L38 v8.2.1)], .agg [.d (.int .i64 v8.2.2.1), .d (.int .i64 v8.2.2.2.1), .d (.int .i64 v8.2.2.2.2.1), .d (.int .i64 v8.2.2.2.2.2)]])), (18, .b false), (20, ca (.tup [.c (.d (.str v20.1)), .c (.d (.int .i64 v20.2))])), (27, ca (.tup [.agg [.d (.int .i64 v27.1), .d (L38 v27.2.1)], .agg [.d (.int .i64 v27.2.2.1), .d (.int .i64 v27.2.2.2.1), .d (.int .i64 v27.2.2.2.2.1), .d (.int .i64 v27.2.2.2.2.2)]])), (36, ca (.tup [.c (.d (.str v36.1)), .c (.d (.int .i64 v36.2))])), (43, ca (.c (.d (.bool true)))), (47, ca (.agg [.d (.int .i64 v47.1), .d (L38 v47.2)])), (48, ca (.c (.d (.bool true)))), (52, .b true), (57, .b false)] (fun _ f => o (decide_eq_true h0) (o (o (nn 4000) h1) (o (model_Read.does h2) (o (ne_f h3) (o (model_Write.does h4) (o (model_Read.does h5) (o (model_Write.does h6) (o (dendronlaw07_fits.does h7) (o (dendronlaw07_tidy.does h9) (o (dendronref07_Same.does h10) (o (beq_iff_eq.2 h12) (o (Bool.eq_false_iff.2 h13) f)))))))))))) (by kernel_rfl)
          · rw [if_neg h12] at h
            obtain rfl := Option.some.inj h
            exact Til.fin Tryd.func7 [(3, .b true), (8, ca (.tup [.agg [.d (.int .i64 v8.1), .d (L38 v8.2.1)], .agg [.d (.int .i64 v8.2.2.1), .d (.int .i64 v8.2.2.2.1), .d (.int .i64 v8.2.2.2.2.1), .d (.int .i64 v8.2.2.2.2.2)]])), (18, .b false), (20, ca (.tup [.c (.d (.str v20.1)), .c (.d (.int .i64 v20.2))])), (27, ca (.tup [.agg [.d (.int .i64 v27.1), .d (L38 v27.2.1)], .agg [.d (.int .i64 v27.2.2.1), .d (.int .i64 v27.2.2.2.1), .d (.int .i64 v27.2.2.2.2.1), .d (.int .i64 v27.2.2.2.2.2)]])), (36, ca (.tup [.c (.d (.str v36.1)), .c (.d (.int .i64 v36.2))])), (43, ca (.c (.d (.bool true)))), (47, ca (.agg [.d (.int .i64 v47.1), .d (L38 v47.2)])), (48, ca (.c (.d (.bool true)))), (52, .b false)] (fun _ f => o (decide_eq_true h0) (o (o (nn 4000) h1) (o (model_Read.does h2) (o (ne_f h3) (o (model_Write.does h4) (o (model_Read.does h5) (o (model_Write.does h6) (o (dendronlaw07_fits.does h7) (o (dendronlaw07_tidy.does h9) (o (dendronref07_Same.does h10) (o (beq_false_of_ne h12) f))))))))))) (by kernel_rfl)
  · rw [if_neg h0] at h
    obtain ⟨v5, h1, h⟩ := bnd h
    by_cases h2 : v5.2.2.1 ≠ 0
    · rw [if_pos h2] at h
      obtain ⟨v18, h3, h⟩ := bnd h
      cases v18
      · rw [if_neg (by decide)] at h
        obtain rfl := Option.some.inj h
        exact Til.fin Tryd.func7 [(3, .b false), (5, ca (.tup [.agg [.d (.int .i64 v5.1), .d (L38 v5.2.1)], .agg [.d (.int .i64 v5.2.2.1), .d (.int .i64 v5.2.2.2.1), .d (.int .i64 v5.2.2.2.2.1), .d (.int .i64 v5.2.2.2.2.2)]])), (15, .b true), (18, .call [(1, .agg [.u, .d (L38 ([] : List (List (Bool × Int × Bool × List Int × List Int × Int × Int × Bool × Bool × List Int × List Int × Bool × List Int × List Int))))])] [] (.c (.d (.bool false))) none [] [])] (fun _ f => o (decide_eq_false h0) (o (model_Read.does h1) (o (bne_iff_ne.2 h2) (o (dendronref07_Same.does h3) f)))) (by kernel_rfl)
      · rw [if_pos rfl] at h
        by_cases h5 : v5.2.2.2.2.1 = 0
        · rw [if_pos h5] at h
          by_cases h6 : v5.2.2.2.2.2 = 0
          · rw [if_pos h6] at h
            by_cases h7 : v5.2.2.2.1 ≥ 0
            · rw [if_pos h7] at h
              by_cases h8 : v5.2.2.2.1 ≤ (a0.size : Int)
              · rw [if_pos h8] at h
                obtain ⟨v42, h9, h⟩ := bnd h
                obtain rfl := Option.some.inj h
                exact Til.fin Tryd.func7 [(3, .b false), (5, ca (.tup [.agg [.d (.int .i64 v5.1), .d (L38 v5.2.1)], .agg [.d (.int .i64 v5.2.2.1), .d (.int .i64 v5.2.2.2.1), .d (.int .i64 v5.2.2.2.2.1), .d (.int .i64 v5.2.2.2.2.2)]])), (15, .b true), (18, .call [(1, .agg [.u, .d (L38 ([] : List (List (Bool × Int × Bool × List Int × List Int × Int × Int × Bool × Bool × List Int × List Int × Bool × List Int × List Int))))])] [] (.c (.d (.bool true))) none [] []), (22, .b true), (27, .b true), (32, .b true), (39, .b true), (42, ca (.c (.d (.bool v42))))] (fun _ f => o (decide_eq_false h0) (o (model_Read.does h1) (o (bne_iff_ne.2 h2) (o (dendronref07_Same.does h3) (o (beq_iff_eq.2 h5) (o (beq_iff_eq.2 h6) (o (decide_eq_true h7) (o (decide_eq_true h8) (o (dendronlaw07_awake.does h9) f))))))))) (by kernel_rfl)
              · rw [if_neg h8] at h
                obtain rfl := Option.some.inj h
                exact Til.fin Tryd.func7 [(3, .b false), (5, ca (.tup [.agg [.d (.int .i64 v5.1), .d (L38 v5.2.1)], .agg [.d (.int .i64 v5.2.2.1), .d (.int .i64 v5.2.2.2.1), .d (.int .i64 v5.2.2.2.2.1), .d (.int .i64 v5.2.2.2.2.2)]])), (15, .b true), (18, .call [(1, .agg [.u, .d (L38 ([] : List (List (Bool × Int × Bool × List Int × List Int × Int × Int × Bool × Bool × List Int × List Int × Bool × List Int × List Int))))])] [] (.c (.d (.bool true))) none [] []), (22, .b true), (27, .b true), (32, .b true), (39, .b false)] (fun _ f => o (decide_eq_false h0) (o (model_Read.does h1) (o (bne_iff_ne.2 h2) (o (dendronref07_Same.does h3) (o (beq_iff_eq.2 h5) (o (beq_iff_eq.2 h6) (o (decide_eq_true h7) (o (decide_eq_false h8) f)))))))) (by kernel_rfl)
            · rw [if_neg h7] at h
              obtain rfl := Option.some.inj h
              exact Til.fin Tryd.func7 [(3, .b false), (5, ca (.tup [.agg [.d (.int .i64 v5.1), .d (L38 v5.2.1)], .agg [.d (.int .i64 v5.2.2.1), .d (.int .i64 v5.2.2.2.1), .d (.int .i64 v5.2.2.2.2.1), .d (.int .i64 v5.2.2.2.2.2)]])), (15, .b true), (18, .call [(1, .agg [.u, .d (L38 ([] : List (List (Bool × Int × Bool × List Int × List Int × Int × Int × Bool × Bool × List Int × List Int × Bool × List Int × List Int))))])] [] (.c (.d (.bool true))) none [] []), (22, .b true), (27, .b true), (32, .b false)] (fun _ f => o (decide_eq_false h0) (o (model_Read.does h1) (o (bne_iff_ne.2 h2) (o (dendronref07_Same.does h3) (o (beq_iff_eq.2 h5) (o (beq_iff_eq.2 h6) (o (decide_eq_false h7) f))))))) (by kernel_rfl)
          · rw [if_neg h6] at h
            obtain rfl := Option.some.inj h
            exact Til.fin Tryd.func7 [(3, .b false), (5, ca (.tup [.agg [.d (.int .i64 v5.1), .d (L38 v5.2.1)], .agg [.d (.int .i64 v5.2.2.1), .d (.int .i64 v5.2.2.2.1), .d (.int .i64 v5.2.2.2.2.1), .d (.int .i64 v5.2.2.2.2.2)]])), (15, .b true), (18, .call [(1, .agg [.u, .d (L38 ([] : List (List (Bool × Int × Bool × List Int × List Int × Int × Int × Bool × Bool × List Int × List Int × Bool × List Int × List Int))))])] [] (.c (.d (.bool true))) none [] []), (22, .b true), (27, .b false)] (fun _ f => o (decide_eq_false h0) (o (model_Read.does h1) (o (bne_iff_ne.2 h2) (o (dendronref07_Same.does h3) (o (beq_iff_eq.2 h5) (o (beq_false_of_ne h6) f)))))) (by kernel_rfl)
        · rw [if_neg h5] at h
          obtain rfl := Option.some.inj h
          exact Til.fin Tryd.func7 [(3, .b false), (5, ca (.tup [.agg [.d (.int .i64 v5.1), .d (L38 v5.2.1)], .agg [.d (.int .i64 v5.2.2.1), .d (.int .i64 v5.2.2.2.1), .d (.int .i64 v5.2.2.2.2.1), .d (.int .i64 v5.2.2.2.2.2)]])), (15, .b true), (18, .call [(1, .agg [.u, .d (L38 ([] : List (List (Bool × Int × Bool × List Int × List Int × Int × Int × Bool × Bool × List Int × List Int × Bool × List Int × List Int))))])] [] (.c (.d (.bool true))) none [] []), (22, .b false)] (fun _ f => o (decide_eq_false h0) (o (model_Read.does h1) (o (bne_iff_ne.2 h2) (o (dendronref07_Same.does h3) (o (beq_false_of_ne h5) f))))) (by kernel_rfl)
    · rw [if_neg h2] at h
      obtain ⟨v17, h3, h⟩ := bnd h
      obtain ⟨v24, h4, h⟩ := bnd h
      obtain ⟨v33, h5, h⟩ := bnd h
      obtain ⟨v40, h6, h⟩ := bnd h
      cases v40
      · rw [if_neg (by decide)] at h
        obtain rfl := Option.some.inj h
        exact Til.fin Tryd.func7 [(3, .b false), (5, ca (.tup [.agg [.d (.int .i64 v5.1), .d (L38 v5.2.1)], .agg [.d (.int .i64 v5.2.2.1), .d (.int .i64 v5.2.2.2.1), .d (.int .i64 v5.2.2.2.2.1), .d (.int .i64 v5.2.2.2.2.2)]])), (15, .b false), (17, ca (.tup [.c (.d (.str v17.1)), .c (.d (.int .i64 v17.2))])), (24, ca (.tup [.agg [.d (.int .i64 v24.1), .d (L38 v24.2.1)], .agg [.d (.int .i64 v24.2.2.1), .d (.int .i64 v24.2.2.2.1), .d (.int .i64 v24.2.2.2.2.1), .d (.int .i64 v24.2.2.2.2.2)]])), (33, ca (.tup [.c (.d (.str v33.1)), .c (.d (.int .i64 v33.2))])), (40, ca (.c (.d (.bool false))))] (fun _ f => o (decide_eq_false h0) (o (model_Read.does h1) (o (ne_f h2) (o (model_Write.does h3) (o (model_Read.does h4) (o (model_Write.does h5) (o (dendronlaw07_fits.does h6) f))))))) (by kernel_rfl)
      · rw [if_pos rfl] at h
        obtain ⟨v44, h8, h⟩ := bnd h
        obtain ⟨v45, h9, h⟩ := bnd h
        cases v45
        · rw [if_neg (by decide)] at h
          obtain rfl := Option.some.inj h
          exact Til.fin Tryd.func7 [(3, .b false), (5, ca (.tup [.agg [.d (.int .i64 v5.1), .d (L38 v5.2.1)], .agg [.d (.int .i64 v5.2.2.1), .d (.int .i64 v5.2.2.2.1), .d (.int .i64 v5.2.2.2.2.1), .d (.int .i64 v5.2.2.2.2.2)]])), (15, .b false), (17, ca (.tup [.c (.d (.str v17.1)), .c (.d (.int .i64 v17.2))])), (24, ca (.tup [.agg [.d (.int .i64 v24.1), .d (L38 v24.2.1)], .agg [.d (.int .i64 v24.2.2.1), .d (.int .i64 v24.2.2.2.1), .d (.int .i64 v24.2.2.2.2.1), .d (.int .i64 v24.2.2.2.2.2)]])), (33, ca (.tup [.c (.d (.str v33.1)), .c (.d (.int .i64 v33.2))])), (40, ca (.c (.d (.bool true)))), (44, ca (.agg [.d (.int .i64 v44.1), .d (L38 v44.2)])), (45, ca (.c (.d (.bool false))))] (fun _ f => o (decide_eq_false h0) (o (model_Read.does h1) (o (ne_f h2) (o (model_Write.does h3) (o (model_Read.does h4) (o (model_Write.does h5) (o (dendronlaw07_fits.does h6) (o (dendronlaw07_tidy.does h8) (o (dendronref07_Same.does h9) f))))))))) (by kernel_rfl)
        · rw [if_pos rfl] at h
          by_cases h11 : v17.2 = 0
          · rw [if_pos h11] at h
            by_cases h12 : ((v24.2.2.1 == 0) && ((v24.2.2.2.1 == 0) && ((v24.2.2.2.2.1 == 0) && ((v24.2.2.2.2.2 == 0) && true)))) = true
            · rw [if_pos h12] at h
              obtain ⟨v59, h13, h⟩ := bnd h
              cases v59
              · rw [if_neg (by decide)] at h
                obtain rfl := Option.some.inj h
                exact Til.fin Tryd.func7 [(3, .b false), (5, ca (.tup [.agg [.d (.int .i64 v5.1), .d (L38 v5.2.1)], .agg [.d (.int .i64 v5.2.2.1), .d (.int .i64 v5.2.2.2.1), .d (.int .i64 v5.2.2.2.2.1), .d (.int .i64 v5.2.2.2.2.2)]])), (15, .b false), (17, ca (.tup [.c (.d (.str v17.1)), .c (.d (.int .i64 v17.2))])), (24, ca (.tup [.agg [.d (.int .i64 v24.1), .d (L38 v24.2.1)], .agg [.d (.int .i64 v24.2.2.1), .d (.int .i64 v24.2.2.2.1), .d (.int .i64 v24.2.2.2.2.1), .d (.int .i64 v24.2.2.2.2.2)]])), (33, ca (.tup [.c (.d (.str v33.1)), .c (.d (.int .i64 v33.2))])), (40, ca (.c (.d (.bool true)))), (44, ca (.agg [.d (.int .i64 v44.1), .d (L38 v44.2)])), (45, ca (.c (.d (.bool true)))), (49, .b true), (54, .b true), (59, ca (.c (.d (.bool false))))] (fun _ f => o (decide_eq_false h0) (o (model_Read.does h1) (o (ne_f h2) (o (model_Write.does h3) (o (model_Read.does h4) (o (model_Write.does h5) (o (dendronlaw07_fits.does h6) (o (dendronlaw07_tidy.does h8) (o (dendronref07_Same.does h9) (o (beq_iff_eq.2 h11) (o h12 (o (dendronref07_Same.does h13) f)))))))))))) (by kernel_rfl)
              · rw [if_pos rfl] at h
                by_cases h15 : v33.2 = 0
                · rw [if_pos h15] at h
                  by_cases h16 : v33.1 = v17.1
                  · rw [if_pos h16] at h
                    obtain ⟨v71, h17, h⟩ := bnd h
                    obtain rfl := Option.some.inj h
                    exact Til.fin Tryd.func7 [(3, .b false), (5, ca (.tup [.agg [.d (.int .i64 v5.1), .d (L38 v5.2.1)], .agg [.d (.int .i64 v5.2.2.1), .d (.int .i64 v5.2.2.2.1), .d (.int .i64 v5.2.2.2.2.1), .d (.int .i64 v5.2.2.2.2.2)]])), (15, .b false), (17, ca (.tup [.c (.d (.str v17.1)), .c (.d (.int .i64 v17.2))])), (24, ca (.tup [.agg [.d (.int .i64 v24.1), .d (L38 v24.2.1)], .agg [.d (.int .i64 v24.2.2.1), .d (.int .i64 v24.2.2.2.1), .d (.int .i64 v24.2.2.2.2.1), .d (.int .i64 v24.2.2.2.2.2)]])), (33, ca (.tup [.c (.d (.str v33.1)), .c (.d (.int .i64 v33.2))])), (40, ca (.c (.d (.bool true)))), (44, ca (.agg [.d (.int .i64 v44.1), .d (L38 v44.2)])), (45, ca (.c (.d (.bool true)))), (49, .b true), (54, .b true), (59, ca (.c (.d (.bool true)))), (63, .b true), (68, .b true), (71, ca (.c (.d (.bool v71))))] (fun _ f => o (decide_eq_false h0) (o (model_Read.does h1) (o (ne_f h2) (o (model_Write.does h3) (o (model_Read.does h4) (o (model_Write.does h5) (o (dendronlaw07_fits.does h6) (o (dendronlaw07_tidy.does h8) (o (dendronref07_Same.does h9) (o (beq_iff_eq.2 h11) (o h12 (o (dendronref07_Same.does h13) (o (beq_iff_eq.2 h15) (o (str_t h16) (o (dendronlaw07_awake.does h17) f))))))))))))))) (by kernel_rfl)
                  · rw [if_neg h16] at h
                    obtain rfl := Option.some.inj h
                    exact Til.fin Tryd.func7 [(3, .b false), (5, ca (.tup [.agg [.d (.int .i64 v5.1), .d (L38 v5.2.1)], .agg [.d (.int .i64 v5.2.2.1), .d (.int .i64 v5.2.2.2.1), .d (.int .i64 v5.2.2.2.2.1), .d (.int .i64 v5.2.2.2.2.2)]])), (15, .b false), (17, ca (.tup [.c (.d (.str v17.1)), .c (.d (.int .i64 v17.2))])), (24, ca (.tup [.agg [.d (.int .i64 v24.1), .d (L38 v24.2.1)], .agg [.d (.int .i64 v24.2.2.1), .d (.int .i64 v24.2.2.2.1), .d (.int .i64 v24.2.2.2.2.1), .d (.int .i64 v24.2.2.2.2.2)]])), (33, ca (.tup [.c (.d (.str v33.1)), .c (.d (.int .i64 v33.2))])), (40, ca (.c (.d (.bool true)))), (44, ca (.agg [.d (.int .i64 v44.1), .d (L38 v44.2)])), (45, ca (.c (.d (.bool true)))), (49, .b true), (54, .b true), (59, ca (.c (.d (.bool true)))), (63, .b true), (68, .b false)] (fun _ f => o (decide_eq_false h0) (o (model_Read.does h1) (o (ne_f h2) (o (model_Write.does h3) (o (model_Read.does h4) (o (model_Write.does h5) (o (dendronlaw07_fits.does h6) (o (dendronlaw07_tidy.does h8) (o (dendronref07_Same.does h9) (o (beq_iff_eq.2 h11) (o h12 (o (dendronref07_Same.does h13) (o (beq_iff_eq.2 h15) (o (str_f h16) f)))))))))))))) (by kernel_rfl)
                · rw [if_neg h15] at h
                  obtain rfl := Option.some.inj h
                  exact Til.fin Tryd.func7 [(3, .b false), (5, ca (.tup [.agg [.d (.int .i64 v5.1), .d (L38 v5.2.1)], .agg [.d (.int .i64 v5.2.2.1), .d (.int .i64 v5.2.2.2.1), .d (.int .i64 v5.2.2.2.2.1), .d (.int .i64 v5.2.2.2.2.2)]])), (15, .b false), (17, ca (.tup [.c (.d (.str v17.1)), .c (.d (.int .i64 v17.2))])), (24, ca (.tup [.agg [.d (.int .i64 v24.1), .d (L38 v24.2.1)], .agg [.d (.int .i64 v24.2.2.1), .d (.int .i64 v24.2.2.2.1), .d (.int .i64 v24.2.2.2.2.1), .d (.int .i64 v24.2.2.2.2.2)]])), (33, ca (.tup [.c (.d (.str v33.1)), .c (.d (.int .i64 v33.2))])), (40, ca (.c (.d (.bool true)))), (44, ca (.agg [.d (.int .i64 v44.1), .d (L38 v44.2)])), (45, ca (.c (.d (.bool true)))), (49, .b true), (54, .b true), (59, ca (.c (.d (.bool true)))), (63, .b false)] (fun _ f => o (decide_eq_false h0) (o (model_Read.does h1) (o (ne_f h2) (o (model_Write.does h3) (o (model_Read.does h4) (o (model_Write.does h5) (o (dendronlaw07_fits.does h6) (o (dendronlaw07_tidy.does h8) (o (dendronref07_Same.does h9) (o (beq_iff_eq.2 h11) (o h12 (o (dendronref07_Same.does h13) (o (beq_false_of_ne h15) f))))))))))))) (by kernel_rfl)
            · rw [if_neg h12] at h
              obtain rfl := Option.some.inj h
              exact Til.fin Tryd.func7 [(3, .b false), (5, ca (.tup [.agg [.d (.int .i64 v5.1), .d (L38 v5.2.1)], .agg [.d (.int .i64 v5.2.2.1), .d (.int .i64 v5.2.2.2.1), .d (.int .i64 v5.2.2.2.2.1), .d (.int .i64 v5.2.2.2.2.2)]])), (15, .b false), (17, ca (.tup [.c (.d (.str v17.1)), .c (.d (.int .i64 v17.2))])), (24, ca (.tup [.agg [.d (.int .i64 v24.1), .d (L38 v24.2.1)], .agg [.d (.int .i64 v24.2.2.1), .d (.int .i64 v24.2.2.2.1), .d (.int .i64 v24.2.2.2.2.1), .d (.int .i64 v24.2.2.2.2.2)]])), (33, ca (.tup [.c (.d (.str v33.1)), .c (.d (.int .i64 v33.2))])), (40, ca (.c (.d (.bool true)))), (44, ca (.agg [.d (.int .i64 v44.1), .d (L38 v44.2)])), (45, ca (.c (.d (.bool true)))), (49, .b true), (54, .b false)] (fun _ f => o (decide_eq_false h0) (o (model_Read.does h1) (o (ne_f h2) (o (model_Write.does h3) (o (model_Read.does h4) (o (model_Write.does h5) (o (dendronlaw07_fits.does h6) (o (dendronlaw07_tidy.does h8) (o (dendronref07_Same.does h9) (o (beq_iff_eq.2 h11) (o (Bool.eq_false_iff.2 h12) f))))))))))) (by kernel_rfl)
          · rw [if_neg h11] at h
            obtain rfl := Option.some.inj h
            exact Til.fin Tryd.func7 [(3, .b false), (5, ca (.tup [.agg [.d (.int .i64 v5.1), .d (L38 v5.2.1)], .agg [.d (.int .i64 v5.2.2.1), .d (.int .i64 v5.2.2.2.1), .d (.int .i64 v5.2.2.2.2.1), .d (.int .i64 v5.2.2.2.2.2)]])), (15, .b false), (17, ca (.tup [.c (.d (.str v17.1)), .c (.d (.int .i64 v17.2))])), (24, ca (.tup [.agg [.d (.int .i64 v24.1), .d (L38 v24.2.1)], .agg [.d (.int .i64 v24.2.2.1), .d (.int .i64 v24.2.2.2.1), .d (.int .i64 v24.2.2.2.2.1), .d (.int .i64 v24.2.2.2.2.2)]])), (33, ca (.tup [.c (.d (.str v33.1)), .c (.d (.int .i64 v33.2))])), (40, ca (.c (.d (.bool true)))), (44, ca (.agg [.d (.int .i64 v44.1), .d (L38 v44.2)])), (45, ca (.c (.d (.bool true)))), (49, .b false)] (fun _ f => o (decide_eq_false h0) (o (model_Read.does h1) (o (ne_f h2) (o (model_Write.does h3) (o (model_Read.does h4) (o (model_Write.does h5) (o (dendronlaw07_fits.does h6) (o (dendronlaw07_tidy.does h8) (o (dendronref07_Same.does h9) (o (beq_false_of_ne h11) f)))))))))) (by kernel_rfl)

end Go.DI
