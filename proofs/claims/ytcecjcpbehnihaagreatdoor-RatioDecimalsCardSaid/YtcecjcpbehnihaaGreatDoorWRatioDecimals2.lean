/- The code of the functions does what is told of it, part 2. No condition. -/
import Derived.Test.YtcecjcpbehnihaaGreatDoorWRatioDecimals1
set_option linter.all false
namespace Go.DI
open Go Go.RowKit Go.Proofs
set_option linter.unusedVariables false
set_option maxRecDepth 20000
theorem dendronref03_Parse.does {k : Nat} {a0 : ByteArray} {r : Bool × List Int × List Int × Int} (h : dendronref03_Parse.f k a0 = some r) :
    Does Tryz.prog 55 [.c (.d (.str a0))] [] (.tup [.agg [.d (.bool r.1), .d (L3 r.2.1), .d (L3 r.2.2.1)], .c (.d (.int .i64 r.2.2.2))]) none [] := by
  refine does_fn Tryz.func55 (by kernel_rfl) rfl rfl ?_
  unfold dendronref03_Parse.f at h
  by_cases h0 : (a0.size : Int) > 0
  · rw [if_pos h0] at h
    by_cases h1 : (bt a0 0) = 45
    · rw [if_pos h1] at h
      obtain ⟨h2, h⟩ := ifp h
      obtain ⟨v16, h3, h⟩ := bnd h
      obtain ⟨v19, h4, h⟩ := bnd h
      by_cases h5 : v16 < 0
      · rw [if_pos h5] at h
        by_cases h6 : v19 < 0
        · rw [if_pos h6] at h
          obtain ⟨v30, h7, h⟩ := bnd h
          obtain ⟨v38, h8, h⟩ := bnd h
          obtain ⟨v39, h9, h⟩ := bnd h
          obtain rfl := Option.some.inj h
          exact Til.fin Tryz.func55 [(5, .b true), (9, .b true), (16, ca (.c (.d (.int .i64 v16)))), (19, ca (.c (.d (.int .i64 v19)))), (24, .b true), (28, .b true), (30, ca (.tup [.c (.d (L3 v30.1)), .c (.d (.int .i64 v30.2))])), (38, ca (.agg [.d (.bool v38.1), .d (L3 v38.2)])), (39, ca (.c (.d (L3 v39))))] (fun _ f => o (decide_eq_true h0) (o (o (nn 0) h0) (o (beq_iff_eq.2 h1) (o (o (nn 1) h2) (o (dendronref03_cut.does h3) (o (dendronref03_cut.does h4) (o (decide_eq_true h5) (o (decide_eq_true h6) (o (dendronref01_Parse.does h7) (o (dendronref02_Make.does h8) (o (dendronref01_Small.does h9) f))))))))))) (by kernel_rfl)
        · rw [if_neg h6] at h
          obtain ⟨h7, h⟩ := ifp h
          obtain ⟨h8, h⟩ := ifp h
          obtain ⟨v32, h9, h⟩ := bnd h
          by_cases h10 : v32.2 ≠ 0
          · rw [if_pos h10] at h
            obtain rfl := Option.some.inj h
            exact Til.fin Tryz.func55 [(5, .b true), (9, .b true), (16, ca (.c (.d (.int .i64 v16)))), (19, ca (.c (.d (.int .i64 v19)))), (24, .b true), (28, .b false), (32, ca (.tup [.c (.d (L3 v32.1)), .c (.d (.int .i64 v32.2))])), (39, .b true)] (fun _ f => o (decide_eq_true h0) (o (o (nn 0) h0) (o (beq_iff_eq.2 h1) (o (o (nn 1) h2) (o (dendronref03_cut.does h3) (o (dendronref03_cut.does h4) (o (decide_eq_true h5) (o (decide_eq_false h6) (o (o h7 h8) (o (dendronref01_Parse.does h9) (o (bne_iff_ne.2 h10) f))))))))))) (by kernel_rfl)
          · rw [if_neg h10] at h
            obtain ⟨h11, h⟩ := ifp h
            obtain ⟨h12, h⟩ := ifp h
            obtain ⟨v44, h13, h⟩ := bnd h
            by_cases h14 : v44.2 ≠ 0
            · rw [if_pos h14] at h
              obtain rfl := Option.some.inj h
              exact Til.fin Tryz.func55 [(5, .b true), (9, .b true), (16, ca (.c (.d (.int .i64 v16)))), (19, ca (.c (.d (.int .i64 v19)))), (24, .b true), (28, .b false), (32, ca (.tup [.c (.d (L3 v32.1)), .c (.d (.int .i64 v32.2))])), (39, .b false), (44, ca (.tup [.c (.d (L3 v44.1)), .c (.d (.int .i64 v44.2))])), (51, .b true)] (fun _ f => o (decide_eq_true h0) (o (o (nn 0) h0) (o (beq_iff_eq.2 h1) (o (o (nn 1) h2) (o (dendronref03_cut.does h3) (o (dendronref03_cut.does h4) (o (decide_eq_true h5) (o (decide_eq_false h6) (o (o h7 h8) (o (dendronref01_Parse.does h9) (o (ne_f h10) (o (o h11 h12) (o (dendronref01_Parse.does h13) (o (bne_iff_ne.2 h14) f)))))))))))))) (by kernel_rfl)
            · rw [if_neg h14] at h
              by_cases h15 : v16 ≥ 0
              · rw [if_pos h15] at h
                by_cases h16 : (v44.1.length : Int) = 0
                · rw [if_pos h16] at h
                  obtain rfl := Option.some.inj h
                  exact Til.fin Tryz.func55 [(5, .b true), (9, .b true), (16, ca (.c (.d (.int .i64 v16)))), (19, ca (.c (.d (.int .i64 v19)))), (24, .b true), (28, .b false), (32, ca (.tup [.c (.d (L3 v32.1)), .c (.d (.int .i64 v32.2))])), (39, .b false), (44, ca (.tup [.c (.d (L3 v44.1)), .c (.d (.int .i64 v44.2))])), (51, .b false), (53, .b true), (56, .b true)] (fun _ f => o (decide_eq_true h0) (o (o (nn 0) h0) (o (beq_iff_eq.2 h1) (o (o (nn 1) h2) (o (dendronref03_cut.does h3) (o (dendronref03_cut.does h4) (o (decide_eq_true h5) (o (decide_eq_false h6) (o (o h7 h8) (o (dendronref01_Parse.does h9) (o (ne_f h10) (o (o h11 h12) (o (dendronref01_Parse.does h13) (o (ne_f h14) (o (decide_eq_true h15) (o (beq_iff_eq.2 h16) f)))))))))))))))) (by kernel_rfl)
                · rw [if_neg h16] at h
                  obtain ⟨v59, h17, h⟩ := bnd h
                  obtain rfl := Option.some.inj h
                  exact Til.fin Tryz.func55 [(5, .b true), (9, .b true), (16, ca (.c (.d (.int .i64 v16)))), (19, ca (.c (.d (.int .i64 v19)))), (24, .b true), (28, .b false), (32, ca (.tup [.c (.d (L3 v32.1)), .c (.d (.int .i64 v32.2))])), (39, .b false), (44, ca (.tup [.c (.d (L3 v44.1)), .c (.d (.int .i64 v44.2))])), (51, .b false), (53, .b true), (56, .b false), (59, ca (.agg [.d (.bool v59.1), .d (L3 v59.2)]))] (fun _ f => o (decide_eq_true h0) (o (o (nn 0) h0) (o (beq_iff_eq.2 h1) (o (o (nn 1) h2) (o (dendronref03_cut.does h3) (o (dendronref03_cut.does h4) (o (decide_eq_true h5) (o (decide_eq_false h6) (o (o h7 h8) (o (dendronref01_Parse.does h9) (o (ne_f h10) (o (o h11 h12) (o (dendronref01_Parse.does h13) (o (ne_f h14) (o (decide_eq_true h15) (o (beq_false_of_ne h16) (o (dendronref02_Make.does h17) f))))))))))))))))) (by kernel_rfl)
              · rw [if_neg h15] at h
                obtain ⟨v54, h16, h⟩ := bnd h
                obtain ⟨v60, h17, h⟩ := bnd h
                obtain ⟨v65, h18, h⟩ := bnd h
                obtain ⟨v67, h19, h⟩ := bnd h
                obtain ⟨v68, h20, h⟩ := bnd h
                obtain rfl := Option.some.inj h
                exact Til.fin Tryz.func55 [(5, .b true), (9, .b true), (16, ca (.c (.d (.int .i64 v16)))), (19, ca (.c (.d (.int .i64 v19)))), (24, .b true), (28, .b false), (32, ca (.tup [.c (.d (L3 v32.1)), .c (.d (.int .i64 v32.2))])), (39, .b false), (44, ca (.tup [.c (.d (L3 v44.1)), .c (.d (.int .i64 v44.2))])), (51, .b false), (53, .b false), (54, ca (.c (.d (L3 v54)))), (60, ca (.c (.d (L3 v60)))), (65, ca (.c (.d (L3 v65)))), (67, ca (.c (.d (L3 v67)))), (68, ca (.agg [.d (.bool v68.1), .d (L3 v68.2)]))] (fun _ f => o (decide_eq_true h0) (o (o (nn 0) h0) (o (beq_iff_eq.2 h1) (o (o (nn 1) h2) (o (dendronref03_cut.does h3) (o (dendronref03_cut.does h4) (o (decide_eq_true h5) (o (decide_eq_false h6) (o (o h7 h8) (o (dendronref01_Parse.does h9) (o (ne_f h10) (o (o h11 h12) (o (dendronref01_Parse.does h13) (o (ne_f h14) (o (decide_eq_false h15) (o (dendronref01_Small.does h16) (o (dendronref01_Power.does h17) (o (dendronref01_Times.does h18) (o (dendronref01_Plus.does h19) (o (dendronref02_Make.does h20) f)))))))))))))))))))) (by kernel_rfl)
      · rw [if_neg h5] at h
        by_cases h6 : v16 < 0
        · rw [if_pos h6] at h
          obtain ⟨v28, h7, h⟩ := bnd h
          obtain ⟨v36, h8, h⟩ := bnd h
          obtain ⟨v37, h9, h⟩ := bnd h
          obtain rfl := Option.some.inj h
          exact Til.fin Tryz.func55 [(5, .b true), (9, .b true), (16, ca (.c (.d (.int .i64 v16)))), (19, ca (.c (.d (.int .i64 v19)))), (24, .b false), (26, .b true), (28, ca (.tup [.c (.d (L3 v28.1)), .c (.d (.int .i64 v28.2))])), (36, ca (.agg [.d (.bool v36.1), .d (L3 v36.2)])), (37, ca (.c (.d (L3 v37))))] (fun _ f => o (decide_eq_true h0) (o (o (nn 0) h0) (o (beq_iff_eq.2 h1) (o (o (nn 1) h2) (o (dendronref03_cut.does h3) (o (dendronref03_cut.does h4) (o (decide_eq_false h5) (o (decide_eq_true h6) (o (dendronref01_Parse.does h7) (o (dendronref02_Make.does h8) (o (dendronref01_Small.does h9) f))))))))))) (by kernel_rfl)
        · rw [if_neg h6] at h
          obtain ⟨h7, h⟩ := ifp h
          obtain ⟨h8, h⟩ := ifp h
          obtain ⟨v30, h9, h⟩ := bnd h
          by_cases h10 : v30.2 ≠ 0
          · rw [if_pos h10] at h
            obtain rfl := Option.some.inj h
            exact Til.fin Tryz.func55 [(5, .b true), (9, .b true), (16, ca (.c (.d (.int .i64 v16)))), (19, ca (.c (.d (.int .i64 v19)))), (24, .b false), (26, .b false), (30, ca (.tup [.c (.d (L3 v30.1)), .c (.d (.int .i64 v30.2))])), (37, .b true)] (fun _ f => o (decide_eq_true h0) (o (o (nn 0) h0) (o (beq_iff_eq.2 h1) (o (o (nn 1) h2) (o (dendronref03_cut.does h3) (o (dendronref03_cut.does h4) (o (decide_eq_false h5) (o (decide_eq_false h6) (o (o h7 h8) (o (dendronref01_Parse.does h9) (o (bne_iff_ne.2 h10) f))))))))))) (by kernel_rfl)
          · rw [if_neg h10] at h
            obtain ⟨h11, h⟩ := ifp h
            obtain ⟨h12, h⟩ := ifp h
            obtain ⟨v42, h13, h⟩ := bnd h
            by_cases h14 : v42.2 ≠ 0
            · rw [if_pos h14] at h
              obtain rfl := Option.some.inj h
              exact Til.fin Tryz.func55 [(5, .b true), (9, .b true), (16, ca (.c (.d (.int .i64 v16)))), (19, ca (.c (.d (.int .i64 v19)))), (24, .b false), (26, .b false), (30, ca (.tup [.c (.d (L3 v30.1)), .c (.d (.int .i64 v30.2))])), (37, .b false), (42, ca (.tup [.c (.d (L3 v42.1)), .c (.d (.int .i64 v42.2))])), (49, .b true)] (fun _ f => o (decide_eq_true h0) (o (o (nn 0) h0) (o (beq_iff_eq.2 h1) (o (o (nn 1) h2) (o (dendronref03_cut.does h3) (o (dendronref03_cut.does h4) (o (decide_eq_false h5) (o (decide_eq_false h6) (o (o h7 h8) (o (dendronref01_Parse.does h9) (o (ne_f h10) (o (o h11 h12) (o (dendronref01_Parse.does h13) (o (bne_iff_ne.2 h14) f)))))))))))))) (by kernel_rfl)
            · rw [if_neg h14] at h
              by_cases h15 : v16 ≥ 0
              · rw [if_pos h15] at h
                by_cases h16 : (v42.1.length : Int) = 0
                · rw [if_pos h16] at h
                  obtain rfl := Option.some.inj h
                  exact Til.fin Tryz.func55 [(5, .b true), (9, .b true), (16, ca (.c (.d (.int .i64 v16)))), (19, ca (.c (.d (.int .i64 v19)))), (24, .b false), (26, .b false), (30, ca (.tup [.c (.d (L3 v30.1)), .c (.d (.int .i64 v30.2))])), (37, .b false), (42, ca (.tup [.c (.d (L3 v42.1)), .c (.d (.int .i64 v42.2))])), (49, .b false), (51, .b true), (54, .b true)] (fun _ f => o (decide_eq_true h0) (o (o (nn 0) h0) (o (beq_iff_eq.2 h1) (o (o (nn 1) h2) (o (dendronref03_cut.does h3) (o (dendronref03_cut.does h4) (o (decide_eq_false h5) (o (decide_eq_false h6) (o (o h7 h8) (o (dendronref01_Parse.does h9) (o (ne_f h10) (o (o h11 h12) (o (dendronref01_Parse.does h13) (o (ne_f h14) (o (decide_eq_true h15) (o (beq_iff_eq.2 h16) f)))))))))))))))) (by kernel_rfl)
                · rw [if_neg h16] at h
                  obtain ⟨v57, h17, h⟩ := bnd h
                  obtain rfl := Option.some.inj h
                  exact Til.fin Tryz.func55 [(5, .b true), (9, .b true), (16, ca (.c (.d (.int .i64 v16)))), (19, ca (.c (.d (.int .i64 v19)))), (24, .b false), (26, .b false), (30, ca (.tup [.c (.d (L3 v30.1)), .c (.d (.int .i64 v30.2))])), (37, .b false), (42, ca (.tup [.c (.d (L3 v42.1)), .c (.d (.int .i64 v42.2))])), (49, .b false), (51, .b true), (54, .b false), (57, ca (.agg [.d (.bool v57.1), .d (L3 v57.2)]))] (fun _ f => o (decide_eq_true h0) (o (o (nn 0) h0) (o (beq_iff_eq.2 h1) (o (o (nn 1) h2) (o (dendronref03_cut.does h3) (o (dendronref03_cut.does h4) (o (decide_eq_false h5) (o (decide_eq_false h6) (o (o h7 h8) (o (dendronref01_Parse.does h9) (o (ne_f h10) (o (o h11 h12) (o (dendronref01_Parse.does h13) (o (ne_f h14) (o (decide_eq_true h15) (o (beq_false_of_ne h16) (o (dendronref02_Make.does h17) f))))))))))))))))) (by kernel_rfl)
              · rw [if_neg h15] at h
                obtain ⟨v52, h16, h⟩ := bnd h
                obtain ⟨v58, h17, h⟩ := bnd h
                obtain ⟨v63, h18, h⟩ := bnd h
                obtain ⟨v65, h19, h⟩ := bnd h
                obtain ⟨v66, h20, h⟩ := bnd h
                obtain rfl := Option.some.inj h
                exact Til.fin Tryz.func55 [(5, .b true), (9, .b true), (16, ca (.c (.d (.int .i64 v16)))), (19, ca (.c (.d (.int .i64 v19)))), (24, .b false), (26, .b false), (30, ca (.tup [.c (.d (L3 v30.1)), .c (.d (.int .i64 v30.2))])), (37, .b false), (42, ca (.tup [.c (.d (L3 v42.1)), .c (.d (.int .i64 v42.2))])), (49, .b false), (51, .b false), (52, ca (.c (.d (L3 v52)))), (58, ca (.c (.d (L3 v58)))), (63, ca (.c (.d (L3 v63)))), (65, ca (.c (.d (L3 v65)))), (66, ca (.agg [.d (.bool v66.1), .d (L3 v66.2)]))] (fun _ f => o (decide_eq_true h0) (o (o (nn 0) h0) (o (beq_iff_eq.2 h1) (o (o (nn 1) h2) (o (dendronref03_cut.does h3) (o (dendronref03_cut.does h4) (o (decide_eq_false h5) (o (decide_eq_false h6) (o (o h7 h8) (o (dendronref01_Parse.does h9) (o (ne_f h10) (o (o h11 h12) (o (dendronref01_Parse.does h13) (o (ne_f h14) (o (decide_eq_false h15) (o (dendronref01_Small.does h16) (o (dendronref01_Power.does h17) (o (dendronref01_Times.does h18) (o (dendronref01_Plus.does h19) (o (dendronref02_Make.does h20) f)))))))))))))))))))) (by kernel_rfl)
    · rw [if_neg h1] at h
      obtain ⟨v12, h2, h⟩ := bnd h
      obtain ⟨v15, h3, h⟩ := bnd h
      by_cases h4 : v12 < 0
      · rw [if_pos h4] at h
        by_cases h5 : v15 < 0
        · rw [if_pos h5] at h
          obtain ⟨v26, h6, h⟩ := bnd h
          obtain ⟨v34, h7, h⟩ := bnd h
          obtain ⟨v35, h8, h⟩ := bnd h
          obtain rfl := Option.some.inj h
          exact Til.fin Tryz.func55 [(5, .b true), (9, .b false), (12, ca (.c (.d (.int .i64 v12)))), (15, ca (.c (.d (.int .i64 v15)))), (20, .b true), (24, .b true), (26, ca (.tup [.c (.d (L3 v26.1)), .c (.d (.int .i64 v26.2))])), (34, ca (.agg [.d (.bool v34.1), .d (L3 v34.2)])), (35, ca (.c (.d (L3 v35))))] (fun _ f => o (decide_eq_true h0) (o (o (nn 0) h0) (o (beq_false_of_ne h1) (o (dendronref03_cut.does h2) (o (dendronref03_cut.does h3) (o (decide_eq_true h4) (o (decide_eq_true h5) (o (dendronref01_Parse.does h6) (o (dendronref02_Make.does h7) (o (dendronref01_Small.does h8) f)))))))))) (by kernel_rfl)
        · rw [if_neg h5] at h
          obtain ⟨h6, h⟩ := ifp h
          obtain ⟨h7, h⟩ := ifp h
          obtain ⟨v28, h8, h⟩ := bnd h
          by_cases h9 : v28.2 ≠ 0
          · rw [if_pos h9] at h
            obtain rfl := Option.some.inj h
            exact Til.fin Tryz.func55 [(5, .b true), (9, .b false), (12, ca (.c (.d (.int .i64 v12)))), (15, ca (.c (.d (.int .i64 v15)))), (20, .b true), (24, .b false), (28, ca (.tup [.c (.d (L3 v28.1)), .c (.d (.int .i64 v28.2))])), (35, .b true)] (fun _ f => o (decide_eq_true h0) (o (o (nn 0) h0) (o (beq_false_of_ne h1) (o (dendronref03_cut.does h2) (o (dendronref03_cut.does h3) (o (decide_eq_true h4) (o (decide_eq_false h5) (o (o h6 h7) (o (dendronref01_Parse.does h8) (o (bne_iff_ne.2 h9) f)))))))))) (by kernel_rfl)
          · rw [if_neg h9] at h
            obtain ⟨h10, h⟩ := ifp h
            obtain ⟨h11, h⟩ := ifp h
            obtain ⟨v40, h12, h⟩ := bnd h
            by_cases h13 : v40.2 ≠ 0
            · rw [if_pos h13] at h
              obtain rfl := Option.some.inj h
              exact Til.fin Tryz.func55 [(5, .b true), (9, .b false), (12, ca (.c (.d (.int .i64 v12)))), (15, ca (.c (.d (.int .i64 v15)))), (20, .b true), (24, .b false), (28, ca (.tup [.c (.d (L3 v28.1)), .c (.d (.int .i64 v28.2))])), (35, .b false), (40, ca (.tup [.c (.d (L3 v40.1)), .c (.d (.int .i64 v40.2))])), (47, .b true)] (fun _ f => o (decide_eq_true h0) (o (o (nn 0) h0) (o (beq_false_of_ne h1) (o (dendronref03_cut.does h2) (o (dendronref03_cut.does h3) (o (decide_eq_true h4) (o (decide_eq_false h5) (o (o h6 h7) (o (dendronref01_Parse.does h8) (o (ne_f h9) (o (o h10 h11) (o (dendronref01_Parse.does h12) (o (bne_iff_ne.2 h13) f))))))))))))) (by kernel_rfl)
            · rw [if_neg h13] at h
              by_cases h14 : v12 ≥ 0
              · rw [if_pos h14] at h
                by_cases h15 : (v40.1.length : Int) = 0
                · rw [if_pos h15] at h
                  obtain rfl := Option.some.inj h
                  exact Til.fin Tryz.func55 [(5, .b true), (9, .b false), (12, ca (.c (.d (.int .i64 v12)))), (15, ca (.c (.d (.int .i64 v15)))), (20, .b true), (24, .b false), (28, ca (.tup [.c (.d (L3 v28.1)), .c (.d (.int .i64 v28.2))])), (35, .b false), (40, ca (.tup [.c (.d (L3 v40.1)), .c (.d (.int .i64 v40.2))])), (47, .b false), (49, .b true), (52, .b true)] (fun _ f => o (decide_eq_true h0) (o (o (nn 0) h0) (o (beq_false_of_ne h1) (o (dendronref03_cut.does h2) (o (dendronref03_cut.does h3) (o (decide_eq_true h4) (o (decide_eq_false h5) (o (o h6 h7) (o (dendronref01_Parse.does h8) (o (ne_f h9) (o (o h10 h11) (o (dendronref01_Parse.does h12) (o (ne_f h13) (o (decide_eq_true h14) (o (beq_iff_eq.2 h15) f))))))))))))))) (by kernel_rfl)
                · rw [if_neg h15] at h
                  obtain ⟨v55, h16, h⟩ := bnd h
                  obtain rfl := Option.some.inj h
                  exact Til.fin Tryz.func55 [(5, .b true), (9, .b false), (12, ca (.c (.d (.int .i64 v12)))), (15, ca (.c (.d (.int .i64 v15)))), (20, .b true), (24, .b false), (28, ca (.tup [.c (.d (L3 v28.1)), .c (.d (.int .i64 v28.2))])), (35, .b false), (40, ca (.tup [.c (.d (L3 v40.1)), .c (.d (.int .i64 v40.2))])), (47, .b false), (49, .b true), (52, .b false), (55, ca (.agg [.d (.bool v55.1), .d (L3 v55.2)]))] (fun _ f => o (decide_eq_true h0) (o (o (nn 0) h0) (o (beq_false_of_ne h1) (o (dendronref03_cut.does h2) (o (dendronref03_cut.does h3) (o (decide_eq_true h4) (o (decide_eq_false h5) (o (o h6 h7) (o (dendronref01_Parse.does h8) (o (ne_f h9) (o (o h10 h11) (o (dendronref01_Parse.does h12) (o (ne_f h13) (o (decide_eq_true h14) (o (beq_false_of_ne h15) (o (dendronref02_Make.does h16) f)))))))))))))))) (by kernel_rfl)
              · rw [if_neg h14] at h
                obtain ⟨v50, h15, h⟩ := bnd h
                obtain ⟨v56, h16, h⟩ := bnd h
                obtain ⟨v61, h17, h⟩ := bnd h
                obtain ⟨v63, h18, h⟩ := bnd h
                obtain ⟨v64, h19, h⟩ := bnd h
                obtain rfl := Option.some.inj h
                exact Til.fin Tryz.func55 [(5, .b true), (9, .b false), (12, ca (.c (.d (.int .i64 v12)))), (15, ca (.c (.d (.int .i64 v15)))), (20, .b true), (24, .b false), (28, ca (.tup [.c (.d (L3 v28.1)), .c (.d (.int .i64 v28.2))])), (35, .b false), (40, ca (.tup [.c (.d (L3 v40.1)), .c (.d (.int .i64 v40.2))])), (47, .b false), (49, .b false), (50, ca (.c (.d (L3 v50)))), (56, ca (.c (.d (L3 v56)))), (61, ca (.c (.d (L3 v61)))), (63, ca (.c (.d (L3 v63)))), (64, ca (.agg [.d (.bool v64.1), .d (L3 v64.2)]))] (fun _ f => o (decide_eq_true h0) (o (o (nn 0) h0) (o (beq_false_of_ne h1) (o (dendronref03_cut.does h2) (o (dendronref03_cut.does h3) (o (decide_eq_true h4) (o (decide_eq_false h5) (o (o h6 h7) (o (dendronref01_Parse.does h8) (o (ne_f h9) (o (o h10 h11) (o (dendronref01_Parse.does h12) (o (ne_f h13) (o (decide_eq_false h14) (o (dendronref01_Small.does h15) (o (dendronref01_Power.does h16) (o (dendronref01_Times.does h17) (o (dendronref01_Plus.does h18) (o (dendronref02_Make.does h19) f))))))))))))))))))) (by kernel_rfl)
      · rw [if_neg h4] at h
        by_cases h5 : v12 < 0
        · rw [if_pos h5] at h
          obtain ⟨v24, h6, h⟩ := bnd h
          obtain ⟨v32, h7, h⟩ := bnd h
          obtain ⟨v33, h8, h⟩ := bnd h
          obtain rfl := Option.some.inj h
          exact Til.fin Tryz.func55 [(5, .b true), (9, .b false), (12, ca (.c (.d (.int .i64 v12)))), (15, ca (.c (.d (.int .i64 v15)))), (20, .b false), (22, .b true), (24, ca (.tup [.c (.d (L3 v24.1)), .c (.d (.int .i64 v24.2))])), (32, ca (.agg [.d (.bool v32.1), .d (L3 v32.2)])), (33, ca (.c (.d (L3 v33))))] (fun _ f => o (decide_eq_true h0) (o (o (nn 0) h0) (o (beq_false_of_ne h1) (o (dendronref03_cut.does h2) (o (dendronref03_cut.does h3) (o (decide_eq_false h4) (o (decide_eq_true h5) (o (dendronref01_Parse.does h6) (o (dendronref02_Make.does h7) (o (dendronref01_Small.does h8) f)))))))))) (by kernel_rfl)
        · rw [if_neg h5] at h
          obtain ⟨h6, h⟩ := ifp h
          obtain ⟨h7, h⟩ := ifp h
          obtain ⟨v26, h8, h⟩ := bnd h
          by_cases h9 : v26.2 ≠ 0
          · rw [if_pos h9] at h
            obtain rfl := Option.some.inj h
            exact Til.fin Tryz.func55 [(5, .b true), (9, .b false), (12, ca (.c (.d (.int .i64 v12)))), (15, ca (.c (.d (.int .i64 v15)))), (20, .b false), (22, .b false), (26, ca (.tup [.c (.d (L3 v26.1)), .c (.d (.int .i64 v26.2))])), (33, .b true)] (fun _ f => o (decide_eq_true h0) (o (o (nn 0) h0) (o (beq_false_of_ne h1) (o (dendronref03_cut.does h2) (o (dendronref03_cut.does h3) (o (decide_eq_false h4) (o (decide_eq_false h5) (o (o h6 h7) (o (dendronref01_Parse.does h8) (o (bne_iff_ne.2 h9) f)))))))))) (by kernel_rfl)
          · rw [if_neg h9] at h
            obtain ⟨h10, h⟩ := ifp h
            obtain ⟨h11, h⟩ := ifp h
            obtain ⟨v38, h12, h⟩ := bnd h
            by_cases h13 : v38.2 ≠ 0
            · rw [if_pos h13] at h
              obtain rfl := Option.some.inj h
              exact Til.fin Tryz.func55 [(5, .b true), (9, .b false), (12, ca (.c (.d (.int .i64 v12)))), (15, ca (.c (.d (.int .i64 v15)))), (20, .b false), (22, .b false), (26, ca (.tup [.c (.d (L3 v26.1)), .c (.d (.int .i64 v26.2))])), (33, .b false), (38, ca (.tup [.c (.d (L3 v38.1)), .c (.d (.int .i64 v38.2))])), (45, .b true)] (fun _ f => o (decide_eq_true h0) (o (o (nn 0) h0) (o (beq_false_of_ne h1) (o (dendronref03_cut.does h2) (o (dendronref03_cut.does h3) (o (decide_eq_false h4) (o (decide_eq_false h5) (o (o h6 h7) (o (dendronref01_Parse.does h8) (o (ne_f h9) (o (o h10 h11) (o (dendronref01_Parse.does h12) (o (bne_iff_ne.2 h13) f))))))))))))) (by kernel_rfl)
            · rw [if_neg h13] at h
              by_cases h14 : v12 ≥ 0
              · rw [if_pos h14] at h
                by_cases h15 : (v38.1.length : Int) = 0
                · rw [if_pos h15] at h
                  obtain rfl := Option.some.inj h
                  exact Til.fin Tryz.func55 [(5, .b true), (9, .b false), (12, ca (.c (.d (.int .i64 v12)))), (15, ca (.c (.d (.int .i64 v15)))), (20, .b false), (22, .b false), (26, ca (.tup [.c (.d (L3 v26.1)), .c (.d (.int .i64 v26.2))])), (33, .b false), (38, ca (.tup [.c (.d (L3 v38.1)), .c (.d (.int .i64 v38.2))])), (45, .b false), (47, .b true), (50, .b true)] (fun _ f => o (decide_eq_true h0) (o (o (nn 0) h0) (o (beq_false_of_ne h1) (o (dendronref03_cut.does h2) (o (dendronref03_cut.does h3) (o (decide_eq_false h4) (o (decide_eq_false h5) (o (o h6 h7) (o (dendronref01_Parse.does h8) (o (ne_f h9) (o (o h10 h11) (o (dendronref01_Parse.does h12) (o (ne_f h13) (o (decide_eq_true h14) (o (beq_iff_eq.2 h15) f))))))))))))))) (by kernel_rfl)
                · rw [if_neg h15] at h
                  obtain ⟨v53, h16, h⟩ := bnd h
                  obtain rfl := Option.some.inj h
                  exact Til.fin Tryz.func55 [(5, .b true), (9, .b false), (12, ca (.c (.d (.int .i64 v12)))), (15, ca (.c (.d (.int .i64 v15)))), (20, .b false), (22, .b false), (26, ca (.tup [.c (.d (L3 v26.1)), .c (.d (.int .i64 v26.2))])), (33, .b false), (38, ca (.tup [.c (.d (L3 v38.1)), .c (.d (.int .i64 v38.2))])), (45, .b false), (47, .b true), (50, .b false), (53, ca (.agg [.d (.bool v53.1), .d (L3 v53.2)]))] (fun _ f => o (decide_eq_true h0) (o (o (nn 0) h0) (o (beq_false_of_ne h1) (o (dendronref03_cut.does h2) (o (dendronref03_cut.does h3) (o (decide_eq_false h4) (o (decide_eq_false h5) (o (o h6 h7) (o (dendronref01_Parse.does h8) (o (ne_f h9) (o (o h10 h11) (o (dendronref01_Parse.does h12) (o (ne_f h13) (o (decide_eq_true h14) (o (beq_false_of_ne h15) (o (dendronref02_Make.does h16) f)))))))))))))))) (by kernel_rfl)
              · rw [if_neg h14] at h
                obtain ⟨v48, h15, h⟩ := bnd h
                obtain ⟨v54, h16, h⟩ := bnd h
                obtain ⟨v59, h17, h⟩ := bnd h
                obtain ⟨v61, h18, h⟩ := bnd h
                obtain ⟨v62, h19, h⟩ := bnd h
                obtain rfl := Option.some.inj h
                exact Til.fin Tryz.func55 [(5, .b true), (9, .b false), (12, ca (.c (.d (.int .i64 v12)))), (15, ca (.c (.d (.int .i64 v15)))), (20, .b false), (22, .b false), (26, ca (.tup [.c (.d (L3 v26.1)), .c (.d (.int .i64 v26.2))])), (33, .b false), (38, ca (.tup [.c (.d (L3 v38.1)), .c (.d (.int .i64 v38.2))])), (45, .b false), (47, .b false), (48, ca (.c (.d (L3 v48)))), (54, ca (.c (.d (L3 v54)))), (59, ca (.c (.d (L3 v59)))), (61, ca (.c (.d (L3 v61)))), (62, ca (.agg [.d (.bool v62.1), .d (L3 v62.2)]))] (fun _ f => o (decide_eq_true h0) (o (o (nn 0) h0) (o (beq_false_of_ne h1) (o (dendronref03_cut.does h2) (o (dendronref03_cut.does h3) (o (decide_eq_false h4) (o (decide_eq_false h5) (o (o h6 h7) (o (dendronref01_Parse.does h8) (o (ne_f h9) (o (o h10 h11) (o (dendronref01_Parse.does h12) (o (ne_f h13) (o (decide_eq_false h14) (o (dendronref01_Small.does h15) (o (dendronref01_Power.does h16) (o (dendronref01_Times.does h17) (o (dendronref01_Plus.does h18) (o (dendronref02_Make.does h19) f))))))))))))))))))) (by kernel_rfl)
  · rw [if_neg h0] at h
    obtain ⟨v12, h1, h⟩ := bnd h
    obtain ⟨v15, h2, h⟩ := bnd h
    by_cases h3 : v12 < 0
    · rw [if_pos h3] at h
      by_cases h4 : v15 < 0
      · rw [if_pos h4] at h
        obtain ⟨v26, h5, h⟩ := bnd h
        obtain ⟨v34, h6, h⟩ := bnd h
        obtain ⟨v35, h7, h⟩ := bnd h
        obtain rfl := Option.some.inj h
        exact Til.fin Tryz.func55 [(5, .b false), (12, ca (.c (.d (.int .i64 v12)))), (15, ca (.c (.d (.int .i64 v15)))), (20, .b true), (24, .b true), (26, ca (.tup [.c (.d (L3 v26.1)), .c (.d (.int .i64 v26.2))])), (34, ca (.agg [.d (.bool v34.1), .d (L3 v34.2)])), (35, ca (.c (.d (L3 v35))))] (fun _ f => o (decide_eq_false h0) (o (dendronref03_cut.does h1) (o (dendronref03_cut.does h2) (o (decide_eq_true h3) (o (decide_eq_true h4) (o (dendronref01_Parse.does h5) (o (dendronref02_Make.does h6) (o (dendronref01_Small.does h7) f)))))))) (by kernel_rfl)
      · rw [if_neg h4] at h
        obtain ⟨h5, h⟩ := ifp h
        obtain ⟨h6, h⟩ := ifp h
        obtain ⟨v28, h7, h⟩ := bnd h
        by_cases h8 : v28.2 ≠ 0
        · rw [if_pos h8] at h
          obtain rfl := Option.some.inj h
          exact Til.fin Tryz.func55 [(5, .b false), (12, ca (.c (.d (.int .i64 v12)))), (15, ca (.c (.d (.int .i64 v15)))), (20, .b true), (24, .b false), (28, ca (.tup [.c (.d (L3 v28.1)), .c (.d (.int .i64 v28.2))])), (35, .b true)] (fun _ f => o (decide_eq_false h0) (o (dendronref03_cut.does h1) (o (dendronref03_cut.does h2) (o (decide_eq_true h3) (o (decide_eq_false h4) (o (o h5 h6) (o (dendronref01_Parse.does h7) (o (bne_iff_ne.2 h8) f)))))))) (by kernel_rfl)
        · rw [if_neg h8] at h
          obtain ⟨h9, h⟩ := ifp h
          obtain ⟨h10, h⟩ := ifp h
          obtain ⟨v40, h11, h⟩ := bnd h
          by_cases h12 : v40.2 ≠ 0
          · rw [if_pos h12] at h
            obtain rfl := Option.some.inj h
            exact Til.fin Tryz.func55 [(5, .b false), (12, ca (.c (.d (.int .i64 v12)))), (15, ca (.c (.d (.int .i64 v15)))), (20, .b true), (24, .b false), (28, ca (.tup [.c (.d (L3 v28.1)), .c (.d (.int .i64 v28.2))])), (35, .b false), (40, ca (.tup [.c (.d (L3 v40.1)), .c (.d (.int .i64 v40.2))])), (47, .b true)] (fun _ f => o (decide_eq_false h0) (o (dendronref03_cut.does h1) (o (dendronref03_cut.does h2) (o (decide_eq_true h3) (o (decide_eq_false h4) (o (o h5 h6) (o (dendronref01_Parse.does h7) (o (ne_f h8) (o (o h9 h10) (o (dendronref01_Parse.does h11) (o (bne_iff_ne.2 h12) f))))))))))) (by kernel_rfl)
          · rw [if_neg h12] at h
            by_cases h13 : v12 ≥ 0
            · rw [if_pos h13] at h
              by_cases h14 : (v40.1.length : Int) = 0
              · rw [if_pos h14] at h
                obtain rfl := Option.some.inj h
                exact Til.fin Tryz.func55 [(5, .b false), (12, ca (.c (.d (.int .i64 v12)))), (15, ca (.c (.d (.int .i64 v15)))), (20, .b true), (24, .b false), (28, ca (.tup [.c (.d (L3 v28.1)), .c (.d (.int .i64 v28.2))])), (35, .b false), (40, ca (.tup [.c (.d (L3 v40.1)), .c (.d (.int .i64 v40.2))])), (47, .b false), (49, .b true), (52, .b true)] (fun _ f => o (decide_eq_false h0) (o (dendronref03_cut.does h1) (o (dendronref03_cut.does h2) (o (decide_eq_true h3) (o (decide_eq_false h4) (o (o h5 h6) (o (dendronref01_Parse.does h7) (o (ne_f h8) (o (o h9 h10) (o (dendronref01_Parse.does h11) (o (ne_f h12) (o (decide_eq_true h13) (o (beq_iff_eq.2 h14) f))))))))))))) (by kernel_rfl)
              · rw [if_neg h14] at h
                obtain ⟨v55, h15, h⟩ := bnd h
                obtain rfl := Option.some.inj h
                exact Til.fin Tryz.func55 [(5, .b false), (12, ca (.c (.d (.int .i64 v12)))), (15, ca (.c (.d (.int .i64 v15)))), (20, .b true), (24, .b false), (28, ca (.tup [.c (.d (L3 v28.1)), .c (.d (.int .i64 v28.2))])), (35, .b false), (40, ca (.tup [.c (.d (L3 v40.1)), .c (.d (.int .i64 v40.2))])), (47, .b false), (49, .b true), (52, .b false), (55, ca (.agg [.d (.bool v55.1), .d (L3 v55.2)]))] (fun _ f => o (decide_eq_false h0) (o (dendronref03_cut.does h1) (o (dendronref03_cut.does h2) (o (decide_eq_true h3) (o (decide_eq_false h4) (o (o h5 h6) (o (dendronref01_Parse.does h7) (o (ne_f h8) (o (o h9 h10) (o (dendronref01_Parse.does h11) (o (ne_f h12) (o (decide_eq_true h13) (o (beq_false_of_ne h14) (o (dendronref02_Make.does h15) f)))))))))))))) (by kernel_rfl)
            · rw [if_neg h13] at h
              obtain ⟨v50, h14, h⟩ := bnd h
              obtain ⟨v56, h15, h⟩ := bnd h
              obtain ⟨v61, h16, h⟩ := bnd h
              obtain ⟨v63, h17, h⟩ := bnd h
              obtain ⟨v64, h18, h⟩ := bnd h
              obtain rfl := Option.some.inj h
              exact Til.fin Tryz.func55 [(5, .b false), (12, ca (.c (.d (.int .i64 v12)))), (15, ca (.c (.d (.int .i64 v15)))), (20, .b true), (24, .b false), (28, ca (.tup [.c (.d (L3 v28.1)), .c (.d (.int .i64 v28.2))])), (35, .b false), (40, ca (.tup [.c (.d (L3 v40.1)), .c (.d (.int .i64 v40.2))])), (47, .b false), (49, .b false), (50, ca (.c (.d (L3 v50)))), (56, ca (.c (.d (L3 v56)))), (61, ca (.c (.d (L3 v61)))), (63, ca (.c (.d (L3 v63)))), (64, ca (.agg [.d (.bool v64.1), .d (L3 v64.2)]))] (fun _ f => o (decide_eq_false h0) (o (dendronref03_cut.does h1) (o (dendronref03_cut.does h2) (o (decide_eq_true h3) (o (decide_eq_false h4) (o (o h5 h6) (o (dendronref01_Parse.does h7) (o (ne_f h8) (o (o h9 h10) (o (dendronref01_Parse.does h11) (o (ne_f h12) (o (decide_eq_false h13) (o (dendronref01_Small.does h14) (o (dendronref01_Power.does h15) (o (dendronref01_Times.does h16) (o (dendronref01_Plus.does h17) (o (dendronref02_Make.does h18) f))))))))))))))))) (by kernel_rfl)
    · rw [if_neg h3] at h
      by_cases h4 : v12 < 0
      · rw [if_pos h4] at h
        obtain ⟨v24, h5, h⟩ := bnd h
        obtain ⟨v32, h6, h⟩ := bnd h
        obtain ⟨v33, h7, h⟩ := bnd h
        obtain rfl := Option.some.inj h
        exact Til.fin Tryz.func55 [(5, .b false), (12, ca (.c (.d (.int .i64 v12)))), (15, ca (.c (.d (.int .i64 v15)))), (20, .b false), (22, .b true), (24, ca (.tup [.c (.d (L3 v24.1)), .c (.d (.int .i64 v24.2))])), (32, ca (.agg [.d (.bool v32.1), .d (L3 v32.2)])), (33, ca (.c (.d (L3 v33))))] (fun _ f => o (decide_eq_false h0) (o (dendronref03_cut.does h1) (o (dendronref03_cut.does h2) (o (decide_eq_false h3) (o (decide_eq_true h4) (o (dendronref01_Parse.does h5) (o (dendronref02_Make.does h6) (o (dendronref01_Small.does h7) f)))))))) (by kernel_rfl)
      · rw [if_neg h4] at h
        obtain ⟨h5, h⟩ := ifp h
        obtain ⟨h6, h⟩ := ifp h
        obtain ⟨v26, h7, h⟩ := bnd h
        by_cases h8 : v26.2 ≠ 0
        · rw [if_pos h8] at h
          obtain rfl := Option.some.inj h
          exact Til.fin Tryz.func55 [(5, .b false), (12, ca (.c (.d (.int .i64 v12)))), (15, ca (.c (.d (.int .i64 v15)))), (20, .b false), (22, .b false), (26, ca (.tup [.c (.d (L3 v26.1)), .c (.d (.int .i64 v26.2))])), (33, .b true)] (fun _ f => o (decide_eq_false h0) (o (dendronref03_cut.does h1) (o (dendronref03_cut.does h2) (o (decide_eq_false h3) (o (decide_eq_false h4) (o (o h5 h6) (o (dendronref01_Parse.does h7) (o (bne_iff_ne.2 h8) f)))))))) (by kernel_rfl)
        · rw [if_neg h8] at h
          obtain ⟨h9, h⟩ := ifp h
          obtain ⟨h10, h⟩ := ifp h
          obtain ⟨v38, h11, h⟩ := bnd h
          by_cases h12 : v38.2 ≠ 0
          · rw [if_pos h12] at h
            obtain rfl := Option.some.inj h
            exact Til.fin Tryz.func55 [(5, .b false), (12, ca (.c (.d (.int .i64 v12)))), (15, ca (.c (.d (.int .i64 v15)))), (20, .b false), (22, .b false), (26, ca (.tup [.c (.d (L3 v26.1)), .c (.d (.int .i64 v26.2))])), (33, .b false), (38, ca (.tup [.c (.d (L3 v38.1)), .c (.d (.int .i64 v38.2))])), (45, .b true)] (fun _ f => o (decide_eq_false h0) (o (dendronref03_cut.does h1) (o (dendronref03_cut.does h2) (o (decide_eq_false h3) (o (decide_eq_false h4) (o (o h5 h6) (o (dendronref01_Parse.does h7) (o (ne_f h8) (o (o h9 h10) (o (dendronref01_Parse.does h11) (o (bne_iff_ne.2 h12) f))))))))))) (by kernel_rfl)
          · rw [if_neg h12] at h
            by_cases h13 : v12 ≥ 0
            · rw [if_pos h13] at h
              by_cases h14 : (v38.1.length : Int) = 0
              · rw [if_pos h14] at h
                obtain rfl := Option.some.inj h
                exact Til.fin Tryz.func55 [(5, .b false), (12, ca (.c (.d (.int .i64 v12)))), (15, ca (.c (.d (.int .i64 v15)))), (20, .b false), (22, .b false), (26, ca (.tup [.c (.d (L3 v26.1)), .c (.d (.int .i64 v26.2))])), (33, .b false), (38, ca (.tup [.c (.d (L3 v38.1)), .c (.d (.int .i64 v38.2))])), (45, .b false), (47, .b true), (50, .b true)] (fun _ f => o (decide_eq_false h0) (o (dendronref03_cut.does h1) (o (dendronref03_cut.does h2) (o (decide_eq_false h3) (o (decide_eq_false h4) (o (o h5 h6) (o (dendronref01_Parse.does h7) (o (ne_f h8) (o (o h9 h10) (o (dendronref01_Parse.does h11) (o (ne_f h12) (o (decide_eq_true h13) (o (beq_iff_eq.2 h14) f))))))))))))) (by kernel_rfl)
              · rw [if_neg h14] at h
                obtain ⟨v53, h15, h⟩ := bnd h
                obtain rfl := Option.some.inj h
                exact Til.fin Tryz.func55 [(5, .b false), (12, ca (.c (.d (.int .i64 v12)))), (15, ca (.c (.d (.int .i64 v15)))), (20, .b false), (22, .b false), (26, ca (.tup [.c (.d (L3 v26.1)), .c (.d (.int .i64 v26.2))])), (33, .b false), (38, ca (.tup [.c (.d (L3 v38.1)), .c (.d (.int .i64 v38.2))])), (45, .b false), (47, .b true), (50, .b false), (53, ca (.agg [.d (.bool v53.1), .d (L3 v53.2)]))] (fun _ f => o (decide_eq_false h0) (o (dendronref03_cut.does h1) (o (dendronref03_cut.does h2) (o (decide_eq_false h3) (o (decide_eq_false h4) (o (o h5 h6) (o (dendronref01_Parse.does h7) (o (ne_f h8) (o (o h9 h10) (o (dendronref01_Parse.does h11) (o (ne_f h12) (o (decide_eq_true h13) (o (beq_false_of_ne h14) (o (dendronref02_Make.does h15) f)))))))))))))) (by kernel_rfl)
            · rw [if_neg h13] at h
              obtain ⟨v48, h14, h⟩ := bnd h
              obtain ⟨v54, h15, h⟩ := bnd h
              obtain ⟨v59, h16, h⟩ := bnd h
              obtain ⟨v61, h17, h⟩ := bnd h
              obtain ⟨v62, h18, h⟩ := bnd h
              obtain rfl := Option.some.inj h
              exact Til.fin Tryz.func55 [(5, .b false), (12, ca (.c (.d (.int .i64 v12)))), (15, ca (.c (.d (.int .i64 v15)))), (20, .b false), (22, .b false), (26, ca (.tup [.c (.d (L3 v26.1)), .c (.d (.int .i64 v26.2))])), (33, .b false), (38, ca (.tup [.c (.d (L3 v38.1)), .c (.d (.int .i64 v38.2))])), (45, .b false), (47, .b false), (48, ca (.c (.d (L3 v48)))), (54, ca (.c (.d (L3 v54)))), (59, ca (.c (.d (L3 v59)))), (61, ca (.c (.d (L3 v61)))), (62, ca (.agg [.d (.bool v62.1), .d (L3 v62.2)]))] (fun _ f => o (decide_eq_false h0) (o (dendronref03_cut.does h1) (o (dendronref03_cut.does h2) (o (decide_eq_false h3) (o (decide_eq_false h4) (o (o h5 h6) (o (dendronref01_Parse.does h7) (o (ne_f h8) (o (o h9 h10) (o (dendronref01_Parse.does h11) (o (ne_f h12) (o (decide_eq_false h13) (o (dendronref01_Small.does h14) (o (dendronref01_Power.does h15) (o (dendronref01_Times.does h16) (o (dendronref01_Plus.does h17) (o (dendronref02_Make.does h18) f))))))))))))))))) (by kernel_rfl)

def dendronlaw03_RatioDecimals.l0E (x1 : Int) (x5 : ByteArray) (x10 : Int) (x11 : Int) (b2_0 : Bool) (b2_1 : List Int) (b2_2 : List Int) (b7_0 : Bool) (b7_1 : List Int) (b7_2 : List Int) (b9_0 : Bool) (b9_1 : List Int) (b9_2 : List Int) : Env := [(1, .c (.d (.int .i64 x1))), (2, .c (.ptr 2 0)), (5, .c (.d (.str x5))), (7, .c (.ptr 7 0)), (9, .c (.ptr 9 0)), (10, .c (.d (.int .i64 x10))), (11, .c (.d (.int .i64 x11)))]
def dendronlaw03_RatioDecimals.l0B (x1 : Int) (x5 : ByteArray) (x10 : Int) (x11 : Int) (b2_0 : Bool) (b2_1 : List Int) (b2_2 : List Int) (b7_0 : Bool) (b7_1 : List Int) (b7_2 : List Int) (b9_0 : Bool) (b9_1 : List Int) (b9_2 : List Int) : Obs := [(2, some (.box [.d (.bool b2_0), .d (L103 b2_1), .d (L103 b2_2)])), (7, some (.box [.d (.bool b7_0), .d (L3 b7_1), .d (L3 b7_2)])), (9, some (.box [.d (.bool b9_0), .d (L3 b9_1), .d (L3 b9_2)]))]
theorem dendronlaw03_RatioDecimals.w (k : Nat) : (∀  (x1 : Int) (x5 : ByteArray) (x10 : Int) (x11 : Int) (b2_0 : Bool) (b2_1 : List Int) (b2_2 : List Int) (b7_0 : Bool) (b7_1 : List Int) (b7_2 : List Int) (b9_0 : Bool) (b9_1 : List Int) (b9_2 : List Int) (r : Bool), dendronlaw03_RatioDecimals.l0 k x1 x5 x10 x11 b2_0 b2_1 b2_2 b7_0 b7_1 b7_2 b9_0 b9_1 b9_2 = some r → Til Tryz.prog 8 [] (.c (.d (.bool r))) none [] (at_ Tryz.f8 13) (dendronlaw03_RatioDecimals.l0E x1 x5 x10 x11 b2_0 b2_1 b2_2 b7_0 b7_1 b7_2 b9_0 b9_1 b9_2) (dendronlaw03_RatioDecimals.l0B x1 x5 x10 x11 b2_0 b2_1 b2_2 b7_0 b7_1 b7_2 b9_0 b9_1 b9_2)) := by
  induction k with
  | zero =>
    exact fun _ _ _ _ _ _ _ _ _ _ _ _ _ _ h => (by cases h)
  | succ k ih =>
    intro x1 x5 x10 x11 b2_0 b2_1 b2_2 b7_0 b7_1 b7_2 b9_0 b9_1 b9_2 r h
    rw [dendronlaw03_RatioDecimals.l0] at h
    by_cases h0 : x11 < (x5.size : Int)
    · rw [if_pos h0] at h
      obtain ⟨h1, h⟩ := ifp h
      by_cases h2 : (bt x5 x11) = 46
      · rw [if_pos h2] at h
        exact Til.mid Tryz.func8 13 [(3, .b true), (7, .b true)] (fun _ f => o (decide_eq_true h0) (o (o h1 h0) (o (beq_iff_eq.2 h2) f))) (by kernel_rfl) (ih _ _ _ _ _ _ _ _ _ _ _ _ _ _ h)
      · rw [if_neg h2] at h
        exact Til.mid Tryz.func8 13 [(3, .b true), (7, .b false)] (fun _ f => o (decide_eq_true h0) (o (o h1 h0) (o (beq_false_of_ne h2) f))) (by kernel_rfl) (ih _ _ _ _ _ _ _ _ _ _ _ _ _ _ h)
    · rw [if_neg h0] at h
      obtain ⟨v6, h1, h⟩ := bnd h
      obtain ⟨v10, h2, h⟩ := bnd h
      obtain ⟨v12, h3, h⟩ := bnd h
      obtain ⟨v14, h4, h⟩ := bnd h
      obtain ⟨v15, h5, h⟩ := bnd h
      obtain ⟨v16, h6, h⟩ := bnd h
      obtain ⟨v20, h7, h⟩ := bnd h
      obtain ⟨v21, h8, h⟩ := bnd h
      obtain ⟨v24, h9, h⟩ := bnd h
      obtain ⟨v25, h10, h⟩ := bnd h
      obtain ⟨v26, h11, h⟩ := bnd h
      by_cases h12 : x10 = x1
      · rw [if_pos h12] at h
        by_cases h13 : v21 ≤ 0
        · rw [if_pos h13] at h
          by_cases h14 : v21 < 0
          · rw [if_pos h14] at h
            obtain ⟨v52, h15, h⟩ := bnd h
            obtain rfl := Option.some.inj h
            exact Til.fin Tryz.func8 [(3, .b false), (6, ca (.agg [.d (.bool v6.1), .d (L3 v6.2.1), .d (L3 v6.2.2)])), (10, ca (.agg [.d (.bool v10.1), .d (L3 v10.2.1), .d (L3 v10.2.2)])), (12, ca (.agg [.d (.bool v12.1), .d (L3 v12.2.1), .d (L3 v12.2.2)])), (14, ca (.agg [.d (.bool v14.1), .d (L3 v14.2.1), .d (L3 v14.2.2)])), (15, ca (.agg [.d (.bool v15.1), .d (L3 v15.2.1), .d (L3 v15.2.2)])), (16, ca (.agg [.d (.bool v16.1), .d (L3 v16.2.1), .d (L3 v16.2.2)])), (20, ca (.agg [.d (.bool v20.1), .d (L3 v20.2.1), .d (L3 v20.2.2)])), (21, ca (.c (.d (.int .i64 v21)))), (24, ca (.agg [.d (.bool v24.1), .d (L3 v24.2)])), (25, ca (.agg [.d (.bool v25.1), .d (L3 v25.2)])), (26, ca (.tup [.agg [.d (.bool v26.1), .d (L3 v26.2.1)], .agg [.d (.bool v26.2.2.1), .d (L3 v26.2.2.2)]])), (36, .b true), (39, .b true), (43, .b true), (52, ca (.c (.d (.bool v52))))] (fun _ f => o (decide_eq_false h0) (o (dendronref03_Times.does h1) (o (dendronref03_From.does h2) (o (dendronref03_Times.does h3) (o (dendronref03_Minus.does h4) (o (dendronref03_Plus.does h5) (o (dendronlaw03_abs.does h6) (o (dendronref03_Small.does h7) (o (dendronref03_Order.does h8) (o (dendronref03_Floor.does h9) (o (dendronref02_Small.does h10) (o (dendronref02_Over.does h11) (o (beq_iff_eq.2 h12) (o (decide_eq_true h13) (o (decide_eq_true h14) (o (dendronlaw03_awake.does h15) f)))))))))))))))) (by kernel_rfl)
          · rw [if_neg h14] at h
            by_cases h15 : (v26.2.2.2.length : Int) = 0
            · rw [if_pos h15] at h
              obtain ⟨v52, h16, h⟩ := bnd h
              obtain rfl := Option.some.inj h
              exact Til.fin Tryz.func8 [(3, .b false), (6, ca (.agg [.d (.bool v6.1), .d (L3 v6.2.1), .d (L3 v6.2.2)])), (10, ca (.agg [.d (.bool v10.1), .d (L3 v10.2.1), .d (L3 v10.2.2)])), (12, ca (.agg [.d (.bool v12.1), .d (L3 v12.2.1), .d (L3 v12.2.2)])), (14, ca (.agg [.d (.bool v14.1), .d (L3 v14.2.1), .d (L3 v14.2.2)])), (15, ca (.agg [.d (.bool v15.1), .d (L3 v15.2.1), .d (L3 v15.2.2)])), (16, ca (.agg [.d (.bool v16.1), .d (L3 v16.2.1), .d (L3 v16.2.2)])), (20, ca (.agg [.d (.bool v20.1), .d (L3 v20.2.1), .d (L3 v20.2.2)])), (21, ca (.c (.d (.int .i64 v21)))), (24, ca (.agg [.d (.bool v24.1), .d (L3 v24.2)])), (25, ca (.agg [.d (.bool v25.1), .d (L3 v25.2)])), (26, ca (.tup [.agg [.d (.bool v26.1), .d (L3 v26.2.1)], .agg [.d (.bool v26.2.2.1), .d (L3 v26.2.2.2)]])), (36, .b true), (39, .b true), (43, .b false), (48, .b true), (52, ca (.c (.d (.bool v52))))] (fun _ f => o (decide_eq_false h0) (o (dendronref03_Times.does h1) (o (dendronref03_From.does h2) (o (dendronref03_Times.does h3) (o (dendronref03_Minus.does h4) (o (dendronref03_Plus.does h5) (o (dendronlaw03_abs.does h6) (o (dendronref03_Small.does h7) (o (dendronref03_Order.does h8) (o (dendronref03_Floor.does h9) (o (dendronref02_Small.does h10) (o (dendronref02_Over.does h11) (o (beq_iff_eq.2 h12) (o (decide_eq_true h13) (o (decide_eq_false h14) (o (beq_iff_eq.2 h15) (o (dendronlaw03_awake.does h16) f))))))))))))))))) (by kernel_rfl)
            · rw [if_neg h15] at h
              obtain rfl := Option.some.inj h
              exact Til.fin Tryz.func8 [(3, .b false), (6, ca (.agg [.d (.bool v6.1), .d (L3 v6.2.1), .d (L3 v6.2.2)])), (10, ca (.agg [.d (.bool v10.1), .d (L3 v10.2.1), .d (L3 v10.2.2)])), (12, ca (.agg [.d (.bool v12.1), .d (L3 v12.2.1), .d (L3 v12.2.2)])), (14, ca (.agg [.d (.bool v14.1), .d (L3 v14.2.1), .d (L3 v14.2.2)])), (15, ca (.agg [.d (.bool v15.1), .d (L3 v15.2.1), .d (L3 v15.2.2)])), (16, ca (.agg [.d (.bool v16.1), .d (L3 v16.2.1), .d (L3 v16.2.2)])), (20, ca (.agg [.d (.bool v20.1), .d (L3 v20.2.1), .d (L3 v20.2.2)])), (21, ca (.c (.d (.int .i64 v21)))), (24, ca (.agg [.d (.bool v24.1), .d (L3 v24.2)])), (25, ca (.agg [.d (.bool v25.1), .d (L3 v25.2)])), (26, ca (.tup [.agg [.d (.bool v26.1), .d (L3 v26.2.1)], .agg [.d (.bool v26.2.2.1), .d (L3 v26.2.2.2)]])), (36, .b true), (39, .b true), (43, .b false), (48, .b false)] (fun _ f => o (decide_eq_false h0) (o (dendronref03_Times.does h1) (o (dendronref03_From.does h2) (o (dendronref03_Times.does h3) (o (dendronref03_Minus.does h4) (o (dendronref03_Plus.does h5) (o (dendronlaw03_abs.does h6) (o (dendronref03_Small.does h7) (o (dendronref03_Order.does h8) (o (dendronref03_Floor.does h9) (o (dendronref02_Small.does h10) (o (dendronref02_Over.does h11) (o (beq_iff_eq.2 h12) (o (decide_eq_true h13) (o (decide_eq_false h14) (o (beq_false_of_ne h15) f)))))))))))))))) (by kernel_rfl)
        · rw [if_neg h13] at h
          obtain rfl := Option.some.inj h
          exact Til.fin Tryz.func8 [(3, .b false), (6, ca (.agg [.d (.bool v6.1), .d (L3 v6.2.1), .d (L3 v6.2.2)])), (10, ca (.agg [.d (.bool v10.1), .d (L3 v10.2.1), .d (L3 v10.2.2)])), (12, ca (.agg [.d (.bool v12.1), .d (L3 v12.2.1), .d (L3 v12.2.2)])), (14, ca (.agg [.d (.bool v14.1), .d (L3 v14.2.1), .d (L3 v14.2.2)])), (15, ca (.agg [.d (.bool v15.1), .d (L3 v15.2.1), .d (L3 v15.2.2)])), (16, ca (.agg [.d (.bool v16.1), .d (L3 v16.2.1), .d (L3 v16.2.2)])), (20, ca (.agg [.d (.bool v20.1), .d (L3 v20.2.1), .d (L3 v20.2.2)])), (21, ca (.c (.d (.int .i64 v21)))), (24, ca (.agg [.d (.bool v24.1), .d (L3 v24.2)])), (25, ca (.agg [.d (.bool v25.1), .d (L3 v25.2)])), (26, ca (.tup [.agg [.d (.bool v26.1), .d (L3 v26.2.1)], .agg [.d (.bool v26.2.2.1), .d (L3 v26.2.2.2)]])), (36, .b true), (39, .b false)] (fun _ f => o (decide_eq_false h0) (o (dendronref03_Times.does h1) (o (dendronref03_From.does h2) (o (dendronref03_Times.does h3) (o (dendronref03_Minus.does h4) (o (dendronref03_Plus.does h5) (o (dendronlaw03_abs.does h6) (o (dendronref03_Small.does h7) (o (dendronref03_Order.does h8) (o (dendronref03_Floor.does h9) (o (dendronref02_Small.does h10) (o (dendronref02_Over.does h11) (o (beq_iff_eq.2 h12) (o (decide_eq_false h13) f)))))))))))))) (by kernel_rfl)
      · rw [if_neg h12] at h
        obtain rfl := Option.some.inj h
        exact Til.fin Tryz.func8 [(3, .b false), (6, ca (.agg [.d (.bool v6.1), .d (L3 v6.2.1), .d (L3 v6.2.2)])), (10, ca (.agg [.d (.bool v10.1), .d (L3 v10.2.1), .d (L3 v10.2.2)])), (12, ca (.agg [.d (.bool v12.1), .d (L3 v12.2.1), .d (L3 v12.2.2)])), (14, ca (.agg [.d (.bool v14.1), .d (L3 v14.2.1), .d (L3 v14.2.2)])), (15, ca (.agg [.d (.bool v15.1), .d (L3 v15.2.1), .d (L3 v15.2.2)])), (16, ca (.agg [.d (.bool v16.1), .d (L3 v16.2.1), .d (L3 v16.2.2)])), (20, ca (.agg [.d (.bool v20.1), .d (L3 v20.2.1), .d (L3 v20.2.2)])), (21, ca (.c (.d (.int .i64 v21)))), (24, ca (.agg [.d (.bool v24.1), .d (L3 v24.2)])), (25, ca (.agg [.d (.bool v25.1), .d (L3 v25.2)])), (26, ca (.tup [.agg [.d (.bool v26.1), .d (L3 v26.2.1)], .agg [.d (.bool v26.2.2.1), .d (L3 v26.2.2.2)]])), (36, .b false)] (fun _ f => o (decide_eq_false h0) (o (dendronref03_Times.does h1) (o (dendronref03_From.does h2) (o (dendronref03_Times.does h3) (o (dendronref03_Minus.does h4) (o (dendronref03_Plus.does h5) (o (dendronlaw03_abs.does h6) (o (dendronref03_Small.does h7) (o (dendronref03_Order.does h8) (o (dendronref03_Floor.does h9) (o (dendronref02_Small.does h10) (o (dendronref02_Over.does h11) (o (beq_false_of_ne h12) f))))))))))))) (by kernel_rfl)
theorem dendronlaw03_RatioDecimals.does {k : Nat} {a0_0 : Bool} {l0_1 : List Int} {l0_2 : List Int} {a1 : Int} {r : Bool} (h : dendronlaw03_RatioDecimals.f k a0_0 l0_1 l0_2 a1 = some r) :
    Does Tryz.prog 8 [.agg [.d (.bool a0_0), .d (L103 l0_1), .d (L103 l0_2)], .c (.d (.int .i64 a1))] [] (.c (.d (.bool r))) none [] := by
  refine does_fn Tryz.func8 (by kernel_rfl) rfl rfl ?_
  unfold dendronlaw03_RatioDecimals.f at h
  have ih := dendronlaw03_RatioDecimals.w k
  obtain ⟨v3, h0, h⟩ := bnd h
  by_cases h1 : a1 > 20
  · rw [if_pos h1] at h
    by_cases h2 : a1 ≤ 10000
    · rw [if_pos h2] at h
      obtain ⟨v11, h3, h⟩ := bnd h
      obtain rfl := Option.some.inj h
      exact Til.fin Tryz.func8 [(3, ca (.agg [.d (.bool v3.1), .d (L103 v3.2.1), .d (L103 v3.2.2)])), (6, .b true), (9, .b true), (11, ca (.c (.d (.bool v11))))] (fun _ f => o (dendronlaw03_tiny.does h0) (o (decide_eq_true h1) (o (decide_eq_true h2) (o (dendronlaw03_awake.does h3) f)))) (by kernel_rfl)
    · rw [if_neg h2] at h
      obtain ⟨v13, h3, h⟩ := bnd h
      by_cases h4 : a1 < 0
      · rw [if_pos h4] at h
        by_cases h5 : v13.1 = ByteArray.empty
        · rw [if_pos h5] at h
          by_cases h6 : v13.2 = 8
          · rw [if_pos h6] at h
            obtain ⟨v32, h7, h⟩ := bnd h
            obtain rfl := Option.some.inj h
            exact Til.fin Tryz.func8 [(3, ca (.agg [.d (.bool v3.1), .d (L103 v3.2.1), .d (L103 v3.2.2)])), (6, .b true), (9, .b false), (13, ca (.tup [.c (.d (.str v13.1)), .c (.d (.int .i64 v13.2))])), (20, .b true), (26, .b true), (29, .b true), (32, ca (.c (.d (.bool v32))))] (fun _ f => o (dendronlaw03_tiny.does h0) (o (decide_eq_true h1) (o (decide_eq_false h2) (o (ratio_Decimal.does h3) (o (decide_eq_true h4) (o (str_t h5) (o (beq_iff_eq.2 h6) (o (dendronlaw03_awake.does h7) f)))))))) (by kernel_rfl)
          · rw [if_neg h6] at h
            obtain rfl := Option.some.inj h
            exact Til.fin Tryz.func8 [(3, ca (.agg [.d (.bool v3.1), .d (L103 v3.2.1), .d (L103 v3.2.2)])), (6, .b true), (9, .b false), (13, ca (.tup [.c (.d (.str v13.1)), .c (.d (.int .i64 v13.2))])), (20, .b true), (26, .b true), (29, .b false)] (fun _ f => o (dendronlaw03_tiny.does h0) (o (decide_eq_true h1) (o (decide_eq_false h2) (o (ratio_Decimal.does h3) (o (decide_eq_true h4) (o (str_t h5) (o (beq_false_of_ne h6) f))))))) (by kernel_rfl)
        · rw [if_neg h5] at h
          obtain rfl := Option.some.inj h
          exact Til.fin Tryz.func8 [(3, ca (.agg [.d (.bool v3.1), .d (L103 v3.2.1), .d (L103 v3.2.2)])), (6, .b true), (9, .b false), (13, ca (.tup [.c (.d (.str v13.1)), .c (.d (.int .i64 v13.2))])), (20, .b true), (26, .b false)] (fun _ f => o (dendronlaw03_tiny.does h0) (o (decide_eq_true h1) (o (decide_eq_false h2) (o (ratio_Decimal.does h3) (o (decide_eq_true h4) (o (str_f h5) f)))))) (by kernel_rfl)
      · rw [if_neg h4] at h
        by_cases h5 : a1 > 10000
        · rw [if_pos h5] at h
          by_cases h6 : v13.1 = ByteArray.empty
          · rw [if_pos h6] at h
            by_cases h7 : v13.2 = 8
            · rw [if_pos h7] at h
              obtain ⟨v32, h8, h⟩ := bnd h
              obtain rfl := Option.some.inj h
              exact Til.fin Tryz.func8 [(3, ca (.agg [.d (.bool v3.1), .d (L103 v3.2.1), .d (L103 v3.2.2)])), (6, .b true), (9, .b false), (13, ca (.tup [.c (.d (.str v13.1)), .c (.d (.int .i64 v13.2))])), (20, .b false), (23, .b true), (26, .b true), (29, .b true), (32, ca (.c (.d (.bool v32))))] (fun _ f => o (dendronlaw03_tiny.does h0) (o (decide_eq_true h1) (o (decide_eq_false h2) (o (ratio_Decimal.does h3) (o (decide_eq_false h4) (o (decide_eq_true h5) (o (str_t h6) (o (beq_iff_eq.2 h7) (o (dendronlaw03_awake.does h8) f))))))))) (by kernel_rfl)
            · rw [if_neg h7] at h
              obtain rfl := Option.some.inj h
              exact Til.fin Tryz.func8 [(3, ca (.agg [.d (.bool v3.1), .d (L103 v3.2.1), .d (L103 v3.2.2)])), (6, .b true), (9, .b false), (13, ca (.tup [.c (.d (.str v13.1)), .c (.d (.int .i64 v13.2))])), (20, .b false), (23, .b true), (26, .b true), (29, .b false)] (fun _ f => o (dendronlaw03_tiny.does h0) (o (decide_eq_true h1) (o (decide_eq_false h2) (o (ratio_Decimal.does h3) (o (decide_eq_false h4) (o (decide_eq_true h5) (o (str_t h6) (o (beq_false_of_ne h7) f)))))))) (by kernel_rfl)
          · rw [if_neg h6] at h
            obtain rfl := Option.some.inj h
            exact Til.fin Tryz.func8 [(3, ca (.agg [.d (.bool v3.1), .d (L103 v3.2.1), .d (L103 v3.2.2)])), (6, .b true), (9, .b false), (13, ca (.tup [.c (.d (.str v13.1)), .c (.d (.int .i64 v13.2))])), (20, .b false), (23, .b true), (26, .b false)] (fun _ f => o (dendronlaw03_tiny.does h0) (o (decide_eq_true h1) (o (decide_eq_false h2) (o (ratio_Decimal.does h3) (o (decide_eq_false h4) (o (decide_eq_true h5) (o (str_f h6) f))))))) (by kernel_rfl)
        · rw [if_neg h5] at h
          obtain ⟨v26, h6, h⟩ := bnd h
          obtain ⟨v33, h7, h⟩ := bnd h
          obtain ⟨v35, h8, h⟩ := bnd h
          obtain ⟨v36, h9, h⟩ := bnd h
          obtain ⟨v37, h10, h⟩ := bnd h
          by_cases h11 : v13.2 ≠ 0
          · rw [if_pos h11] at h
            obtain rfl := Option.some.inj h
            exact Til.fin Tryz.func8 [(3, ca (.agg [.d (.bool v3.1), .d (L103 v3.2.1), .d (L103 v3.2.2)])), (6, .b true), (9, .b false), (13, ca (.tup [.c (.d (.str v13.1)), .c (.d (.int .i64 v13.2))])), (20, .b false), (23, .b false), (26, ca (.tup [.agg [.d (.bool v26.1), .d (L3 v26.2.1), .d (L3 v26.2.2.1)], .c (.d (.int .i64 v26.2.2.2))])), (33, ca (.c (.d (L3 v33)))), (35, ca (.c (.d (L3 v35)))), (36, ca (.agg [.d (.bool v36.1), .d (L3 v36.2)])), (37, ca (.agg [.d (.bool v37.1), .d (L3 v37.2.1), .d (L3 v37.2.2)])), (41, .b true)] (fun _ f => o (dendronlaw03_tiny.does h0) (o (decide_eq_true h1) (o (decide_eq_false h2) (o (ratio_Decimal.does h3) (o (decide_eq_false h4) (o (decide_eq_false h5) (o (dendronref03_Parse.does h6) (o (dendronref01_Small.does h7) (o (dendronref01_Power.does h8) (o (dendronref02_Make.does h9) (o (dendronref03_Whole.does h10) (o (bne_iff_ne.2 h11) f)))))))))))) (by kernel_rfl)
          · rw [if_neg h11] at h
            by_cases h12 : v26.2.2.2 ≠ 0
            · rw [if_pos h12] at h
              obtain rfl := Option.some.inj h
              exact Til.fin Tryz.func8 [(3, ca (.agg [.d (.bool v3.1), .d (L103 v3.2.1), .d (L103 v3.2.2)])), (6, .b true), (9, .b false), (13, ca (.tup [.c (.d (.str v13.1)), .c (.d (.int .i64 v13.2))])), (20, .b false), (23, .b false), (26, ca (.tup [.agg [.d (.bool v26.1), .d (L3 v26.2.1), .d (L3 v26.2.2.1)], .c (.d (.int .i64 v26.2.2.2))])), (33, ca (.c (.d (L3 v33)))), (35, ca (.c (.d (L3 v35)))), (36, ca (.agg [.d (.bool v36.1), .d (L3 v36.2)])), (37, ca (.agg [.d (.bool v37.1), .d (L3 v37.2.1), .d (L3 v37.2.2)])), (41, .b false), (44, .b true)] (fun _ f => o (dendronlaw03_tiny.does h0) (o (decide_eq_true h1) (o (decide_eq_false h2) (o (ratio_Decimal.does h3) (o (decide_eq_false h4) (o (decide_eq_false h5) (o (dendronref03_Parse.does h6) (o (dendronref01_Small.does h7) (o (dendronref01_Power.does h8) (o (dendronref02_Make.does h9) (o (dendronref03_Whole.does h10) (o (ne_f h11) (o (bne_iff_ne.2 h12) f))))))))))))) (by kernel_rfl)
            · rw [if_neg h12] at h
              exact Til.mid Tryz.func8 13 [(3, ca (.agg [.d (.bool v3.1), .d (L103 v3.2.1), .d (L103 v3.2.2)])), (6, .b true), (9, .b false), (13, ca (.tup [.c (.d (.str v13.1)), .c (.d (.int .i64 v13.2))])), (20, .b false), (23, .b false), (26, ca (.tup [.agg [.d (.bool v26.1), .d (L3 v26.2.1), .d (L3 v26.2.2.1)], .c (.d (.int .i64 v26.2.2.2))])), (33, ca (.c (.d (L3 v33)))), (35, ca (.c (.d (L3 v35)))), (36, ca (.agg [.d (.bool v36.1), .d (L3 v36.2)])), (37, ca (.agg [.d (.bool v37.1), .d (L3 v37.2.1), .d (L3 v37.2.2)])), (41, .b false), (44, .b false)] (fun _ f => o (dendronlaw03_tiny.does h0) (o (decide_eq_true h1) (o (decide_eq_false h2) (o (ratio_Decimal.does h3) (o (decide_eq_false h4) (o (decide_eq_false h5) (o (dendronref03_Parse.does h6) (o (dendronref01_Small.does h7) (o (dendronref01_Power.does h8) (o (dendronref02_Make.does h9) (o (dendronref03_Whole.does h10) (o (ne_f h11) (o (ne_f h12) f))))))))))))) (by kernel_rfl) (ih _ _ _ _ _ _ _ _ _ _ _ _ _ _ h)
  · rw [if_neg h1] at h
    obtain ⟨v13, h2, h⟩ := bnd h
    by_cases h3 : a1 < 0
    · rw [if_pos h3] at h
      by_cases h4 : v13.1 = ByteArray.empty
      · rw [if_pos h4] at h
        by_cases h5 : v13.2 = 8
        · rw [if_pos h5] at h
          obtain ⟨v32, h6, h⟩ := bnd h
          obtain rfl := Option.some.inj h
          exact Til.fin Tryz.func8 [(3, ca (.agg [.d (.bool v3.1), .d (L103 v3.2.1), .d (L103 v3.2.2)])), (6, .b false), (13, ca (.tup [.c (.d (.str v13.1)), .c (.d (.int .i64 v13.2))])), (20, .b true), (26, .b true), (29, .b true), (32, ca (.c (.d (.bool v32))))] (fun _ f => o (dendronlaw03_tiny.does h0) (o (decide_eq_false h1) (o (ratio_Decimal.does h2) (o (decide_eq_true h3) (o (str_t h4) (o (beq_iff_eq.2 h5) (o (dendronlaw03_awake.does h6) f))))))) (by kernel_rfl)
        · rw [if_neg h5] at h
          obtain rfl := Option.some.inj h
          exact Til.fin Tryz.func8 [(3, ca (.agg [.d (.bool v3.1), .d (L103 v3.2.1), .d (L103 v3.2.2)])), (6, .b false), (13, ca (.tup [.c (.d (.str v13.1)), .c (.d (.int .i64 v13.2))])), (20, .b true), (26, .b true), (29, .b false)] (fun _ f => o (dendronlaw03_tiny.does h0) (o (decide_eq_false h1) (o (ratio_Decimal.does h2) (o (decide_eq_true h3) (o (str_t h4) (o (beq_false_of_ne h5) f)))))) (by kernel_rfl)
      · rw [if_neg h4] at h
        obtain rfl := Option.some.inj h
        exact Til.fin Tryz.func8 [(3, ca (.agg [.d (.bool v3.1), .d (L103 v3.2.1), .d (L103 v3.2.2)])), (6, .b false), (13, ca (.tup [.c (.d (.str v13.1)), .c (.d (.int .i64 v13.2))])), (20, .b true), (26, .b false)] (fun _ f => o (dendronlaw03_tiny.does h0) (o (decide_eq_false h1) (o (ratio_Decimal.does h2) (o (decide_eq_true h3) (o (str_f h4) f))))) (by kernel_rfl)
    · rw [if_neg h3] at h
      by_cases h4 : a1 > 10000
      · rw [if_pos h4] at h
        by_cases h5 : v13.1 = ByteArray.empty
        · rw [if_pos h5] at h
          by_cases h6 : v13.2 = 8
          · rw [if_pos h6] at h
            obtain ⟨v32, h7, h⟩ := bnd h
            obtain rfl := Option.some.inj h
            exact Til.fin Tryz.func8 [(3, ca (.agg [.d (.bool v3.1), .d (L103 v3.2.1), .d (L103 v3.2.2)])), (6, .b false), (13, ca (.tup [.c (.d (.str v13.1)), .c (.d (.int .i64 v13.2))])), (20, .b false), (23, .b true), (26, .b true), (29, .b true), (32, ca (.c (.d (.bool v32))))] (fun _ f => o (dendronlaw03_tiny.does h0) (o (decide_eq_false h1) (o (ratio_Decimal.does h2) (o (decide_eq_false h3) (o (decide_eq_true h4) (o (str_t h5) (o (beq_iff_eq.2 h6) (o (dendronlaw03_awake.does h7) f)))))))) (by kernel_rfl)
          · rw [if_neg h6] at h
            obtain rfl := Option.some.inj h
            exact Til.fin Tryz.func8 [(3, ca (.agg [.d (.bool v3.1), .d (L103 v3.2.1), .d (L103 v3.2.2)])), (6, .b false), (13, ca (.tup [.c (.d (.str v13.1)), .c (.d (.int .i64 v13.2))])), (20, .b false), (23, .b true), (26, .b true), (29, .b false)] (fun _ f => o (dendronlaw03_tiny.does h0) (o (decide_eq_false h1) (o (ratio_Decimal.does h2) (o (decide_eq_false h3) (o (decide_eq_true h4) (o (str_t h5) (o (beq_false_of_ne h6) f))))))) (by kernel_rfl)
        · rw [if_neg h5] at h
          obtain rfl := Option.some.inj h
          exact Til.fin Tryz.func8 [(3, ca (.agg [.d (.bool v3.1), .d (L103 v3.2.1), .d (L103 v3.2.2)])), (6, .b false), (13, ca (.tup [.c (.d (.str v13.1)), .c (.d (.int .i64 v13.2))])), (20, .b false), (23, .b true), (26, .b false)] (fun _ f => o (dendronlaw03_tiny.does h0) (o (decide_eq_false h1) (o (ratio_Decimal.does h2) (o (decide_eq_false h3) (o (decide_eq_true h4) (o (str_f h5) f)))))) (by kernel_rfl)
      · rw [if_neg h4] at h
        obtain ⟨v26, h5, h⟩ := bnd h
        obtain ⟨v33, h6, h⟩ := bnd h
        obtain ⟨v35, h7, h⟩ := bnd h
        obtain ⟨v36, h8, h⟩ := bnd h
        obtain ⟨v37, h9, h⟩ := bnd h
        by_cases h10 : v13.2 ≠ 0
        · rw [if_pos h10] at h
          obtain rfl := Option.some.inj h
          exact Til.fin Tryz.func8 [(3, ca (.agg [.d (.bool v3.1), .d (L103 v3.2.1), .d (L103 v3.2.2)])), (6, .b false), (13, ca (.tup [.c (.d (.str v13.1)), .c (.d (.int .i64 v13.2))])), (20, .b false), (23, .b false), (26, ca (.tup [.agg [.d (.bool v26.1), .d (L3 v26.2.1), .d (L3 v26.2.2.1)], .c (.d (.int .i64 v26.2.2.2))])), (33, ca (.c (.d (L3 v33)))), (35, ca (.c (.d (L3 v35)))), (36, ca (.agg [.d (.bool v36.1), .d (L3 v36.2)])), (37, ca (.agg [.d (.bool v37.1), .d (L3 v37.2.1), .d (L3 v37.2.2)])), (41, .b true)] (fun _ f => o (dendronlaw03_tiny.does h0) (o (decide_eq_false h1) (o (ratio_Decimal.does h2) (o (decide_eq_false h3) (o (decide_eq_false h4) (o (dendronref03_Parse.does h5) (o (dendronref01_Small.does h6) (o (dendronref01_Power.does h7) (o (dendronref02_Make.does h8) (o (dendronref03_Whole.does h9) (o (bne_iff_ne.2 h10) f))))))))))) (by kernel_rfl)
        · rw [if_neg h10] at h
          by_cases h11 : v26.2.2.2 ≠ 0
          · rw [if_pos h11] at h
            obtain rfl := Option.some.inj h
            exact Til.fin Tryz.func8 [(3, ca (.agg [.d (.bool v3.1), .d (L103 v3.2.1), .d (L103 v3.2.2)])), (6, .b false), (13, ca (.tup [.c (.d (.str v13.1)), .c (.d (.int .i64 v13.2))])), (20, .b false), (23, .b false), (26, ca (.tup [.agg [.d (.bool v26.1), .d (L3 v26.2.1), .d (L3 v26.2.2.1)], .c (.d (.int .i64 v26.2.2.2))])), (33, ca (.c (.d (L3 v33)))), (35, ca (.c (.d (L3 v35)))), (36, ca (.agg [.d (.bool v36.1), .d (L3 v36.2)])), (37, ca (.agg [.d (.bool v37.1), .d (L3 v37.2.1), .d (L3 v37.2.2)])), (41, .b false), (44, .b true)] (fun _ f => o (dendronlaw03_tiny.does h0) (o (decide_eq_false h1) (o (ratio_Decimal.does h2) (o (decide_eq_false h3) (o (decide_eq_false h4) (o (dendronref03_Parse.does h5) (o (dendronref01_Small.does h6) (o (dendronref01_Power.does h7) (o (dendronref02_Make.does h8) (o (dendronref03_Whole.does h9) (o (ne_f h10) (o (bne_iff_ne.2 h11) f)))))))))))) (by kernel_rfl)
          · rw [if_neg h11] at h
            exact Til.mid Tryz.func8 13 [(3, ca (.agg [.d (.bool v3.1), .d (L103 v3.2.1), .d (L103 v3.2.2)])), (6, .b false), (13, ca (.tup [.c (.d (.str v13.1)), .c (.d (.int .i64 v13.2))])), (20, .b false), (23, .b false), (26, ca (.tup [.agg [.d (.bool v26.1), .d (L3 v26.2.1), .d (L3 v26.2.2.1)], .c (.d (.int .i64 v26.2.2.2))])), (33, ca (.c (.d (L3 v33)))), (35, ca (.c (.d (L3 v35)))), (36, ca (.agg [.d (.bool v36.1), .d (L3 v36.2)])), (37, ca (.agg [.d (.bool v37.1), .d (L3 v37.2.1), .d (L3 v37.2.2)])), (41, .b false), (44, .b false)] (fun _ f => o (dendronlaw03_tiny.does h0) (o (decide_eq_false h1) (o (ratio_Decimal.does h2) (o (decide_eq_false h3) (o (decide_eq_false h4) (o (dendronref03_Parse.does h5) (o (dendronref01_Small.does h6) (o (dendronref01_Power.does h7) (o (dendronref02_Make.does h8) (o (dendronref03_Whole.does h9) (o (ne_f h10) (o (ne_f h11) f)))))))))))) (by kernel_rfl) (ih _ _ _ _ _ _ _ _ _ _ _ _ _ _ h)

def c25 (x : Bool × List Int) : List Dat := [.bool x.1, L103 x.2]
def L25 (xs : List (Bool × List Int)) : Dat := fr 2 c25 (false, []) xs
def Z25 (xs : List (Bool × List Int)) : Sup := .r xs.length (enc c25 (false, []) xs)
def O25 (k : RK) (xs : List (Bool × List Int)) : Ob := .row k 25 2 xs.length (enc c25 (false, []) xs)

def c4 (x : Bool) : List Dat := [.bool x]
def L4 (xs : List Bool) : Dat := fr 1 c4 false xs
def Z4 (xs : List Bool) : Sup := .r xs.length (enc c4 false xs)
def O4 (k : RK) (xs : List Bool) : Ob := .row k 4 1 xs.length (enc c4 false xs)

def c23 (x : List Int) : List Dat := [L103 x]
def L23 (xs : List (List Int)) : Dat := fr 1 c23 [] xs
def Z23 (xs : List (List Int)) : Sup := .r xs.length (enc c23 [] xs)
def O23 (k : RK) (xs : List (List Int)) : Ob := .row k 23 1 xs.length (enc c23 [] xs)

end Go.DI
