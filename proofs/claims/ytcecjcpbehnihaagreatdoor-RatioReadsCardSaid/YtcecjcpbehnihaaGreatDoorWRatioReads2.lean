/- The code of the functions does what is told of it, part 2. No condition. -/
import Derived.Test.YtcecjcpbehnihaaGreatDoorWRatioReads1
set_option linter.all false
namespace Go.DI
open Go Go.RowKit Go.Proofs
set_option linter.unusedVariables false
set_option maxRecDepth 20000
theorem dendronref03_Parse.does {k : Nat} {a0 : ByteArray} {r : Bool × List Int × List Int × Int} (h : dendronref03_Parse.f k a0 = some r) :
    Does Tryz.prog 55 [.c (.d (.str a0))] [] (.tup [.agg [.d (.bool r.1), .d (L3 r.2.1), .d (L3 r.2.2.1)], .c (.d (.int .i64 r.2.2.2))]) none [] := by
  refine does_fn Tryz.func55 (by kernel_rfl) rfl rfl ?_
  unfold dendronref03_Parse.f at h
  by_cases h0 : (a0.size : Int) > 0
  · rw [if_pos h0] at h
    by_cases h1 : (bt a0 0) = 45
    · rw [if_pos h1] at h
      obtain ⟨h2, h⟩ := ifp h
      obtain ⟨v16, h3, h⟩ := bnd h
      obtain ⟨v19, h4, h⟩ := bnd h
      by_cases h5 : v16 < 0
      · rw [if_pos h5] at h
        by_cases h6 : v19 < 0
        · rw [if_pos h6] at h
          obtain ⟨v30, h7, h⟩ := bnd h
          obtain ⟨v38, h8, h⟩ := bnd h
          obtain ⟨v39, h9, h⟩ := bnd h
          obtain rfl := Option.some.inj h
          exact Til.fin Tryz.func55 [(5, .b true), (9, .b true), (16, ca (.c (.d (.int .i64 v16)))), (19, ca (.c (.d (.int .i64 v19)))), (24, .b true), (28, .b true), (30, ca (.tup [.c (.d (L3 v30.1)), .c (.d (.int .i64 v30.2))])), (38, ca (.agg [.d (.bool v38.1), .d (L3 v38.2)])), (39, ca (.c (.d (L3 v39))))] (fun _ f => o (decide_eq_true h0) (o (o (nn 0) h0) (o (beq_iff_eq.2 h1) (o (o (nn 1) h2) (o (dendronref03_cut.does h3) (o (dendronref03_cut.does h4) (o (decide_eq_true h5) (o (decide_eq_true h6) (o (dendronref01_Parse.does h7) (o (dendronref02_Make.does h8) (o (dendronref01_Small.does h9) f))))))))))) (by kernel_rfl)
        · rw [if_neg h6] at h
          obtain ⟨h7, h⟩ := ifp h
          obtain ⟨h8, h⟩ := ifp h
          obtain ⟨v32, h9, h⟩ := bnd h
          by_cases h10 : v32.2 ≠ 0
          · rw [if_pos h10] at h
            obtain rfl := Option.some.inj h
            exact Til.fin Tryz.func55 [(5, .b true), (9, .b true), (16, ca (.c (.d (.int .i64 v16)))), (19, ca (.c (.d (.int .i64 v19)))), (24, .b true), (28, .b false), (32, ca (.tup [.c (.d (L3 v32.1)), .c (.d (.int .i64 v32.2))])), (39, .b true)] (fun _ f => o (decide_eq_true h0) (o (o (nn 0) h0) (o (beq_iff_eq.2 h1) (o (o (nn 1) h2) (o (dendronref03_cut.does h3) (o (dendronref03_cut.does h4) (o (decide_eq_true h5) (o (decide_eq_false h6) (o (o h7 h8) (o (dendronref01_Parse.does h9) (o (bne_iff_ne.2 h10) f))))))))))) (by kernel_rfl)
          · rw [if_neg h10] at h
            obtain ⟨h11, h⟩ := ifp h
            obtain ⟨h12, h⟩ := ifp h
            obtain ⟨v44, h13, h⟩ := bnd h
            by_cases h14 : v44.2 ≠ 0
            · rw [if_pos h14] at h
              obtain rfl := Option.some.inj h
              exact Til.fin Tryz.func55 [(5, .b true), (9, .b true), (16, ca (.c (.d (.int .i64 v16)))), (19, ca (.c (.d (.int .i64 v19)))), (24, .b true), (28, .b false), (32, ca (.tup [.c (.d (L3 v32.1)), .c (.d (.int .i64 v32.2))])), (39, .b false), (44, ca (.tup [.c (.d (L3 v44.1)), .c (.d (.int .i64 v44.2))])), (51, .b true)] (fun _ f => o (decide_eq_true h0) (o (o (nn 0) h0) (o (beq_iff_eq.2 h1) (o (o (nn 1) h2) (o (dendronref03_cut.does h3) (o (dendronref03_cut.does h4) (o (decide_eq_true h5) (o (decide_eq_false h6) (o (o h7 h8) (o (dendronref01_Parse.does h9) (o (ne_f h10) (o (o h11 h12) (o (dendronref01_Parse.does h13) (o (bne_iff_ne.2 h14) f)))))))))))))) (by kernel_rfl)
            · rw [if_neg h14] at h
              by_cases h15 : v16 ≥ 0
              · rw [if_pos h15] at h
                by_cases h16 : (v44.1.length : Int) = 0
                · rw [if_pos h16] at h
                  obtain rfl := Option.some.inj h
                  exact Til.fin Tryz.func55 [(5, .b true), (9, .b true), (16, ca (.c (.d (.int .i64 v16)))), (19, ca (.c (.d (.int .i64 v19)))), (24, .b true), (28, .b false), (32, ca (.tup [.c (.d (L3 v32.1)), .c (.d (.int .i64 v32.2))])), (39, .b false), (44, ca (.tup [.c (.d (L3 v44.1)), .c (.d (.int .i64 v44.2))])), (51, .b false), (53, .b true), (56, .b true)] (fun _ f => o (decide_eq_true h0) (o (o (nn 0) h0) (o (beq_iff_eq.2 h1) (o (o (nn 1) h2) (o (dendronref03_cut.does h3) (o (dendronref03_cut.does h4) (o (decide_eq_true h5) (o (decide_eq_false h6) (o (o h7 h8) (o (dendronref01_Parse.does h9) (o (ne_f h10) (o (o h11 h12) (o (dendronref01_Parse.does h13) (o (ne_f h14) (o (decide_eq_true h15) (o (beq_iff_eq.2 h16) f)))))))))))))))) (by kernel_rfl)
                · rw [if_neg h16] at h
                  obtain ⟨v59, h17, h⟩ := bnd h
                  obtain rfl := Option.some.inj h
                  exact Til.fin Tryz.func55 [(5, .b true), (9, .b true), (16, ca (.c (.d (.int .i64 v16)))), (19, ca (.c (.d (.int .i64 v19)))), (24, .b true), (28, .b false), (32, ca (.tup [.c (.d (L3 v32.1)), .c (.d (.int .i64 v32.2))])), (39, .b false), (44, ca (.tup [.c (.d (L3 v44.1)), .c (.d (.int .i64 v44.2))])), (51, .b false), (53, .b true), (56, .b false), (59, ca (.agg [.d (.bool v59.1), .d (L3 v59.2)]))] (fun _ f => o (decide_eq_true h0) (o (o (nn 0) h0) (o (beq_iff_eq.2 h1) (o (o (nn 1) h2) (o (dendronref03_cut.does h3) (o (dendronref03_cut.does h4) (o (decide_eq_true h5) (o (decide_eq_false h6) (o (o h7 h8) (o (dendronref01_Parse.does h9) (o (ne_f h10) (o (o h11 h12) (o (dendronref01_Parse.does h13) (o (ne_f h14) (o (decide_eq_true h15) (o (beq_false_of_ne h16) (o (dendronref02_Make.does h17) f))))))))))))))))) (by kernel_rfl)
              · rw [if_neg h15] at h
                obtain ⟨v54, h16, h⟩ := bnd h
                obtain ⟨v60, h17, h⟩ := bnd h
                obtain ⟨v65, h18, h⟩ := bnd h
                obtain ⟨v67, h19, h⟩ := bnd h
                obtain ⟨v68, h20, h⟩ := bnd h
                obtain rfl := Option.some.inj h
                exact Til.fin Tryz.func55 [(5, .b true), (9, .b true), (16, ca (.c (.d (.int .i64 v16)))), (19, ca (.c (.d (.int .i64 v19)))), (24, .b true), (28, .b false), (32, ca (.tup [.c (.d (L3 v32.1)), .c (.d (.int .i64 v32.2))])), (39, .b false), (44, ca (.tup [.c (.d (L3 v44.1)), .c (.d (.int .i64 v44.2))])), (51, .b false), (53, .b false), (54, ca (.c (.d (L3 v54)))), (60, ca (.c (.d (L3 v60)))), (65, ca (.c (.d (L3 v65)))), (67, ca (.c (.d (L3 v67)))), (68, ca (.agg [.d (.bool v68.1), .d (L3 v68.2)]))] (fun _ f => o (decide_eq_true h0) (o (o (nn 0) h0) (o (beq_iff_eq.2 h1) (o (o (nn 1) h2) (o (dendronref03_cut.does h3) (o (dendronref03_cut.does h4) (o (decide_eq_true h5) (o (decide_eq_false h6) (o (o h7 h8) (o (dendronref01_Parse.does h9) (o (ne_f h10) (o (o h11 h12) (o (dendronref01_Parse.does h13) (o (ne_f h14) (o (decide_eq_false h15) (o (dendronref01_Small.does h16) (o (dendronref01_Power.does h17) (o (dendronref01_Times.does h18) (o (dendronref01_Plus.does h19) (o (dendronref02_Make.does h20) f)))))))))))))))))))) (by kernel_rfl)
      · rw [if_neg h5] at h
        by_cases h6 : v16 < 0
        · rw [if_pos h6] at h
          obtain ⟨v28, h7, h⟩ := bnd h
          obtain ⟨v36, h8, h⟩ := bnd h
          obtain ⟨v37, h9, h⟩ := bnd h
          obtain rfl := Option.some.inj h
          exact Til.fin Tryz.func55 [(5, .b true), (9, .b true), (16, ca (.c (.d (.int .i64 v16)))), (19, ca (.c (.d (.int .i64 v19)))), (24, .b false), (26, .b true), (28, ca (.tup [.c (.d (L3 v28.1)), .c (.d (.int .i64 v28.2))])), (36, ca (.agg [.d (.bool v36.1), .d (L3 v36.2)])), (37, ca (.c (.d (L3 v37))))] (fun _ f => o (decide_eq_true h0) (o (o (nn 0) h0) (o (beq_iff_eq.2 h1) (o (o (nn 1) h2) (o (dendronref03_cut.does h3) (o (dendronref03_cut.does h4) (o (decide_eq_false h5) (o (decide_eq_true h6) (o (dendronref01_Parse.does h7) (o (dendronref02_Make.does h8) (o (dendronref01_Small.does h9) f))))))))))) (by kernel_rfl)
        · rw [if_neg h6] at h
          obtain ⟨h7, h⟩ := ifp h
          obtain ⟨h8, h⟩ := ifp h
          obtain ⟨v30, h9, h⟩ := bnd h
          by_cases h10 : v30.2 ≠ 0
          · rw [if_pos h10] at h
            obtain rfl := Option.some.inj h
            exact Til.fin Tryz.func55 [(5, .b true), (9, .b true), (16, ca (.c (.d (.int .i64 v16)))), (19, ca (.c (.d (.int .i64 v19)))), (24, .b false), (26, .b false), (30, ca (.tup [.c (.d (L3 v30.1)), .c (.d (.int .i64 v30.2))])), (37, .b true)] (fun _ f => o (decide_eq_true h0) (o (o (nn 0) h0) (o (beq_iff_eq.2 h1) (o (o (nn 1) h2) (o (dendronref03_cut.does h3) (o (dendronref03_cut.does h4) (o (decide_eq_false h5) (o (decide_eq_false h6) (o (o h7 h8) (o (dendronref01_Parse.does h9) (o (bne_iff_ne.2 h10) f))))))))))) (by kernel_rfl)
          · rw [if_neg h10] at h
            obtain ⟨h11, h⟩ := ifp h
            obtain ⟨h12, h⟩ := ifp h
            obtain ⟨v42, h13, h⟩ := bnd h
            by_cases h14 : v42.2 ≠ 0
            · rw [if_pos h14] at h
              obtain rfl := Option.some.inj h
              exact Til.fin Tryz.func55 [(5, .b true), (9, .b true), (16, ca (.c (.d (.int .i64 v16)))), (19, ca (.c (.d (.int .i64 v19)))), (24, .b false), (26, .b false), (30, ca (.tup [.c (.d (L3 v30.1)), .c (.d (.int .i64 v30.2))])), (37, .b false), (42, ca (.tup [.c (.d (L3 v42.1)), .c (.d (.int .i64 v42.2))])), (49, .b true)] (fun _ f => o (decide_eq_true h0) (o (o (nn 0) h0) (o (beq_iff_eq.2 h1) (o (o (nn 1) h2) (o (dendronref03_cut.does h3) (o (dendronref03_cut.does h4) (o (decide_eq_false h5) (o (decide_eq_false h6) (o (o h7 h8) (o (dendronref01_Parse.does h9) (o (ne_f h10) (o (o h11 h12) (o (dendronref01_Parse.does h13) (o (bne_iff_ne.2 h14) f)))))))))))))) (by kernel_rfl)
            · rw [if_neg h14] at h
              by_cases h15 : v16 ≥ 0
              · rw [if_pos h15] at h
                by_cases h16 : (v42.1.length : Int) = 0
                · rw [if_pos h16] at h
                  obtain rfl := Option.some.inj h
                  exact Til.fin Tryz.func55 [(5, .b true), (9, .b true), (16, ca (.c (.d (.int .i64 v16)))), (19, ca (.c (.d (.int .i64 v19)))), (24, .b false), (26, .b false), (30, ca (.tup [.c (.d (L3 v30.1)), .c (.d (.int .i64 v30.2))])), (37, .b false), (42, ca (.tup [.c (.d (L3 v42.1)), .c (.d (.int .i64 v42.2))])), (49, .b false), (51, .b true), (54, .b true)] (fun _ f => o (decide_eq_true h0) (o (o (nn 0) h0) (o (beq_iff_eq.2 h1) (o (o (nn 1) h2) (o (dendronref03_cut.does h3) (o (dendronref03_cut.does h4) (o (decide_eq_false h5) (o (decide_eq_false h6) (o (o h7 h8) (o (dendronref01_Parse.does h9) (o (ne_f h10) (o (o h11 h12) (o (dendronref01_Parse.does h13) (o (ne_f h14) (o (decide_eq_true h15) (o (beq_iff_eq.2 h16) f)))))))))))))))) (by kernel_rfl)
                · rw [if_neg h16] at h
                  obtain ⟨v57, h17, h⟩ := bnd h
                  obtain rfl := Option.some.inj h
                  exact Til.fin Tryz.func55 [(5, .b true), (9, .b true), (16, ca (.c (.d (.int .i64 v16)))), (19, ca (.c (.d (.int .i64 v19)))), (24, .b false), (26, .b false), (30, ca (.tup [.c (.d (L3 v30.1)), .c (.d (.int .i64 v30.2))])), (37, .b false), (42, ca (.tup [.c (.d (L3 v42.1)), .c (.d (.int .i64 v42.2))])), (49, .b false), (51, .b true), (54, .b false), (57, ca (.agg [.d (.bool v57.1), .d (L3 v57.2)]))] (fun _ f => o (decide_eq_true h0) (o (o (nn 0) h0) (o (beq_iff_eq.2 h1) (o (o (nn 1) h2) (o (dendronref03_cut.does h3) (o (dendronref03_cut.does h4) (o (decide_eq_false h5) (o (decide_eq_false h6) (o (o h7 h8) (o (dendronref01_Parse.does h9) (o (ne_f h10) (o (o h11 h12) (o (dendronref01_Parse.does h13) (o (ne_f h14) (o (decide_eq_true h15) (o (beq_false_of_ne h16) (o (dendronref02_Make.does h17) f))))))))))))))))) (by kernel_rfl)
              · rw [if_neg h15] at h
                obtain ⟨v52, h16, h⟩ := bnd h
                obtain ⟨v58, h17, h⟩ := bnd h
                obtain ⟨v63, h18, h⟩ := bnd h
                obtain ⟨v65, h19, h⟩ := bnd h
                obtain ⟨v66, h20, h⟩ := bnd h
                obtain rfl := Option.some.inj h
                exact Til.fin Tryz.func55 [(5, .b true), (9, .b true), (16, ca (.c (.d (.int .i64 v16)))), (19, ca (.c (.d (.int .i64 v19)))), (24, .b false), (26, .b false), (30, ca (.tup [.c (.d (L3 v30.1)), .c (.d (.int .i64 v30.2))])), (37, .b false), (42, ca (.tup [.c (.d (L3 v42.1)), .c (.d (.int .i64 v42.2))])), (49, .b false), (51, .b false), (52, ca (.c (.d (L3 v52)))), (58, ca (.c (.d (L3 v58)))), (63, ca (.c (.d (L3 v63)))), (65, ca (.c (.d (L3 v65)))), (66, ca (.agg [.d (.bool v66.1), .d (L3 v66.2)]))] (fun _ f => o (decide_eq_true h0) (o (o (nn 0) h0) (o (beq_iff_eq.2 h1) (o (o (nn 1) h2) (o (dendronref03_cut.does h3) (o (dendronref03_cut.does h4) (o (decide_eq_false h5) (o (decide_eq_false h6) (o (o h7 h8) (o (dendronref01_Parse.does h9) (o (ne_f h10) (o (o h11 h12) (o (dendronref01_Parse.does h13) (o (ne_f h14) (o (decide_eq_false h15) (o (dendronref01_Small.does h16) (o (dendronref01_Power.does h17) (o (dendronref01_Times.does h18) (o (dendronref01_Plus.does h19) (o (dendronref02_Make.does h20) f)))))))))))))))))))) (by kernel_rfl)
    · rw [if_neg h1] at h
      obtain ⟨v12, h2, h⟩ := bnd h
      obtain ⟨v15, h3, h⟩ := bnd h
      by_cases h4 : v12 < 0
      · rw [if_pos h4] at h
        by_cases h5 : v15 < 0
        · rw [if_pos h5] at h
          obtain ⟨v26, h6, h⟩ := bnd h
          obtain ⟨v34, h7, h⟩ := bnd h
          obtain ⟨v35, h8, h⟩ := bnd h
          obtain rfl := Option.some.inj h
          exact Til.fin Tryz.func55 [(5, .b true), (9, .b false), (12, ca (.c (.d (.int .i64 v12)))), (15, ca (.c (.d (.int .i64 v15)))), (20, .b true), (24, .b true), (26, ca (.tup [.c (.d (L3 v26.1)), .c (.d (.int .i64 v26.2))])), (34, ca (.agg [.d (.bool v34.1), .d (L3 v34.2)])), (35, ca (.c (.d (L3 v35))))] (fun _ f => o (decide_eq_true h0) (o (o (nn 0) h0) (o (beq_false_of_ne h1) (o (dendronref03_cut.does h2) (o (dendronref03_cut.does h3) (o (decide_eq_true h4) (o (decide_eq_true h5) (o (dendronref01_Parse.does h6) (o (dendronref02_Make.does h7) (o (dendronref01_Small.does h8) f)))))))))) (by kernel_rfl)
        · rw [if_neg h5] at h
          obtain ⟨h6, h⟩ := ifp h
          obtain ⟨h7, h⟩ := ifp h
          obtain ⟨v28, h8, h⟩ := bnd h
          by_cases h9 : v28.2 ≠ 0
          · rw [if_pos h9] at h
            obtain rfl := Option.some.inj h
            exact Til.fin Tryz.func55 [(5, .b true), (9, .b false), (12, ca (.c (.d (.int .i64 v12)))), (15, ca (.c (.d (.int .i64 v15)))), (20, .b true), (24, .b false), (28, ca (.tup [.c (.d (L3 v28.1)), .c (.d (.int .i64 v28.2))])), (35, .b true)] (fun _ f => o (decide_eq_true h0) (o (o (nn 0) h0) (o (beq_false_of_ne h1) (o (dendronref03_cut.does h2) (o (dendronref03_cut.does h3) (o (decide_eq_true h4) (o (decide_eq_false h5) (o (o h6 h7) (o (dendronref01_Parse.does h8) (o (bne_iff_ne.2 h9) f)))))))))) (by kernel_rfl)
          · rw [if_neg h9] at h
            obtain ⟨h10, h⟩ := ifp h
            obtain ⟨h11, h⟩ := ifp h
            obtain ⟨v40, h12, h⟩ := bnd h
            by_cases h13 : v40.2 ≠ 0
            · rw [if_pos h13] at h
              obtain rfl := Option.some.inj h
              exact Til.fin Tryz.func55 [(5, .b true), (9, .b false), (12, ca (.c (.d (.int .i64 v12)))), (15, ca (.c (.d (.int .i64 v15)))), (20, .b true), (24, .b false), (28, ca (.tup [.c (.d (L3 v28.1)), .c (.d (.int .i64 v28.2))])), (35, .b false), (40, ca (.tup [.c (.d (L3 v40.1)), .c (.d (.int .i64 v40.2))])), (47, .b true)] (fun _ f => o (decide_eq_true h0) (o (o (nn 0) h0) (o (beq_false_of_ne h1) (o (dendronref03_cut.does h2) (o (dendronref03_cut.does h3) (o (decide_eq_true h4) (o (decide_eq_false h5) (o (o h6 h7) (o (dendronref01_Parse.does h8) (o (ne_f h9) (o (o h10 h11) (o (dendronref01_Parse.does h12) (o (bne_iff_ne.2 h13) f))))))))))))) (by kernel_rfl)
            · rw [if_neg h13] at h
              by_cases h14 : v12 ≥ 0
              · rw [if_pos h14] at h
                by_cases h15 : (v40.1.length : Int) = 0
                · rw [if_pos h15] at h
                  obtain rfl := Option.some.inj h
                  exact Til.fin Tryz.func55 [(5, .b true), (9, .b false), (12, ca (.c (.d (.int .i64 v12)))), (15, ca (.c (.d (.int .i64 v15)))), (20, .b true), (24, .b false), (28, ca (.tup [.c (.d (L3 v28.1)), .c (.d (.int .i64 v28.2))])), (35, .b false), (40, ca (.tup [.c (.d (L3 v40.1)), .c (.d (.int .i64 v40.2))])), (47, .b false), (49, .b true), (52, .b true)] (fun _ f => o (decide_eq_true h0) (o (o (nn 0) h0) (o (beq_false_of_ne h1) (o (dendronref03_cut.does h2) (o (dendronref03_cut.does h3) (o (decide_eq_true h4) (o (decide_eq_false h5) (o (o h6 h7) (o (dendronref01_Parse.does h8) (o (ne_f h9) (o (o h10 h11) (o (dendronref01_Parse.does h12) (o (ne_f h13) (o (decide_eq_true h14) (o (beq_iff_eq.2 h15) f))))))))))))))) (by kernel_rfl)
                · rw [if_neg h15] at h
                  obtain ⟨v55, h16, h⟩ := bnd h
                  obtain rfl := Option.some.inj h
                  exact Til.fin Tryz.func55 [(5, .b true), (9, .b false), (12, ca (.c (.d (.int .i64 v12)))), (15, ca (.c (.d (.int .i64 v15)))), (20, .b true), (24, .b false), (28, ca (.tup [.c (.d (L3 v28.1)), .c (.d (.int .i64 v28.2))])), (35, .b false), (40, ca (.tup [.c (.d (L3 v40.1)), .c (.d (.int .i64 v40.2))])), (47, .b false), (49, .b true), (52, .b false), (55, ca (.agg [.d (.bool v55.1), .d (L3 v55.2)]))] (fun _ f => o (decide_eq_true h0) (o (o (nn 0) h0) (o (beq_false_of_ne h1) (o (dendronref03_cut.does h2) (o (dendronref03_cut.does h3) (o (decide_eq_true h4) (o (decide_eq_false h5) (o (o h6 h7) (o (dendronref01_Parse.does h8) (o (ne_f h9) (o (o h10 h11) (o (dendronref01_Parse.does h12) (o (ne_f h13) (o (decide_eq_true h14) (o (beq_false_of_ne h15) (o (dendronref02_Make.does h16) f)))))))))))))))) (by kernel_rfl)
              · rw [if_neg h14] at h
                obtain ⟨v50, h15, h⟩ := bnd h
                obtain ⟨v56, h16, h⟩ := bnd h
                obtain ⟨v61, h17, h⟩ := bnd h
                obtain ⟨v63, h18, h⟩ := bnd h
                obtain ⟨v64, h19, h⟩ := bnd h
                obtain rfl := Option.some.inj h
                exact Til.fin Tryz.func55 [(5, .b true), (9, .b false), (12, ca (.c (.d (.int .i64 v12)))), (15, ca (.c (.d (.int .i64 v15)))), (20, .b true), (24, .b false), (28, ca (.tup [.c (.d (L3 v28.1)), .c (.d (.int .i64 v28.2))])), (35, .b false), (40, ca (.tup [.c (.d (L3 v40.1)), .c (.d (.int .i64 v40.2))])), (47, .b false), (49, .b false), (50, ca (.c (.d (L3 v50)))), (56, ca (.c (.d (L3 v56)))), (61, ca (.c (.d (L3 v61)))), (63, ca (.c (.d (L3 v63)))), (64, ca (.agg [.d (.bool v64.1), .d (L3 v64.2)]))] (fun _ f => o (decide_eq_true h0) (o (o (nn 0) h0) (o (beq_false_of_ne h1) (o (dendronref03_cut.does h2) (o (dendronref03_cut.does h3) (o (decide_eq_true h4) (o (decide_eq_false h5) (o (o h6 h7) (o (dendronref01_Parse.does h8) (o (ne_f h9) (o (o h10 h11) (o (dendronref01_Parse.does h12) (o (ne_f h13) (o (decide_eq_false h14) (o (dendronref01_Small.does h15) (o (dendronref01_Power.does h16) (o (dendronref01_Times.does h17) (o (dendronref01_Plus.does h18) (o (dendronref02_Make.does h19) f))))))))))))))))))) (by kernel_rfl)
      · rw [if_neg h4] at h
        by_cases h5 : v12 < 0
        · rw [if_pos h5] at h
          obtain ⟨v24, h6, h⟩ := bnd h
          obtain ⟨v32, h7, h⟩ := bnd h
          obtain ⟨v33, h8, h⟩ := bnd h
          obtain rfl := Option.some.inj h
          exact Til.fin Tryz.func55 [(5, .b true), (9, .b false), (12, ca (.c (.d (.int .i64 v12)))), (15, ca (.c (.d (.int .i64 v15)))), (20, .b false), (22, .b true), (24, ca (.tup [.c (.d (L3 v24.1)), .c (.d (.int .i64 v24.2))])), (32, ca (.agg [.d (.bool v32.1), .d (L3 v32.2)])), (33, ca (.c (.d (L3 v33))))] (fun _ f => o (decide_eq_true h0) (o (o (nn 0) h0) (o (beq_false_of_ne h1) (o (dendronref03_cut.does h2) (o (dendronref03_cut.does h3) (o (decide_eq_false h4) (o (decide_eq_true h5) (o (dendronref01_Parse.does h6) (o (dendronref02_Make.does h7) (o (dendronref01_Small.does h8) f)))))))))) (by kernel_rfl)
        · rw [if_neg h5] at h
          obtain ⟨h6, h⟩ := ifp h
          obtain ⟨h7, h⟩ := ifp h
          obtain ⟨v26, h8, h⟩ := bnd h
          by_cases h9 : v26.2 ≠ 0
          · rw [if_pos h9] at h
            obtain rfl := Option.some.inj h
            exact Til.fin Tryz.func55 [(5, .b true), (9, .b false), (12, ca (.c (.d (.int .i64 v12)))), (15, ca (.c (.d (.int .i64 v15)))), (20, .b false), (22, .b false), (26, ca (.tup [.c (.d (L3 v26.1)), .c (.d (.int .i64 v26.2))])), (33, .b true)] (fun _ f => o (decide_eq_true h0) (o (o (nn 0) h0) (o (beq_false_of_ne h1) (o (dendronref03_cut.does h2) (o (dendronref03_cut.does h3) (o (decide_eq_false h4) (o (decide_eq_false h5) (o (o h6 h7) (o (dendronref01_Parse.does h8) (o (bne_iff_ne.2 h9) f)))))))))) (by kernel_rfl)
          · rw [if_neg h9] at h
            obtain ⟨h10, h⟩ := ifp h
            obtain ⟨h11, h⟩ := ifp h
            obtain ⟨v38, h12, h⟩ := bnd h
            by_cases h13 : v38.2 ≠ 0
            · rw [if_pos h13] at h
              obtain rfl := Option.some.inj h
              exact Til.fin Tryz.func55 [(5, .b true), (9, .b false), (12, ca (.c (.d (.int .i64 v12)))), (15, ca (.c (.d (.int .i64 v15)))), (20, .b false), (22, .b false), (26, ca (.tup [.c (.d (L3 v26.1)), .c (.d (.int .i64 v26.2))])), (33, .b false), (38, ca (.tup [.c (.d (L3 v38.1)), .c (.d (.int .i64 v38.2))])), (45, .b true)] (fun _ f => o (decide_eq_true h0) (o (o (nn 0) h0) (o (beq_false_of_ne h1) (o (dendronref03_cut.does h2) (o (dendronref03_cut.does h3) (o (decide_eq_false h4) (o (decide_eq_false h5) (o (o h6 h7) (o (dendronref01_Parse.does h8) (o (ne_f h9) (o (o h10 h11) (o (dendronref01_Parse.does h12) (o (bne_iff_ne.2 h13) f))))))))))))) (by kernel_rfl)
            · rw [if_neg h13] at h
              by_cases h14 : v12 ≥ 0
              · rw [if_pos h14] at h
                by_cases h15 : (v38.1.length : Int) = 0
                · rw [if_pos h15] at h
                  obtain rfl := Option.some.inj h
                  exact Til.fin Tryz.func55 [(5, .b true), (9, .b false), (12, ca (.c (.d (.int .i64 v12)))), (15, ca (.c (.d (.int .i64 v15)))), (20, .b false), (22, .b false), (26, ca (.tup [.c (.d (L3 v26.1)), .c (.d (.int .i64 v26.2))])), (33, .b false), (38, ca (.tup [.c (.d (L3 v38.1)), .c (.d (.int .i64 v38.2))])), (45, .b false), (47, .b true), (50, .b true)] (fun _ f => o (decide_eq_true h0) (o (o (nn 0) h0) (o (beq_false_of_ne h1) (o (dendronref03_cut.does h2) (o (dendronref03_cut.does h3) (o (decide_eq_false h4) (o (decide_eq_false h5) (o (o h6 h7) (o (dendronref01_Parse.does h8) (o (ne_f h9) (o (o h10 h11) (o (dendronref01_Parse.does h12) (o (ne_f h13) (o (decide_eq_true h14) (o (beq_iff_eq.2 h15) f))))))))))))))) (by kernel_rfl)
                · rw [if_neg h15] at h
                  obtain ⟨v53, h16, h⟩ := bnd h
                  obtain rfl := Option.some.inj h
                  exact Til.fin Tryz.func55 [(5, .b true), (9, .b false), (12, ca (.c (.d (.int .i64 v12)))), (15, ca (.c (.d (.int .i64 v15)))), (20, .b false), (22, .b false), (26, ca (.tup [.c (.d (L3 v26.1)), .c (.d (.int .i64 v26.2))])), (33, .b false), (38, ca (.tup [.c (.d (L3 v38.1)), .c (.d (.int .i64 v38.2))])), (45, .b false), (47, .b true), (50, .b false), (53, ca (.agg [.d (.bool v53.1), .d (L3 v53.2)]))] (fun _ f => o (decide_eq_true h0) (o (o (nn 0) h0) (o (beq_false_of_ne h1) (o (dendronref03_cut.does h2) (o (dendronref03_cut.does h3) (o (decide_eq_false h4) (o (decide_eq_false h5) (o (o h6 h7) (o (dendronref01_Parse.does h8) (o (ne_f h9) (o (o h10 h11) (o (dendronref01_Parse.does h12) (o (ne_f h13) (o (decide_eq_true h14) (o (beq_false_of_ne h15) (o (dendronref02_Make.does h16) f)))))))))))))))) (by kernel_rfl)
              · rw [if_neg h14] at h
                obtain ⟨v48, h15, h⟩ := bnd h
                obtain ⟨v54, h16, h⟩ := bnd h
                obtain ⟨v59, h17, h⟩ := bnd h
                obtain ⟨v61, h18, h⟩ := bnd h
                obtain ⟨v62, h19, h⟩ := bnd h
                obtain rfl := Option.some.inj h
                exact Til.fin Tryz.func55 [(5, .b true), (9, .b false), (12, ca (.c (.d (.int .i64 v12)))), (15, ca (.c (.d (.int .i64 v15)))), (20, .b false), (22, .b false), (26, ca (.tup [.c (.d (L3 v26.1)), .c (.d (.int .i64 v26.2))])), (33, .b false), (38, ca (.tup [.c (.d (L3 v38.1)), .c (.d (.int .i64 v38.2))])), (45, .b false), (47, .b false), (48, ca (.c (.d (L3 v48)))), (54, ca (.c (.d (L3 v54)))), (59, ca (.c (.d (L3 v59)))), (61, ca (.c (.d (L3 v61)))), (62, ca (.agg [.d (.bool v62.1), .d (L3 v62.2)]))] (fun _ f => o (decide_eq_true h0) (o (o (nn 0) h0) (o (beq_false_of_ne h1) (o (dendronref03_cut.does h2) (o (dendronref03_cut.does h3) (o (decide_eq_false h4) (o (decide_eq_false h5) (o (o h6 h7) (o (dendronref01_Parse.does h8) (o (ne_f h9) (o (o h10 h11) (o (dendronref01_Parse.does h12) (o (ne_f h13) (o (decide_eq_false h14) (o (dendronref01_Small.does h15) (o (dendronref01_Power.does h16) (o (dendronref01_Times.does h17) (o (dendronref01_Plus.does h18) (o (dendronref02_Make.does h19) f))))))))))))))))))) (by kernel_rfl)
  · rw [if_neg h0] at h
    obtain ⟨v12, h1, h⟩ := bnd h
    obtain ⟨v15, h2, h⟩ := bnd h
    by_cases h3 : v12 < 0
    · rw [if_pos h3] at h
      by_cases h4 : v15 < 0
      · rw [if_pos h4] at h
        obtain ⟨v26, h5, h⟩ := bnd h
        obtain ⟨v34, h6, h⟩ := bnd h
        obtain ⟨v35, h7, h⟩ := bnd h
        obtain rfl := Option.some.inj h
        exact Til.fin Tryz.func55 [(5, .b false), (12, ca (.c (.d (.int .i64 v12)))), (15, ca (.c (.d (.int .i64 v15)))), (20, .b true), (24, .b true), (26, ca (.tup [.c (.d (L3 v26.1)), .c (.d (.int .i64 v26.2))])), (34, ca (.agg [.d (.bool v34.1), .d (L3 v34.2)])), (35, ca (.c (.d (L3 v35))))] (fun _ f => o (decide_eq_false h0) (o (dendronref03_cut.does h1) (o (dendronref03_cut.does h2) (o (decide_eq_true h3) (o (decide_eq_true h4) (o (dendronref01_Parse.does h5) (o (dendronref02_Make.does h6) (o (dendronref01_Small.does h7) f)))))))) (by kernel_rfl)
      · rw [if_neg h4] at h
        obtain ⟨h5, h⟩ := ifp h
        obtain ⟨h6, h⟩ := ifp h
        obtain ⟨v28, h7, h⟩ := bnd h
        by_cases h8 : v28.2 ≠ 0
        · rw [if_pos h8] at h
          obtain rfl := Option.some.inj h
          exact Til.fin Tryz.func55 [(5, .b false), (12, ca (.c (.d (.int .i64 v12)))), (15, ca (.c (.d (.int .i64 v15)))), (20, .b true), (24, .b false), (28, ca (.tup [.c (.d (L3 v28.1)), .c (.d (.int .i64 v28.2))])), (35, .b true)] (fun _ f => o (decide_eq_false h0) (o (dendronref03_cut.does h1) (o (dendronref03_cut.does h2) (o (decide_eq_true h3) (o (decide_eq_false h4) (o (o h5 h6) (o (dendronref01_Parse.does h7) (o (bne_iff_ne.2 h8) f)))))))) (by kernel_rfl)
        · rw [if_neg h8] at h
          obtain ⟨h9, h⟩ := ifp h
          obtain ⟨h10, h⟩ := ifp h
          obtain ⟨v40, h11, h⟩ := bnd h
          by_cases h12 : v40.2 ≠ 0
          · rw [if_pos h12] at h
            obtain rfl := Option.some.inj h
            exact Til.fin Tryz.func55 [(5, .b false), (12, ca (.c (.d (.int .i64 v12)))), (15, ca (.c (.d (.int .i64 v15)))), (20, .b true), (24, .b false), (28, ca (.tup [.c (.d (L3 v28.1)), .c (.d (.int .i64 v28.2))])), (35, .b false), (40, ca (.tup [.c (.d (L3 v40.1)), .c (.d (.int .i64 v40.2))])), (47, .b true)] (fun _ f => o (decide_eq_false h0) (o (dendronref03_cut.does h1) (o (dendronref03_cut.does h2) (o (decide_eq_true h3) (o (decide_eq_false h4) (o (o h5 h6) (o (dendronref01_Parse.does h7) (o (ne_f h8) (o (o h9 h10) (o (dendronref01_Parse.does h11) (o (bne_iff_ne.2 h12) f))))))))))) (by kernel_rfl)
          · rw [if_neg h12] at h
            by_cases h13 : v12 ≥ 0
            · rw [if_pos h13] at h
              by_cases h14 : (v40.1.length : Int) = 0
              · rw [if_pos h14] at h
                obtain rfl := Option.some.inj h
                exact Til.fin Tryz.func55 [(5, .b false), (12, ca (.c (.d (.int .i64 v12)))), (15, ca (.c (.d (.int .i64 v15)))), (20, .b true), (24, .b false), (28, ca (.tup [.c (.d (L3 v28.1)), .c (.d (.int .i64 v28.2))])), (35, .b false), (40, ca (.tup [.c (.d (L3 v40.1)), .c (.d (.int .i64 v40.2))])), (47, .b false), (49, .b true), (52, .b true)] (fun _ f => o (decide_eq_false h0) (o (dendronref03_cut.does h1) (o (dendronref03_cut.does h2) (o (decide_eq_true h3) (o (decide_eq_false h4) (o (o h5 h6) (o (dendronref01_Parse.does h7) (o (ne_f h8) (o (o h9 h10) (o (dendronref01_Parse.does h11) (o (ne_f h12) (o (decide_eq_true h13) (o (beq_iff_eq.2 h14) f))))))))))))) (by kernel_rfl)
              · rw [if_neg h14] at h
                obtain ⟨v55, h15, h⟩ := bnd h
                obtain rfl := Option.some.inj h
                exact Til.fin Tryz.func55 [(5, .b false), (12, ca (.c (.d (.int .i64 v12)))), (15, ca (.c (.d (.int .i64 v15)))), (20, .b true), (24, .b false), (28, ca (.tup [.c (.d (L3 v28.1)), .c (.d (.int .i64 v28.2))])), (35, .b false), (40, ca (.tup [.c (.d (L3 v40.1)), .c (.d (.int .i64 v40.2))])), (47, .b false), (49, .b true), (52, .b false), (55, ca (.agg [.d (.bool v55.1), .d (L3 v55.2)]))] (fun _ f => o (decide_eq_false h0) (o (dendronref03_cut.does h1) (o (dendronref03_cut.does h2) (o (decide_eq_true h3) (o (decide_eq_false h4) (o (o h5 h6) (o (dendronref01_Parse.does h7) (o (ne_f h8) (o (o h9 h10) (o (dendronref01_Parse.does h11) (o (ne_f h12) (o (decide_eq_true h13) (o (beq_false_of_ne h14) (o (dendronref02_Make.does h15) f)))))))))))))) (by kernel_rfl)
            · rw [if_neg h13] at h
              obtain ⟨v50, h14, h⟩ := bnd h
              obtain ⟨v56, h15, h⟩ := bnd h
              obtain ⟨v61, h16, h⟩ := bnd h
              obtain ⟨v63, h17, h⟩ := bnd h
              obtain ⟨v64, h18, h⟩ := bnd h
              obtain rfl := Option.some.inj h
              exact Til.fin Tryz.func55 [(5, .b false), (12, ca (.c (.d (.int .i64 v12)))), (15, ca (.c (.d (.int .i64 v15)))), (20, .b true), (24, .b false), (28, ca (.tup [.c (.d (L3 v28.1)), .c (.d (.int .i64 v28.2))])), (35, .b false), (40, ca (.tup [.c (.d (L3 v40.1)), .c (.d (.int .i64 v40.2))])), (47, .b false), (49, .b false), (50, ca (.c (.d (L3 v50)))), (56, ca (.c (.d (L3 v56)))), (61, ca (.c (.d (L3 v61)))), (63, ca (.c (.d (L3 v63)))), (64, ca (.agg [.d (.bool v64.1), .d (L3 v64.2)]))] (fun _ f => o (decide_eq_false h0) (o (dendronref03_cut.does h1) (o (dendronref03_cut.does h2) (o (decide_eq_true h3) (o (decide_eq_false h4) (o (o h5 h6) (o (dendronref01_Parse.does h7) (o (ne_f h8) (o (o h9 h10) (o (dendronref01_Parse.does h11) (o (ne_f h12) (o (decide_eq_false h13) (o (dendronref01_Small.does h14) (o (dendronref01_Power.does h15) (o (dendronref01_Times.does h16) (o (dendronref01_Plus.does h17) (o (dendronref02_Make.does h18) f))))))))))))))))) (by kernel_rfl)
    · rw [if_neg h3] at h
      by_cases h4 : v12 < 0
      · rw [if_pos h4] at h
        obtain ⟨v24, h5, h⟩ := bnd h
        obtain ⟨v32, h6, h⟩ := bnd h
        obtain ⟨v33, h7, h⟩ := bnd h
        obtain rfl := Option.some.inj h
        exact Til.fin Tryz.func55 [(5, .b false), (12, ca (.c (.d (.int .i64 v12)))), (15, ca (.c (.d (.int .i64 v15)))), (20, .b false), (22, .b true), (24, ca (.tup [.c (.d (L3 v24.1)), .c (.d (.int .i64 v24.2))])), (32, ca (.agg [.d (.bool v32.1), .d (L3 v32.2)])), (33, ca (.c (.d (L3 v33))))] (fun _ f => o (decide_eq_false h0) (o (dendronref03_cut.does h1) (o (dendronref03_cut.does h2) (o (decide_eq_false h3) (o (decide_eq_true h4) (o (dendronref01_Parse.does h5) (o (dendronref02_Make.does h6) (o (dendronref01_Small.does h7) f)))))))) (by kernel_rfl)
      · rw [if_neg h4] at h
        obtain ⟨h5, h⟩ := ifp h
        obtain ⟨h6, h⟩ := ifp h
        obtain ⟨v26, h7, h⟩ := bnd h
        by_cases h8 : v26.2 ≠ 0
        · rw [if_pos h8] at h
          obtain rfl := Option.some.inj h
          exact Til.fin Tryz.func55 [(5, .b false), (12, ca (.c (.d (.int .i64 v12)))), (15, ca (.c (.d (.int .i64 v15)))), (20, .b false), (22, .b false), (26, ca (.tup [.c (.d (L3 v26.1)), .c (.d (.int .i64 v26.2))])), (33, .b true)] (fun _ f => o (decide_eq_false h0) (o (dendronref03_cut.does h1) (o (dendronref03_cut.does h2) (o (decide_eq_false h3) (o (decide_eq_false h4) (o (o h5 h6) (o (dendronref01_Parse.does h7) (o (bne_iff_ne.2 h8) f)))))))) (by kernel_rfl)
        · rw [if_neg h8] at h
          obtain ⟨h9, h⟩ := ifp h
          obtain ⟨h10, h⟩ := ifp h
          obtain ⟨v38, h11, h⟩ := bnd h
          by_cases h12 : v38.2 ≠ 0
          · rw [if_pos h12] at h
            obtain rfl := Option.some.inj h
            exact Til.fin Tryz.func55 [(5, .b false), (12, ca (.c (.d (.int .i64 v12)))), (15, ca (.c (.d (.int .i64 v15)))), (20, .b false), (22, .b false), (26, ca (.tup [.c (.d (L3 v26.1)), .c (.d (.int .i64 v26.2))])), (33, .b false), (38, ca (.tup [.c (.d (L3 v38.1)), .c (.d (.int .i64 v38.2))])), (45, .b true)] (fun _ f => o (decide_eq_false h0) (o (dendronref03_cut.does h1) (o (dendronref03_cut.does h2) (o (decide_eq_false h3) (o (decide_eq_false h4) (o (o h5 h6) (o (dendronref01_Parse.does h7) (o (ne_f h8) (o (o h9 h10) (o (dendronref01_Parse.does h11) (o (bne_iff_ne.2 h12) f))))))))))) (by kernel_rfl)
          · rw [if_neg h12] at h
            by_cases h13 : v12 ≥ 0
            · rw [if_pos h13] at h
              by_cases h14 : (v38.1.length : Int) = 0
              · rw [if_pos h14] at h
                obtain rfl := Option.some.inj h
                exact Til.fin Tryz.func55 [(5, .b false), (12, ca (.c (.d (.int .i64 v12)))), (15, ca (.c (.d (.int .i64 v15)))), (20, .b false), (22, .b false), (26, ca (.tup [.c (.d (L3 v26.1)), .c (.d (.int .i64 v26.2))])), (33, .b false), (38, ca (.tup [.c (.d (L3 v38.1)), .c (.d (.int .i64 v38.2))])), (45, .b false), (47, .b true), (50, .b true)] (fun _ f => o (decide_eq_false h0) (o (dendronref03_cut.does h1) (o (dendronref03_cut.does h2) (o (decide_eq_false h3) (o (decide_eq_false h4) (o (o h5 h6) (o (dendronref01_Parse.does h7) (o (ne_f h8) (o (o h9 h10) (o (dendronref01_Parse.does h11) (o (ne_f h12) (o (decide_eq_true h13) (o (beq_iff_eq.2 h14) f))))))))))))) (by kernel_rfl)
              · rw [if_neg h14] at h
                obtain ⟨v53, h15, h⟩ := bnd h
                obtain rfl := Option.some.inj h
                exact Til.fin Tryz.func55 [(5, .b false), (12, ca (.c (.d (.int .i64 v12)))), (15, ca (.c (.d (.int .i64 v15)))), (20, .b false), (22, .b false), (26, ca (.tup [.c (.d (L3 v26.1)), .c (.d (.int .i64 v26.2))])), (33, .b false), (38, ca (.tup [.c (.d (L3 v38.1)), .c (.d (.int .i64 v38.2))])), (45, .b false), (47, .b true), (50, .b false), (53, ca (.agg [.d (.bool v53.1), .d (L3 v53.2)]))] (fun _ f => o (decide_eq_false h0) (o (dendronref03_cut.does h1) (o (dendronref03_cut.does h2) (o (decide_eq_false h3) (o (decide_eq_false h4) (o (o h5 h6) (o (dendronref01_Parse.does h7) (o (ne_f h8) (o (o h9 h10) (o (dendronref01_Parse.does h11) (o (ne_f h12) (o (decide_eq_true h13) (o (beq_false_of_ne h14) (o (dendronref02_Make.does h15) f)))))))))))))) (by kernel_rfl)
            · rw [if_neg h13] at h
              obtain ⟨v48, h14, h⟩ := bnd h
              obtain ⟨v54, h15, h⟩ := bnd h
              obtain ⟨v59, h16, h⟩ := bnd h
              obtain ⟨v61, h17, h⟩ := bnd h
              obtain ⟨v62, h18, h⟩ := bnd h
              obtain rfl := Option.some.inj h
              exact Til.fin Tryz.func55 [(5, .b false), (12, ca (.c (.d (.int .i64 v12)))), (15, ca (.c (.d (.int .i64 v15)))), (20, .b false), (22, .b false), (26, ca (.tup [.c (.d (L3 v26.1)), .c (.d (.int .i64 v26.2))])), (33, .b false), (38, ca (.tup [.c (.d (L3 v38.1)), .c (.d (.int .i64 v38.2))])), (45, .b false), (47, .b false), (48, ca (.c (.d (L3 v48)))), (54, ca (.c (.d (L3 v54)))), (59, ca (.c (.d (L3 v59)))), (61, ca (.c (.d (L3 v61)))), (62, ca (.agg [.d (.bool v62.1), .d (L3 v62.2)]))] (fun _ f => o (decide_eq_false h0) (o (dendronref03_cut.does h1) (o (dendronref03_cut.does h2) (o (decide_eq_false h3) (o (decide_eq_false h4) (o (o h5 h6) (o (dendronref01_Parse.does h7) (o (ne_f h8) (o (o h9 h10) (o (dendronref01_Parse.does h11) (o (ne_f h12) (o (decide_eq_false h13) (o (dendronref01_Small.does h14) (o (dendronref01_Power.does h15) (o (dendronref01_Times.does h16) (o (dendronref01_Plus.does h17) (o (dendronref02_Make.does h18) f))))))))))))))))) (by kernel_rfl)

theorem dendronlaw03_RatioReads.does {k : Nat} {a0 : ByteArray} {r : Bool} (h : dendronlaw03_RatioReads.f k a0 = some r) :
    Does Tryz.prog 7 [.c (.d (.str a0))] [] (.c (.d (.bool r))) none [] := by
  refine does_fn Tryz.func7 (by kernel_rfl) rfl rfl ?_
  unfold dendronlaw03_RatioReads.f at h
  by_cases h0 : (a0.size : Int) > 120
  · rw [if_pos h0] at h
    obtain ⟨h1, h⟩ := ifp h
    obtain ⟨v8, h2, h⟩ := bnd h
    obtain ⟨v16, h3, h⟩ := bnd h
    by_cases h4 : v16.2.2.2 ≠ 0
    · rw [if_pos h4] at h
      obtain ⟨v26, h5, h⟩ := bnd h
      cases v26
      · rw [if_neg (by decide)] at h
        obtain rfl := Option.some.inj h
        exact Til.fin Tryz.func7 [(3, .b true), (8, ca (.tup [.agg [.d (.bool v8.1), .d (L103 v8.2.1), .d (L103 v8.2.2.1)], .c (.d (.int .i64 v8.2.2.2))])), (16, ca (.tup [.agg [.d (.bool v16.1), .d (L3 v16.2.1), .d (L3 v16.2.2.1)], .c (.d (.int .i64 v16.2.2.2))])), (24, .b true), (26, ca (.c (.d (.bool false))))] (fun _ f => o (decide_eq_true h0) (o (o (nn 120) h1) (o (ratio_Parse.does h2) (o (dendronref03_Parse.does h3) (o (bne_iff_ne.2 h4) (o (dendronref03_None.does h5) f)))))) (by kernel_rfl)
      · rw [if_pos rfl] at h
        by_cases h7 : v8.2.2.2 = v16.2.2.2
        · rw [if_pos h7] at h
          obtain ⟨v33, h8, h⟩ := bnd h
          obtain rfl := Option.some.inj h
          exact Til.fin Tryz.func7 [(3, .b true), (8, ca (.tup [.agg [.d (.bool v8.1), .d (L103 v8.2.1), .d (L103 v8.2.2.1)], .c (.d (.int .i64 v8.2.2.2))])), (16, ca (.tup [.agg [.d (.bool v16.1), .d (L3 v16.2.1), .d (L3 v16.2.2.1)], .c (.d (.int .i64 v16.2.2.2))])), (24, .b true), (26, ca (.c (.d (.bool true)))), (30, .b true), (33, ca (.c (.d (.bool v33))))] (fun _ f => o (decide_eq_true h0) (o (o (nn 120) h1) (o (ratio_Parse.does h2) (o (dendronref03_Parse.does h3) (o (bne_iff_ne.2 h4) (o (dendronref03_None.does h5) (o (beq_iff_eq.2 h7) (o (dendronlaw03_awake.does h8) f)))))))) (by kernel_rfl)
        · rw [if_neg h7] at h
          obtain rfl := Option.some.inj h
          exact Til.fin Tryz.func7 [(3, .b true), (8, ca (.tup [.agg [.d (.bool v8.1), .d (L103 v8.2.1), .d (L103 v8.2.2.1)], .c (.d (.int .i64 v8.2.2.2))])), (16, ca (.tup [.agg [.d (.bool v16.1), .d (L3 v16.2.1), .d (L3 v16.2.2.1)], .c (.d (.int .i64 v16.2.2.2))])), (24, .b true), (26, ca (.c (.d (.bool true)))), (30, .b false)] (fun _ f => o (decide_eq_true h0) (o (o (nn 120) h1) (o (ratio_Parse.does h2) (o (dendronref03_Parse.does h3) (o (bne_iff_ne.2 h4) (o (dendronref03_None.does h5) (o (beq_false_of_ne h7) f))))))) (by kernel_rfl)
    · rw [if_neg h4] at h
      by_cases h5 : v8.2.2.2 = 0
      · rw [if_pos h5] at h
        obtain ⟨v30, h6, h⟩ := bnd h
        cases v30
        · rw [if_neg (by decide)] at h
          obtain rfl := Option.some.inj h
          exact Til.fin Tryz.func7 [(3, .b true), (8, ca (.tup [.agg [.d (.bool v8.1), .d (L103 v8.2.1), .d (L103 v8.2.2.1)], .c (.d (.int .i64 v8.2.2.2))])), (16, ca (.tup [.agg [.d (.bool v16.1), .d (L3 v16.2.1), .d (L3 v16.2.2.1)], .c (.d (.int .i64 v16.2.2.2))])), (24, .b false), (26, .b true), (30, ca (.c (.d (.bool false))))] (fun _ f => o (decide_eq_true h0) (o (o (nn 120) h1) (o (ratio_Parse.does h2) (o (dendronref03_Parse.does h3) (o (ne_f h4) (o (beq_iff_eq.2 h5) (o (dendronref03_Is.does h6) f))))))) (by kernel_rfl)
        · rw [if_pos rfl] at h
          obtain ⟨v33, h8, h⟩ := bnd h
          obtain rfl := Option.some.inj h
          exact Til.fin Tryz.func7 [(3, .b true), (8, ca (.tup [.agg [.d (.bool v8.1), .d (L103 v8.2.1), .d (L103 v8.2.2.1)], .c (.d (.int .i64 v8.2.2.2))])), (16, ca (.tup [.agg [.d (.bool v16.1), .d (L3 v16.2.1), .d (L3 v16.2.2.1)], .c (.d (.int .i64 v16.2.2.2))])), (24, .b false), (26, .b true), (30, ca (.c (.d (.bool true)))), (33, ca (.c (.d (.bool v33))))] (fun _ f => o (decide_eq_true h0) (o (o (nn 120) h1) (o (ratio_Parse.does h2) (o (dendronref03_Parse.does h3) (o (ne_f h4) (o (beq_iff_eq.2 h5) (o (dendronref03_Is.does h6) (o (dendronlaw03_awake.does h8) f)))))))) (by kernel_rfl)
      · rw [if_neg h5] at h
        obtain rfl := Option.some.inj h
        exact Til.fin Tryz.func7 [(3, .b true), (8, ca (.tup [.agg [.d (.bool v8.1), .d (L103 v8.2.1), .d (L103 v8.2.2.1)], .c (.d (.int .i64 v8.2.2.2))])), (16, ca (.tup [.agg [.d (.bool v16.1), .d (L3 v16.2.1), .d (L3 v16.2.2.1)], .c (.d (.int .i64 v16.2.2.2))])), (24, .b false), (26, .b false)] (fun _ f => o (decide_eq_true h0) (o (o (nn 120) h1) (o (ratio_Parse.does h2) (o (dendronref03_Parse.does h3) (o (ne_f h4) (o (beq_false_of_ne h5) f)))))) (by kernel_rfl)
  · rw [if_neg h0] at h
    obtain ⟨v5, h1, h⟩ := bnd h
    obtain ⟨v13, h2, h⟩ := bnd h
    by_cases h3 : v13.2.2.2 ≠ 0
    · rw [if_pos h3] at h
      obtain ⟨v23, h4, h⟩ := bnd h
      cases v23
      · rw [if_neg (by decide)] at h
        obtain rfl := Option.some.inj h
        exact Til.fin Tryz.func7 [(3, .b false), (5, ca (.tup [.agg [.d (.bool v5.1), .d (L103 v5.2.1), .d (L103 v5.2.2.1)], .c (.d (.int .i64 v5.2.2.2))])), (13, ca (.tup [.agg [.d (.bool v13.1), .d (L3 v13.2.1), .d (L3 v13.2.2.1)], .c (.d (.int .i64 v13.2.2.2))])), (21, .b true), (23, ca (.c (.d (.bool false))))] (fun _ f => o (decide_eq_false h0) (o (ratio_Parse.does h1) (o (dendronref03_Parse.does h2) (o (bne_iff_ne.2 h3) (o (dendronref03_None.does h4) f))))) (by kernel_rfl)
      · rw [if_pos rfl] at h
        by_cases h6 : v5.2.2.2 = v13.2.2.2
        · rw [if_pos h6] at h
          obtain ⟨v30, h7, h⟩ := bnd h
          obtain rfl := Option.some.inj h
          exact Til.fin Tryz.func7 [(3, .b false), (5, ca (.tup [.agg [.d (.bool v5.1), .d (L103 v5.2.1), .d (L103 v5.2.2.1)], .c (.d (.int .i64 v5.2.2.2))])), (13, ca (.tup [.agg [.d (.bool v13.1), .d (L3 v13.2.1), .d (L3 v13.2.2.1)], .c (.d (.int .i64 v13.2.2.2))])), (21, .b true), (23, ca (.c (.d (.bool true)))), (27, .b true), (30, ca (.c (.d (.bool v30))))] (fun _ f => o (decide_eq_false h0) (o (ratio_Parse.does h1) (o (dendronref03_Parse.does h2) (o (bne_iff_ne.2 h3) (o (dendronref03_None.does h4) (o (beq_iff_eq.2 h6) (o (dendronlaw03_awake.does h7) f))))))) (by kernel_rfl)
        · rw [if_neg h6] at h
          obtain rfl := Option.some.inj h
          exact Til.fin Tryz.func7 [(3, .b false), (5, ca (.tup [.agg [.d (.bool v5.1), .d (L103 v5.2.1), .d (L103 v5.2.2.1)], .c (.d (.int .i64 v5.2.2.2))])), (13, ca (.tup [.agg [.d (.bool v13.1), .d (L3 v13.2.1), .d (L3 v13.2.2.1)], .c (.d (.int .i64 v13.2.2.2))])), (21, .b true), (23, ca (.c (.d (.bool true)))), (27, .b false)] (fun _ f => o (decide_eq_false h0) (o (ratio_Parse.does h1) (o (dendronref03_Parse.does h2) (o (bne_iff_ne.2 h3) (o (dendronref03_None.does h4) (o (beq_false_of_ne h6) f)))))) (by kernel_rfl)
    · rw [if_neg h3] at h
      by_cases h4 : v5.2.2.2 = 0
      · rw [if_pos h4] at h
        obtain ⟨v27, h5, h⟩ := bnd h
        cases v27
        · rw [if_neg (by decide)] at h
          obtain rfl := Option.some.inj h
          exact Til.fin Tryz.func7 [(3, .b false), (5, ca (.tup [.agg [.d (.bool v5.1), .d (L103 v5.2.1), .d (L103 v5.2.2.1)], .c (.d (.int .i64 v5.2.2.2))])), (13, ca (.tup [.agg [.d (.bool v13.1), .d (L3 v13.2.1), .d (L3 v13.2.2.1)], .c (.d (.int .i64 v13.2.2.2))])), (21, .b false), (23, .b true), (27, ca (.c (.d (.bool false))))] (fun _ f => o (decide_eq_false h0) (o (ratio_Parse.does h1) (o (dendronref03_Parse.does h2) (o (ne_f h3) (o (beq_iff_eq.2 h4) (o (dendronref03_Is.does h5) f)))))) (by kernel_rfl)
        · rw [if_pos rfl] at h
          obtain ⟨v30, h7, h⟩ := bnd h
          obtain rfl := Option.some.inj h
          exact Til.fin Tryz.func7 [(3, .b false), (5, ca (.tup [.agg [.d (.bool v5.1), .d (L103 v5.2.1), .d (L103 v5.2.2.1)], .c (.d (.int .i64 v5.2.2.2))])), (13, ca (.tup [.agg [.d (.bool v13.1), .d (L3 v13.2.1), .d (L3 v13.2.2.1)], .c (.d (.int .i64 v13.2.2.2))])), (21, .b false), (23, .b true), (27, ca (.c (.d (.bool true)))), (30, ca (.c (.d (.bool v30))))] (fun _ f => o (decide_eq_false h0) (o (ratio_Parse.does h1) (o (dendronref03_Parse.does h2) (o (ne_f h3) (o (beq_iff_eq.2 h4) (o (dendronref03_Is.does h5) (o (dendronlaw03_awake.does h7) f))))))) (by kernel_rfl)
      · rw [if_neg h4] at h
        obtain rfl := Option.some.inj h
        exact Til.fin Tryz.func7 [(3, .b false), (5, ca (.tup [.agg [.d (.bool v5.1), .d (L103 v5.2.1), .d (L103 v5.2.2.1)], .c (.d (.int .i64 v5.2.2.2))])), (13, ca (.tup [.agg [.d (.bool v13.1), .d (L3 v13.2.1), .d (L3 v13.2.2.1)], .c (.d (.int .i64 v13.2.2.2))])), (21, .b false), (23, .b false)] (fun _ f => o (decide_eq_false h0) (o (ratio_Parse.does h1) (o (dendronref03_Parse.does h2) (o (ne_f h3) (o (beq_false_of_ne h4) f))))) (by kernel_rfl)

def c9 (x : ByteArray) : List Dat := [.str x]
def L9 (xs : List ByteArray) : Dat := fr 1 c9 ByteArray.empty xs
def Z9 (xs : List ByteArray) : Sup := .r xs.length (enc c9 ByteArray.empty xs)
def O9 (k : RK) (xs : List ByteArray) : Ob := .row k 9 1 xs.length (enc c9 ByteArray.empty xs)

end Go.DI
