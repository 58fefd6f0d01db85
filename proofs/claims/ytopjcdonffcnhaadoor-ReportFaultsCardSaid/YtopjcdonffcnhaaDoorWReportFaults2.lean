/- The code of the functions does what is told of it, part 2. No condition. -/
import Derived.Test.YtopjcdonffcnhaaDoorWReportFaults1
set_option linter.all false
namespace Go.DI
open Go Go.RowKit Go.Proofs
set_option linter.unusedVariables false
set_option maxRecDepth 20000
theorem dendronlaw29_ReportFaults.does {k : Nat} {a0_0 : Int} {a0_1 : Int} {a0_2 : Int} {a0_3 : Int} {a1 : ByteArray} {r : Bool} (h : dendronlaw29_ReportFaults.f k a0_0 a0_1 a0_2 a0_3 a1 = some r) :
    Does Tryd.prog 6 [.agg [.d (.int .i64 a0_0), .d (.int .i64 a0_1), .d (.int .i64 a0_2), .d (.int .i64 a0_3)], .c (.d (.str a1))] [] (.c (.d (.bool r))) none [] := by
  refine does_fn Tryd.func6 (by kernel_rfl) rfl rfl ?_
  unfold dendronlaw29_ReportFaults.f at h
  by_cases h0 : (a1.size : Int) > 200
  · rw [if_pos h0] at h
    obtain ⟨h1, h⟩ := ifp h
    obtain ⟨v9, h2, h⟩ := bnd h
    obtain ⟨v16, h3, h⟩ := bnd h
    by_cases h4 : v16.2.2.2.2 = 0
    · rw [if_pos h4] at h
      obtain ⟨v26, h5, h⟩ := bnd h
      by_cases h6 : v26.2 ≠ 0
      · rw [if_pos h6] at h
        obtain rfl := Option.some.inj h
        exact Til.fin Tryd.func6 [(4, .b true), (9, ca (.tup [.c (.d (.str v9.1)), .c (.d (.int .i64 v9.2))])), (16, ca (.tup [.agg [.d (.int .i64 v16.1), .d (.int .i64 v16.2.1), .d (.int .i64 v16.2.2.1), .d (.int .i64 v16.2.2.2.1)], .c (.d (.int .i64 v16.2.2.2.2))])), (24, .b true), (26, ca (.tup [.c (.d (.str v26.1)), .c (.d (.int .i64 v26.2))])), (33, .b true)] (fun _ f => o (decide_eq_true h0) (o (o (nn 200) h1) (o (report_Fault.does h2) (o (report_ReadFault.does h3) (o (beq_iff_eq.2 h4) (o (report_Fault.does h5) (o (bne_iff_ne.2 h6) f))))))) (by kernel_rfl)
      · rw [if_neg h6] at h
        by_cases h7 : v26.1 ≠ (a1.extract 0 200)
        · rw [if_pos h7] at h
          obtain rfl := Option.some.inj h
          exact Til.fin Tryd.func6 [(4, .b true), (9, ca (.tup [.c (.d (.str v9.1)), .c (.d (.int .i64 v9.2))])), (16, ca (.tup [.agg [.d (.int .i64 v16.1), .d (.int .i64 v16.2.1), .d (.int .i64 v16.2.2.1), .d (.int .i64 v16.2.2.2.1)], .c (.d (.int .i64 v16.2.2.2.2))])), (24, .b true), (26, ca (.tup [.c (.d (.str v26.1)), .c (.d (.int .i64 v26.2))])), (33, .b false), (37, .b true)] (fun _ f => o (decide_eq_true h0) (o (o (nn 200) h1) (o (report_Fault.does h2) (o (report_ReadFault.does h3) (o (beq_iff_eq.2 h4) (o (report_Fault.does h5) (o (ne_f h6) (o (str_nt h7) f)))))))) (by kernel_rfl)
        · rw [if_neg h7] at h
          by_cases h8 : a0_0 < 1
          · rw [if_pos h8] at h
            by_cases h9 : v9.1 = ByteArray.empty
            · rw [if_pos h9] at h
              by_cases h10 : v9.2 = 1
              · rw [if_pos h10] at h
                obtain ⟨v84, h11, h⟩ := bnd h
                obtain rfl := Option.some.inj h
                exact Til.fin Tryd.func6 [(4, .b true), (9, ca (.tup [.c (.d (.str v9.1)), .c (.d (.int .i64 v9.2))])), (16, ca (.tup [.agg [.d (.int .i64 v16.1), .d (.int .i64 v16.2.1), .d (.int .i64 v16.2.2.1), .d (.int .i64 v16.2.2.2.1)], .c (.d (.int .i64 v16.2.2.2.2))])), (24, .b true), (26, ca (.tup [.c (.d (.str v26.1)), .c (.d (.int .i64 v26.2))])), (33, .b false), (37, .b false), (41, .b true), (78, .b true), (81, .b true), (84, ca (.c (.d (.bool v84))))] (fun _ f => o (decide_eq_true h0) (o (o (nn 200) h1) (o (report_Fault.does h2) (o (report_ReadFault.does h3) (o (beq_iff_eq.2 h4) (o (report_Fault.does h5) (o (ne_f h6) (o (str_nf h7) (o (decide_eq_true h8) (o (str_t h9) (o (beq_iff_eq.2 h10) (o (dendronlaw29_awake.does h11) f)))))))))))) (by kernel_rfl)
              · rw [if_neg h10] at h
                obtain rfl := Option.some.inj h
                exact Til.fin Tryd.func6 [(4, .b true), (9, ca (.tup [.c (.d (.str v9.1)), .c (.d (.int .i64 v9.2))])), (16, ca (.tup [.agg [.d (.int .i64 v16.1), .d (.int .i64 v16.2.1), .d (.int .i64 v16.2.2.1), .d (.int .i64 v16.2.2.2.1)], .c (.d (.int .i64 v16.2.2.2.2))])), (24, .b true), (26, ca (.tup [.c (.d (.str v26.1)), .c (.d (.int .i64 v26.2))])), (33, .b false), (37, .b false), (41, .b true), (78, .b true), (81, .b false)] (fun _ f => o (decide_eq_true h0) (o (o (nn 200) h1) (o (report_Fault.does h2) (o (report_ReadFault.does h3) (o (beq_iff_eq.2 h4) (o (report_Fault.does h5) (o (ne_f h6) (o (str_nf h7) (o (decide_eq_true h8) (o (str_t h9) (o (beq_false_of_ne h10) f))))))))))) (by kernel_rfl)
            · rw [if_neg h9] at h
              obtain rfl := Option.some.inj h
              exact Til.fin Tryd.func6 [(4, .b true), (9, ca (.tup [.c (.d (.str v9.1)), .c (.d (.int .i64 v9.2))])), (16, ca (.tup [.agg [.d (.int .i64 v16.1), .d (.int .i64 v16.2.1), .d (.int .i64 v16.2.2.1), .d (.int .i64 v16.2.2.2.1)], .c (.d (.int .i64 v16.2.2.2.2))])), (24, .b true), (26, ca (.tup [.c (.d (.str v26.1)), .c (.d (.int .i64 v26.2))])), (33, .b false), (37, .b false), (41, .b true), (78, .b false)] (fun _ f => o (decide_eq_true h0) (o (o (nn 200) h1) (o (report_Fault.does h2) (o (report_ReadFault.does h3) (o (beq_iff_eq.2 h4) (o (report_Fault.does h5) (o (ne_f h6) (o (str_nf h7) (o (decide_eq_true h8) (o (str_f h9) f)))))))))) (by kernel_rfl)
          · rw [if_neg h8] at h
            by_cases h9 : a0_0 > 999
            · rw [if_pos h9] at h
              by_cases h10 : v9.1 = ByteArray.empty
              · rw [if_pos h10] at h
                by_cases h11 : v9.2 = 1
                · rw [if_pos h11] at h
                  obtain ⟨v84, h12, h⟩ := bnd h
                  obtain rfl := Option.some.inj h
                  exact Til.fin Tryd.func6 [(4, .b true), (9, ca (.tup [.c (.d (.str v9.1)), .c (.d (.int .i64 v9.2))])), (16, ca (.tup [.agg [.d (.int .i64 v16.1), .d (.int .i64 v16.2.1), .d (.int .i64 v16.2.2.1), .d (.int .i64 v16.2.2.2.1)], .c (.d (.int .i64 v16.2.2.2.2))])), (24, .b true), (26, ca (.tup [.c (.d (.str v26.1)), .c (.d (.int .i64 v26.2))])), (33, .b false), (37, .b false), (41, .b false), (45, .b true), (78, .b true), (81, .b true), (84, ca (.c (.d (.bool v84))))] (fun _ f => o (decide_eq_true h0) (o (o (nn 200) h1) (o (report_Fault.does h2) (o (report_ReadFault.does h3) (o (beq_iff_eq.2 h4) (o (report_Fault.does h5) (o (ne_f h6) (o (str_nf h7) (o (decide_eq_false h8) (o (decide_eq_true h9) (o (str_t h10) (o (beq_iff_eq.2 h11) (o (dendronlaw29_awake.does h12) f))))))))))))) (by kernel_rfl)
                · rw [if_neg h11] at h
                  obtain rfl := Option.some.inj h
                  exact Til.fin Tryd.func6 [(4, .b true), (9, ca (.tup [.c (.d (.str v9.1)), .c (.d (.int .i64 v9.2))])), (16, ca (.tup [.agg [.d (.int .i64 v16.1), .d (.int .i64 v16.2.1), .d (.int .i64 v16.2.2.1), .d (.int .i64 v16.2.2.2.1)], .c (.d (.int .i64 v16.2.2.2.2))])), (24, .b true), (26, ca (.tup [.c (.d (.str v26.1)), .c (.d (.int .i64 v26.2))])), (33, .b false), (37, .b false), (41, .b false), (45, .b true), (78, .b true), (81, .b false)] (fun _ f => o (decide_eq_true h0) (o (o (nn 200) h1) (o (report_Fault.does h2) (o (report_ReadFault.does h3) (o (beq_iff_eq.2 h4) (o (report_Fault.does h5) (o (ne_f h6) (o (str_nf h7) (o (decide_eq_false h8) (o (decide_eq_true h9) (o (str_t h10) (o (beq_false_of_ne h11) f)))))))))))) (by kernel_rfl)
              · rw [if_neg h10] at h
                obtain rfl := Option.some.inj h
                exact Til.fin Tryd.func6 [(4, .b true), (9, ca (.tup [.c (.d (.str v9.1)), .c (.d (.int .i64 v9.2))])), (16, ca (.tup [.agg [.d (.int .i64 v16.1), .d (.int .i64 v16.2.1), .d (.int .i64 v16.2.2.1), .d (.int .i64 v16.2.2.2.1)], .c (.d (.int .i64 v16.2.2.2.2))])), (24, .b true), (26, ca (.tup [.c (.d (.str v26.1)), .c (.d (.int .i64 v26.2))])), (33, .b false), (37, .b false), (41, .b false), (45, .b true), (78, .b false)] (fun _ f => o (decide_eq_true h0) (o (o (nn 200) h1) (o (report_Fault.does h2) (o (report_ReadFault.does h3) (o (beq_iff_eq.2 h4) (o (report_Fault.does h5) (o (ne_f h6) (o (str_nf h7) (o (decide_eq_false h8) (o (decide_eq_true h9) (o (str_f h10) f))))))))))) (by kernel_rfl)
            · rw [if_neg h9] at h
              by_cases h10 : a0_1 < 0
              · rw [if_pos h10] at h
                by_cases h11 : v9.1 = ByteArray.empty
                · rw [if_pos h11] at h
                  by_cases h12 : v9.2 = 1
                  · rw [if_pos h12] at h
                    obtain ⟨v84, h13, h⟩ := bnd h
                    obtain rfl := Option.some.inj h
                    exact Til.fin Tryd.func6 [(4, .b true), (9, ca (.tup [.c (.d (.str v9.1)), .c (.d (.int .i64 v9.2))])), (16, ca (.tup [.agg [.d (.int .i64 v16.1), .d (.int .i64 v16.2.1), .d (.int .i64 v16.2.2.1), .d (.int .i64 v16.2.2.2.1)], .c (.d (.int .i64 v16.2.2.2.2))])), (24, .b true), (26, ca (.tup [.c (.d (.str v26.1)), .c (.d (.int .i64 v26.2))])), (33, .b false), (37, .b false), (41, .b false), (45, .b false), (50, .b true), (78, .b true), (81, .b true), (84, ca (.c (.d (.bool v84))))] (fun _ f => o (decide_eq_true h0) (o (o (nn 200) h1) (o (report_Fault.does h2) (o (report_ReadFault.does h3) (o (beq_iff_eq.2 h4) (o (report_Fault.does h5) (o (ne_f h6) (o (str_nf h7) (o (decide_eq_false h8) (o (decide_eq_false h9) (o (decide_eq_true h10) (o (str_t h11) (o (beq_iff_eq.2 h12) (o (dendronlaw29_awake.does h13) f)))))))))))))) (by kernel_rfl)
                  · rw [if_neg h12] at h
                    obtain rfl := Option.some.inj h
                    exact Til.fin Tryd.func6 [(4, .b true), (9, ca (.tup [.c (.d (.str v9.1)), .c (.d (.int .i64 v9.2))])), (16, ca (.tup [.agg [.d (.int .i64 v16.1), .d (.int .i64 v16.2.1), .d (.int .i64 v16.2.2.1), .d (.int .i64 v16.2.2.2.1)], .c (.d (.int .i64 v16.2.2.2.2))])), (24, .b true), (26, ca (.tup [.c (.d (.str v26.1)), .c (.d (.int .i64 v26.2))])), (33, .b false), (37, .b false), (41, .b false), (45, .b false), (50, .b true), (78, .b true), (81, .b false)] (fun _ f => o (decide_eq_true h0) (o (o (nn 200) h1) (o (report_Fault.does h2) (o (report_ReadFault.does h3) (o (beq_iff_eq.2 h4) (o (report_Fault.does h5) (o (ne_f h6) (o (str_nf h7) (o (decide_eq_false h8) (o (decide_eq_false h9) (o (decide_eq_true h10) (o (str_t h11) (o (beq_false_of_ne h12) f))))))))))))) (by kernel_rfl)
                · rw [if_neg h11] at h
                  obtain rfl := Option.some.inj h
                  exact Til.fin Tryd.func6 [(4, .b true), (9, ca (.tup [.c (.d (.str v9.1)), .c (.d (.int .i64 v9.2))])), (16, ca (.tup [.agg [.d (.int .i64 v16.1), .d (.int .i64 v16.2.1), .d (.int .i64 v16.2.2.1), .d (.int .i64 v16.2.2.2.1)], .c (.d (.int .i64 v16.2.2.2.2))])), (24, .b true), (26, ca (.tup [.c (.d (.str v26.1)), .c (.d (.int .i64 v26.2))])), (33, .b false), (37, .b false), (41, .b false), (45, .b false), (50, .b true), (78, .b false)] (fun _ f => o (decide_eq_true h0) (o (o (nn 200) h1) (o (report_Fault.does h2) (o (report_ReadFault.does h3) (o (beq_iff_eq.2 h4) (o (report_Fault.does h5) (o (ne_f h6) (o (str_nf h7) (o (decide_eq_false h8) (o (decide_eq_false h9) (o (decide_eq_true h10) (o (str_f h11) f)))))))))))) (by kernel_rfl)
              · rw [if_neg h10] at h
                by_cases h11 : a0_1 > 1048576
                · rw [if_pos h11] at h
                  by_cases h12 : v9.1 = ByteArray.empty
                  · rw [if_pos h12] at h
                    by_cases h13 : v9.2 = 1
                    · rw [if_pos h13] at h
                      obtain ⟨v84, h14, h⟩ := bnd h
                      obtain rfl := Option.some.inj h
                      exact Til.fin Tryd.func6 [(4, .b true), (9, ca (.tup [.c (.d (.str v9.1)), .c (.d (.int .i64 v9.2))])), (16, ca (.tup [.agg [.d (.int .i64 v16.1), .d (.int .i64 v16.2.1), .d (.int .i64 v16.2.2.1), .d (.int .i64 v16.2.2.2.1)], .c (.d (.int .i64 v16.2.2.2.2))])), (24, .b true), (26, ca (.tup [.c (.d (.str v26.1)), .c (.d (.int .i64 v26.2))])), (33, .b false), (37, .b false), (41, .b false), (45, .b false), (50, .b false), (55, .b true), (78, .b true), (81, .b true), (84, ca (.c (.d (.bool v84))))] (fun _ f => o (decide_eq_true h0) (o (o (nn 200) h1) (o (report_Fault.does h2) (o (report_ReadFault.does h3) (o (beq_iff_eq.2 h4) (o (report_Fault.does h5) (o (ne_f h6) (o (str_nf h7) (o (decide_eq_false h8) (o (decide_eq_false h9) (o (decide_eq_false h10) (o (decide_eq_true h11) (o (str_t h12) (o (beq_iff_eq.2 h13) (o (dendronlaw29_awake.does h14) f))))))))))))))) (by kernel_rfl)
                    · rw [if_neg h13] at h
                      obtain rfl := Option.some.inj h
                      exact Til.fin Tryd.func6 [(4, .b true), (9, ca (.tup [.c (.d (.str v9.1)), .c (.d (.int .i64 v9.2))])), (16, ca (.tup [.agg [.d (.int .i64 v16.1), .d (.int .i64 v16.2.1), .d (.int .i64 v16.2.2.1), .d (.int .i64 v16.2.2.2.1)], .c (.d (.int .i64 v16.2.2.2.2))])), (24, .b true), (26, ca (.tup [.c (.d (.str v26.1)), .c (.d (.int .i64 v26.2))])), (33, .b false), (37, .b false), (41, .b false), (45, .b false), (50, .b false), (55, .b true), (78, .b true), (81, .b false)] (fun _ f => o (decide_eq_true h0) (o (o (nn 200) h1) (o (report_Fault.does h2) (o (report_ReadFault.does h3) (o (beq_iff_eq.2 h4) (o (report_Fault.does h5) (o (ne_f h6) (o (str_nf h7) (o (decide_eq_false h8) (o (decide_eq_false h9) (o (decide_eq_false h10) (o (decide_eq_true h11) (o (str_t h12) (o (beq_false_of_ne h13) f)))))))))))))) (by kernel_rfl)
                  · rw [if_neg h12] at h
                    obtain rfl := Option.some.inj h
                    exact Til.fin Tryd.func6 [(4, .b true), (9, ca (.tup [.c (.d (.str v9.1)), .c (.d (.int .i64 v9.2))])), (16, ca (.tup [.agg [.d (.int .i64 v16.1), .d (.int .i64 v16.2.1), .d (.int .i64 v16.2.2.1), .d (.int .i64 v16.2.2.2.1)], .c (.d (.int .i64 v16.2.2.2.2))])), (24, .b true), (26, ca (.tup [.c (.d (.str v26.1)), .c (.d (.int .i64 v26.2))])), (33, .b false), (37, .b false), (41, .b false), (45, .b false), (50, .b false), (55, .b true), (78, .b false)] (fun _ f => o (decide_eq_true h0) (o (o (nn 200) h1) (o (report_Fault.does h2) (o (report_ReadFault.does h3) (o (beq_iff_eq.2 h4) (o (report_Fault.does h5) (o (ne_f h6) (o (str_nf h7) (o (decide_eq_false h8) (o (decide_eq_false h9) (o (decide_eq_false h10) (o (decide_eq_true h11) (o (str_f h12) f))))))))))))) (by kernel_rfl)
                · rw [if_neg h11] at h
                  by_cases h12 : a0_2 < 0
                  · rw [if_pos h12] at h
                    by_cases h13 : v9.1 = ByteArray.empty
                    · rw [if_pos h13] at h
                      by_cases h14 : v9.2 = 1
                      · rw [if_pos h14] at h
                        obtain ⟨v84, h15, h⟩ := bnd h
                        obtain rfl := Option.some.inj h
                        exact Til.fin Tryd.func6 [(4, .b true), (9, ca (.tup [.c (.d (.str v9.1)), .c (.d (.int .i64 v9.2))])), (16, ca (.tup [.agg [.d (.int .i64 v16.1), .d (.int .i64 v16.2.1), .d (.int .i64 v16.2.2.1), .d (.int .i64 v16.2.2.2.1)], .c (.d (.int .i64 v16.2.2.2.2))])), (24, .b true), (26, ca (.tup [.c (.d (.str v26.1)), .c (.d (.int .i64 v26.2))])), (33, .b false), (37, .b false), (41, .b false), (45, .b false), (50, .b false), (55, .b false), (60, .b true), (78, .b true), (81, .b true), (84, ca (.c (.d (.bool v84))))] (fun _ f => o (decide_eq_true h0) (o (o (nn 200) h1) (o (report_Fault.does h2) (o (report_ReadFault.does h3) (o (beq_iff_eq.2 h4) (o (report_Fault.does h5) (o (ne_f h6) (o (str_nf h7) (o (decide_eq_false h8) (o (decide_eq_false h9) (o (decide_eq_false h10) (o (decide_eq_false h11) (o (decide_eq_true h12) (o (str_t h13) (o (beq_iff_eq.2 h14) (o (dendronlaw29_awake.does h15) f)))))))))))))))) (by kernel_rfl)
                      · rw [if_neg h14] at h
                        obtain rfl := Option.some.inj h
                        exact Til.fin Tryd.func6 [(4, .b true), (9, ca (.tup [.c (.d (.str v9.1)), .c (.d (.int .i64 v9.2))])), (16, ca (.tup [.agg [.d (.int .i64 v16.1), .d (.int .i64 v16.2.1), .d (.int .i64 v16.2.2.1), .d (.int .i64 v16.2.2.2.1)], .c (.d (.int .i64 v16.2.2.2.2))])), (24, .b true), (26, ca (.tup [.c (.d (.str v26.1)), .c (.d (.int .i64 v26.2))])), (33, .b false), (37, .b false), (41, .b false), (45, .b false), (50, .b false), (55, .b false), (60, .b true), (78, .b true), (81, .b false)] (fun _ f => o (decide_eq_true h0) (o (o (nn 200) h1) (o (report_Fault.does h2) (o (report_ReadFault.does h3) (o (beq_iff_eq.2 h4) (o (report_Fault.does h5) (o (ne_f h6) (o (str_nf h7) (o (decide_eq_false h8) (o (decide_eq_false h9) (o (decide_eq_false h10) (o (decide_eq_false h11) (o (decide_eq_true h12) (o (str_t h13) (o (beq_false_of_ne h14) f))))))))))))))) (by kernel_rfl)
                    · rw [if_neg h13] at h
                      obtain rfl := Option.some.inj h
                      exact Til.fin Tryd.func6 [(4, .b true), (9, ca (.tup [.c (.d (.str v9.1)), .c (.d (.int .i64 v9.2))])), (16, ca (.tup [.agg [.d (.int .i64 v16.1), .d (.int .i64 v16.2.1), .d (.int .i64 v16.2.2.1), .d (.int .i64 v16.2.2.2.1)], .c (.d (.int .i64 v16.2.2.2.2))])), (24, .b true), (26, ca (.tup [.c (.d (.str v26.1)), .c (.d (.int .i64 v26.2))])), (33, .b false), (37, .b false), (41, .b false), (45, .b false), (50, .b false), (55, .b false), (60, .b true), (78, .b false)] (fun _ f => o (decide_eq_true h0) (o (o (nn 200) h1) (o (report_Fault.does h2) (o (report_ReadFault.does h3) (o (beq_iff_eq.2 h4) (o (report_Fault.does h5) (o (ne_f h6) (o (str_nf h7) (o (decide_eq_false h8) (o (decide_eq_false h9) (o (decide_eq_false h10) (o (decide_eq_false h11) (o (decide_eq_true h12) (o (str_f h13) f)))))))))))))) (by kernel_rfl)
                  · rw [if_neg h12] at h
                    by_cases h13 : a0_2 > 64
                    · rw [if_pos h13] at h
                      by_cases h14 : v9.1 = ByteArray.empty
                      · rw [if_pos h14] at h
                        by_cases h15 : v9.2 = 1
                        · rw [if_pos h15] at h
                          obtain ⟨v84, h16, h⟩ := bnd h
                          obtain rfl := Option.some.inj h
                          exact Til.fin Tryd.func6 [(4, .b true), (9, ca (.tup [.c (.d (.str v9.1)), .c (.d (.int .i64 v9.2))])), (16, ca (.tup [.agg [.d (.int .i64 v16.1), .d (.int .i64 v16.2.1), .d (.int .i64 v16.2.2.1), .d (.int .i64 v16.2.2.2.1)], .c (.d (.int .i64 v16.2.2.2.2))])), (24, .b true), (26, ca (.tup [.c (.d (.str v26.1)), .c (.d (.int .i64 v26.2))])), (33, .b false), (37, .b false), (41, .b false), (45, .b false), (50, .b false), (55, .b false), (60, .b false), (65, .b true), (78, .b true), (81, .b true), (84, ca (.c (.d (.bool v84))))] (fun _ f => o (decide_eq_true h0) (o (o (nn 200) h1) (o (report_Fault.does h2) (o (report_ReadFault.does h3) (o (beq_iff_eq.2 h4) (o (report_Fault.does h5) (o (ne_f h6) (o (str_nf h7) (o (decide_eq_false h8) (o (decide_eq_false h9) (o (decide_eq_false h10) (o (decide_eq_false h11) (o (decide_eq_false h12) (o (decide_eq_true h13) (o (str_t h14) (o (beq_iff_eq.2 h15) (o (dendronlaw29_awake.does h16) f))))))))))))))))) (by kernel_rfl)
                        · rw [if_neg h15] at h
                          obtain rfl := Option.some.inj h
                          exact Til.fin Tryd.func6 [(4, .b true), (9, ca (.tup [.c (.d (.str v9.1)), .c (.d (.int .i64 v9.2))])), (16, ca (.tup [.agg [.d (.int .i64 v16.1), .d (.int .i64 v16.2.1), .d (.int .i64 v16.2.2.1), .d (.int .i64 v16.2.2.2.1)], .c (.d (.int .i64 v16.2.2.2.2))])), (24, .b true), (26, ca (.tup [.c (.d (.str v26.1)), .c (.d (.int .i64 v26.2))])), (33, .b false), (37, .b false), (41, .b false), (45, .b false), (50, .b false), (55, .b false), (60, .b false), (65, .b true), (78, .b true), (81, .b false)] (fun _ f => o (decide_eq_true h0) (o (o (nn 200) h1) (o (report_Fault.does h2) (o (report_ReadFault.does h3) (o (beq_iff_eq.2 h4) (o (report_Fault.does h5) (o (ne_f h6) (o (str_nf h7) (o (decide_eq_false h8) (o (decide_eq_false h9) (o (decide_eq_false h10) (o (decide_eq_false h11) (o (decide_eq_false h12) (o (decide_eq_true h13) (o (str_t h14) (o (beq_false_of_ne h15) f)))))))))))))))) (by kernel_rfl)
                      · rw [if_neg h14] at h
                        obtain rfl := Option.some.inj h
                        exact Til.fin Tryd.func6 [(4, .b true), (9, ca (.tup [.c (.d (.str v9.1)), .c (.d (.int .i64 v9.2))])), (16, ca (.tup [.agg [.d (.int .i64 v16.1), .d (.int .i64 v16.2.1), .d (.int .i64 v16.2.2.1), .d (.int .i64 v16.2.2.2.1)], .c (.d (.int .i64 v16.2.2.2.2))])), (24, .b true), (26, ca (.tup [.c (.d (.str v26.1)), .c (.d (.int .i64 v26.2))])), (33, .b false), (37, .b false), (41, .b false), (45, .b false), (50, .b false), (55, .b false), (60, .b false), (65, .b true), (78, .b false)] (fun _ f => o (decide_eq_true h0) (o (o (nn 200) h1) (o (report_Fault.does h2) (o (report_ReadFault.does h3) (o (beq_iff_eq.2 h4) (o (report_Fault.does h5) (o (ne_f h6) (o (str_nf h7) (o (decide_eq_false h8) (o (decide_eq_false h9) (o (decide_eq_false h10) (o (decide_eq_false h11) (o (decide_eq_false h12) (o (decide_eq_true h13) (o (str_f h14) f))))))))))))))) (by kernel_rfl)
                    · rw [if_neg h13] at h
                      by_cases h14 : a0_3 < 0
                      · rw [if_pos h14] at h
                        by_cases h15 : v9.1 = ByteArray.empty
                        · rw [if_pos h15] at h
                          by_cases h16 : v9.2 = 1
                          · rw [if_pos h16] at h
                            obtain ⟨v84, h17, h⟩ := bnd h
                            obtain rfl := Option.some.inj h
                            exact Til.fin Tryd.func6 [(4, .b true), (9, ca (.tup [.c (.d (.str v9.1)), .c (.d (.int .i64 v9.2))])), (16, ca (.tup [.agg [.d (.int .i64 v16.1), .d (.int .i64 v16.2.1), .d (.int .i64 v16.2.2.1), .d (.int .i64 v16.2.2.2.1)], .c (.d (.int .i64 v16.2.2.2.2))])), (24, .b true), (26, ca (.tup [.c (.d (.str v26.1)), .c (.d (.int .i64 v26.2))])), (33, .b false), (37, .b false), (41, .b false), (45, .b false), (50, .b false), (55, .b false), (60, .b false), (65, .b false), (70, .b true), (78, .b true), (81, .b true), (84, ca (.c (.d (.bool v84))))] (fun _ f => o (decide_eq_true h0) (o (o (nn 200) h1) (o (report_Fault.does h2) (o (report_ReadFault.does h3) (o (beq_iff_eq.2 h4) (o (report_Fault.does h5) (o (ne_f h6) (o (str_nf h7) (o (decide_eq_false h8) (o (decide_eq_false h9) (o (decide_eq_false h10) (o (decide_eq_false h11) (o (decide_eq_false h12) (o (decide_eq_false h13) (o (decide_eq_true h14) (o (str_t h15) (o (beq_iff_eq.2 h16) (o (dendronlaw29_awake.does h17) f)))))))))))))))))) (by kernel_rfl)
                          · rw [if_neg h16] at h
                            obtain rfl := Option.some.inj h
                            exact Til.fin Tryd.func6 [(4, .b true), (9, ca (.tup [.c (.d (.str v9.1)), .c (.d (.int .i64 v9.2))])), (16, ca (.tup [.agg [.d (.int .i64 v16.1), .d (.int .i64 v16.2.1), .d (.int .i64 v16.2.2.1), .d (.int .i64 v16.2.2.2.1)], .c (.d (.int .i64 v16.2.2.2.2))])), (24, .b true), (26, ca (.tup [.c (.d (.str v26.1)), .c (.d (.int .i64 v26.2))])), (33, .b false), (37, .b false), (41, .b false), (45, .b false), (50, .b false), (55, .b false), (60, .b false), (65, .b false), (70, .b true), (78, .b true), (81, .b false)] (fun _ f => o (decide_eq_true h0) (o (o (nn 200) h1) (o (report_Fault.does h2) (o (report_ReadFault.does h3) (o (beq_iff_eq.2 h4) (o (report_Fault.does h5) (o (ne_f h6) (o (str_nf h7) (o (decide_eq_false h8) (o (decide_eq_false h9) (o (decide_eq_false h10) (o (decide_eq_false h11) (o (decide_eq_false h12) (o (decide_eq_false h13) (o (decide_eq_true h14) (o (str_t h15) (o (beq_false_of_ne h16) f))))))))))))))))) (by kernel_rfl)
                        · rw [if_neg h15] at h
                          obtain rfl := Option.some.inj h
                          exact Til.fin Tryd.func6 [(4, .b true), (9, ca (.tup [.c (.d (.str v9.1)), .c (.d (.int .i64 v9.2))])), (16, ca (.tup [.agg [.d (.int .i64 v16.1), .d (.int .i64 v16.2.1), .d (.int .i64 v16.2.2.1), .d (.int .i64 v16.2.2.2.1)], .c (.d (.int .i64 v16.2.2.2.2))])), (24, .b true), (26, ca (.tup [.c (.d (.str v26.1)), .c (.d (.int .i64 v26.2))])), (33, .b false), (37, .b false), (41, .b false), (45, .b false), (50, .b false), (55, .b false), (60, .b false), (65, .b false), (70, .b true), (78, .b false)] (fun _ f => o (decide_eq_true h0) (o (o (nn 200) h1) (o (report_Fault.does h2) (o (report_ReadFault.does h3) (o (beq_iff_eq.2 h4) (o (report_Fault.does h5) (o (ne_f h6) (o (str_nf h7) (o (decide_eq_false h8) (o (decide_eq_false h9) (o (decide_eq_false h10) (o (decide_eq_false h11) (o (decide_eq_false h12) (o (decide_eq_false h13) (o (decide_eq_true h14) (o (str_f h15) f)))))))))))))))) (by kernel_rfl)
                      · rw [if_neg h14] at h
                        by_cases h15 : a0_3 > 255
                        · rw [if_pos h15] at h
                          by_cases h16 : v9.1 = ByteArray.empty
                          · rw [if_pos h16] at h
                            by_cases h17 : v9.2 = 1
                            · rw [if_pos h17] at h
                              obtain ⟨v84, h18, h⟩ := bnd h
                              obtain rfl := Option.some.inj h
                              exact Til.fin Tryd.func6 [(4, .b true), (9, ca (.tup [.c (.d (.str v9.1)), .c (.d (.int .i64 v9.2))])), (16, ca (.tup [.agg [.d (.int .i64 v16.1), .d (.int .i64 v16.2.1), .d (.int .i64 v16.2.2.1), .d (.int .i64 v16.2.2.2.1)], .c (.d (.int .i64 v16.2.2.2.2))])), (24, .b true), (26, ca (.tup [.c (.d (.str v26.1)), .c (.d (.int .i64 v26.2))])), (33, .b false), (37, .b false), (41, .b false), (45, .b false), (50, .b false), (55, .b false), (60, .b false), (65, .b false), (70, .b false), (75, .b true), (78, .b true), (81, .b true), (84, ca (.c (.d (.bool v84))))] (fun _ f => o (decide_eq_true h0) (o (o (nn 200) h1) (o (report_Fault.does h2) (o (report_ReadFault.does h3) (o (beq_iff_eq.2 h4) (o (report_Fault.does h5) (o (ne_f h6) (o (str_nf h7) (o (decide_eq_false h8) (o (decide_eq_false h9) (o (decide_eq_false h10) (o (decide_eq_false h11) (o (decide_eq_false h12) (o (decide_eq_false h13) (o (decide_eq_false h14) (o (decide_eq_true h15) (o (str_t h16) (o (beq_iff_eq.2 h17) (o (dendronlaw29_awake.does h18) f))))))))))))))))))) (by kernel_rfl)
                            · rw [if_neg h17] at h
                              obtain rfl := Option.some.inj h
                              exact Til.fin Tryd.func6 [(4, .b true), (9, ca (.tup [.c (.d (.str v9.1)), .c (.d (.int .i64 v9.2))])), (16, ca (.tup [.agg [.d (.int .i64 v16.1), .d (.int .i64 v16.2.1), .d (.int .i64 v16.2.2.1), .d (.int .i64 v16.2.2.2.1)], .c (.d (.int .i64 v16.2.2.2.2))])), (24, .b true), (26, ca (.tup [.c (.d (.str v26.1)), .c (.d (.int .i64 v26.2))])), (33, .b false), (37, .b false), (41, .b false), (45, .b false), (50, .b false), (55, .b false), (60, .b false), (65, .b false), (70, .b false), (75, .b true), (78, .b true), (81, .b false)] (fun _ f => o (decide_eq_true h0) (o (o (nn 200) h1) (o (report_Fault.does h2) (o (report_ReadFault.does h3) (o (beq_iff_eq.2 h4) (o (report_Fault.does h5) (o (ne_f h6) (o (str_nf h7) (o (decide_eq_false h8) (o (decide_eq_false h9) (o (decide_eq_false h10) (o (decide_eq_false h11) (o (decide_eq_false h12) (o (decide_eq_false h13) (o (decide_eq_false h14) (o (decide_eq_true h15) (o (str_t h16) (o (beq_false_of_ne h17) f)))))))))))))))))) (by kernel_rfl)
                          · rw [if_neg h16] at h
                            obtain rfl := Option.some.inj h
                            exact Til.fin Tryd.func6 [(4, .b true), (9, ca (.tup [.c (.d (.str v9.1)), .c (.d (.int .i64 v9.2))])), (16, ca (.tup [.agg [.d (.int .i64 v16.1), .d (.int .i64 v16.2.1), .d (.int .i64 v16.2.2.1), .d (.int .i64 v16.2.2.2.1)], .c (.d (.int .i64 v16.2.2.2.2))])), (24, .b true), (26, ca (.tup [.c (.d (.str v26.1)), .c (.d (.int .i64 v26.2))])), (33, .b false), (37, .b false), (41, .b false), (45, .b false), (50, .b false), (55, .b false), (60, .b false), (65, .b false), (70, .b false), (75, .b true), (78, .b false)] (fun _ f => o (decide_eq_true h0) (o (o (nn 200) h1) (o (report_Fault.does h2) (o (report_ReadFault.does h3) (o (beq_iff_eq.2 h4) (o (report_Fault.does h5) (o (ne_f h6) (o (str_nf h7) (o (decide_eq_false h8) (o (decide_eq_false h9) (o (decide_eq_false h10) (o (decide_eq_false h11) (o (decide_eq_false h12) (o (decide_eq_false h13) (o (decide_eq_false h14) (o (decide_eq_true h15) (o (str_f h16) f))))))))))))))))) (by kernel_rfl)
                        · rw [if_neg h15] at h
                          obtain ⟨v79, h16, h⟩ := bnd h
                          obtain ⟨h17, h⟩ := ifp h
                          obtain ⟨h18, h⟩ := ifp h
                          obtain ⟨v84, h19, h⟩ := bnd h
                          obtain ⟨h20, h⟩ := ifp h
                          obtain ⟨h21, h⟩ := ifp h
                          obtain ⟨v89, h22, h⟩ := bnd h
                          obtain ⟨h23, h⟩ := ifp h
                          obtain ⟨h24, h⟩ := ifp h
                          obtain ⟨v94, h25, h⟩ := bnd h
                          obtain ⟨h26, h⟩ := ifp h
                          obtain ⟨h27, h⟩ := ifp h
                          obtain ⟨v99, h28, h⟩ := bnd h
                          by_cases h29 : v9.1 = (((((((((⟨#[102, 97, 117, 108, 116, 32]⟩ : ByteArray) ++ v79) ++ (⟨#[32]⟩ : ByteArray)) ++ v84) ++ (⟨#[32]⟩ : ByteArray)) ++ v89) ++ (⟨#[32]⟩ : ByteArray)) ++ v94) ++ (⟨#[10]⟩ : ByteArray))
                          · rw [if_pos h29] at h
                            by_cases h30 : v9.2 = 0
                            · rw [if_pos h30] at h
                              by_cases h31 : v99.2.2.2.2 = 0
                              · rw [if_pos h31] at h
                                by_cases h32 : ((v99.1 == a0_0) && ((v99.2.1 == a0_1) && ((v99.2.2.1 == a0_2) && ((v99.2.2.2.1 == a0_3) && true)))) = true
                                · rw [if_pos h32] at h
                                  obtain ⟨v123, h33, h⟩ := bnd h
                                  obtain rfl := Option.some.inj h
                                  exact Til.fin Tryd.func6 [(4, .b true), (9, ca (.tup [.c (.d (.str v9.1)), .c (.d (.int .i64 v9.2))])), (16, ca (.tup [.agg [.d (.int .i64 v16.1), .d (.int .i64 v16.2.1), .d (.int .i64 v16.2.2.1), .d (.int .i64 v16.2.2.2.1)], .c (.d (.int .i64 v16.2.2.2.2))])), (24, .b true), (26, ca (.tup [.c (.d (.str v26.1)), .c (.d (.int .i64 v26.2))])), (33, .b false), (37, .b false), (41, .b false), (45, .b false), (50, .b false), (55, .b false), (60, .b false), (65, .b false), (70, .b false), (75, .b false), (79, ca (.c (.d (.str v79)))), (84, ca (.c (.d (.str v84)))), (89, ca (.c (.d (.str v89)))), (94, ca (.c (.d (.str v94)))), (99, ca (.tup [.agg [.d (.int .i64 v99.1), .d (.int .i64 v99.2.1), .d (.int .i64 v99.2.2.1), .d (.int .i64 v99.2.2.2.1)], .c (.d (.int .i64 v99.2.2.2.2))])), (108, .b true), (111, .b true), (115, .b true), (120, .b true), (123, ca (.c (.d (.bool v123))))] (fun _ f => o (decide_eq_true h0) (o (o (nn 200) h1) (o (report_Fault.does h2) (o (report_ReadFault.does h3) (o (beq_iff_eq.2 h4) (o (report_Fault.does h5) (o (ne_f h6) (o (str_nf h7) (o (decide_eq_false h8) (o (decide_eq_false h9) (o (decide_eq_false h10) (o (decide_eq_false h11) (o (decide_eq_false h12) (o (decide_eq_false h13) (o (decide_eq_false h14) (o (decide_eq_false h15) (o (dendronlaw29_digits.does h16) (o h17 (o h18 (o (dendronlaw29_digits.does h19) (o h20 (o h21 (o (dendronlaw29_digits.does h22) (o h23 (o h24 (o (dendronlaw29_digits.does h25) (o h26 (o h27 (o (report_ReadFault.does h28) (o (str_t h29) (o (beq_iff_eq.2 h30) (o (beq_iff_eq.2 h31) (o h32 (o (dendronlaw29_awake.does h33) f)))))))))))))))))))))))))))))))))) (by kernel_rfl)
                                · rw [if_neg h32] at h
                                  obtain rfl := Option.some.inj h
                                  exact Til.fin Tryd.func6 [(4, .b true), (9, ca (.tup [.c (.d (.str v9.1)), .c (.d (.int .i64 v9.2))])), (16, ca (.tup [.agg [.d (.int .i64 v16.1), .d (.int .i64 v16.2.1), .d (.int .i64 v16.2.2.1), .d (.int .i64 v16.2.2.2.1)], .c (.d (.int .i64 v16.2.2.2.2))])), (24, .b true), (26, ca (.tup [.c (.d (.str v26.1)), .c (.d (.int .i64 v26.2))])), (33, .b false), (37, .b false), (41, .b false), (45, .b false), (50, .b false), (55, .b false), (60, .b false), (65, .b false), (70, .b false), (75, .b false), (79, ca (.c (.d (.str v79)))), (84, ca (.c (.d (.str v84)))), (89, ca (.c (.d (.str v89)))), (94, ca (.c (.d (.str v94)))), (99, ca (.tup [.agg [.d (.int .i64 v99.1), .d (.int .i64 v99.2.1), .d (.int .i64 v99.2.2.1), .d (.int .i64 v99.2.2.2.1)], .c (.d (.int .i64 v99.2.2.2.2))])), (108, .b true), (111, .b true), (115, .b true), (120, .b false)] (fun _ f => o (decide_eq_true h0) (o (o (nn 200) h1) (o (report_Fault.does h2) (o (report_ReadFault.does h3) (o (beq_iff_eq.2 h4) (o (report_Fault.does h5) (o (ne_f h6) (o (str_nf h7) (o (decide_eq_false h8) (o (decide_eq_false h9) (o (decide_eq_false h10) (o (decide_eq_false h11) (o (decide_eq_false h12) (o (decide_eq_false h13) (o (decide_eq_false h14) (o (decide_eq_false h15) (o (dendronlaw29_digits.does h16) (o h17 (o h18 (o (dendronlaw29_digits.does h19) (o h20 (o h21 (o (dendronlaw29_digits.does h22) (o h23 (o h24 (o (dendronlaw29_digits.does h25) (o h26 (o h27 (o (report_ReadFault.does h28) (o (str_t h29) (o (beq_iff_eq.2 h30) (o (beq_iff_eq.2 h31) (o (Bool.eq_false_iff.2 h32) f))))))))))))))))))))))))))))))))) (by kernel_rfl)
                              · rw [if_neg h31] at h
                                obtain rfl := Option.some.inj h
                                exact Til.fin Tryd.func6 [(4, .b true), (9, ca (.tup [.c (.d (.str v9.1)), .c (.d (.int .i64 v9.2))])), (16, ca (.tup [.agg [.d (.int .i64 v16.1), .d (.int .i64 v16.2.1), .d (.int .i64 v16.2.2.1), .d (.int .i64 v16.2.2.2.1)], .c (.d (.int .i64 v16.2.2.2.2))])), (24, .b true), (26, ca (.tup [.c (.d (.str v26.1)), .c (.d (.int .i64 v26.2))])), (33, .b false), (37, .b false), (41, .b false), (45, .b false), (50, .b false), (55, .b false), (60, .b false), (65, .b false), (70, .b false), (75, .b false), (79, ca (.c (.d (.str v79)))), (84, ca (.c (.d (.str v84)))), (89, ca (.c (.d (.str v89)))), (94, ca (.c (.d (.str v94)))), (99, ca (.tup [.agg [.d (.int .i64 v99.1), .d (.int .i64 v99.2.1), .d (.int .i64 v99.2.2.1), .d (.int .i64 v99.2.2.2.1)], .c (.d (.int .i64 v99.2.2.2.2))])), (108, .b true), (111, .b true), (115, .b false)] (fun _ f => o (decide_eq_true h0) (o (o (nn 200) h1) (o (report_Fault.does h2) (o (report_ReadFault.does h3) (o (beq_iff_eq.2 h4) (o (report_Fault.does h5) (o (ne_f h6) (o (str_nf h7) (o (decide_eq_false h8) (o (decide_eq_false h9) (o (decide_eq_false h10) (o (decide_eq_false h11) (o (decide_eq_false h12) (o (decide_eq_false h13) (o (decide_eq_false h14) (o (decide_eq_false h15) (o (dendronlaw29_digits.does h16) (o h17 (o h18 (o (dendronlaw29_digits.does h19) (o h20 (o h21 (o (dendronlaw29_digits.does h22) (o h23 (o h24 (o (dendronlaw29_digits.does h25) (o h26 (o h27 (o (report_ReadFault.does h28) (o (str_t h29) (o (beq_iff_eq.2 h30) (o (beq_false_of_ne h31) f)))))))))))))))))))))))))))))))) (by kernel_rfl)
                            · rw [if_neg h30] at h
                              obtain rfl := Option.some.inj h
                              exact Til.fin Tryd.func6 [(4, .b true), (9, ca (.tup [.c (.d (.str v9.1)), .c (.d (.int .i64 v9.2))])), (16, ca (.tup [.agg [.d (.int .i64 v16.1), .d (.int .i64 v16.2.1), .d (.int .i64 v16.2.2.1), .d (.int .i64 v16.2.2.2.1)], .c (.d (.int .i64 v16.2.2.2.2))])), (24, .b true), (26, ca (.tup [.c (.d (.str v26.1)), .c (.d (.int .i64 v26.2))])), (33, .b false), (37, .b false), (41, .b false), (45, .b false), (50, .b false), (55, .b false), (60, .b false), (65, .b false), (70, .b false), (75, .b false), (79, ca (.c (.d (.str v79)))), (84, ca (.c (.d (.str v84)))), (89, ca (.c (.d (.str v89)))), (94, ca (.c (.d (.str v94)))), (99, ca (.tup [.agg [.d (.int .i64 v99.1), .d (.int .i64 v99.2.1), .d (.int .i64 v99.2.2.1), .d (.int .i64 v99.2.2.2.1)], .c (.d (.int .i64 v99.2.2.2.2))])), (108, .b true), (111, .b false)] (fun _ f => o (decide_eq_true h0) (o (o (nn 200) h1) (o (report_Fault.does h2) (o (report_ReadFault.does h3) (o (beq_iff_eq.2 h4) (o (report_Fault.does h5) (o (ne_f h6) (o (str_nf h7) (o (decide_eq_false h8) (o (decide_eq_false h9) (o (decide_eq_false h10) (o (decide_eq_false h11) (o (decide_eq_false h12) (o (decide_eq_false h13) (o (decide_eq_false h14) (o (decide_eq_false h15) (o (dendronlaw29_digits.does h16) (o h17 (o h18 (o (dendronlaw29_digits.does h19) (o h20 (o h21 (o (dendronlaw29_digits.does h22) (o h23 (o h24 (o (dendronlaw29_digits.does h25) (o h26 (o h27 (o (report_ReadFault.does h28) (o (str_t h29) (o (beq_false_of_ne h30) f))))))))))))))))))))))))))))))) (by kernel_rfl)
                          · rw [if_neg h29] at h
                            obtain rfl := Option.some.inj h
                            exact Til.fin Tryd.func6 [(4, .b true), (9, ca (.tup [.c (.d (.str v9.1)), .c (.d (.int .i64 v9.2))])), (16, ca (.tup [.agg [.d (.int .i64 v16.1), .d (.int .i64 v16.2.1), .d (.int .i64 v16.2.2.1), .d (.int .i64 v16.2.2.2.1)], .c (.d (.int .i64 v16.2.2.2.2))])), (24, .b true), (26, ca (.tup [.c (.d (.str v26.1)), .c (.d (.int .i64 v26.2))])), (33, .b false), (37, .b false), (41, .b false), (45, .b false), (50, .b false), (55, .b false), (60, .b false), (65, .b false), (70, .b false), (75, .b false), (79, ca (.c (.d (.str v79)))), (84, ca (.c (.d (.str v84)))), (89, ca (.c (.d (.str v89)))), (94, ca (.c (.d (.str v94)))), (99, ca (.tup [.agg [.d (.int .i64 v99.1), .d (.int .i64 v99.2.1), .d (.int .i64 v99.2.2.1), .d (.int .i64 v99.2.2.2.1)], .c (.d (.int .i64 v99.2.2.2.2))])), (108, .b false)] (fun _ f => o (decide_eq_true h0) (o (o (nn 200) h1) (o (report_Fault.does h2) (o (report_ReadFault.does h3) (o (beq_iff_eq.2 h4) (o (report_Fault.does h5) (o (ne_f h6) (o (str_nf h7) (o (decide_eq_false h8) (o (decide_eq_false h9) (o (decide_eq_false h10) (o (decide_eq_false h11) (o (decide_eq_false h12) (o (decide_eq_false h13) (o (decide_eq_false h14) (o (decide_eq_false h15) (o (dendronlaw29_digits.does h16) (o h17 (o h18 (o (dendronlaw29_digits.does h19) (o h20 (o h21 (o (dendronlaw29_digits.does h22) (o h23 (o h24 (o (dendronlaw29_digits.does h25) (o h26 (o h27 (o (report_ReadFault.does h28) (o (str_f h29) f)))))))))))))))))))))))))))))) (by kernel_rfl)
    · rw [if_neg h4] at h
      by_cases h5 : (!((v16.1 == 0) && ((v16.2.1 == 0) && ((v16.2.2.1 == 0) && ((v16.2.2.2.1 == 0) && true))))) = true
      · rw [if_pos h5] at h
        obtain rfl := Option.some.inj h
        exact Til.fin Tryd.func6 [(4, .b true), (9, ca (.tup [.c (.d (.str v9.1)), .c (.d (.int .i64 v9.2))])), (16, ca (.tup [.agg [.d (.int .i64 v16.1), .d (.int .i64 v16.2.1), .d (.int .i64 v16.2.2.1), .d (.int .i64 v16.2.2.2.1)], .c (.d (.int .i64 v16.2.2.2.2))])), (24, .b false), (27, .b true)] (fun _ f => o (decide_eq_true h0) (o (o (nn 200) h1) (o (report_Fault.does h2) (o (report_ReadFault.does h3) (o (beq_false_of_ne h4) (o h5 f)))))) (by kernel_rfl)
      · rw [if_neg h5] at h
        by_cases h6 : a0_0 < 1
        · rw [if_pos h6] at h
          by_cases h7 : v9.1 = ByteArray.empty
          · rw [if_pos h7] at h
            by_cases h8 : v9.2 = 1
            · rw [if_pos h8] at h
              obtain ⟨v73, h9, h⟩ := bnd h
              obtain rfl := Option.some.inj h
              exact Til.fin Tryd.func6 [(4, .b true), (9, ca (.tup [.c (.d (.str v9.1)), .c (.d (.int .i64 v9.2))])), (16, ca (.tup [.agg [.d (.int .i64 v16.1), .d (.int .i64 v16.2.1), .d (.int .i64 v16.2.2.1), .d (.int .i64 v16.2.2.2.1)], .c (.d (.int .i64 v16.2.2.2.2))])), (24, .b false), (27, .b false), (30, .b true), (67, .b true), (70, .b true), (73, ca (.c (.d (.bool v73))))] (fun _ f => o (decide_eq_true h0) (o (o (nn 200) h1) (o (report_Fault.does h2) (o (report_ReadFault.does h3) (o (beq_false_of_ne h4) (o (Bool.eq_false_iff.2 h5) (o (decide_eq_true h6) (o (str_t h7) (o (beq_iff_eq.2 h8) (o (dendronlaw29_awake.does h9) f)))))))))) (by kernel_rfl)
            · rw [if_neg h8] at h
              obtain rfl := Option.some.inj h
              exact Til.fin Tryd.func6 [(4, .b true), (9, ca (.tup [.c (.d (.str v9.1)), .c (.d (.int .i64 v9.2))])), (16, ca (.tup [.agg [.d (.int .i64 v16.1), .d (.int .i64 v16.2.1), .d (.int .i64 v16.2.2.1), .d (.int .i64 v16.2.2.2.1)], .c (.d (.int .i64 v16.2.2.2.2))])), (24, .b false), (27, .b false), (30, .b true), (67, .b true), (70, .b false)] (fun _ f => o (decide_eq_true h0) (o (o (nn 200) h1) (o (report_Fault.does h2) (o (report_ReadFault.does h3) (o (beq_false_of_ne h4) (o (Bool.eq_false_iff.2 h5) (o (decide_eq_true h6) (o (str_t h7) (o (beq_false_of_ne h8) f))))))))) (by kernel_rfl)
          · rw [if_neg h7] at h
            obtain rfl := Option.some.inj h
            exact Til.fin Tryd.func6 [(4, .b true), (9, ca (.tup [.c (.d (.str v9.1)), .c (.d (.int .i64 v9.2))])), (16, ca (.tup [.agg [.d (.int .i64 v16.1), .d (.int .i64 v16.2.1), .d (.int .i64 v16.2.2.1), .d (.int .i64 v16.2.2.2.1)], .c (.d (.int .i64 v16.2.2.2.2))])), (24, .b false), (27, .b false), (30, .b true), (67, .b false)] (fun _ f => o (decide_eq_true h0) (o (o (nn 200) h1) (o (report_Fault.does h2) (o (report_ReadFault.does h3) (o (beq_false_of_ne h4) (o (Bool.eq_false_iff.2 h5) (o (decide_eq_true h6) (o (str_f h7) f)))))))) (by kernel_rfl)
        · rw [if_neg h6] at h
          by_cases h7 : a0_0 > 999
          · rw [if_pos h7] at h
            by_cases h8 : v9.1 = ByteArray.empty
            · rw [if_pos h8] at h
              by_cases h9 : v9.2 = 1
              · rw [if_pos h9] at h
                obtain ⟨v73, h10, h⟩ := bnd h
                obtain rfl := Option.some.inj h
                exact Til.fin Tryd.func6 [(4, .b true), (9, ca (.tup [.c (.d (.str v9.1)), .c (.d (.int .i64 v9.2))])), (16, ca (.tup [.agg [.d (.int .i64 v16.1), .d (.int .i64 v16.2.1), .d (.int .i64 v16.2.2.1), .d (.int .i64 v16.2.2.2.1)], .c (.d (.int .i64 v16.2.2.2.2))])), (24, .b false), (27, .b false), (30, .b false), (34, .b true), (67, .b true), (70, .b true), (73, ca (.c (.d (.bool v73))))] (fun _ f => o (decide_eq_true h0) (o (o (nn 200) h1) (o (report_Fault.does h2) (o (report_ReadFault.does h3) (o (beq_false_of_ne h4) (o (Bool.eq_false_iff.2 h5) (o (decide_eq_false h6) (o (decide_eq_true h7) (o (str_t h8) (o (beq_iff_eq.2 h9) (o (dendronlaw29_awake.does h10) f))))))))))) (by kernel_rfl)
              · rw [if_neg h9] at h
                obtain rfl := Option.some.inj h
                exact Til.fin Tryd.func6 [(4, .b true), (9, ca (.tup [.c (.d (.str v9.1)), .c (.d (.int .i64 v9.2))])), (16, ca (.tup [.agg [.d (.int .i64 v16.1), .d (.int .i64 v16.2.1), .d (.int .i64 v16.2.2.1), .d (.int .i64 v16.2.2.2.1)], .c (.d (.int .i64 v16.2.2.2.2))])), (24, .b false), (27, .b false), (30, .b false), (34, .b true), (67, .b true), (70, .b false)] (fun _ f => o (decide_eq_true h0) (o (o (nn 200) h1) (o (report_Fault.does h2) (o (report_ReadFault.does h3) (o (beq_false_of_ne h4) (o (Bool.eq_false_iff.2 h5) (o (decide_eq_false h6) (o (decide_eq_true h7) (o (str_t h8) (o (beq_false_of_ne h9) f)))))))))) (by kernel_rfl)
            · rw [if_neg h8] at h
              obtain rfl := Option.some.inj h
              exact Til.fin Tryd.func6 [(4, .b true), (9, ca (.tup [.c (.d (.str v9.1)), .c (.d (.int .i64 v9.2))])), (16, ca (.tup [.agg [.d (.int .i64 v16.1), .d (.int .i64 v16.2.1), .d (.int .i64 v16.2.2.1), .d (.int .i64 v16.2.2.2.1)], .c (.d (.int .i64 v16.2.2.2.2))])), (24, .b false), (27, .b false), (30, .b false), (34, .b true), (67, .b false)] (fun _ f => o (decide_eq_true h0) (o (o (nn 200) h1) (o (report_Fault.does h2) (o (report_ReadFault.does h3) (o (beq_false_of_ne h4) (o (Bool.eq_false_iff.2 h5) (o (decide_eq_false h6) (o (decide_eq_true h7) (o (str_f h8) f))))))))) (by kernel_rfl)
          · rw [if_neg h7] at h
            by_cases h8 : a0_1 < 0
            · rw [if_pos h8] at h
              by_cases h9 : v9.1 = ByteArray.empty
              · rw [if_pos h9] at h
                by_cases h10 : v9.2 = 1
                · rw [if_pos h10] at h
                  obtain ⟨v73, h11, h⟩ := bnd h
                  obtain rfl := Option.some.inj h
                  exact Til.fin Tryd.func6 [(4, .b true), (9, ca (.tup [.c (.d (.str v9.1)), .c (.d (.int .i64 v9.2))])), (16, ca (.tup [.agg [.d (.int .i64 v16.1), .d (.int .i64 v16.2.1), .d (.int .i64 v16.2.2.1), .d (.int .i64 v16.2.2.2.1)], .c (.d (.int .i64 v16.2.2.2.2))])), (24, .b false), (27, .b false), (30, .b false), (34, .b false), (39, .b true), (67, .b true), (70, .b true), (73, ca (.c (.d (.bool v73))))] (fun _ f => o (decide_eq_true h0) (o (o (nn 200) h1) (o (report_Fault.does h2) (o (report_ReadFault.does h3) (o (beq_false_of_ne h4) (o (Bool.eq_false_iff.2 h5) (o (decide_eq_false h6) (o (decide_eq_false h7) (o (decide_eq_true h8) (o (str_t h9) (o (beq_iff_eq.2 h10) (o (dendronlaw29_awake.does h11) f)))))))))))) (by kernel_rfl)
                · rw [if_neg h10] at h
                  obtain rfl := Option.some.inj h
                  exact Til.fin Tryd.func6 [(4, .b true), (9, ca (.tup [.c (.d (.str v9.1)), .c (.d (.int .i64 v9.2))])), (16, ca (.tup [.agg [.d (.int .i64 v16.1), .d (.int .i64 v16.2.1), .d (.int .i64 v16.2.2.1), .d (.int .i64 v16.2.2.2.1)], .c (.d (.int .i64 v16.2.2.2.2))])), (24, .b false), (27, .b false), (30, .b false), (34, .b false), (39, .b true), (67, .b true), (70, .b false)] (fun _ f => o (decide_eq_true h0) (o (o (nn 200) h1) (o (report_Fault.does h2) (o (report_ReadFault.does h3) (o (beq_false_of_ne h4) (o (Bool.eq_false_iff.2 h5) (o (decide_eq_false h6) (o (decide_eq_false h7) (o (decide_eq_true h8) (o (str_t h9) (o (beq_false_of_ne h10) f))))))))))) (by kernel_rfl)
              · rw [if_neg h9] at h
                obtain rfl := Option.some.inj h
                exact Til.fin Tryd.func6 [(4, .b true), (9, ca (.tup [.c (.d (.str v9.1)), .c (.d (.int .i64 v9.2))])), (16, ca (.tup [.agg [.d (.int .i64 v16.1), .d (.int .i64 v16.2.1), .d (.int .i64 v16.2.2.1), .d (.int .i64 v16.2.2.2.1)], .c (.d (.int .i64 v16.2.2.2.2))])), (24, .b false), (27, .b false), (30, .b false), (34, .b false), (39, .b true), (67, .b false)] (fun _ f => o (decide_eq_true h0) (o (o (nn 200) h1) (o (report_Fault.does h2) (o (report_ReadFault.does h3) (o (beq_false_of_ne h4) (o (Bool.eq_false_iff.2 h5) (o (decide_eq_false h6) (o (decide_eq_false h7) (o (decide_eq_true h8) (o (str_f h9) f)))))))))) (by kernel_rfl)
            · rw [if_neg h8] at h
              by_cases h9 : a0_1 > 1048576
              · rw [if_pos h9] at h
                by_cases h10 : v9.1 = ByteArray.empty
                · rw [if_pos h10] at h
                  by_cases h11 : v9.2 = 1
                  · rw [if_pos h11] at h
                    obtain ⟨v73, h12, h⟩ := bnd h
                    obtain rfl := Option.some.inj h
                    exact Til.fin Tryd.func6 [(4, .b true), (9, ca (.tup [.c (.d (.str v9.1)), .c (.d (.int .i64 v9.2))])), (16, ca (.tup [.agg [.d (.int .i64 v16.1), .d (.int .i64 v16.2.1), .d (.int .i64 v16.2.2.1), .d (.int .i64 v16.2.2.2.1)], .c (.d (.int .i64 v16.2.2.2.2))])), (24, .b false), (27, .b false), (30, .b false), (34, .b false), (39, .b false), (44, .b true), (67, .b true), (70, .b true), (73, ca (.c (.d (.bool v73))))] (fun _ f => o (decide_eq_true h0) (o (o (nn 200) h1) (o (report_Fault.does h2) (o (report_ReadFault.does h3) (o (beq_false_of_ne h4) (o (Bool.eq_false_iff.2 h5) (o (decide_eq_false h6) (o (decide_eq_false h7) (o (decide_eq_false h8) (o (decide_eq_true h9) (o (str_t h10) (o (beq_iff_eq.2 h11) (o (dendronlaw29_awake.does h12) f))))))))))))) (by kernel_rfl)
                  · rw [if_neg h11] at h
                    obtain rfl := Option.some.inj h
                    exact Til.fin Tryd.func6 [(4, .b true), (9, ca (.tup [.c (.d (.str v9.1)), .c (.d (.int .i64 v9.2))])), (16, ca (.tup [.agg [.d (.int .i64 v16.1), .d (.int .i64 v16.2.1), .d (.int .i64 v16.2.2.1), .d (.int .i64 v16.2.2.2.1)], .c (.d (.int .i64 v16.2.2.2.2))])), (24, .b false), (27, .b false), (30, .b false), (34, .b false), (39, .b false), (44, .b true), (67, .b true), (70, .b false)] (fun _ f => o (decide_eq_true h0) (o (o (nn 200) h1) (o (report_Fault.does h2) (o (report_ReadFault.does h3) (o (beq_false_of_ne h4) (o (Bool.eq_false_iff.2 h5) (o (decide_eq_false h6) (o (decide_eq_false h7) (o (decide_eq_false h8) (o (decide_eq_true h9) (o (str_t h10) (o (beq_false_of_ne h11) f)))))))))))) (by kernel_rfl)
                · rw [if_neg h10] at h
                  obtain rfl := Option.some.inj h
                  exact Til.fin Tryd.func6 [(4, .b true), (9, ca (.tup [.c (.d (.str v9.1)), .c (.d (.int .i64 v9.2))])), (16, ca (.tup [.agg [.d (.int .i64 v16.1), .d (.int .i64 v16.2.1), .d (.int .i64 v16.2.2.1), .d (.int .i64 v16.2.2.2.1)], .c (.d (.int .i64 v16.2.2.2.2))])), (24, .b false), (27, .b false), (30, .b false), (34, .b false), (39, .b false), (44, .b true), (67, .b false)] (fun _ f => o (decide_eq_true h0) (o (o (nn 200) h1) (o (report_Fault.does h2) (o (report_ReadFault.does h3) (o (beq_false_of_ne h4) (o (Bool.eq_false_iff.2 h5) (o (decide_eq_false h6) (o (decide_eq_false h7) (o (decide_eq_false h8) (o (decide_eq_true h9) (o (str_f h10) f))))))))))) (by kernel_rfl)
              · rw [if_neg h9] at h
                by_cases h10 : a0_2 < 0
                · rw [if_pos h10] at h
                  by_cases h11 : v9.1 = ByteArray.empty
                  · rw [if_pos h11] at h
                    by_cases h12 : v9.2 = 1
                    · rw [if_pos h12] at h
                      obtain ⟨v73, h13, h⟩ := bnd h
                      obtain rfl := Option.some.inj h
                      exact Til.fin Tryd.func6 [(4, .b true), (9, ca (.tup [.c (.d (.str v9.1)), .c (.d (.int .i64 v9.2))])), (16, ca (.tup [.agg [.d (.int .i64 v16.1), .d (.int .i64 v16.2.1), .d (.int .i64 v16.2.2.1), .d (.int .i64 v16.2.2.2.1)], .c (.d (.int .i64 v16.2.2.2.2))])), (24, .b false), (27, .b false), (30, .b false), (34, .b false), (39, .b false), (44, .b false), (49, .b true), (67, .b true), (70, .b true), (73, ca (.c (.d (.bool v73))))] (fun _ f => o (decide_eq_true h0) (o (o (nn 200) h1) (o (report_Fault.does h2) (o (report_ReadFault.does h3) (o (beq_false_of_ne h4) (o (Bool.eq_false_iff.2 h5) (o (decide_eq_false h6) (o (decide_eq_false h7) (o (decide_eq_false h8) (o (decide_eq_false h9) (o (decide_eq_true h10) (o (str_t h11) (o (beq_iff_eq.2 h12) (o (dendronlaw29_awake.does h13) f)))))))))))))) (by kernel_rfl)
                    · rw [if_neg h12] at h
                      obtain rfl := Option.some.inj h
                      exact Til.fin Tryd.func6 [(4, .b true), (9, ca (.tup [.c (.d (.str v9.1)), .c (.d (.int .i64 v9.2))])), (16, ca (.tup [.agg [.d (.int .i64 v16.1), .d (.int .i64 v16.2.1), .d (.int .i64 v16.2.2.1), .d (.int .i64 v16.2.2.2.1)], .c (.d (.int .i64 v16.2.2.2.2))])), (24, .b false), (27, .b false), (30, .b false), (34, .b false), (39, .b false), (44, .b false), (49, .b true), (67, .b true), (70, .b false)] (fun _ f => o (decide_eq_true h0) (o (o (nn 200) h1) (o (report_Fault.does h2) (o (report_ReadFault.does h3) (o (beq_false_of_ne h4) (o (Bool.eq_false_iff.2 h5) (o (decide_eq_false h6) (o (decide_eq_false h7) (o (decide_eq_false h8) (o (decide_eq_false h9) (o (decide_eq_true h10) (o (str_t h11) (o (beq_false_of_ne h12) f))))))))))))) (by kernel_rfl)
                  · rw [if_neg h11] at h
                    obtain rfl := Option.some.inj h
                    exact Til.fin Tryd.func6 [(4, .b true), (9, ca (.tup [.c (.d (.str v9.1)), .c (.d (.int .i64 v9.2))])), (16, ca (.tup [.agg [.d (.int .i64 v16.1), .d (.int .i64 v16.2.1), .d (.int .i64 v16.2.2.1), .d (.int .i64 v16.2.2.2.1)], .c (.d (.int .i64 v16.2.2.2.2))])), (24, .b false), (27, .b false), (30, .b false), (34, .b false), (39, .b false), (44, .b false), (49, .b true), (67, .b false)] (fun _ f => o (decide_eq_true h0) (o (o (nn 200) h1) (o (report_Fault.does h2) (o (report_ReadFault.does h3) (o (beq_false_of_ne h4) (o (Bool.eq_false_iff.2 h5) (o (decide_eq_false h6) (o (decide_eq_false h7) (o (decide_eq_false h8) (o (decide_eq_false h9) (o (decide_eq_true h10) (o (str_f h11) f)))))))))))) (by kernel_rfl)
                · rw [if_neg h10] at h
                  by_cases h11 : a0_2 > 64
                  · rw [if_pos h11] at h
                    by_cases h12 : v9.1 = ByteArray.empty
                    · rw [if_pos h12] at h
                      by_cases h13 : v9.2 = 1
                      · rw [if_pos h13] at h
                        obtain ⟨v73, h14, h⟩ := bnd h
                        obtain rfl := Option.some.inj h
                        exact Til.fin Tryd.func6 [(4, .b true), (9, ca (.tup [.c (.d (.str v9.1)), .c (.d (.int .i64 v9.2))])), (16, ca (.tup [.agg [.d (.int .i64 v16.1), .d (.int .i64 v16.2.1), .d (.int .i64 v16.2.2.1), .d (.int .i64 v16.2.2.2.1)], .c (.d (.int .i64 v16.2.2.2.2))])), (24, .b false), (27, .b false), (30, .b false), (34, .b false), (39, .b false), (44, .b false), (49, .b false), (54, .b true), (67, .b true), (70, .b true), (73, ca (.c (.d (.bool v73))))] (fun _ f => o (decide_eq_true h0) (o (o (nn 200) h1) (o (report_Fault.does h2) (o (report_ReadFault.does h3) (o (beq_false_of_ne h4) (o (Bool.eq_false_iff.2 h5) (o (decide_eq_false h6) (o (decide_eq_false h7) (o (decide_eq_false h8) (o (decide_eq_false h9) (o (decide_eq_false h10) (o (decide_eq_true h11) (o (str_t h12) (o (beq_iff_eq.2 h13) (o (dendronlaw29_awake.does h14) f))))))))))))))) (by kernel_rfl)
                      · rw [if_neg h13] at h
                        obtain rfl := Option.some.inj h
                        exact Til.fin Tryd.func6 [(4, .b true), (9, ca (.tup [.c (.d (.str v9.1)), .c (.d (.int .i64 v9.2))])), (16, ca (.tup [.agg [.d (.int .i64 v16.1), .d (.int .i64 v16.2.1), .d (.int .i64 v16.2.2.1), .d (.int .i64 v16.2.2.2.1)], .c (.d (.int .i64 v16.2.2.2.2))])), (24, .b false), (27, .b false), (30, .b false), (34, .b false), (39, .b false), (44, .b false), (49, .b false), (54, .b true), (67, .b true), (70, .b false)] (fun _ f => o (decide_eq_true h0) (o (o (nn 200) h1) (o (report_Fault.does h2) (o (report_ReadFault.does h3) (o (beq_false_of_ne h4) (o (Bool.eq_false_iff.2 h5) (o (decide_eq_false h6) (o (decide_eq_false h7) (o (decide_eq_false h8) (o (decide_eq_false h9) (o (decide_eq_false h10) (o (decide_eq_true h11) (o (str_t h12) (o (beq_false_of_ne h13) f)))))))))))))) (by kernel_rfl)
                    · rw [if_neg h12] at h
                      obtain rfl := Option.some.inj h
                      exact Til.fin Tryd.func6 [(4, .b true), (9, ca (.tup [.c (.d (.str v9.1)), .c (.d (.int .i64 v9.2))])), (16, ca (.tup [.agg [.d (.int .i64 v16.1), .d (.int .i64 v16.2.1), .d (.int .i64 v16.2.2.1), .d (.int .i64 v16.2.2.2.1)], .c (.d (.int .i64 v16.2.2.2.2))])), (24, .b false), (27, .b false), (30, .b false), (34, .b false), (39, .b false), (44, .b false), (49, .b false), (54, .b true), (67, .b false)] (fun _ f => o (decide_eq_true h0) (o (o (nn 200) h1) (o (report_Fault.does h2) (o (report_ReadFault.does h3) (o (beq_false_of_ne h4) (o (Bool.eq_false_iff.2 h5) (o (decide_eq_false h6) (o (decide_eq_false h7) (o (decide_eq_false h8) (o (decide_eq_false h9) (o (decide_eq_false h10) (o (decide_eq_true h11) (o (str_f h12) f))))))))))))) (by kernel_rfl)
                  · rw [if_neg h11] at h
                    by_cases h12 : a0_3 < 0
                    · rw [if_pos h12] at h
                      by_cases h13 : v9.1 = ByteArray.empty
                      · rw [if_pos h13] at h
                        by_cases h14 : v9.2 = 1
                        · rw [if_pos h14] at h
                          obtain ⟨v73, h15, h⟩ := bnd h
                          obtain rfl := Option.some.inj h
                          exact Til.fin Tryd.func6 [(4, .b true), (9, ca (.tup [.c (.d (.str v9.1)), .c (.d (.int .i64 v9.2))])), (16, ca (.tup [.agg [.d (.int .i64 v16.1), .d (.int .i64 v16.2.1), .d (.int .i64 v16.2.2.1), .d (.int .i64 v16.2.2.2.1)], .c (.d (.int .i64 v16.2.2.2.2))])), (24, .b false), (27, .b false), (30, .b false), (34, .b false), (39, .b false), (44, .b false), (49, .b false), (54, .b false), (59, .b true), (67, .b true), (70, .b true), (73, ca (.c (.d (.bool v73))))] (fun _ f => o (decide_eq_true h0) (o (o (nn 200) h1) (o (report_Fault.does h2) (o (report_ReadFault.does h3) (o (beq_false_of_ne h4) (o (Bool.eq_false_iff.2 h5) (o (decide_eq_false h6) (o (decide_eq_false h7) (o (decide_eq_false h8) (o (decide_eq_false h9) (o (decide_eq_false h10) (o (decide_eq_false h11) (o (decide_eq_true h12) (o (str_t h13) (o (beq_iff_eq.2 h14) (o (dendronlaw29_awake.does h15) f)))))))))))))))) (by kernel_rfl)
                        · rw [if_neg h14] at h
                          obtain rfl := Option.some.inj h
                          exact Til.fin Tryd.func6 [(4, .b true), (9, ca (.tup [.c (.d (.str v9.1)), .c (.d (.int .i64 v9.2))])), (16, ca (.tup [.agg [.d (.int .i64 v16.1), .d (.int .i64 v16.2.1), .d (.int .i64 v16.2.2.1), .d (.int .i64 v16.2.2.2.1)], .c (.d (.int .i64 v16.2.2.2.2))])), (24, .b false), (27, .b false), (30, .b false), (34, .b false), (39, .b false), (44, .b false), (49, .b false), (54, .b false), (59, .b true), (67, .b true), (70, .b false)] (fun _ f => o (decide_eq_true h0) (o (o (nn 200) h1) (o (report_Fault.does h2) (o (report_ReadFault.does h3) (o (beq_false_of_ne h4) (o (Bool.eq_false_iff.2 h5) (o (decide_eq_false h6) (o (decide_eq_false h7) (o (decide_eq_false h8) (o (decide_eq_false h9) (o (decide_eq_false h10) (o (decide_eq_false h11) (o (decide_eq_true h12) (o (str_t h13) (o (beq_false_of_ne h14) f))))))))))))))) (by kernel_rfl)
                      · rw [if_neg h13] at h
                        obtain rfl := Option.some.inj h
                        exact Til.fin Tryd.func6 [(4, .b true), (9, ca (.tup [.c (.d (.str v9.1)), .c (.d (.int .i64 v9.2))])), (16, ca (.tup [.agg [.d (.int .i64 v16.1), .d (.int .i64 v16.2.1), .d (.int .i64 v16.2.2.1), .d (.int .i64 v16.2.2.2.1)], .c (.d (.int .i64 v16.2.2.2.2))])), (24, .b false), (27, .b false), (30, .b false), (34, .b false), (39, .b false), (44, .b false), (49, .b false), (54, .b false), (59, .b true), (67, .b false)] (fun _ f => o (decide_eq_true h0) (o (o (nn 200) h1) (o (report_Fault.does h2) (o (report_ReadFault.does h3) (o (beq_false_of_ne h4) (o (Bool.eq_false_iff.2 h5) (o (decide_eq_false h6) (o (decide_eq_false h7) (o (decide_eq_false h8) (o (decide_eq_false h9) (o (decide_eq_false h10) (o (decide_eq_false h11) (o (decide_eq_true h12) (o (str_f h13) f)))))))))))))) (by kernel_rfl)
                    · rw [if_neg h12] at h
                      by_cases h13 : a0_3 > 255
                      · rw [if_pos h13] at h
                        by_cases h14 : v9.1 = ByteArray.empty
                        · rw [if_pos h14] at h
                          by_cases h15 : v9.2 = 1
                          · rw [if_pos h15] at h
                            obtain ⟨v73, h16, h⟩ := bnd h
                            obtain rfl := Option.some.inj h
                            exact Til.fin Tryd.func6 [(4, .b true), (9, ca (.tup [.c (.d (.str v9.1)), .c (.d (.int .i64 v9.2))])), (16, ca (.tup [.agg [.d (.int .i64 v16.1), .d (.int .i64 v16.2.1), .d (.int .i64 v16.2.2.1), .d (.int .i64 v16.2.2.2.1)], .c (.d (.int .i64 v16.2.2.2.2))])), (24, .b false), (27, .b false), (30, .b false), (34, .b false), (39, .b false), (44, .b false), (49, .b false), (54, .b false), (59, .b false), (64, .b true), (67, .b true), (70, .b true), (73, ca (.c (.d (.bool v73))))] (fun _ f => o (decide_eq_true h0) (o (o (nn 200) h1) (o (report_Fault.does h2) (o (report_ReadFault.does h3) (o (beq_false_of_ne h4) (o (Bool.eq_false_iff.2 h5) (o (decide_eq_false h6) (o (decide_eq_false h7) (o (decide_eq_false h8) (o (decide_eq_false h9) (o (decide_eq_false h10) (o (decide_eq_false h11) (o (decide_eq_false h12) (o (decide_eq_true h13) (o (str_t h14) (o (beq_iff_eq.2 h15) (o (dendronlaw29_awake.does h16) f))))))))))))))))) (by kernel_rfl)
                          · rw [if_neg h15] at h
                            obtain rfl := Option.some.inj h
                            exact Til.fin Tryd.func6 [(4, .b true), (9, ca (.tup [.c (.d (.str v9.1)), .c (.d (.int .i64 v9.2))])), (16, ca (.tup [.agg [.d (.int .i64 v16.1), .d (.int .i64 v16.2.1), .d (.int .i64 v16.2.2.1), .d (.int .i64 v16.2.2.2.1)], .c (.d (.int .i64 v16.2.2.2.2))])), (24, .b false), (27, .b false), (30, .b false), (34, .b false), (39, .b false), (44, .b false), (49, .b false), (54, .b false), (59, .b false), (64, .b true), (67, .b true), (70, .b false)] (fun _ f => o (decide_eq_true h0) (o (o (nn 200) h1) (o (report_Fault.does h2) (o (report_ReadFault.does h3) (o (beq_false_of_ne h4) (o (Bool.eq_false_iff.2 h5) (o (decide_eq_false h6) (o (decide_eq_false h7) (o (decide_eq_false h8) (o (decide_eq_false h9) (o (decide_eq_false h10) (o (decide_eq_false h11) (o (decide_eq_false h12) (o (decide_eq_true h13) (o (str_t h14) (o (beq_false_of_ne h15) f)))))))))))))))) (by kernel_rfl)
                        · rw [if_neg h14] at h
                          obtain rfl := Option.some.inj h
                          exact Til.fin Tryd.func6 [(4, .b true), (9, ca (.tup [.c (.d (.str v9.1)), .c (.d (.int .i64 v9.2))])), (16, ca (.tup [.agg [.d (.int .i64 v16.1), .d (.int .i64 v16.2.1), .d (.int .i64 v16.2.2.1), .d (.int .i64 v16.2.2.2.1)], .c (.d (.int .i64 v16.2.2.2.2))])), (24, .b false), (27, .b false), (30, .b false), (34, .b false), (39, .b false), (44, .b false), (49, .b false), (54, .b false), (59, .b false), (64, .b true), (67, .b false)] (fun _ f => o (decide_eq_true h0) (o (o (nn 200) h1) (o (report_Fault.does h2) (o (report_ReadFault.does h3) (o (beq_false_of_ne h4) (o (Bool.eq_false_iff.2 h5) (o (decide_eq_false h6) (o (decide_eq_false h7) (o (decide_eq_false h8) (o (decide_eq_false h9) (o (decide_eq_false h10) (o (decide_eq_false h11) (o (decide_eq_false h12) (o (decide_eq_true h13) (o (str_f h14) f))))))))))))))) (by kernel_rfl)
                      · rw [if_neg h13] at h
                        obtain ⟨v68, h14, h⟩ := bnd h
                        obtain ⟨h15, h⟩ := ifp h
                        obtain ⟨h16, h⟩ := ifp h
                        obtain ⟨v73, h17, h⟩ := bnd h
                        obtain ⟨h18, h⟩ := ifp h
                        obtain ⟨h19, h⟩ := ifp h
                        obtain ⟨v78, h20, h⟩ := bnd h
                        obtain ⟨h21, h⟩ := ifp h
                        obtain ⟨h22, h⟩ := ifp h
                        obtain ⟨v83, h23, h⟩ := bnd h
                        obtain ⟨h24, h⟩ := ifp h
                        obtain ⟨h25, h⟩ := ifp h
                        obtain ⟨v88, h26, h⟩ := bnd h
                        by_cases h27 : v9.1 = (((((((((⟨#[102, 97, 117, 108, 116, 32]⟩ : ByteArray) ++ v68) ++ (⟨#[32]⟩ : ByteArray)) ++ v73) ++ (⟨#[32]⟩ : ByteArray)) ++ v78) ++ (⟨#[32]⟩ : ByteArray)) ++ v83) ++ (⟨#[10]⟩ : ByteArray))
                        · rw [if_pos h27] at h
                          by_cases h28 : v9.2 = 0
                          · rw [if_pos h28] at h
                            by_cases h29 : v88.2.2.2.2 = 0
                            · rw [if_pos h29] at h
                              by_cases h30 : ((v88.1 == a0_0) && ((v88.2.1 == a0_1) && ((v88.2.2.1 == a0_2) && ((v88.2.2.2.1 == a0_3) && true)))) = true
                              · rw [if_pos h30] at h
                                obtain ⟨v112, h31, h⟩ := bnd h
                                obtain rfl := Option.some.inj h
                                exact Til.fin Tryd.func6 [(4, .b true), (9, ca (.tup [.c (.d (.str v9.1)), .c (.d (.int .i64 v9.2))])), (16, ca (.tup [.agg [.d (.int .i64 v16.1), .d (.int .i64 v16.2.1), .d (.int .i64 v16.2.2.1), .d (.int .i64 v16.2.2.2.1)], .c (.d (.int .i64 v16.2.2.2.2))])), (24, .b false), (27, .b false), (30, .b false), (34, .b false), (39, .b false), (44, .b false), (49, .b false), (54, .b false), (59, .b false), (64, .b false), (68, ca (.c (.d (.str v68)))), (73, ca (.c (.d (.str v73)))), (78, ca (.c (.d (.str v78)))), (83, ca (.c (.d (.str v83)))), (88, ca (.tup [.agg [.d (.int .i64 v88.1), .d (.int .i64 v88.2.1), .d (.int .i64 v88.2.2.1), .d (.int .i64 v88.2.2.2.1)], .c (.d (.int .i64 v88.2.2.2.2))])), (97, .b true), (100, .b true), (104, .b true), (109, .b true), (112, ca (.c (.d (.bool v112))))] (fun _ f => o (decide_eq_true h0) (o (o (nn 200) h1) (o (report_Fault.does h2) (o (report_ReadFault.does h3) (o (beq_false_of_ne h4) (o (Bool.eq_false_iff.2 h5) (o (decide_eq_false h6) (o (decide_eq_false h7) (o (decide_eq_false h8) (o (decide_eq_false h9) (o (decide_eq_false h10) (o (decide_eq_false h11) (o (decide_eq_false h12) (o (decide_eq_false h13) (o (dendronlaw29_digits.does h14) (o h15 (o h16 (o (dendronlaw29_digits.does h17) (o h18 (o h19 (o (dendronlaw29_digits.does h20) (o h21 (o h22 (o (dendronlaw29_digits.does h23) (o h24 (o h25 (o (report_ReadFault.does h26) (o (str_t h27) (o (beq_iff_eq.2 h28) (o (beq_iff_eq.2 h29) (o h30 (o (dendronlaw29_awake.does h31) f)))))))))))))))))))))))))))))))) (by kernel_rfl)
                              · rw [if_neg h30] at h
                                obtain rfl := Option.some.inj h
                                exact Til.fin Tryd.func6 [(4, .b true), (9, ca (.tup [.c (.d (.str v9.1)), .c (.d (.int .i64 v9.2))])), (16, ca (.tup [.agg [.d (.int .i64 v16.1), .d (.int .i64 v16.2.1), .d (.int .i64 v16.2.2.1), .d (.int .i64 v16.2.2.2.1)], .c (.d (.int .i64 v16.2.2.2.2))])), (24, .b false), (27, .b false), (30, .b false), (34, .b false), (39, .b false), (44, .b false), (49, .b false), (54, .b false), (59, .b false), (64, .b false), (68, ca (.c (.d (.str v68)))), (73, ca (.c (.d (.str v73)))), (78, ca (.c (.d (.str v78)))), (83, ca (.c (.d (.str v83)))), (88, ca (.tup [.agg [.d (.int .i64 v88.1), .d (.int .i64 v88.2.1), .d (.int .i64 v88.2.2.1), .d (.int .i64 v88.2.2.2.1)], .c (.d (.int .i64 v88.2.2.2.2))])), (97, .b true), (100, .b true), (104, .b true), (109, .b false)] (fun _ f => o (decide_eq_true h0) (o (o (nn 200) h1) (o (report_Fault.does h2) (o (report_ReadFault.does h3) (o (beq_false_of_ne h4) (o (Bool.eq_false_iff.2 h5) (o (decide_eq_false h6) (o (decide_eq_false h7) (o (decide_eq_false h8) (o (decide_eq_false h9) (o (decide_eq_false h10) (o (decide_eq_false h11) (o (decide_eq_false h12) (o (decide_eq_false h13) (o (dendronlaw29_digits.does h14) (o h15 (o h16 (o (dendronlaw29_digits.does h17) (o h18 (o h19 (o (dendronlaw29_digits.does h20) (o h21 (o h22 (o (dendronlaw29_digits.does h23) (o h24 (o h25 (o (report_ReadFault.does h26) (o (str_t h27) (o (beq_iff_eq.2 h28) (o (beq_iff_eq.2 h29) (o (Bool.eq_false_iff.2 h30) f))))))))))))))))))))))))))))))) (by kernel_rfl)
                            · rw [if_neg h29] at h
                              obtain rfl := Option.some.inj h
                              exact Til.fin Tryd.func6 [(4, .b true), (9, ca (.tup [.c (.d (.str v9.1)), .c (.d (.int .i64 v9.2))])), (16, ca (.tup [.agg [.d (.int .i64 v16.1), .d (.int .i64 v16.2.1), .d (.int .i64 v16.2.2.1), .d (.int .i64 v16.2.2.2.1)], .c (.d (.int .i64 v16.2.2.2.2))])), (24, .b false), (27, .b false), (30, .b false), (34, .b false), (39, .b false), (44, .b false), (49, .b false), (54, .b false), (59, .b false), (64, .b false), (68, ca (.c (.d (.str v68)))), (73, ca (.c (.d (.str v73)))), (78, ca (.c (.d (.str v78)))), (83, ca (.c (.d (.str v83)))), (88, ca (.tup [.agg [.d (.int .i64 v88.1), .d (.int .i64 v88.2.1), .d (.int .i64 v88.2.2.1), .d (.int .i64 v88.2.2.2.1)], .c (.d (.int .i64 v88.2.2.2.2))])), (97, .b true), (100, .b true), (104, .b false)] (fun _ f => o (decide_eq_true h0) (o (o (nn 200) h1) (o (report_Fault.does h2) (o (report_ReadFault.does h3) (o (beq_false_of_ne h4) (o (Bool.eq_false_iff.2 h5) (o (decide_eq_false h6) (o (decide_eq_false h7) (o (decide_eq_false h8) (o (decide_eq_false h9) (o (decide_eq_false h10) (o (decide_eq_false h11) (o (decide_eq_false h12) (o (decide_eq_false h13) (o (dendronlaw29_digits.does h14) (o h15 (o h16 (o (dendronlaw29_digits.does h17) (o h18 (o h19 (o (dendronlaw29_digits.does h20) (o h21 (o h22 (o (dendronlaw29_digits.does h23) (o h24 (o h25 (o (report_ReadFault.does h26) (o (str_t h27) (o (beq_iff_eq.2 h28) (o (beq_false_of_ne h29) f)))))))))))))))))))))))))))))) (by kernel_rfl)
                          · rw [if_neg h28] at h
                            obtain rfl := Option.some.inj h
                            exact Til.fin Tryd.func6 [(4, .b true), (9, ca (.tup [.c (.d (.str v9.1)), .c (.d (.int .i64 v9.2))])), (16, ca (.tup [.agg [.d (.int .i64 v16.1), .d (.int .i64 v16.2.1), .d (.int .i64 v16.2.2.1), .d (.int .i64 v16.2.2.2.1)], .c (.d (.int .i64 v16.2.2.2.2))])), (24, .b false), (27, .b false), (30, .b false), (34, .b false), (39, .b false), (44, .b false), (49, .b false), (54, .b false), (59, .b false), (64, .b false), (68, ca (.c (.d (.str v68)))), (73, ca (.c (.d (.str v73)))), (78, ca (.c (.d (.str v78)))), (83, ca (.c (.d (.str v83)))), (88, ca (.tup [.agg [.d (.int .i64 v88.1), .d (.int .i64 v88.2.1), .d (.int .i64 v88.2.2.1), .d (.int .i64 v88.2.2.2.1)], .c (.d (.int .i64 v88.2.2.2.2))])), (97, .b true), (100, .b false)] (fun _ f => o (decide_eq_true h0) (o (o (nn 200) h1) (o (report_Fault.does h2) (o (report_ReadFault.does h3) (o (beq_false_of_ne h4) (o (Bool.eq_false_iff.2 h5) (o (decide_eq_false h6) (o (decide_eq_false h7) (o (decide_eq_false h8) (o (decide_eq_false h9) (o (decide_eq_false h10) (o (decide_eq_false h11) (o (decide_eq_false h12) (o (decide_eq_false h13) (o (dendronlaw29_digits.does h14) (o h15 (o h16 (o (dendronlaw29_digits.does h17) (o h18 (o h19 (o (dendronlaw29_digits.does h20) (o h21 (o h22 (o (dendronlaw29_digits.does h23) (o h24 (o h25 (o (report_ReadFault.does h26) (o (str_t h27) (o (beq_false_of_ne h28) f))))))))))))))))))))))))))))) (by kernel_rfl)
                        · rw [if_neg h27] at h
                          obtain rfl := Option.some.inj h
                          exact Til.fin Tryd.func6 [(4, .b true), (9, ca (.tup [.c (.d (.str v9.1)), .c (.d (.int .i64 v9.2))])), (16, ca (.tup [.agg [.d (.int .i64 v16.1), .d (.int .i64 v16.2.1), .d (.int .i64 v16.2.2.1), .d (.int .i64 v16.2.2.2.1)], .c (.d (.int .i64 v16.2.2.2.2))])), (24, .b false), (27, .b false), (30, .b false), (34, .b false), (39, .b false), (44, .b false), (49, .b false), (54, .b false), (59, .b false), (64, .b false), (68, ca (.c (.d (.str v68)))), (73, ca (.c (.d (.str v73)))), (78, ca (.c (.d (.str v78)))), (83, ca (.c (.d (.str v83)))), (88, ca (.tup [.agg [.d (.int .i64 v88.1), .d (.int .i64 v88.2.1), .d (.int .i64 v88.2.2.1), .d (.int .i64 v88.2.2.2.1)], .c (.d (.int .i64 v88.2.2.2.2))])), (97, .b false)] (fun _ f => o (decide_eq_true h0) (o (o (nn 200) h1) (o (report_Fault.does h2) (o (report_ReadFault.does h3) (o (beq_false_of_ne h4) (o (Bool.eq_false_iff.2 h5) (o (decide_eq_false h6) (o (decide_eq_false h7) (o (decide_eq_false h8) (o (decide_eq_false h9) (o (decide_eq_false h10) (o (decide_eq_false h11) (o (decide_eq_false h12) (o (decide_eq_false h13) (o (dendronlaw29_digits.does h14) (o h15 (o h16 (o (dendronlaw29_digits.does h17) (o h18 (o h19 (o (dendronlaw29_digits.does h20) (o h21 (o h22 (o (dendronlaw29_digits.does h23) (o h24 (o h25 (o (report_ReadFault.does h26) (o (str_f h27) f)))))))))))))))))))))))))))) (by kernel_rfl)
  · rw [if_neg h0] at h
    obtain ⟨v6, h1, h⟩ := bnd h
    obtain ⟨v13, h2, h⟩ := bnd h
    by_cases h3 : v13.2.2.2.2 = 0
    · rw [if_pos h3] at h
      obtain ⟨v23, h4, h⟩ := bnd h
      by_cases h5 : v23.2 ≠ 0
      · rw [if_pos h5] at h
        obtain rfl := Option.some.inj h
        exact Til.fin Tryd.func6 [(4, .b false), (6, ca (.tup [.c (.d (.str v6.1)), .c (.d (.int .i64 v6.2))])), (13, ca (.tup [.agg [.d (.int .i64 v13.1), .d (.int .i64 v13.2.1), .d (.int .i64 v13.2.2.1), .d (.int .i64 v13.2.2.2.1)], .c (.d (.int .i64 v13.2.2.2.2))])), (21, .b true), (23, ca (.tup [.c (.d (.str v23.1)), .c (.d (.int .i64 v23.2))])), (30, .b true)] (fun _ f => o (decide_eq_false h0) (o (report_Fault.does h1) (o (report_ReadFault.does h2) (o (beq_iff_eq.2 h3) (o (report_Fault.does h4) (o (bne_iff_ne.2 h5) f)))))) (by kernel_rfl)
      · rw [if_neg h5] at h
        by_cases h6 : v23.1 ≠ a1
        · rw [if_pos h6] at h
          obtain rfl := Option.some.inj h
          exact Til.fin Tryd.func6 [(4, .b false), (6, ca (.tup [.c (.d (.str v6.1)), .c (.d (.int .i64 v6.2))])), (13, ca (.tup [.agg [.d (.int .i64 v13.1), .d (.int .i64 v13.2.1), .d (.int .i64 v13.2.2.1), .d (.int .i64 v13.2.2.2.1)], .c (.d (.int .i64 v13.2.2.2.2))])), (21, .b true), (23, ca (.tup [.c (.d (.str v23.1)), .c (.d (.int .i64 v23.2))])), (30, .b false), (34, .b true)] (fun _ f => o (decide_eq_false h0) (o (report_Fault.does h1) (o (report_ReadFault.does h2) (o (beq_iff_eq.2 h3) (o (report_Fault.does h4) (o (ne_f h5) (o (str_nt h6) f))))))) (by kernel_rfl)
        · rw [if_neg h6] at h
          by_cases h7 : a0_0 < 1
          · rw [if_pos h7] at h
            by_cases h8 : v6.1 = ByteArray.empty
            · rw [if_pos h8] at h
              by_cases h9 : v6.2 = 1
              · rw [if_pos h9] at h
                obtain ⟨v81, h10, h⟩ := bnd h
                obtain rfl := Option.some.inj h
                exact Til.fin Tryd.func6 [(4, .b false), (6, ca (.tup [.c (.d (.str v6.1)), .c (.d (.int .i64 v6.2))])), (13, ca (.tup [.agg [.d (.int .i64 v13.1), .d (.int .i64 v13.2.1), .d (.int .i64 v13.2.2.1), .d (.int .i64 v13.2.2.2.1)], .c (.d (.int .i64 v13.2.2.2.2))])), (21, .b true), (23, ca (.tup [.c (.d (.str v23.1)), .c (.d (.int .i64 v23.2))])), (30, .b false), (34, .b false), (38, .b true), (75, .b true), (78, .b true), (81, ca (.c (.d (.bool v81))))] (fun _ f => o (decide_eq_false h0) (o (report_Fault.does h1) (o (report_ReadFault.does h2) (o (beq_iff_eq.2 h3) (o (report_Fault.does h4) (o (ne_f h5) (o (str_nf h6) (o (decide_eq_true h7) (o (str_t h8) (o (beq_iff_eq.2 h9) (o (dendronlaw29_awake.does h10) f))))))))))) (by kernel_rfl)
              · rw [if_neg h9] at h
                obtain rfl := Option.some.inj h
                exact Til.fin Tryd.func6 [(4, .b false), (6, ca (.tup [.c (.d (.str v6.1)), .c (.d (.int .i64 v6.2))])), (13, ca (.tup [.agg [.d (.int .i64 v13.1), .d (.int .i64 v13.2.1), .d (.int .i64 v13.2.2.1), .d (.int .i64 v13.2.2.2.1)], .c (.d (.int .i64 v13.2.2.2.2))])), (21, .b true), (23, ca (.tup [.c (.d (.str v23.1)), .c (.d (.int .i64 v23.2))])), (30, .b false), (34, .b false), (38, .b true), (75, .b true), (78, .b false)] (fun _ f => o (decide_eq_false h0) (o (report_Fault.does h1) (o (report_ReadFault.does h2) (o (beq_iff_eq.2 h3) (o (report_Fault.does h4) (o (ne_f h5) (o (str_nf h6) (o (decide_eq_true h7) (o (str_t h8) (o (beq_false_of_ne h9) f)))))))))) (by kernel_rfl)
            · rw [if_neg h8] at h
              obtain rfl := Option.some.inj h
              exact Til.fin Tryd.func6 [(4, .b false), (6, ca (.tup [.c (.d (.str v6.1)), .c (.d (.int .i64 v6.2))])), (13, ca (.tup [.agg [.d (.int .i64 v13.1), .d (.int .i64 v13.2.1), .d (.int .i64 v13.2.2.1), .d (.int .i64 v13.2.2.2.1)], .c (.d (.int .i64 v13.2.2.2.2))])), (21, .b true), (23, ca (.tup [.c (.d (.str v23.1)), .c (.d (.int .i64 v23.2))])), (30, .b false), (34, .b false), (38, .b true), (75, .b false)] (fun _ f => o (decide_eq_false h0) (o (report_Fault.does h1) (o (report_ReadFault.does h2) (o (beq_iff_eq.2 h3) (o (report_Fault.does h4) (o (ne_f h5) (o (str_nf h6) (o (decide_eq_true h7) (o (str_f h8) f))))))))) (by kernel_rfl)
          · rw [if_neg h7] at h
            by_cases h8 : a0_0 > 999
            · rw [if_pos h8] at h
              by_cases h9 : v6.1 = ByteArray.empty
              · rw [if_pos h9] at h
                by_cases h10 : v6.2 = 1
                · rw [if_pos h10] at h
                  obtain ⟨v81, h11, h⟩ := bnd h
                  obtain rfl := Option.some.inj h
                  exact Til.fin Tryd.func6 [(4, .b false), (6, ca (.tup [.c (.d (.str v6.1)), .c (.d (.int .i64 v6.2))])), (13, ca (.tup [.agg [.d (.int .i64 v13.1), .d (.int .i64 v13.2.1), .d (.int .i64 v13.2.2.1), .d (.int .i64 v13.2.2.2.1)], .c (.d (.int .i64 v13.2.2.2.2))])), (21, .b true), (23, ca (.tup [.c (.d (.str v23.1)), .c (.d (.int .i64 v23.2))])), (30, .b false), (34, .b false), (38, .b false), (42, .b true), (75, .b true), (78, .b true), (81, ca (.c (.d (.bool v81))))] (fun _ f => o (decide_eq_false h0) (o (report_Fault.does h1) (o (report_ReadFault.does h2) (o (beq_iff_eq.2 h3) (o (report_Fault.does h4) (o (ne_f h5) (o (str_nf h6) (o (decide_eq_false h7) (o (decide_eq_true h8) (o (str_t h9) (o (beq_iff_eq.2 h10) (o (dendronlaw29_awake.does h11) f)))))))))))) (by kernel_rfl)
                · rw [if_neg h10] at h
                  obtain rfl := Option.some.inj h
                  exact Til.fin Tryd.func6 [(4, .b false), (6, ca (.tup [.c (.d (.str v6.1)), .c (.d (.int .i64 v6.2))])), (13, ca (.tup [.agg [.d (.int .i64 v13.1), .d (.int .i64 v13.2.1), .d (.int .i64 v13.2.2.1), .d (.int .i64 v13.2.2.2.1)], .c (.d (.int .i64 v13.2.2.2.2))])), (21, .b true), (23, ca (.tup [.c (.d (.str v23.1)), .c (.d (.int .i64 v23.2))])), (30, .b false), (34, .b false), (38, .b false), (42, .b true), (75, .b true), (78, .b false)] (fun _ f => o (decide_eq_false h0) (o (report_Fault.does h1) (o (report_ReadFault.does h2) (o (beq_iff_eq.2 h3) (o (report_Fault.does h4) (o (ne_f h5) (o (str_nf h6) (o (decide_eq_false h7) (o (decide_eq_true h8) (o (str_t h9) (o (beq_false_of_ne h10) f))))))))))) (by kernel_rfl)
              · rw [if_neg h9] at h
                obtain rfl := Option.some.inj h
                exact Til.fin Tryd.func6 [(4, .b false), (6, ca (.tup [.c (.d (.str v6.1)), .c (.d (.int .i64 v6.2))])), (13, ca (.tup [.agg [.d (.int .i64 v13.1), .d (.int .i64 v13.2.1), .d (.int .i64 v13.2.2.1), .d (.int .i64 v13.2.2.2.1)], .c (.d (.int .i64 v13.2.2.2.2))])), (21, .b true), (23, ca (.tup [.c (.d (.str v23.1)), .c (.d (.int .i64 v23.2))])), (30, .b false), (34, .b false), (38, .b false), (42, .b true), (75, .b false)] (fun _ f => o (decide_eq_false h0) (o (report_Fault.does h1) (o (report_ReadFault.does h2) (o (beq_iff_eq.2 h3) (o (report_Fault.does h4) (o (ne_f h5) (o (str_nf h6) (o (decide_eq_false h7) (o (decide_eq_true h8) (o (str_f h9) f)))))))))) (by kernel_rfl)
            · rw [if_neg h8] at h
              by_cases h9 : a0_1 < 0
              · rw [if_pos h9] at h
                by_cases h10 : v6.1 = ByteArray.empty
                · rw [if_pos h10] at h
                  by_cases h11 : v6.2 = 1
                  · rw [if_pos h11] at h
                    obtain ⟨v81, h12, h⟩ := bnd h
                    obtain rfl := Option.some.inj h
                    exact Til.fin Tryd.func6 [(4, .b false), (6, ca (.tup [.c (.d (.str v6.1)), .c (.d (.int .i64 v6.2))])), (13, ca (.tup [.agg [.d (.int .i64 v13.1), .d (.int .i64 v13.2.1), .d (.int .i64 v13.2.2.1), .d (.int .i64 v13.2.2.2.1)], .c (.d (.int .i64 v13.2.2.2.2))])), (21, .b true), (23, ca (.tup [.c (.d (.str v23.1)), .c (.d (.int .i64 v23.2))])), (30, .b false), (34, .b false), (38, .b false), (42, .b false), (47, .b true), (75, .b true), (78, .b true), (81, ca (.c (.d (.bool v81))))] (fun _ f => o (decide_eq_false h0) (o (report_Fault.does h1) (o (report_ReadFault.does h2) (o (beq_iff_eq.2 h3) (o (report_Fault.does h4) (o (ne_f h5) (o (str_nf h6) (o (decide_eq_false h7) (o (decide_eq_false h8) (o (decide_eq_true h9) (o (str_t h10) (o (beq_iff_eq.2 h11) (o (dendronlaw29_awake.does h12) f))))))))))))) (by kernel_rfl)
                  · rw [if_neg h11] at h
                    obtain rfl := Option.some.inj h
                    exact Til.fin Tryd.func6 [(4, .b false), (6, ca (.tup [.c (.d (.str v6.1)), .c (.d (.int .i64 v6.2))])), (13, ca (.tup [.agg [.d (.int .i64 v13.1), .d (.int .i64 v13.2.1), .d (.int .i64 v13.2.2.1), .d (.int .i64 v13.2.2.2.1)], .c (.d (.int .i64 v13.2.2.2.2))])), (21, .b true), (23, ca (.tup [.c (.d (.str v23.1)), .c (.d (.int .i64 v23.2))])), (30, .b false), (34, .b false), (38, .b false), (42, .b false), (47, .b true), (75, .b true), (78, .b false)] (fun _ f => o (decide_eq_false h0) (o (report_Fault.does h1) (o (report_ReadFault.does h2) (o (beq_iff_eq.2 h3) (o (report_Fault.does h4) (o (ne_f h5) (o (str_nf h6) (o (decide_eq_false h7) (o (decide_eq_false h8) (o (decide_eq_true h9) (o (str_t h10) (o (beq_false_of_ne h11) f)))))))))))) (by kernel_rfl)
                · rw [if_neg h10] at h
                  obtain rfl := Option.some.inj h
                  exact Til.fin Tryd.func6 [(4, .b false), (6, ca (.tup [.c (.d (.str v6.1)), .c (.d (.int .i64 v6.2))])), (13, ca (.tup [.agg [.d (.int .i64 v13.1), .d (.int .i64 v13.2.1), .d (.int .i64 v13.2.2.1), .d (.int .i64 v13.2.2.2.1)], .c (.d (.int .i64 v13.2.2.2.2))])), (21, .b true), (23, ca (.tup [.c (.d (.str v23.1)), .c (.d (.int .i64 v23.2))])), (30, .b false), (34, .b false), (38, .b false), (42, .b false), (47, .b true), (75, .b false)] (fun _ f => o (decide_eq_false h0) (o (report_Fault.does h1) (o (report_ReadFault.does h2) (o (beq_iff_eq.2 h3) (o (report_Fault.does h4) (o (ne_f h5) (o (str_nf h6) (o (decide_eq_false h7) (o (decide_eq_false h8) (o (decide_eq_true h9) (o (str_f h10) f))))))))))) (by kernel_rfl)
              · rw [if_neg h9] at h
                by_cases h10 : a0_1 > 1048576
                · rw [if_pos h10] at h
                  by_cases h11 : v6.1 = ByteArray.empty
                  · rw [if_pos h11] at h
                    by_cases h12 : v6.2 = 1
                    · rw [if_pos h12] at h
                      obtain ⟨v81, h13, h⟩ := bnd h
                      obtain rfl := Option.some.inj h
                      exact Til.fin Tryd.func6 [(4, .b false), (6, ca (.tup [.c (.d (.str v6.1)), .c (.d (.int .i64 v6.2))])), (13, ca (.tup [.agg [.d (.int .i64 v13.1), .d (.int .i64 v13.2.1), .d (.int .i64 v13.2.2.1), .d (.int .i64 v13.2.2.2.1)], .c (.d (.int .i64 v13.2.2.2.2))])), (21, .b true), (23, ca (.tup [.c (.d (.str v23.1)), .c (.d (.int .i64 v23.2))])), (30, .b false), (34, .b false), (38, .b false), (42, .b false), (47, .b false), (52, .b true), (75, .b true), (78, .b true), (81, ca (.c (.d (.bool v81))))] (fun _ f => o (decide_eq_false h0) (o (report_Fault.does h1) (o (report_ReadFault.does h2) (o (beq_iff_eq.2 h3) (o (report_Fault.does h4) (o (ne_f h5) (o (str_nf h6) (o (decide_eq_false h7) (o (decide_eq_false h8) (o (decide_eq_false h9) (o (decide_eq_true h10) (o (str_t h11) (o (beq_iff_eq.2 h12) (o (dendronlaw29_awake.does h13) f)))))))))))))) (by kernel_rfl)
                    · rw [if_neg h12] at h
                      obtain rfl := Option.some.inj h
                      exact Til.fin Tryd.func6 [(4, .b false), (6, ca (.tup [.c (.d (.str v6.1)), .c (.d (.int .i64 v6.2))])), (13, ca (.tup [.agg [.d (.int .i64 v13.1), .d (.int .i64 v13.2.1), .d (.int .i64 v13.2.2.1), .d (.int .i64 v13.2.2.2.1)], .c (.d (.int .i64 v13.2.2.2.2))])), (21, .b true), (23, ca (.tup [.c (.d (.str v23.1)), .c (.d (.int .i64 v23.2))])), (30, .b false), (34, .b false), (38, .b false), (42, .b false), (47, .b false), (52, .b true), (75, .b true), (78, .b false)] (fun _ f => o (decide_eq_false h0) (o (report_Fault.does h1) (o (report_ReadFault.does h2) (o (beq_iff_eq.2 h3) (o (report_Fault.does h4) (o (ne_f h5) (o (str_nf h6) (o (decide_eq_false h7) (o (decide_eq_false h8) (o (decide_eq_false h9) (o (decide_eq_true h10) (o (str_t h11) (o (beq_false_of_ne h12) f))))))))))))) (by kernel_rfl)
                  · rw [if_neg h11] at h
                    obtain rfl := Option.some.inj h
                    exact Til.fin Tryd.func6 [(4, .b false), (6, ca (.tup [.c (.d (.str v6.1)), .c (.d (.int .i64 v6.2))])), (13, ca (.tup [.agg [.d (.int .i64 v13.1), .d (.int .i64 v13.2.1), .d (.int .i64 v13.2.2.1), .d (.int .i64 v13.2.2.2.1)], .c (.d (.int .i64 v13.2.2.2.2))])), (21, .b true), (23, ca (.tup [.c (.d (.str v23.1)), .c (.d (.int .i64 v23.2))])), (30, .b false), (34, .b false), (38, .b false), (42, .b false), (47, .b false), (52, .b true), (75, .b false)] (fun _ f => o (decide_eq_false h0) (o (report_Fault.does h1) (o (report_ReadFault.does h2) (o (beq_iff_eq.2 h3) (o (report_Fault.does h4) (o (ne_f h5) (o (str_nf h6) (o (decide_eq_false h7) (o (decide_eq_false h8) (o (decide_eq_false h9) (o (decide_eq_true h10) (o (str_f h11) f)))))))))))) (by kernel_rfl)
                · rw [if_neg h10] at h
                  by_cases h11 : a0_2 < 0
                  · rw [if_pos h11] at h
                    by_cases h12 : v6.1 = ByteArray.empty
                    · rw [if_pos h12] at h
                      by_cases h13 : v6.2 = 1
                      · rw [if_pos h13] at h
                        obtain ⟨v81, h14, h⟩ := bnd h
                        obtain rfl := Option.some.inj h
                        exact Til.fin Tryd.func6 [(4, .b false), (6, ca (.tup [.c (.d (.str v6.1)), .c (.d (.int .i64 v6.2))])), (13, ca (.tup [.agg [.d (.int .i64 v13.1), .d (.int .i64 v13.2.1), .d (.int .i64 v13.2.2.1), .d (.int .i64 v13.2.2.2.1)], .c (.d (.int .i64 v13.2.2.2.2))])), (21, .b true), (23, ca (.tup [.c (.d (.str v23.1)), .c (.d (.int .i64 v23.2))])), (30, .b false), (34, .b false), (38, .b false), (42, .b false), (47, .b false), (52, .b false), (57, .b true), (75, .b true), (78, .b true), (81, ca (.c (.d (.bool v81))))] (fun _ f => o (decide_eq_false h0) (o (report_Fault.does h1) (o (report_ReadFault.does h2) (o (beq_iff_eq.2 h3) (o (report_Fault.does h4) (o (ne_f h5) (o (str_nf h6) (o (decide_eq_false h7) (o (decide_eq_false h8) (o (decide_eq_false h9) (o (decide_eq_false h10) (o (decide_eq_true h11) (o (str_t h12) (o (beq_iff_eq.2 h13) (o (dendronlaw29_awake.does h14) f))))))))))))))) (by kernel_rfl)
                      · rw [if_neg h13] at h
                        obtain rfl := Option.some.inj h
                        exact Til.fin Tryd.func6 [(4, .b false), (6, ca (.tup [.c (.d (.str v6.1)), .c (.d (.int .i64 v6.2))])), (13, ca (.tup [.agg [.d (.int .i64 v13.1), .d (.int .i64 v13.2.1), .d (.int .i64 v13.2.2.1), .d (.int .i64 v13.2.2.2.1)], .c (.d (.int .i64 v13.2.2.2.2))])), (21, .b true), (23, ca (.tup [.c (.d (.str v23.1)), .c (.d (.int .i64 v23.2))])), (30, .b false), (34, .b false), (38, .b false), (42, .b false), (47, .b false), (52, .b false), (57, .b true), (75, .b true), (78, .b false)] (fun _ f => o (decide_eq_false h0) (o (report_Fault.does h1) (o (report_ReadFault.does h2) (o (beq_iff_eq.2 h3) (o (report_Fault.does h4) (o (ne_f h5) (o (str_nf h6) (o (decide_eq_false h7) (o (decide_eq_false h8) (o (decide_eq_false h9) (o (decide_eq_false h10) (o (decide_eq_true h11) (o (str_t h12) (o (beq_false_of_ne h13) f)))))))))))))) (by kernel_rfl)
                    · rw [if_neg h12] at h
                      obtain rfl := Option.some.inj h
                      exact Til.fin Tryd.func6 [(4, .b false), (6, ca (.tup [.c (.d (.str v6.1)), .c (.d (.int .i64 v6.2))])), (13, ca (.tup [.agg [.d (.int .i64 v13.1), .d (.int .i64 v13.2.1), .d (.int .i64 v13.2.2.1), .d (.int .i64 v13.2.2.2.1)], .c (.d (.int .i64 v13.2.2.2.2))])), (21, .b true), (23, ca (.tup [.c (.d (.str v23.1)), .c (.d (.int .i64 v23.2))])), (30, .b false), (34, .b false), (38, .b false), (42, .b false), (47, .b false), (52, .b false), (57, .b true), (75, .b false)] (fun _ f => o (decide_eq_false h0) (o (report_Fault.does h1) (o (report_ReadFault.does h2) (o (beq_iff_eq.2 h3) (o (report_Fault.does h4) (o (ne_f h5) (o (str_nf h6) (o (decide_eq_false h7) (o (decide_eq_false h8) (o (decide_eq_false h9) (o (decide_eq_false h10) (o (decide_eq_true h11) (o (str_f h12) f))))))))))))) (by kernel_rfl)
                  · rw [if_neg h11] at h
                    by_cases h12 : a0_2 > 64
                    · rw [if_pos h12] at h
                      by_cases h13 : v6.1 = ByteArray.empty
                      · rw [if_pos h13] at h
                        by_cases h14 : v6.2 = 1
                        · rw [if_pos h14] at h
                          obtain ⟨v81, h15, h⟩ := bnd h
                          obtain rfl := Option.some.inj h
                          exact Til.fin Tryd.func6 [(4, .b false), (6, ca (.tup [.c (.d (.str v6.1)), .c (.d (.int .i64 v6.2))])), (13, ca (.tup [.agg [.d (.int .i64 v13.1), .d (.int .i64 v13.2.1), .d (.int .i64 v13.2.2.1), .d (.int .i64 v13.2.2.2.1)], .c (.d (.int .i64 v13.2.2.2.2))])), (21, .b true), (23, ca (.tup [.c (.d (.str v23.1)), .c (.d (.int .i64 v23.2))])), (30, .b false), (34, .b false), (38, .b false), (42, .b false), (47, .b false), (52, .b false), (57, .b false), (62, .b true), (75, .b true), (78, .b true), (81, ca (.c (.d (.bool v81))))] (fun _ f => o (decide_eq_false h0) (o (report_Fault.does h1) (o (report_ReadFault.does h2) (o (beq_iff_eq.2 h3) (o (report_Fault.does h4) (o (ne_f h5) (o (str_nf h6) (o (decide_eq_false h7) (o (decide_eq_false h8) (o (decide_eq_false h9) (o (decide_eq_false h10) (o (decide_eq_false h11) (o (decide_eq_true h12) (o (str_t h13) (o (beq_iff_eq.2 h14) (o (dendronlaw29_awake.does h15) f)))))))))))))))) (by kernel_rfl)
                        · rw [if_neg h14] at h
                          obtain rfl := Option.some.inj h
                          exact Til.fin Tryd.func6 [(4, .b false), (6, ca (.tup [.c (.d (.str v6.1)), .c (.d (.int .i64 v6.2))])), (13, ca (.tup [.agg [.d (.int .i64 v13.1), .d (.int .i64 v13.2.1), .d (.int .i64 v13.2.2.1), .d (.int .i64 v13.2.2.2.1)], .c (.d (.int .i64 v13.2.2.2.2))])), (21, .b true), (23, ca (.tup [.c (.d (.str v23.1)), .c (.d (.int .i64 v23.2))])), (30, .b false), (34, .b false), (38, .b false), (42, .b false), (47, .b false), (52, .b false), (57, .b false), (62, .b true), (75, .b true), (78, .b false)] (fun _ f => o (decide_eq_false h0) (o (report_Fault.does h1) (o (report_ReadFault.does h2) (o (beq_iff_eq.2 h3) (o (report_Fault.does h4) (o (ne_f h5) (o (str_nf h6) (o (decide_eq_false h7) (o (decide_eq_false h8) (o (decide_eq_false h9) (o (decide_eq_false h10) (o (decide_eq_false h11) (o (decide_eq_true h12) (o (str_t h13) (o (beq_false_of_ne h14) f))))))))))))))) (by kernel_rfl)
                      · rw [if_neg h13] at h
                        obtain rfl := Option.some.inj h
                        exact Til.fin Tryd.func6 [(4, .b false), (6, ca (.tup [.c (.d (.str v6.1)), .c (.d (.int .i64 v6.2))])), (13, ca (.tup [.agg [.d (.int .i64 v13.1), .d (.int .i64 v13.2.1), .d (.int .i64 v13.2.2.1), .d (.int .i64 v13.2.2.2.1)], .c (.d (.int .i64 v13.2.2.2.2))])), (21, .b true), (23, ca (.tup [.c (.d (.str v23.1)), .c (.d (.int .i64 v23.2))])), (30, .b false), (34, .b false), (38, .b false), (42, .b false), (47, .b false), (52, .b false), (57, .b false), (62, .b true), (75, .b false)] (fun _ f => o (decide_eq_false h0) (o (report_Fault.does h1) (o (report_ReadFault.does h2) (o (beq_iff_eq.2 h3) (o (report_Fault.does h4) (o (ne_f h5) (o (str_nf h6) (o (decide_eq_false h7) (o (decide_eq_false h8) (o (decide_eq_false h9) (o (decide_eq_false h10) (o (decide_eq_false h11) (o (decide_eq_true h12) (o (str_f h13) f)))))))))))))) (by kernel_rfl)
                    · rw [if_neg h12] at h
                      by_cases h13 : a0_3 < 0
                      · rw [if_pos h13] at h
                        by_cases h14 : v6.1 = ByteArray.empty
                        · rw [if_pos h14] at h
                          by_cases h15 : v6.2 = 1
                          · rw [if_pos h15] at h
                            obtain ⟨v81, h16, h⟩ := bnd h
                            obtain rfl := Option.some.inj h
                            exact Til.fin Tryd.func6 [(4, .b false), (6, ca (.tup [.c (.d (.str v6.1)), .c (.d (.int .i64 v6.2))])), (13, ca (.tup [.agg [.d (.int .i64 v13.1), .d (.int .i64 v13.2.1), .d (.int .i64 v13.2.2.1), .d (.int .i64 v13.2.2.2.1)], .c (.d (.int .i64 v13.2.2.2.2))])), (21, .b true), (23, ca (.tup [.c (.d (.str v23.1)), .c (.d (.int .i64 v23.2))])), (30, .b false), (34, .b false), (38, .b false), (42, .b false), (47, .b false), (52, .b false), (57, .b false), (62, .b false), (67, .b true), (75, .b true), (78, .b true), (81, ca (.c (.d (.bool v81))))] (fun _ f => o (decide_eq_false h0) (o (report_Fault.does h1) (o (report_ReadFault.does h2) (o (beq_iff_eq.2 h3) (o (report_Fault.does h4) (o (ne_f h5) (o (str_nf h6) (o (decide_eq_false h7) (o (decide_eq_false h8) (o (decide_eq_false h9) (o (decide_eq_false h10) (o (decide_eq_false h11) (o (decide_eq_false h12) (o (decide_eq_true h13) (o (str_t h14) (o (beq_iff_eq.2 h15) (o (dendronlaw29_awake.does h16) f))))))))))))))))) (by kernel_rfl)
                          · rw [if_neg h15] at h
                            obtain rfl := Option.some.inj h
                            exact Til.fin Tryd.func6 [(4, .b false), (6, ca (.tup [.c (.d (.str v6.1)), .c (.d (.int .i64 v6.2))])), (13, ca (.tup [.agg [.d (.int .i64 v13.1), .d (.int .i64 v13.2.1), .d (.int .i64 v13.2.2.1), .d (.int .i64 v13.2.2.2.1)], .c (.d (.int .i64 v13.2.2.2.2))])), (21, .b true), (23, ca (.tup [.c (.d (.str v23.1)), .c (.d (.int .i64 v23.2))])), (30, .b false), (34, .b false), (38, .b false), (42, .b false), (47, .b false), (52, .b false), (57, .b false), (62, .b false), (67, .b true), (75, .b true), (78, .b false)] (fun _ f => o (decide_eq_false h0) (o (report_Fault.does h1) (o (report_ReadFault.does h2) (o (beq_iff_eq.2 h3) (o (report_Fault.does h4) (o (ne_f h5) (o (str_nf h6) (o (decide_eq_false h7) (o (decide_eq_false h8) (o (decide_eq_false h9) (o (decide_eq_false h10) (o (decide_eq_false h11) (o (decide_eq_false h12) (o (decide_eq_true h13) (o (str_t h14) (o (beq_false_of_ne h15) f)))))))))))))))) (by kernel_rfl)
                        · rw [if_neg h14] at h
                          obtain rfl := Option.some.inj h
                          exact Til.fin Tryd.func6 [(4, .b false), (6, ca (.tup [.c (.d (.str v6.1)), .c (.d (.int .i64 v6.2))])), (13, ca (.tup [.agg [.d (.int .i64 v13.1), .d (.int .i64 v13.2.1), .d (.int .i64 v13.2.2.1), .d (.int .i64 v13.2.2.2.1)], .c (.d (.int .i64 v13.2.2.2.2))])), (21, .b true), (23, ca (.tup [.c (.d (.str v23.1)), .c (.d (.int .i64 v23.2))])), (30, .b false), (34, .b false), (38, .b false), (42, .b false), (47, .b false), (52, .b false), (57, .b false), (62, .b false), (67, .b true), (75, .b false)] (fun _ f => o (decide_eq_false h0) (o (report_Fault.does h1) (o (report_ReadFault.does h2) (o (beq_iff_eq.2 h3) (o (report_Fault.does h4) (o (ne_f h5) (o (str_nf h6) (o (decide_eq_false h7) (o (decide_eq_false h8) (o (decide_eq_false h9) (o (decide_eq_false h10) (o (decide_eq_false h11) (o (decide_eq_false h12) (o (decide_eq_true h13) (o (str_f h14) f))))))))))))))) (by kernel_rfl)
                      · rw [if_neg h13] at h
                        by_cases h14 : a0_3 > 255
                        · rw [if_pos h14] at h
                          by_cases h15 : v6.1 = ByteArray.empty
                          · rw [if_pos h15] at h
                            by_cases h16 : v6.2 = 1
                            · rw [if_pos h16] at h
                              obtain ⟨v81, h17, h⟩ := bnd h
                              obtain rfl := Option.some.inj h
                              exact Til.fin Tryd.func6 [(4, .b false), (6, ca (.tup [.c (.d (.str v6.1)), .c (.d (.int .i64 v6.2))])), (13, ca (.tup [.agg [.d (.int .i64 v13.1), .d (.int .i64 v13.2.1), .d (.int .i64 v13.2.2.1), .d (.int .i64 v13.2.2.2.1)], .c (.d (.int .i64 v13.2.2.2.2))])), (21, .b true), (23, ca (.tup [.c (.d (.str v23.1)), .c (.d (.int .i64 v23.2))])), (30, .b false), (34, .b false), (38, .b false), (42, .b false), (47, .b false), (52, .b false), (57, .b false), (62, .b false), (67, .b false), (72, .b true), (75, .b true), (78, .b true), (81, ca (.c (.d (.bool v81))))] (fun _ f => o (decide_eq_false h0) (o (report_Fault.does h1) (o (report_ReadFault.does h2) (o (beq_iff_eq.2 h3) (o (report_Fault.does h4) (o (ne_f h5) (o (str_nf h6) (o (decide_eq_false h7) (o (decide_eq_false h8) (o (decide_eq_false h9) (o (decide_eq_false h10) (o (decide_eq_false h11) (o (decide_eq_false h12) (o (decide_eq_false h13) (o (decide_eq_true h14) (o (str_t h15) (o (beq_iff_eq.2 h16) (o (dendronlaw29_awake.does h17) f)))))))))))))))))) (by kernel_rfl)
                            · rw [if_neg h16] at h
                              obtain rfl := Option.some.inj h
                              exact Til.fin Tryd.func6 [(4, .b false), (6, ca (.tup [.c (.d (.str v6.1)), .c (.d (.int .i64 v6.2))])), (13, ca (.tup [.agg [.d (.int .i64 v13.1), .d (.int .i64 v13.2.1), .d (.int .i64 v13.2.2.1), .d (.int .i64 v13.2.2.2.1)], .c (.d (.int .i64 v13.2.2.2.2))])), (21, .b true), (23, ca (.tup [.c (.d (.str v23.1)), .c (.d (.int .i64 v23.2))])), (30, .b false), (34, .b false), (38, .b false), (42, .b false), (47, .b false), (52, .b false), (57, .b false), (62, .b false), (67, .b false), (72, .b true), (75, .b true), (78, .b false)] (fun _ f => o (decide_eq_false h0) (o (report_Fault.does h1) (o (report_ReadFault.does h2) (o (beq_iff_eq.2 h3) (o (report_Fault.does h4) (o (ne_f h5) (o (str_nf h6) (o (decide_eq_false h7) (o (decide_eq_false h8) (o (decide_eq_false h9) (o (decide_eq_false h10) (o (decide_eq_false h11) (o (decide_eq_false h12) (o (decide_eq_false h13) (o (decide_eq_true h14) (o (str_t h15) (o (beq_false_of_ne h16) f))))))))))))))))) (by kernel_rfl)
                          · rw [if_neg h15] at h
                            obtain rfl := Option.some.inj h
                            exact Til.fin Tryd.func6 [(4, .b false), (6, ca (.tup [.c (.d (.str v6.1)), .c (.d (.int .i64 v6.2))])), (13, ca (.tup [.agg [.d (.int .i64 v13.1), .d (.int .i64 v13.2.1), .d (.int .i64 v13.2.2.1), .d (.int .i64 v13.2.2.2.1)], .c (.d (.int .i64 v13.2.2.2.2))])), (21, .b true), (23, ca (.tup [.c (.d (.str v23.1)), .c (.d (.int .i64 v23.2))])), (30, .b false), (34, .b false), (38, .b false), (42, .b false), (47, .b false), (52, .b false), (57, .b false), (62, .b false), (67, .b false), (72, .b true), (75, .b false)] (fun _ f => o (decide_eq_false h0) (o (report_Fault.does h1) (o (report_ReadFault.does h2) (o (beq_iff_eq.2 h3) (o (report_Fault.does h4) (o (ne_f h5) (o (str_nf h6) (o (decide_eq_false h7) (o (decide_eq_false h8) (o (decide_eq_false h9) (o (decide_eq_false h10) (o (decide_eq_false h11) (o (decide_eq_false h12) (o (decide_eq_false h13) (o (decide_eq_true h14) (o (str_f h15) f)))))))))))))))) (by kernel_rfl)
                        · rw [if_neg h14] at h
                          obtain ⟨v76, h15, h⟩ := bnd h
                          obtain ⟨h16, h⟩ := ifp h
                          obtain ⟨h17, h⟩ := ifp h
                          obtain ⟨v81, h18, h⟩ := bnd h
                          obtain ⟨h19, h⟩ := ifp h
                          obtain ⟨h20, h⟩ := ifp h
                          obtain ⟨v86, h21, h⟩ := bnd h
                          obtain ⟨h22, h⟩ := ifp h
                          obtain ⟨h23, h⟩ := ifp h
                          obtain ⟨v91, h24, h⟩ := bnd h
                          obtain ⟨h25, h⟩ := ifp h
                          obtain ⟨h26, h⟩ := ifp h
                          obtain ⟨v96, h27, h⟩ := bnd h
                          by_cases h28 : v6.1 = (((((((((⟨#[102, 97, 117, 108, 116, 32]⟩ : ByteArray) ++ v76) ++ (⟨#[32]⟩ : ByteArray)) ++ v81) ++ (⟨#[32]⟩ : ByteArray)) ++ v86) ++ (⟨#[32]⟩ : ByteArray)) ++ v91) ++ (⟨#[10]⟩ : ByteArray))
                          · rw [if_pos h28] at h
                            by_cases h29 : v6.2 = 0
                            · rw [if_pos h29] at h
                              by_cases h30 : v96.2.2.2.2 = 0
                              · rw [if_pos h30] at h
                                by_cases h31 : ((v96.1 == a0_0) && ((v96.2.1 == a0_1) && ((v96.2.2.1 == a0_2) && ((v96.2.2.2.1 == a0_3) && true)))) = true
                                · rw [if_pos h31] at h
                                  obtain ⟨v120, h32, h⟩ := bnd h
                                  obtain rfl := Option.some.inj h
                                  exact Til.fin Tryd.func6 [(4, .b false), (6, ca (.tup [.c (.d (.str v6.1)), .c (.d (.int .i64 v6.2))])), (13, ca (.tup [.agg [.d (.int .i64 v13.1), .d (.int .i64 v13.2.1), .d (.int .i64 v13.2.2.1), .d (.int .i64 v13.2.2.2.1)], .c (.d (.int .i64 v13.2.2.2.2))])), (21, .b true), (23, ca (.tup [.c (.d (.str v23.1)), .c (.d (.int .i64 v23.2))])), (30, .b false), (34, .b false), (38, .b false), (42, .b false), (47, .b false), (52, .b false), (57, .b false), (62, .b false), (67, .b false), (72, .b false), (76, ca (.c (.d (.str v76)))), (81, ca (.c (.d (.str v81)))), (86, ca (.c (.d (.str v86)))), (91, ca (.c (.d (.str v91)))), (96, ca (.tup [.agg [.d (.int .i64 v96.1), .d (.int .i64 v96.2.1), .d (.int .i64 v96.2.2.1), .d (.int .i64 v96.2.2.2.1)], .c (.d (.int .i64 v96.2.2.2.2))])), (105, .b true), (108, .b true), (112, .b true), (117, .b true), (120, ca (.c (.d (.bool v120))))] (fun _ f => o (decide_eq_false h0) (o (report_Fault.does h1) (o (report_ReadFault.does h2) (o (beq_iff_eq.2 h3) (o (report_Fault.does h4) (o (ne_f h5) (o (str_nf h6) (o (decide_eq_false h7) (o (decide_eq_false h8) (o (decide_eq_false h9) (o (decide_eq_false h10) (o (decide_eq_false h11) (o (decide_eq_false h12) (o (decide_eq_false h13) (o (decide_eq_false h14) (o (dendronlaw29_digits.does h15) (o h16 (o h17 (o (dendronlaw29_digits.does h18) (o h19 (o h20 (o (dendronlaw29_digits.does h21) (o h22 (o h23 (o (dendronlaw29_digits.does h24) (o h25 (o h26 (o (report_ReadFault.does h27) (o (str_t h28) (o (beq_iff_eq.2 h29) (o (beq_iff_eq.2 h30) (o h31 (o (dendronlaw29_awake.does h32) f))))))))))))))))))))))))))))))))) (by kernel_rfl)
                                · rw [if_neg h31] at h
                                  obtain rfl := Option.some.inj h
                                  exact Til.fin Tryd.func6 [(4, .b false), (6, ca (.tup [.c (.d (.str v6.1)), .c (.d (.int .i64 v6.2))])), (13, ca (.tup [.agg [.d (.int .i64 v13.1), .d (.int .i64 v13.2.1), .d (.int .i64 v13.2.2.1), .d (.int .i64 v13.2.2.2.1)], .c (.d (.int .i64 v13.2.2.2.2))])), (21, .b true), (23, ca (.tup [.c (.d (.str v23.1)), .c (.d (.int .i64 v23.2))])), (30, .b false), (34, .b false), (38, .b false), (42, .b false), (47, .b false), (52, .b false), (57, .b false), (62, .b false), (67, .b false), (72, .b false), (76, ca (.c (.d (.str v76)))), (81, ca (.c (.d (.str v81)))), (86, ca (.c (.d (.str v86)))), (91, ca (.c (.d (.str v91)))), (96, ca (.tup [.agg [.d (.int .i64 v96.1), .d (.int .i64 v96.2.1), .d (.int .i64 v96.2.2.1), .d (.int .i64 v96.2.2.2.1)], .c (.d (.int .i64 v96.2.2.2.2))])), (105, .b true), (108, .b true), (112, .b true), (117, .b false)] (fun _ f => o (decide_eq_false h0) (o (report_Fault.does h1) (o (report_ReadFault.does h2) (o (beq_iff_eq.2 h3) (o (report_Fault.does h4) (o (ne_f h5) (o (str_nf h6) (o (decide_eq_false h7) (o (decide_eq_false h8) (o (decide_eq_false h9) (o (decide_eq_false h10) (o (decide_eq_false h11) (o (decide_eq_false h12) (o (decide_eq_false h13) (o (decide_eq_false h14) (o (dendronlaw29_digits.does h15) (o h16 (o h17 (o (dendronlaw29_digits.does h18) (o h19 (o h20 (o (dendronlaw29_digits.does h21) (o h22 (o h23 (o (dendronlaw29_digits.does h24) (o h25 (o h26 (o (report_ReadFault.does h27) (o (str_t h28) (o (beq_iff_eq.2 h29) (o (beq_iff_eq.2 h30) (o (Bool.eq_false_iff.2 h31) f)))))))))))))))))))))))))))))))) (by kernel_rfl)
                              · rw [if_neg h30] at h
                                obtain rfl := Option.some.inj h
                                exact Til.fin Tryd.func6 [(4, .b false), (6, ca (.tup [.c (.d (.str v6.1)), .c (.d (.int .i64 v6.2))])), (13, ca (.tup [.agg [.d (.int .i64 v13.1), .d (.int .i64 v13.2.1), .d (.int .i64 v13.2.2.1), .d (.int .i64 v13.2.2.2.1)], .c (.d (.int .i64 v13.2.2.2.2))])), (21, .b true), (23, ca (.tup [.c (.d (.str v23.1)), .c (.d (.int .i64 v23.2))])), (30, .b false), (34, .b false), (38, .b false), (42, .b false), (47, .b false), (52, .b false), (57, .b false), (62, .b false), (67, .b false), (72, .b false), (76, ca (.c (.d (.str v76)))), (81, ca (.c (.d (.str v81)))), (86, ca (.c (.d (.str v86)))), (91, ca (.c (.d (.str v91)))), (96, ca (.tup [.agg [.d (.int .i64 v96.1), .d (.int .i64 v96.2.1), .d (.int .i64 v96.2.2.1), .d (.int .i64 v96.2.2.2.1)], .c (.d (.int .i64 v96.2.2.2.2))])), (105, .b true), (108, .b true), (112, .b false)] (fun _ f => o (decide_eq_false h0) (o (report_Fault.does h1) (o (report_ReadFault.does h2) (o (beq_iff_eq.2 h3) (o (report_Fault.does h4) (o (ne_f h5) (o (str_nf h6) (o (decide_eq_false h7) (o (decide_eq_false h8) (o (decide_eq_false h9) (o (decide_eq_false h10) (o (decide_eq_false h11) (o (decide_eq_false h12) (o (decide_eq_false h13) (o (decide_eq_false h14) (o (dendronlaw29_digits.does h15) (o h16 (o h17 (o (dendronlaw29_digits.does h18) (o h19 (o h20 (o (dendronlaw29_digits.does h21) (o h22 (o h23 (o (dendronlaw29_digits.does h24) (o h25 (o h26 (o (report_ReadFault.does h27) (o (str_t h28) (o (beq_iff_eq.2 h29) (o (beq_false_of_ne h30) f))))))))))))))))))))))))))))))) (by kernel_rfl)
                            · rw [if_neg h29] at h
                              obtain rfl := Option.some.inj h
                              exact Til.fin Tryd.func6 [(4, .b false), (6, ca (.tup [.c (.d (.str v6.1)), .c (.d (.int .i64 v6.2))])), (13, ca (.tup [.agg [.d (.int .i64 v13.1), .d (.int .i64 v13.2.1), .d (.int .i64 v13.2.2.1), .d (.int .i64 v13.2.2.2.1)], .c (.d (.int .i64 v13.2.2.2.2))])), (21, .b true), (23, ca (.tup [.c (.d (.str v23.1)), .c (.d (.int .i64 v23.2))])), (30, .b false), (34, .b false), (38, .b false), (42, .b false), (47, .b false), (52, .b false), (57, .b false), (62, .b false), (67, .b false), (72, .b false), (76, ca (.c (.d (.str v76)))), (81, ca (.c (.d (.str v81)))), (86, ca (.c (.d (.str v86)))), (91, ca (.c (.d (.str v91)))), (96, ca (.tup [.agg [.d (.int .i64 v96.1), .d (.int .i64 v96.2.1), .d (.int .i64 v96.2.2.1), .d (.int .i64 v96.2.2.2.1)], .c (.d (.int .i64 v96.2.2.2.2))])), (105, .b true), (108, .b false)] (fun _ f => o (decide_eq_false h0) (o (report_Fault.does h1) (o (report_ReadFault.does h2) (o (beq_iff_eq.2 h3) (o (report_Fault.does h4) (o (ne_f h5) (o (str_nf h6) (o (decide_eq_false h7) (o (decide_eq_false h8) (o (decide_eq_false h9) (o (decide_eq_false h10) (o (decide_eq_false h11) (o (decide_eq_false h12) (o (decide_eq_false h13) (o (decide_eq_false h14) (o (dendronlaw29_digits.does h15) (o h16 (o h17 (o (dendronlaw29_digits.does h18) (o h19 (o h20 (o (dendronlaw29_digits.does h21) (o h22 (o h23 (o (dendronlaw29_digits.does h24) (o h25 (o h26 (o (report_ReadFault.does h27) (o (str_t h28) (o (beq_false_of_ne h29) f)))))))))))))))))))))))))))))) (by kernel_rfl)
                          · rw [if_neg h28] at h
                            obtain rfl := Option.some.inj h
                            exact Til.fin Tryd.func6 [(4, .b false), (6, ca (.tup [.c (.d (.str v6.1)), .c (.d (.int .i64 v6.2))])), (13, ca (.tup [.agg [.d (.int .i64 v13.1), .d (.int .i64 v13.2.1), .d (.int .i64 v13.2.2.1), .d (.int .i64 v13.2.2.2.1)], .c (.d (.int .i64 v13.2.2.2.2))])), (21, .b true), (23, ca (.tup [.c (.d (.str v23.1)), .c (.d (.int .i64 v23.2))])), (30, .b false), (34, .b false), (38, .b false), (42, .b false), (47, .b false), (52, .b false), (57, .b false), (62, .b false), (67, .b false), (72, .b false), (76, ca (.c (.d (.str v76)))), (81, ca (.c (.d (.str v81)))), (86, ca (.c (.d (.str v86)))), (91, ca (.c (.d (.str v91)))), (96, ca (.tup [.agg [.d (.int .i64 v96.1), .d (.int .i64 v96.2.1), .d (.int .i64 v96.2.2.1), .d (.int .i64 v96.2.2.2.1)], .c (.d (.int .i64 v96.2.2.2.2))])), (105, .b false)] (fun _ f => o (decide_eq_false h0) (o (report_Fault.does h1) (o (report_ReadFault.does h2) (o (beq_iff_eq.2 h3) (o (report_Fault.does h4) (o (ne_f h5) (o (str_nf h6) (o (decide_eq_false h7) (o (decide_eq_false h8) (o (decide_eq_false h9) (o (decide_eq_false h10) (o (decide_eq_false h11) (o (decide_eq_false h12) (o (decide_eq_false h13) (o (decide_eq_false h14) (o (dendronlaw29_digits.does h15) (o h16 (o h17 (o (dendronlaw29_digits.does h18) (o h19 (o h20 (o (dendronlaw29_digits.does h21) (o h22 (o h23 (o (dendronlaw29_digits.does h24) (o h25 (o h26 (o (report_ReadFault.does h27) (o (str_f h28) f))))))))))))))))))))))))))))) (by kernel_rfl)
    · rw [if_neg h3] at h
      by_cases h4 : (!((v13.1 == 0) && ((v13.2.1 == 0) && ((v13.2.2.1 == 0) && ((v13.2.2.2.1 == 0) && true))))) = true
      · rw [if_pos h4] at h
        obtain rfl := Option.some.inj h
        exact Til.fin Tryd.func6 [(4, .b false), (6, ca (.tup [.c (.d (.str v6.1)), .c (.d (.int .i64 v6.2))])), (13, ca (.tup [.agg [.d (.int .i64 v13.1), .d (.int .i64 v13.2.1), .d (.int .i64 v13.2.2.1), .d (.int .i64 v13.2.2.2.1)], .c (.d (.int .i64 v13.2.2.2.2))])), (21, .b false), (24, .b true)] (fun _ f => o (decide_eq_false h0) (o (report_Fault.does h1) (o (report_ReadFault.does h2) (o (beq_false_of_ne h3) (o h4 f))))) (by kernel_rfl)
      · rw [if_neg h4] at h
        by_cases h5 : a0_0 < 1
        · rw [if_pos h5] at h
          by_cases h6 : v6.1 = ByteArray.empty
          · rw [if_pos h6] at h
            by_cases h7 : v6.2 = 1
            · rw [if_pos h7] at h
              obtain ⟨v70, h8, h⟩ := bnd h
              obtain rfl := Option.some.inj h
              exact Til.fin Tryd.func6 [(4, .b false), (6, ca (.tup [.c (.d (.str v6.1)), .c (.d (.int .i64 v6.2))])), (13, ca (.tup [.agg [.d (.int .i64 v13.1), .d (.int .i64 v13.2.1), .d (.int .i64 v13.2.2.1), .d (.int .i64 v13.2.2.2.1)], .c (.d (.int .i64 v13.2.2.2.2))])), (21, .b false), (24, .b false), (27, .b true), (64, .b true), (67, .b true), (70, ca (.c (.d (.bool v70))))] (fun _ f => o (decide_eq_false h0) (o (report_Fault.does h1) (o (report_ReadFault.does h2) (o (beq_false_of_ne h3) (o (Bool.eq_false_iff.2 h4) (o (decide_eq_true h5) (o (str_t h6) (o (beq_iff_eq.2 h7) (o (dendronlaw29_awake.does h8) f))))))))) (by kernel_rfl)
            · rw [if_neg h7] at h
              obtain rfl := Option.some.inj h
              exact Til.fin Tryd.func6 [(4, .b false), (6, ca (.tup [.c (.d (.str v6.1)), .c (.d (.int .i64 v6.2))])), (13, ca (.tup [.agg [.d (.int .i64 v13.1), .d (.int .i64 v13.2.1), .d (.int .i64 v13.2.2.1), .d (.int .i64 v13.2.2.2.1)], .c (.d (.int .i64 v13.2.2.2.2))])), (21, .b false), (24, .b false), (27, .b true), (64, .b true), (67, .b false)] (fun _ f => o (decide_eq_false h0) (o (report_Fault.does h1) (o (report_ReadFault.does h2) (o (beq_false_of_ne h3) (o (Bool.eq_false_iff.2 h4) (o (decide_eq_true h5) (o (str_t h6) (o (beq_false_of_ne h7) f)))))))) (by kernel_rfl)
          · rw [if_neg h6] at h
            obtain rfl := Option.some.inj h
            exact Til.fin Tryd.func6 [(4, .b false), (6, ca (.tup [.c (.d (.str v6.1)), .c (.d (.int .i64 v6.2))])), (13, ca (.tup [.agg [.d (.int .i64 v13.1), .d (.int .i64 v13.2.1), .d (.int .i64 v13.2.2.1), .d (.int .i64 v13.2.2.2.1)], .c (.d (.int .i64 v13.2.2.2.2))])), (21, .b false), (24, .b false), (27, .b true), (64, .b false)] (fun _ f => o (decide_eq_false h0) (o (report_Fault.does h1) (o (report_ReadFault.does h2) (o (beq_false_of_ne h3) (o (Bool.eq_false_iff.2 h4) (o (decide_eq_true h5) (o (str_f h6) f))))))) (by kernel_rfl)
        · rw [if_neg h5] at h
          by_cases h6 : a0_0 > 999
          · rw [if_pos h6] at h
            by_cases h7 : v6.1 = ByteArray.empty
            · rw [if_pos h7] at h
              by_cases h8 : v6.2 = 1
              · rw [if_pos h8] at h
                obtain ⟨v70, h9, h⟩ := bnd h
                obtain rfl := Option.some.inj h
                exact Til.fin Tryd.func6 [(4, .b false), (6, ca (.tup [.c (.d (.str v6.1)), .c (.d (.int .i64 v6.2))])), (13, ca (.tup [.agg [.d (.int .i64 v13.1), .d (.int .i64 v13.2.1), .d (.int .i64 v13.2.2.1), .d (.int .i64 v13.2.2.2.1)], .c (.d (.int .i64 v13.2.2.2.2))])), (21, .b false), (24, .b false), (27, .b false), (31, .b true), (64, .b true), (67, .b true), (70, ca (.c (.d (.bool v70))))] (fun _ f => o (decide_eq_false h0) (o (report_Fault.does h1) (o (report_ReadFault.does h2) (o (beq_false_of_ne h3) (o (Bool.eq_false_iff.2 h4) (o (decide_eq_false h5) (o (decide_eq_true h6) (o (str_t h7) (o (beq_iff_eq.2 h8) (o (dendronlaw29_awake.does h9) f)))))))))) (by kernel_rfl)
              · rw [if_neg h8] at h
                obtain rfl := Option.some.inj h
                exact Til.fin Tryd.func6 [(4, .b false), (6, ca (.tup [.c (.d (.str v6.1)), .c (.d (.int .i64 v6.2))])), (13, ca (.tup [.agg [.d (.int .i64 v13.1), .d (.int .i64 v13.2.1), .d (.int .i64 v13.2.2.1), .d (.int .i64 v13.2.2.2.1)], .c (.d (.int .i64 v13.2.2.2.2))])), (21, .b false), (24, .b false), (27, .b false), (31, .b true), (64, .b true), (67, .b false)] (fun _ f => o (decide_eq_false h0) (o (report_Fault.does h1) (o (report_ReadFault.does h2) (o (beq_false_of_ne h3) (o (Bool.eq_false_iff.2 h4) (o (decide_eq_false h5) (o (decide_eq_true h6) (o (str_t h7) (o (beq_false_of_ne h8) f))))))))) (by kernel_rfl)
            · rw [if_neg h7] at h
              obtain rfl := Option.some.inj h
              exact Til.fin Tryd.func6 [(4, .b false), (6, ca (.tup [.c (.d (.str v6.1)), .c (.d (.int .i64 v6.2))])), (13, ca (.tup [.agg [.d (.int .i64 v13.1), .d (.int .i64 v13.2.1), .d (.int .i64 v13.2.2.1), .d (.int .i64 v13.2.2.2.1)], .c (.d (.int .i64 v13.2.2.2.2))])), (21, .b false), (24, .b false), (27, .b false), (31, .b true), (64, .b false)] (fun _ f => o (decide_eq_false h0) (o (report_Fault.does h1) (o (report_ReadFault.does h2) (o (beq_false_of_ne h3) (o (Bool.eq_false_iff.2 h4) (o (decide_eq_false h5) (o (decide_eq_true h6) (o (str_f h7) f)))))))) (by kernel_rfl)
          · rw [if_neg h6] at h
            by_cases h7 : a0_1 < 0
            · rw [if_pos h7] at h
              by_cases h8 : v6.1 = ByteArray.empty
              · rw [if_pos h8] at h
                by_cases h9 : v6.2 = 1
                · rw [if_pos h9] at h
                  obtain ⟨v70, h10, h⟩ := bnd h
                  obtain rfl := Option.some.inj h
                  exact Til.fin Tryd.func6 [(4, .b false), (6, ca (.tup [.c (.d (.str v6.1)), .c (.d (.int .i64 v6.2))])), (13, ca (.tup [.agg [.d (.int .i64 v13.1), .d (.int .i64 v13.2.1), .d (.int .i64 v13.2.2.1), .d (.int .i64 v13.2.2.2.1)], .c (.d (.int .i64 v13.2.2.2.2))])), (21, .b false), (24, .b false), (27, .b false), (31, .b false), (36, .b true), (64, .b true), (67, .b true), (70, ca (.c (.d (.bool v70))))] (fun _ f => o (decide_eq_false h0) (o (report_Fault.does h1) (o (report_ReadFault.does h2) (o (beq_false_of_ne h3) (o (Bool.eq_false_iff.2 h4) (o (decide_eq_false h5) (o (decide_eq_false h6) (o (decide_eq_true h7) (o (str_t h8) (o (beq_iff_eq.2 h9) (o (dendronlaw29_awake.does h10) f))))))))))) (by kernel_rfl)
                · rw [if_neg h9] at h
                  obtain rfl := Option.some.inj h
                  exact Til.fin Tryd.func6 [(4, .b false), (6, ca (.tup [.c (.d (.str v6.1)), .c (.d (.int .i64 v6.2))])), (13, ca (.tup [.agg [.d (.int .i64 v13.1), .d (.int .i64 v13.2.1), .d (.int .i64 v13.2.2.1), .d (.int .i64 v13.2.2.2.1)], .c (.d (.int .i64 v13.2.2.2.2))])), (21, .b false), (24, .b false), (27, .b false), (31, .b false), (36, .b true), (64, .b true), (67, .b false)] (fun _ f => o (decide_eq_false h0) (o (report_Fault.does h1) (o (report_ReadFault.does h2) (o (beq_false_of_ne h3) (o (Bool.eq_false_iff.2 h4) (o (decide_eq_false h5) (o (decide_eq_false h6) (o (decide_eq_true h7) (o (str_t h8) (o (beq_false_of_ne h9) f)))))))))) (by kernel_rfl)
              · rw [if_neg h8] at h
                obtain rfl := Option.some.inj h
                exact Til.fin Tryd.func6 [(4, .b false), (6, ca (.tup [.c (.d (.str v6.1)), .c (.d (.int .i64 v6.2))])), (13, ca (.tup [.agg [.d (.int .i64 v13.1), .d (.int .i64 v13.2.1), .d (.int .i64 v13.2.2.1), .d (.int .i64 v13.2.2.2.1)], .c (.d (.int .i64 v13.2.2.2.2))])), (21, .b false), (24, .b false), (27, .b false), (31, .b false), (36, .b true), (64, .b false)] (fun _ f => o (decide_eq_false h0) (o (report_Fault.does h1) (o (report_ReadFault.does h2) (o (beq_false_of_ne h3) (o (Bool.eq_false_iff.2 h4) (o (decide_eq_false h5) (o (decide_eq_false h6) (o (decide_eq_true h7) (o (str_f h8) f))))))))) (by kernel_rfl)
            · rw [if_neg h7] at h
              by_cases h8 : a0_1 > 1048576
              · rw [if_pos h8] at h
                by_cases h9 : v6.1 = ByteArray.empty
                · rw [if_pos h9] at h
                  by_cases h10 : v6.2 = 1
                  · rw [if_pos h10] at h
                    obtain ⟨v70, h11, h⟩ := bnd h
                    obtain rfl := Option.some.inj h
                    exact Til.fin Tryd.func6 [(4, .b false), (6, ca (.tup [.c (.d (.str v6.1)), .c (.d (.int .i64 v6.2))])), (13, ca (.tup [.agg [.d (.int .i64 v13.1), .d (.int .i64 v13.2.1), .d (.int .i64 v13.2.2.1), .d (.int .i64 v13.2.2.2.1)], .c (.d (.int .i64 v13.2.2.2.2))])), (21, .b false), (24, .b false), (27, .b false), (31, .b false), (36, .b false), (41, .b true), (64, .b true), (67, .b true), (70, ca (.c (.d (.bool v70))))] (fun _ f => o (decide_eq_false h0) (o (report_Fault.does h1) (o (report_ReadFault.does h2) (o (beq_false_of_ne h3) (o (Bool.eq_false_iff.2 h4) (o (decide_eq_false h5) (o (decide_eq_false h6) (o (decide_eq_false h7) (o (decide_eq_true h8) (o (str_t h9) (o (beq_iff_eq.2 h10) (o (dendronlaw29_awake.does h11) f)))))))))))) (by kernel_rfl)
                  · rw [if_neg h10] at h
                    obtain rfl := Option.some.inj h
                    exact Til.fin Tryd.func6 [(4, .b false), (6, ca (.tup [.c (.d (.str v6.1)), .c (.d (.int .i64 v6.2))])), (13, ca (.tup [.agg [.d (.int .i64 v13.1), .d (.int .i64 v13.2.1), .d (.int .i64 v13.2.2.1), .d (.int .i64 v13.2.2.2.1)], .c (.d (.int .i64 v13.2.2.2.2))])), (21, .b false), (24, .b false), (27, .b false), (31, .b false), (36, .b false), (41, .b true), (64, .b true), (67, .b false)] (fun _ f => o (decide_eq_false h0) (o (report_Fault.does h1) (o (report_ReadFault.does h2) (o (beq_false_of_ne h3) (o (Bool.eq_false_iff.2 h4) (o (decide_eq_false h5) (o (decide_eq_false h6) (o (decide_eq_false h7) (o (decide_eq_true h8) (o (str_t h9) (o (beq_false_of_ne h10) f))))))))))) (by kernel_rfl)
                · rw [if_neg h9] at h
                  obtain rfl := Option.some.inj h
                  exact Til.fin Tryd.func6 [(4, .b false), (6, ca (.tup [.c (.d (.str v6.1)), .c (.d (.int .i64 v6.2))])), (13, ca (.tup [.agg [.d (.int .i64 v13.1), .d (.int .i64 v13.2.1), .d (.int .i64 v13.2.2.1), .d (.int .i64 v13.2.2.2.1)], .c (.d (.int .i64 v13.2.2.2.2))])), (21, .b false), (24, .b false), (27, .b false), (31, .b false), (36, .b false), (41, .b true), (64, .b false)] (fun _ f => o (decide_eq_false h0) (o (report_Fault.does h1) (o (report_ReadFault.does h2) (o (beq_false_of_ne h3) (o (Bool.eq_false_iff.2 h4) (o (decide_eq_false h5) (o (decide_eq_false h6) (o (decide_eq_false h7) (o (decide_eq_true h8) (o (str_f h9) f)))))))))) (by kernel_rfl)
              · rw [if_neg h8] at h
                by_cases h9 : a0_2 < 0
                · rw [if_pos h9] at h
                  by_cases h10 : v6.1 = ByteArray.empty
                  · rw [if_pos h10] at h
                    by_cases h11 : v6.2 = 1
                    · rw [if_pos h11] at h
                      obtain ⟨v70, h12, h⟩ := bnd h
                      obtain rfl := Option.some.inj h
                      exact Til.fin Tryd.func6 [(4, .b false), (6, ca (.tup [.c (.d (.str v6.1)), .c (.d (.int .i64 v6.2))])), (13, ca (.tup [.agg [.d (.int .i64 v13.1), .d (.int .i64 v13.2.1), .d (.int .i64 v13.2.2.1), .d (.int .i64 v13.2.2.2.1)], .c (.d (.int .i64 v13.2.2.2.2))])), (21, .b false), (24, .b false), (27, .b false), (31, .b false), (36, .b false), (41, .b false), (46, .b true), (64, .b true), (67, .b true), (70, ca (.c (.d (.bool v70))))] (fun _ f => o (decide_eq_false h0) (o (report_Fault.does h1) (o (report_ReadFault.does h2) (o (beq_false_of_ne h3) (o (Bool.eq_false_iff.2 h4) (o (decide_eq_false h5) (o (decide_eq_false h6) (o (decide_eq_false h7) (o (decide_eq_false h8) (o (decide_eq_true h9) (o (str_t h10) (o (beq_iff_eq.2 h11) (o (dendronlaw29_awake.does h12) f))))))))))))) (by kernel_rfl)
                    · rw [if_neg h11] at h
                      obtain rfl := Option.some.inj h
                      exact Til.fin Tryd.func6 [(4, .b false), (6, ca (.tup [.c (.d (.str v6.1)), .c (.d (.int .i64 v6.2))])), (13, ca (.tup [.agg [.d (.int .i64 v13.1), .d (.int .i64 v13.2.1), .d (.int .i64 v13.2.2.1), .d (.int .i64 v13.2.2.2.1)], .c (.d (.int .i64 v13.2.2.2.2))])), (21, .b false), (24, .b false), (27, .b false), (31, .b false), (36, .b false), (41, .b false), (46, .b true), (64, .b true), (67, .b false)] (fun _ f => o (decide_eq_false h0) (o (report_Fault.does h1) (o (report_ReadFault.does h2) (o (beq_false_of_ne h3) (o (Bool.eq_false_iff.2 h4) (o (decide_eq_false h5) (o (decide_eq_false h6) (o (decide_eq_false h7) (o (decide_eq_false h8) (o (decide_eq_true h9) (o (str_t h10) (o (beq_false_of_ne h11) f)))))))))))) (by kernel_rfl)
                  · rw [if_neg h10] at h
                    obtain rfl := Option.some.inj h
                    exact Til.fin Tryd.func6 [(4, .b false), (6, ca (.tup [.c (.d (.str v6.1)), .c (.d (.int .i64 v6.2))])), (13, ca (.tup [.agg [.d (.int .i64 v13.1), .d (.int .i64 v13.2.1), .d (.int .i64 v13.2.2.1), .d (.int .i64 v13.2.2.2.1)], .c (.d (.int .i64 v13.2.2.2.2))])), (21, .b false), (24, .b false), (27, .b false), (31, .b false), (36, .b false), (41, .b false), (46, .b true), (64, .b false)] (fun _ f => o (decide_eq_false h0) (o (report_Fault.does h1) (o (report_ReadFault.does h2) (o (beq_false_of_ne h3) (o (Bool.eq_false_iff.2 h4) (o (decide_eq_false h5) (o (decide_eq_false h6) (o (decide_eq_false h7) (o (decide_eq_false h8) (o (decide_eq_true h9) (o (str_f h10) f))))))))))) (by kernel_rfl)
                · rw [if_neg h9] at h
                  by_cases h10 : a0_2 > 64
                  · rw [if_pos h10] at h
                    by_cases h11 : v6.1 = ByteArray.empty
                    · rw [if_pos h11] at h
                      by_cases h12 : v6.2 = 1
                      · rw [if_pos h12] at h
                        obtain ⟨v70, h13, h⟩ := bnd h
                        obtain rfl := Option.some.inj h
                        exact Til.fin Tryd.func6 [(4, .b false), (6, ca (.tup [.c (.d (.str v6.1)), .c (.d (.int .i64 v6.2))])), (13, ca (.tup [.agg [.d (.int .i64 v13.1), .d (.int .i64 v13.2.1), .d (.int .i64 v13.2.2.1), .d (.int .i64 v13.2.2.2.1)], .c (.d (.int .i64 v13.2.2.2.2))])), (21, .b false), (24, .b false), (27, .b false), (31, .b false), (36, .b false), (41, .b false), (46, .b false), (51, .b true), (64, .b true), (67, .b true), (70, ca (.c (.d (.bool v70))))] (fun _ f => o (decide_eq_false h0) (o (report_Fault.does h1) (o (report_ReadFault.does h2) (o (beq_false_of_ne h3) (o (Bool.eq_false_iff.2 h4) (o (decide_eq_false h5) (o (decide_eq_false h6) (o (decide_eq_false h7) (o (decide_eq_false h8) (o (decide_eq_false h9) (o (decide_eq_true h10) (o (str_t h11) (o (beq_iff_eq.2 h12) (o (dendronlaw29_awake.does h13) f)))))))))))))) (by kernel_rfl)
                      · rw [if_neg h12] at h
                        obtain rfl := Option.some.inj h
                        exact Til.fin Tryd.func6 [(4, .b false), (6, ca (.tup [.c (.d (.str v6.1)), .c (.d (.int .i64 v6.2))])), (13, ca (.tup [.agg [.d (.int .i64 v13.1), .d (.int .i64 v13.2.1), .d (.int .i64 v13.2.2.1), .d (.int .i64 v13.2.2.2.1)], .c (.d (.int .i64 v13.2.2.2.2))])), (21, .b false), (24, .b false), (27, .b false), (31, .b false), (36, .b false), (41, .b false), (46, .b false), (51, .b true), (64, .b true), (67, .b false)] (fun _ f => o (decide_eq_false h0) (o (report_Fault.does h1) (o (report_ReadFault.does h2) (o (beq_false_of_ne h3) (o (Bool.eq_false_iff.2 h4) (o (decide_eq_false h5) (o (decide_eq_false h6) (o (decide_eq_false h7) (o (decide_eq_false h8) (o (decide_eq_false h9) (o (decide_eq_true h10) (o (str_t h11) (o (beq_false_of_ne h12) f))))))))))))) (by kernel_rfl)
                    · rw [if_neg h11] at h
                      obtain rfl := Option.some.inj h
                      exact Til.fin Tryd.func6 [(4, .b false), (6, ca (.tup [.c (.d (.str v6.1)), .c (.d (.int .i64 v6.2))])), (13, ca (.tup [.agg [.d (.int .i64 v13.1), .d (.int .i64 v13.2.1), .d (.int .i64 v13.2.2.1), .d (.int .i64 v13.2.2.2.1)], .c (.d (.int .i64 v13.2.2.2.2))])), (21, .b false), (24, .b false), (27, .b false), (31, .b false), (36, .b false), (41, .b false), (46, .b false), (51, .b true), (64, .b false)] (fun _ f => o (decide_eq_false h0) (o (report_Fault.does h1) (o (report_ReadFault.does h2) (o (beq_false_of_ne h3) (o (Bool.eq_false_iff.2 h4) (o (decide_eq_false h5) (o (decide_eq_false h6) (o (decide_eq_false h7) (o (decide_eq_false h8) (o (decide_eq_false h9) (o (decide_eq_true h10) (o (str_f h11) f)))))))))))) (by kernel_rfl)
                  · rw [if_neg h10] at h
                    by_cases h11 : a0_3 < 0
                    · rw [if_pos h11] at h
                      by_cases h12 : v6.1 = ByteArray.empty
                      · rw [if_pos h12] at h
                        by_cases h13 : v6.2 = 1
                        · rw [if_pos h13] at h
                          obtain ⟨v70, h14, h⟩ := bnd h
                          obtain rfl := Option.some.inj h
                          exact Til.fin Tryd.func6 [(4, .b false), (6, ca (.tup [.c (.d (.str v6.1)), .c (.d (.int .i64 v6.2))])), (13, ca (.tup [.agg [.d (.int .i64 v13.1), .d (.int .i64 v13.2.1), .d (.int .i64 v13.2.2.1), .d (.int .i64 v13.2.2.2.1)], .c (.d (.int .i64 v13.2.2.2.2))])), (21, .b false), (24, .b false), (27, .b false), (31, .b false), (36, .b false), (41, .b false), (46, .b false), (51, .b false), (56, .b true), (64, .b true), (67, .b true), (70, ca (.c (.d (.bool v70))))] (fun _ f => o (decide_eq_false h0) (o (report_Fault.does h1) (o (report_ReadFault.does h2) (o (beq_false_of_ne h3) (o (Bool.eq_false_iff.2 h4) (o (decide_eq_false h5) (o (decide_eq_false h6) (o (decide_eq_false h7) (o (decide_eq_false h8) (o (decide_eq_false h9) (o (decide_eq_false h10) (o (decide_eq_true h11) (o (str_t h12) (o (beq_iff_eq.2 h13) (o (dendronlaw29_awake.does h14) f))))))))))))))) (by kernel_rfl)
                        · rw [if_neg h13] at h
                          obtain rfl := Option.some.inj h
                          exact Til.fin Tryd.func6 [(4, .b false), (6, ca (.tup [.c (.d (.str v6.1)), .c (.d (.int .i64 v6.2))])), (13, ca (.tup [.agg [.d (.int .i64 v13.1), .d (.int .i64 v13.2.1), .d (.int .i64 v13.2.2.1), .d (.int .i64 v13.2.2.2.1)], .c (.d (.int .i64 v13.2.2.2.2))])), (21, .b false), (24, .b false), (27, .b false), (31, .b false), (36, .b false), (41, .b false), (46, .b false), (51, .b false), (56, .b true), (64, .b true), (67, .b false)] (fun _ f => o (decide_eq_false h0) (o (report_Fault.does h1) (o (report_ReadFault.does h2) (o (beq_false_of_ne h3) (o (Bool.eq_false_iff.2 h4) (o (decide_eq_false h5) (o (decide_eq_false h6) (o (decide_eq_false h7) (o (decide_eq_false h8) (o (decide_eq_false h9) (o (decide_eq_false h10) (o (decide_eq_true h11) (o (str_t h12) (o (beq_false_of_ne h13) f)))))))))))))) (by kernel_rfl)
                      · rw [if_neg h12] at h
                        obtain rfl := Option.some.inj h
                        exact Til.fin Tryd.func6 [(4, .b false), (6, ca (.tup [.c (.d (.str v6.1)), .c (.d (.int .i64 v6.2))])), (13, ca (.tup [.agg [.d (.int .i64 v13.1), .d (.int .i64 v13.2.1), .d (.int .i64 v13.2.2.1), .d (.int .i64 v13.2.2.2.1)], .c (.d (.int .i64 v13.2.2.2.2))])), (21, .b false), (24, .b false), (27, .b false), (31, .b false), (36, .b false), (41, .b false), (46, .b false), (51, .b false), (56, .b true), (64, .b false)] (fun _ f => o (decide_eq_false h0) (o (report_Fault.does h1) (o (report_ReadFault.does h2) (o (beq_false_of_ne h3) (o (Bool.eq_false_iff.2 h4) (o (decide_eq_false h5) (o (decide_eq_false h6) (o (decide_eq_false h7) (o (decide_eq_false h8) (o (decide_eq_false h9) (o (decide_eq_false h10) (o (decide_eq_true h11) (o (str_f h12) f))))))))))))) (by kernel_rfl)
                    · rw [if_neg h11] at h
                      by_cases h12 : a0_3 > 255
                      · rw [if_pos h12] at h
                        by_cases h13 : v6.1 = ByteArray.empty
                        · rw [if_pos h13] at h
                          by_cases h14 : v6.2 = 1
                          · rw [if_pos h14] at h
                            obtain ⟨v70, h15, h⟩ := bnd h
                            obtain rfl := Option.some.inj h
                            exact Til.fin Tryd.func6 [(4, .b false), (6, ca (.tup [.c (.d (.str v6.1)), .c (.d (.int .i64 v6.2))])), (13, ca (.tup [.agg [.d (.int .i64 v13.1), .d (.int .i64 v13.2.1), .d (.int .i64 v13.2.2.1), .d (.int .i64 v13.2.2.2.1)], .c (.d (.int .i64 v13.2.2.2.2))])), (21, .b false), (24, .b false), (27, .b false), (31, .b false), (36, .b false), (41, .b false), (46, .b false), (51, .b false), (56, .b false), (61, .b true), (64, .b true), (67, .b true), (70, ca (.c (.d (.bool v70))))] (fun _ f => o (decide_eq_false h0) (o (report_Fault.does h1) (o (report_ReadFault.does h2) (o (beq_false_of_ne h3) (o (Bool.eq_false_iff.2 h4) (o (decide_eq_false h5) (o (decide_eq_false h6) (o (decide_eq_false h7) (o (decide_eq_false h8) (o (decide_eq_false h9) (o (decide_eq_false h10) (o (decide_eq_false h11) (o (decide_eq_true h12) (o (str_t h13) (o (beq_iff_eq.2 h14) (o (dendronlaw29_awake.does h15) f)))))))))))))))) (by kernel_rfl)
                          · rw [if_neg h14] at h
                            obtain rfl := Option.some.inj h
                            exact Til.fin Tryd.func6 [(4, .b false), (6, ca (.tup [.c (.d (.str v6.1)), .c (.d (.int .i64 v6.2))])), (13, ca (.tup [.agg [.d (.int .i64 v13.1), .d (.int .i64 v13.2.1), .d (.int .i64 v13.2.2.1), .d (.int .i64 v13.2.2.2.1)], .c (.d (.int .i64 v13.2.2.2.2))])), (21, .b false), (24, .b false), (27, .b false), (31, .b false), (36, .b false), (41, .b false), (46, .b false), (51, .b false), (56, .b false), (61, .b true), (64, .b true), (67, .b false)] (fun _ f => o (decide_eq_false h0) (o (report_Fault.does h1) (o (report_ReadFault.does h2) (o (beq_false_of_ne h3) (o (Bool.eq_false_iff.2 h4) (o (decide_eq_false h5) (o (decide_eq_false h6) (o (decide_eq_false h7) (o (decide_eq_false h8) (o (decide_eq_false h9) (o (decide_eq_false h10) (o (decide_eq_false h11) (o (decide_eq_true h12) (o (str_t h13) (o (beq_false_of_ne h14) f))))))))))))))) (by kernel_rfl)
                        · rw [if_neg h13] at h
                          obtain rfl := Option.some.inj h
                          exact Til.fin Tryd.func6 [(4, .b false), (6, ca (.tup [.c (.d (.str v6.1)), .c (.d (.int .i64 v6.2))])), (13, ca (.tup [.agg [.d (.int .i64 v13.1), .d (.int .i64 v13.2.1), .d (.int .i64 v13.2.2.1), .d (.int .i64 v13.2.2.2.1)], .c (.d (.int .i64 v13.2.2.2.2))])), (21, .b false), (24, .b false), (27, .b false), (31, .b false), (36, .b false), (41, .b false), (46, .b false), (51, .b false), (56, .b false), (61, .b true), (64, .b false)] (fun _ f => o (decide_eq_false h0) (o (report_Fault.does h1) (o (report_ReadFault.does h2) (o (beq_false_of_ne h3) (o (Bool.eq_false_iff.2 h4) (o (decide_eq_false h5) (o (decide_eq_false h6) (o (decide_eq_false h7) (o (decide_eq_false h8) (o (decide_eq_false h9) (o (decide_eq_false h10) (o (decide_eq_false h11) (o (decide_eq_true h12) (o (str_f h13) f)))))))))))))) (by kernel_rfl)
                      · rw [if_neg h12] at h
                        obtain ⟨v65, h13, h⟩ := bnd h
                        obtain ⟨h14, h⟩ := ifp h
                        obtain ⟨h15, h⟩ := ifp h
                        obtain ⟨v70, h16, h⟩ := bnd h
                        obtain ⟨h17, h⟩ := ifp h
                        obtain ⟨h18, h⟩ := ifp h
                        obtain ⟨v75, h19, h⟩ := bnd h
                        obtain ⟨h20, h⟩ := ifp h
                        obtain ⟨h21, h⟩ := ifp h
                        obtain ⟨v80, h22, h⟩ := bnd h
                        obtain ⟨h23, h⟩ := ifp h
                        obtain ⟨h24, h⟩ := ifp h
                        obtain ⟨v85, h25, h⟩ := bnd h
                        by_cases h26 : v6.1 = (((((((((⟨#[102, 97, 117, 108, 116, 32]⟩ : ByteArray) ++ v65) ++ (⟨#[32]⟩ : ByteArray)) ++ v70) ++ (⟨#[32]⟩ : ByteArray)) ++ v75) ++ (⟨#[32]⟩ : ByteArray)) ++ v80) ++ (⟨#[10]⟩ : ByteArray))
                        · rw [if_pos h26] at h
                          by_cases h27 : v6.2 = 0
                          · rw [if_pos h27] at h
                            by_cases h28 : v85.2.2.2.2 = 0
                            · rw [if_pos h28] at h
                              by_cases h29 : ((v85.1 == a0_0) && ((v85.2.1 == a0_1) && ((v85.2.2.1 == a0_2) && ((v85.2.2.2.1 == a0_3) && true)))) = true
                              · rw [if_pos h29] at h
                                obtain ⟨v109, h30, h⟩ := bnd h
                                obtain rfl := Option.some.inj h
                                exact Til.fin Tryd.func6 [(4, .b false), (6, ca (.tup [.c (.d (.str v6.1)), .c (.d (.int .i64 v6.2))])), (13, ca (.tup [.agg [.d (.int .i64 v13.1), .d (.int .i64 v13.2.1), .d (.int .i64 v13.2.2.1), .d (.int .i64 v13.2.2.2.1)], .c (.d (.int .i64 v13.2.2.2.2))])), (21, .b false), (24, .b false), (27, .b false), (31, .b false), (36, .b false), (41, .b false), (46, .b false), (51, .b false), (56, .b false), (61, .b false), (65, ca (.c (.d (.str v65)))), (70, ca (.c (.d (.str v70)))), (75, ca (.c (.d (.str v75)))), (80, ca (.c (.d (.str v80)))), (85, ca (.tup [.agg [.d (.int .i64 v85.1), .d (.int .i64 v85.2.1), .d (.int .i64 v85.2.2.1), .d (.int .i64 v85.2.2.2.1)], .c (.d (.int .i64 v85.2.2.2.2))])), (94, .b true), (97, .b true), (101, .b true), (106, .b true), (109, ca (.c (.d (.bool v109))))] (fun _ f => o (decide_eq_false h0) (o (report_Fault.does h1) (o (report_ReadFault.does h2) (o (beq_false_of_ne h3) (o (Bool.eq_false_iff.2 h4) (o (decide_eq_false h5) (o (decide_eq_false h6) (o (decide_eq_false h7) (o (decide_eq_false h8) (o (decide_eq_false h9) (o (decide_eq_false h10) (o (decide_eq_false h11) (o (decide_eq_false h12) (o (dendronlaw29_digits.does h13) (o h14 (o h15 (o (dendronlaw29_digits.does h16) (o h17 (o h18 (o (dendronlaw29_digits.does h19) (o h20 (o h21 (o (dendronlaw29_digits.does h22) (o h23 (o h24 (o (report_ReadFault.does h25) (o (str_t h26) (o (beq_iff_eq.2 h27) (o (beq_iff_eq.2 h28) (o h29 (o (dendronlaw29_awake.does h30) f))))))))))))))))))))))))))))))) (by kernel_rfl)
                              · rw [if_neg h29] at h
                                obtain rfl := Option.some.inj h
                                exact Til.fin Tryd.func6 [(4, .b false), (6, ca (.tup [.c (.d (.str v6.1)), .c (.d (.int .i64 v6.2))])), (13, ca (.tup [.agg [.d (.int .i64 v13.1), .d (.int .i64 v13.2.1), .d (.int .i64 v13.2.2.1), .d (.int .i64 v13.2.2.2.1)], .c (.d (.int .i64 v13.2.2.2.2))])), (21, .b false), (24, .b false), (27, .b false), (31, .b false), (36, .b false), (41, .b false), (46, .b false), (51, .b false), (56, .b false), (61, .b false), (65, ca (.c (.d (.str v65)))), (70, ca (.c (.d (.str v70)))), (75, ca (.c (.d (.str v75)))), (80, ca (.c (.d (.str v80)))), (85, ca (.tup [.agg [.d (.int .i64 v85.1), .d (.int .i64 v85.2.1), .d (.int .i64 v85.2.2.1), .d (.int .i64 v85.2.2.2.1)], .c (.d (.int .i64 v85.2.2.2.2))])), (94, .b true), (97, .b true), (101, .b true), (106, .b false)] (fun _ f => o (decide_eq_false h0) (o (report_Fault.does h1) (o (report_ReadFault.does h2) (o (beq_false_of_ne h3) (o (Bool.eq_false_iff.2 h4) (o (decide_eq_false h5) (o (decide_eq_false h6) (o (decide_eq_false h7) (o (decide_eq_false h8) (o (decide_eq_false h9) (o (decide_eq_false h10) (o (decide_eq_false h11) (o (decide_eq_false h12) (o (dendronlaw29_digits.does h13) (o h14 (o h15 (o (dendronlaw29_digits.does h16) (o h17 (o h18 (o (dendronlaw29_digits.does h19) (o h20 (o h21 (o (dendronlaw29_digits.does h22) (o h23 (o h24 (o (report_ReadFault.does h25) (o (str_t h26) (o (beq_iff_eq.2 h27) (o (beq_iff_eq.2 h28) (o (Bool.eq_false_iff.2 h29) f)))))))))))))))))))))))))))))) (by kernel_rfl)
                            · rw [if_neg h28] at h
                              obtain rfl := Option.some.inj h
                              exact Til.fin Tryd.func6 [(4, .b false), (6, ca (.tup [.c (.d (.str v6.1)), .c (.d (.int .i64 v6.2))])), (13, ca (.tup [.agg [.d (.int .i64 v13.1), .d (.int .i64 v13.2.1), .d (.int .i64 v13.2.2.1), .d (.int .i64 v13.2.2.2.1)], .c (.d (.int .i64 v13.2.2.2.2))])), (21, .b false), (24, .b false), (27, .b false), (31, .b false), (36, .b false), (41, .b false), (46, .b false), (51, .b false), (56, .b false), (61, .b false), (65, ca (.c (.d (.str v65)))), (70, ca (.c (.d (.str v70)))), (75, ca (.c (.d (.str v75)))), (80, ca (.c (.d (.str v80)))), (85, ca (.tup [.agg [.d (.int .i64 v85.1), .d (.int .i64 v85.2.1), .d (.int .i64 v85.2.2.1), .d (.int .i64 v85.2.2.2.1)], .c (.d (.int .i64 v85.2.2.2.2))])), (94, .b true), (97, .b true), (101, .b false)] (fun _ f => o (decide_eq_false h0) (o (report_Fault.does h1) (o (report_ReadFault.does h2) (o (beq_false_of_ne h3) (o (Bool.eq_false_iff.2 h4) (o (decide_eq_false h5) (o (decide_eq_false h6) (o (decide_eq_false h7) (o (decide_eq_false h8) (o (decide_eq_false h9) (o (decide_eq_false h10) (o (decide_eq_false h11) (o (decide_eq_false h12) (o (dendronlaw29_digits.does h13) (o h14 (o h15 (o (dendronlaw29_digits.does h16) (o h17 (o h18 (o (dendronlaw29_digits.does h19) (o h20 (o h21 (o (dendronlaw29_digits.does h22) (o h23 (o h24 (o (report_ReadFault.does h25) (o (str_t h26) (o (beq_iff_eq.2 h27) (o (beq_false_of_ne h28) f))))))))))))))))))))))))))))) (by kernel_rfl)
                          · rw [if_neg h27] at h
                            obtain rfl := Option.some.inj h
                            exact Til.fin Tryd.func6 [(4, .b false), (6, ca (.tup [.c (.d (.str v6.1)), .c (.d (.int .i64 v6.2))])), (13, ca (.tup [.agg [.d (.int .i64 v13.1), .d (.int .i64 v13.2.1), .d (.int .i64 v13.2.2.1), .d (.int .i64 v13.2.2.2.1)], .c (.d (.int .i64 v13.2.2.2.2))])), (21, .b false), (24, .b false), (27, .b false), (31, .b false), (36, .b false), (41, .b false), (46, .b false), (51, .b false), (56, .b false), (61, .b false), (65, ca (.c (.d (.str v65)))), (70, ca (.c (.d (.str v70)))), (75, ca (.c (.d (.str v75)))), (80, ca (.c (.d (.str v80)))), (85, ca (.tup [.agg [.d (.int .i64 v85.1), .d (.int .i64 v85.2.1), .d (.int .i64 v85.2.2.1), .d (.int .i64 v85.2.2.2.1)], .c (.d (.int .i64 v85.2.2.2.2))])), (94, .b true), (97, .b false)] (fun _ f => o (decide_eq_false h0) (o (report_Fault.does h1) (o (report_ReadFault.does h2) (o (beq_false_of_ne h3) (o (Bool.eq_false_iff.2 h4) (o (decide_eq_false h5) (o (decide_eq_false h6) (o (decide_eq_false h7) (o (decide_eq_false h8) (o (decide_eq_false h9) (o (decide_eq_false h10) (o (decide_eq_false h11) (o (decide_eq_false h12) (o (dendronlaw29_digits.does h13) (o h14 (o h15 (o (dendronlaw29_digits.does h16) (o h17 (o h18 (o (dendronlaw29_digits.does h19) (o h20 (o h21 (o (dendronlaw29_digits.does h22) (o h23 (o h24 (o (report_ReadFault.does h25) (o (str_t h26) (o (beq_false_of_ne h27) f)))))))))))))))))))))))))))) (by kernel_rfl)
                        · rw [if_neg h26] at h
                          obtain rfl := Option.some.inj h
                          exact Til.fin Tryd.func6 [(4, .b false), (6, ca (.tup [.c (.d (.str v6.1)), .c (.d (.int .i64 v6.2))])), (13, ca (.tup [.agg [.d (.int .i64 v13.1), .d (.int .i64 v13.2.1), .d (.int .i64 v13.2.2.1), .d (.int .i64 v13.2.2.2.1)], .c (.d (.int .i64 v13.2.2.2.2))])), (21, .b false), (24, .b false), (27, .b false), (31, .b false), (36, .b false), (41, .b false), (46, .b false), (51, .b false), (56, .b false), (61, .b false), (65, ca (.c (.d (.str v65)))), (70, ca (.c (.d (.str v70)))), (75, ca (.c (.d (.str v75)))), (80, ca (.c (.d (.str v80)))), (85, ca (.tup [.agg [.d (.int .i64 v85.1), .d (.int .i64 v85.2.1), .d (.int .i64 v85.2.2.1), .d (.int .i64 v85.2.2.2.1)], .c (.d (.int .i64 v85.2.2.2.2))])), (94, .b false)] (fun _ f => o (decide_eq_false h0) (o (report_Fault.does h1) (o (report_ReadFault.does h2) (o (beq_false_of_ne h3) (o (Bool.eq_false_iff.2 h4) (o (decide_eq_false h5) (o (decide_eq_false h6) (o (decide_eq_false h7) (o (decide_eq_false h8) (o (decide_eq_false h9) (o (decide_eq_false h10) (o (decide_eq_false h11) (o (decide_eq_false h12) (o (dendronlaw29_digits.does h13) (o h14 (o h15 (o (dendronlaw29_digits.does h16) (o h17 (o h18 (o (dendronlaw29_digits.does h19) (o h20 (o h21 (o (dendronlaw29_digits.does h22) (o h23 (o h24 (o (report_ReadFault.does h25) (o (str_f h26) f))))))))))))))))))))))))))) (by kernel_rfl)

def c41 (x : Int × Int × Int × Int) : List Dat := [.int .i64 x.1, .int .i64 x.2.1, .int .i64 x.2.2.1, .int .i64 x.2.2.2]
def L41 (xs : List (Int × Int × Int × Int)) : Dat := fr 4 c41 (0, 0, 0, 0) xs
def Z41 (xs : List (Int × Int × Int × Int)) : Sup := .r xs.length (enc c41 (0, 0, 0, 0) xs)
def O41 (k : RK) (xs : List (Int × Int × Int × Int)) : Ob := .row k 41 4 xs.length (enc c41 (0, 0, 0, 0) xs)

def c24 (x : Int) : List Dat := [.int .i64 x]
def L24 (xs : List Int) : Dat := fr 1 c24 0 xs
def Z24 (xs : List Int) : Sup := .r xs.length (enc c24 0 xs)
def O24 (k : RK) (xs : List Int) : Ob := .row k 24 1 xs.length (enc c24 0 xs)

def c3 (x : Int) : List Dat := [.int .i64 x]
def L3 (xs : List Int) : Dat := fr 1 c3 0 xs
def Z3 (xs : List Int) : Sup := .r xs.length (enc c3 0 xs)
def O3 (k : RK) (xs : List Int) : Ob := .row k 3 1 xs.length (enc c3 0 xs)

def c9 (x : ByteArray) : List Dat := [.str x]
def L9 (xs : List ByteArray) : Dat := fr 1 c9 ByteArray.empty xs
def Z9 (xs : List ByteArray) : Sup := .r xs.length (enc c9 ByteArray.empty xs)
def O9 (k : RK) (xs : List ByteArray) : Ob := .row k 9 1 xs.length (enc c9 ByteArray.empty xs)

end Go.DI
