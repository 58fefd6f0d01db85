/- The code of the functions does what is told of it, part 2. No condition. -/
import Derived.Test.YtjpkpmkohcdcbaaDoorWModelReads1
set_option linter.all false
namespace Go.DI
open Go Go.RowKit Go.Proofs
set_option linter.unusedVariables false
set_option maxRecDepth 20000
theorem dendronlaw07_ModelReads.does {k : Nat} {a0 : ByteArray} {r : Bool} (h : dendronlaw07_ModelReads.f k a0 = some r) :
    Does Tryd.prog 6 [.c (.d (.str a0))] [] (.c (.d (.bool r))) none [] := by
  refine does_fn Tryd.func6 (by kernel_rfl) rfl rfl ?_
  unfold dendronlaw07_ModelReads.f at h
  by_cases h0 : (a0.size : Int) > 4000
  · rw [if_pos h0] at h
    obtain ⟨h1, h⟩ := ifp h
    obtain ⟨v8, h2, h⟩ := bnd h
    obtain ⟨v17, h3, h⟩ := bnd h
    by_cases h4 : ((v8.2.2.1 == v17.2.2.1) && ((v8.2.2.2.1 == v17.2.2.2.1) && ((v8.2.2.2.2.1 == v17.2.2.2.2.1) && ((v8.2.2.2.2.2 == v17.2.2.2.2.2) && true)))) = true
    · rw [if_pos h4] at h
      obtain ⟨v31, h5, h⟩ := bnd h
      cases v31
      · rw [if_neg (by decide)] at h
        obtain rfl := Option.some.inj h
        exact Til.fin Tryd.func6 [(3, .b true), (8, ca (.tup [.agg [.d (.int .i64 v8.1), .d (L38 v8.2.1)], .agg [.d (.int .i64 v8.2.2.1), .d (.int .i64 v8.2.2.2.1), .d (.int .i64 v8.2.2.2.2.1), .d (.int .i64 v8.2.2.2.2.2)]])), (17, ca (.tup [.agg [.d (.int .i64 v17.1), .d (L38 v17.2.1)], .agg [.d (.int .i64 v17.2.2.1), .d (.int .i64 v17.2.2.2.1), .d (.int .i64 v17.2.2.2.2.1), .d (.int .i64 v17.2.2.2.2.2)]])), (27, .b true), (31, ca (.c (.d (.bool false))))] (fun _ f => o (decide_eq_true h0) (o (o (nn 4000) h1) (o (model_Read.does h2) (o (dendronlaw07_parse.does h3) (o h4 (o (dendronref07_Same.does h5) f)))))) (by kernel_rfl)
      · rw [if_pos rfl] at h
        obtain ⟨v34, h7, h⟩ := bnd h
        obtain rfl := Option.some.inj h
        exact Til.fin Tryd.func6 [(3, .b true), (8, ca (.tup [.agg [.d (.int .i64 v8.1), .d (L38 v8.2.1)], .agg [.d (.int .i64 v8.2.2.1), .d (.int .i64 v8.2.2.2.1), .d (.int .i64 v8.2.2.2.2.1), .d (.int .i64 v8.2.2.2.2.2)]])), (17, ca (.tup [.agg [.d (.int .i64 v17.1), .d (L38 v17.2.1)], .agg [.d (.int .i64 v17.2.2.1), .d (.int .i64 v17.2.2.2.1), .d (.int .i64 v17.2.2.2.2.1), .d (.int .i64 v17.2.2.2.2.2)]])), (27, .b true), (31, ca (.c (.d (.bool true)))), (34, ca (.c (.d (.bool v34))))] (fun _ f => o (decide_eq_true h0) (o (o (nn 4000) h1) (o (model_Read.does h2) (o (dendronlaw07_parse.does h3) (o h4 (o (dendronref07_Same.does h5) (o (dendronlaw07_awake.does h7) f))))))) (by kernel_rfl)
    · rw [if_neg h4] at h
      obtain rfl := Option.some.inj h
      exact Til.fin Tryd.func6 [(3, .b true), (8, ca (.tup [.agg [.d (.int .i64 v8.1), .d (L38 v8.2.1)], .agg [.d (.int .i64 v8.2.2.1), .d (.int .i64 v8.2.2.2.1), .d (.int .i64 v8.2.2.2.2.1), .d (.int .i64 v8.2.2.2.2.2)]])), (17, ca (.tup [.agg [.d (.int .i64 v17.1), .d (L38 v17.2.1)], .agg [.d (.int .i64 v17.2.2.1), .d (.int .i64 v17.2.2.2.1), .d (.int .i64 v17.2.2.2.2.1), .d (.int .i64 v17.2.2.2.2.2)]])), (27, .b false)] (fun _ f => o (decide_eq_true h0) (o (o (nn 4000) h1) (o (model_Read.does h2) (o (dendronlaw07_parse.does h3) (o (Bool.eq_false_iff.2 h4) f))))) (by kernel_rfl)
  · rw [if_neg h0] at h
    obtain ⟨v5, h1, h⟩ := bnd h
    obtain ⟨v14, h2, h⟩ := bnd h
    by_cases h3 : ((v5.2.2.1 == v14.2.2.1) && ((v5.2.2.2.1 == v14.2.2.2.1) && ((v5.2.2.2.2.1 == v14.2.2.2.2.1) && ((v5.2.2.2.2.2 == v14.2.2.2.2.2) && true)))) = true
    · rw [if_pos h3] at h
      obtain ⟨v28, h4, h⟩ := bnd h
      cases v28
      · rw [if_neg (by decide)] at h
        obtain rfl := Option.some.inj h
        exact Til.fin Tryd.func6 [(3, .b false), (5, ca (.tup [.agg [.d (.int .i64 v5.1), .d (L38 v5.2.1)], .agg [.d (.int .i64 v5.2.2.1), .d (.int .i64 v5.2.2.2.1), .d (.int .i64 v5.2.2.2.2.1), .d (.int .i64 v5.2.2.2.2.2)]])), (14, ca (.tup [.agg [.d (.int .i64 v14.1), .d (L38 v14.2.1)], .agg [.d (.int .i64 v14.2.2.1), .d (.int .i64 v14.2.2.2.1), .d (.int .i64 v14.2.2.2.2.1), .d (.int .i64 v14.2.2.2.2.2)]])), (24, .b true), (28, ca (.c (.d (.bool false))))] (fun _ f => o (decide_eq_false h0) (o (model_Read.does h1) (o (dendronlaw07_parse.does h2) (o h3 (o (dendronref07_Same.does h4) f))))) (by kernel_rfl)
      · rw [if_pos rfl] at h
        obtain ⟨v31, h6, h⟩ := bnd h
        obtain rfl := Option.some.inj h
        exact Til.fin Tryd.func6 [(3, .b false), (5, ca (.tup [.agg [.d (.int .i64 v5.1), .d (L38 v5.2.1)], .agg [.d (.int .i64 v5.2.2.1), .d (.int .i64 v5.2.2.2.1), .d (.int .i64 v5.2.2.2.2.1), .d (.int .i64 v5.2.2.2.2.2)]])), (14, ca (.tup [.agg [.d (.int .i64 v14.1), .d (L38 v14.2.1)], .agg [.d (.int .i64 v14.2.2.1), .d (.int .i64 v14.2.2.2.1), .d (.int .i64 v14.2.2.2.2.1), .d (.int .i64 v14.2.2.2.2.2)]])), (24, .b true), (28, ca (.c (.d (.bool true)))), (31, ca (.c (.d (.bool v31))))] (fun _ f => o (decide_eq_false h0) (o (model_Read.does h1) (o (dendronlaw07_parse.does h2) (o h3 (o (dendronref07_Same.does h4) (o (dendronlaw07_awake.does h6) f)))))) (by kernel_rfl)
    · rw [if_neg h3] at h
      obtain rfl := Option.some.inj h
      exact Til.fin Tryd.func6 [(3, .b false), (5, ca (.tup [.agg [.d (.int .i64 v5.1), .d (L38 v5.2.1)], .agg [.d (.int .i64 v5.2.2.1), .d (.int .i64 v5.2.2.2.1), .d (.int .i64 v5.2.2.2.2.1), .d (.int .i64 v5.2.2.2.2.2)]])), (14, ca (.tup [.agg [.d (.int .i64 v14.1), .d (L38 v14.2.1)], .agg [.d (.int .i64 v14.2.2.1), .d (.int .i64 v14.2.2.2.1), .d (.int .i64 v14.2.2.2.2.1), .d (.int .i64 v14.2.2.2.2.2)]])), (24, .b false)] (fun _ f => o (decide_eq_false h0) (o (model_Read.does h1) (o (dendronlaw07_parse.does h2) (o (Bool.eq_false_iff.2 h3) f)))) (by kernel_rfl)

end Go.DI
