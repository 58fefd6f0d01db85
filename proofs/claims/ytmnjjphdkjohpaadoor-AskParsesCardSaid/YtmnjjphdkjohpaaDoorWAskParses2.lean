/- The code of the functions does what is told of it, part 2. No condition. -/
import Derived.Test.YtmnjjphdkjohpaaDoorWAskParses1
set_option linter.all false
namespace Go.DI
open Go Go.RowKit Go.Proofs
set_option linter.unusedVariables false
set_option maxRecDepth 20000
def dendronlaw28_parse.l0E (x5 : List (Int × Int × ByteArray)) (x11 : List (List (Int × Int × ByteArray))) (x12 : Int) (x17 : Int) (b2_0 : Int) (b2_1 : Int) (b8_0 : Int) (b8_1 : Int) (b8_2 : List (Bool × Bool × List Int × List Int)) (b8_4 : List (Bool × Bool × List Int × List Int)) : Env := [(2, .c (.ptr 2 0)), (5, .c (.d (L54 x5))), (8, .c (.ptr 8 0)), (11, .c (.d (L50 x11))), (12, .c (.d (.int .i64 x12))), (17, .c (.d (.int .i64 x17)))]
def dendronlaw28_parse.l0B (x5 : List (Int × Int × ByteArray)) (x11 : List (List (Int × Int × ByteArray))) (x12 : Int) (x17 : Int) (b2_0 : Int) (b2_1 : Int) (b8_0 : Int) (b8_1 : Int) (b8_2 : List (Bool × Bool × List Int × List Int)) (b8_4 : List (Bool × Bool × List Int × List Int)) : Obs := [(2, some (.box [.d (.int .i64 b2_0), .d (.int .i64 b2_1), .nils, .nils, .nils])), (8, some (.box [.d (.int .i64 b8_0), .d (.int .i64 b8_1), .d (L43 b8_2), .nils, .d (L43 b8_4)]))]
def dendronlaw28_parse.l1E (x11 : List (List (Int × Int × ByteArray))) (x18 : Int) (b2_0 : Int) (b2_1 : Int) (b8_0 : Int) (b8_1 : Int) (b8_2 : List (Bool × Bool × List Int × List Int)) (b8_3 : List (List (Bool × Bool × List Int × List Int))) (b8_4 : List (Bool × Bool × List Int × List Int)) : Env := [(2, .c (.ptr 2 0)), (8, .c (.ptr 8 0)), (11, .c (.d (L50 x11))), (18, .c (.d (.int .i64 x18)))]
def dendronlaw28_parse.l1B (x11 : List (List (Int × Int × ByteArray))) (x18 : Int) (b2_0 : Int) (b2_1 : Int) (b8_0 : Int) (b8_1 : Int) (b8_2 : List (Bool × Bool × List Int × List Int)) (b8_3 : List (List (Bool × Bool × List Int × List Int))) (b8_4 : List (Bool × Bool × List Int × List Int)) : Obs := [(2, some (.box [.d (.int .i64 b2_0), .d (.int .i64 b2_1), .nils, .nils, .nils])), (8, some (.box [.d (.int .i64 b8_0), .d (.int .i64 b8_1), .d (L43 b8_2), .own 1009003, .d (L43 b8_4)])), (1009003, some (O22 .own b8_3))]
theorem dendronlaw28_parse.w (k : Nat) : (∀  (x5 : List (Int × Int × ByteArray)) (x11 : List (List (Int × Int × ByteArray))) (x12 : Int) (x17 : Int) (b2_0 : Int) (b2_1 : Int) (b8_0 : Int) (b8_1 : Int) (b8_2 : List (Bool × Bool × List Int × List Int)) (b8_4 : List (Bool × Bool × List Int × List Int)) (r : Int × Int × List (Bool × Bool × List Int × List Int) × List (List (Bool × Bool × List Int × List Int)) × List (Bool × Bool × List Int × List Int) × Int × Int), dendronlaw28_parse.l0 k x5 x11 x12 x17 b2_0 b2_1 b8_0 b8_1 b8_2 b8_4 = some r → Til Tryd.prog 8 [] (.tup [.agg [.d (.int .i64 r.1), .d (.int .i64 r.2.1), .d (L43 r.2.2.1), .d (L22 r.2.2.2.1), .d (L43 r.2.2.2.2.1)], .c (.d (.int .i64 r.2.2.2.2.2.1)), .c (.d (.int .i64 r.2.2.2.2.2.2))]) none [] (at_ Tryd.f8 33) (dendronlaw28_parse.l0E x5 x11 x12 x17 b2_0 b2_1 b8_0 b8_1 b8_2 b8_4) (dendronlaw28_parse.l0B x5 x11 x12 x17 b2_0 b2_1 b8_0 b8_1 b8_2 b8_4)) ∧
    (∀  (x11 : List (List (Int × Int × ByteArray))) (x18 : Int) (b2_0 : Int) (b2_1 : Int) (b8_0 : Int) (b8_1 : Int) (b8_2 : List (Bool × Bool × List Int × List Int)) (b8_3 : List (List (Bool × Bool × List Int × List Int))) (b8_4 : List (Bool × Bool × List Int × List Int)) (r : Int × Int × List (Bool × Bool × List Int × List Int) × List (List (Bool × Bool × List Int × List Int)) × List (Bool × Bool × List Int × List Int) × Int × Int), dendronlaw28_parse.l1 k x11 x18 b2_0 b2_1 b8_0 b8_1 b8_2 b8_3 b8_4 = some r → Til Tryd.prog 8 [] (.tup [.agg [.d (.int .i64 r.1), .d (.int .i64 r.2.1), .d (L43 r.2.2.1), .d (L22 r.2.2.2.1), .d (L43 r.2.2.2.2.1)], .c (.d (.int .i64 r.2.2.2.2.2.1)), .c (.d (.int .i64 r.2.2.2.2.2.2))]) none [] (at_ Tryd.f8 38) (dendronlaw28_parse.l1E x11 x18 b2_0 b2_1 b8_0 b8_1 b8_2 b8_3 b8_4) (dendronlaw28_parse.l1B x11 x18 b2_0 b2_1 b8_0 b8_1 b8_2 b8_3 b8_4)) := by
  induction k with
  | zero =>
    exact ⟨fun _ _ _ _ _ _ _ _ _ _ _ h => (by cases h), fun _ _ _ _ _ _ _ _ _ _ h => (by cases h)⟩
  | succ k ih =>
    refine ⟨?_, ?_⟩
    · intro x5 x11 x12 x17 b2_0 b2_1 b8_0 b8_1 b8_2 b8_4 r h
      rw [dendronlaw28_parse.l0] at h
      by_cases h0 : x17 < (x5.length : Int)
      · rw [if_pos h0] at h
        by_cases h1 : x12 = 0
        · rw [if_pos h1] at h
          obtain ⟨h2, h⟩ := ifp h
          obtain rfl := Option.some.inj h
          exact Til.fin Tryd.func8 [(3, .b true), (5, .b true)] (fun _ f => o (decide_eq_true h0) (o (beq_iff_eq.2 h1) (o (o h2 h0) f))) (by kernel_rfl)
        · rw [if_neg h1] at h
          obtain ⟨h2, h⟩ := ifp h
          by_cases h3 : (gt (0, 0, ByteArray.empty) x5 x17).2.2 = (⟨#[124]⟩ : ByteArray)
          · rw [if_pos h3] at h
            obtain rfl := Option.some.inj h
            exact Til.fin Tryd.func8 [(3, .b true), (5, .b false), (12, .b true)] (fun _ f => o (decide_eq_true h0) (o (beq_false_of_ne h1) (o (o h2 h0) (o (str_t h3) (o (o h2 h0) f))))) (by kernel_rfl)
          · rw [if_neg h3] at h
            exact Til.mid Tryd.func8 33 [(3, .b true), (5, .b false), (12, .b false)] (fun _ f => o (decide_eq_true h0) (o (beq_false_of_ne h1) (o (o h2 h0) (o (str_f h3) f)))) (by kernel_rfl) (ih.1 _ _ _ _ _ _ _ _ _ _ _ h)
      · rw [if_neg h0] at h
        exact Til.mid Tryd.func8 38 [(3, .b false)] (fun _ f => o (decide_eq_false h0) f) (by kernel_rfl) (ih.2 _ _ _ _ _ _ _ _ _ _ h)
    · intro x11 x18 b2_0 b2_1 b8_0 b8_1 b8_2 b8_3 b8_4 r h
      rw [dendronlaw28_parse.l1] at h
      by_cases h0 : x18 < (x11.length : Int)
      · rw [if_pos h0] at h
        obtain ⟨h1, h⟩ := ifp h
        obtain ⟨v8, h2, h⟩ := bnd h
        by_cases h3 : v8.2.2 ≠ 0
        · rw [if_pos h3] at h
          obtain rfl := Option.some.inj h
          exact Til.fin Tryd.func8 [(3, .b true), (8, ca (.tup [.c (.d (L43 v8.1)), .c (.d (.int .i64 v8.2.1)), .c (.d (.int .i64 v8.2.2))])), (17, .b true)] (fun _ f => o (decide_eq_true h0) (o (o h1 h0) (o (rows_Words.does h2) (o (bne_iff_ne.2 h3) f)))) (by kernel_rfl)
        · rw [if_neg h3] at h
          obtain ⟨h4, h⟩ := ifp h
          exact Til.mid Tryd.func8 38 [(3, .b true), (8, ca (.tup [.c (.d (L43 v8.1)), .c (.d (.int .i64 v8.2.1)), .c (.d (.int .i64 v8.2.2))])), (17, .b false), (21, Z22 ([v8.1] : List (List (Bool × Bool × List Int × List Int)))), (22, Z22 (b8_3 ++ [v8.1]))] (fun _ f => o (decide_eq_true h0) (o (o h1 h0) (o (rows_Words.does h2) (o (ne_f h3) (o (lit_ok c22 [] ([v8.1] : List (List (Bool × Bool × List Int × List Int)))) (o (app1 c22 [] b8_3 v8.1 24 5864062014805 (by decide) h4) f)))))) (by kernel_rfl) (ih.2 _ _ _ _ _ _ _ _ _ _ h)
      · rw [if_neg h0] at h
        obtain rfl := Option.some.inj h
        exact Til.fin Tryd.func8 [(3, .b false)] (fun _ f => o (decide_eq_false h0) f) (by kernel_rfl)
theorem dendronlaw28_parse.does {k : Nat} {a0 : ByteArray} {r : Int × Int × List (Bool × Bool × List Int × List Int) × List (List (Bool × Bool × List Int × List Int)) × List (Bool × Bool × List Int × List Int) × Int × Int} (h : dendronlaw28_parse.f k a0 = some r) :
    Does Tryd.prog 8 [.c (.d (.str a0))] [] (.tup [.agg [.d (.int .i64 r.1), .d (.int .i64 r.2.1), .d (L43 r.2.2.1), .d (L22 r.2.2.2.1), .d (L43 r.2.2.2.2.1)], .c (.d (.int .i64 r.2.2.2.2.2.1)), .c (.d (.int .i64 r.2.2.2.2.2.2))]) none [] := by
  refine does_fn Tryd.func8 (by kernel_rfl) rfl rfl ?_
  unfold dendronlaw28_parse.f at h
  have ih := dendronlaw28_parse.w k
  obtain ⟨v4, h0, h⟩ := bnd h
  by_cases h1 : v4.2.2 ≠ 0
  · rw [if_pos h1] at h
    obtain rfl := Option.some.inj h
    exact Til.fin Tryd.func8 [(4, ca (.tup [.c (.d (L54 v4.1)), .c (.d (.int .i64 v4.2.1)), .c (.d (.int .i64 v4.2.2))])), (13, .b true)] (fun _ f => o (lex_Words.does h0) (o (bne_iff_ne.2 h1) f)) (by kernel_rfl)
  · rw [if_neg h1] at h
    by_cases h2 : (v4.1.length : Int) = 0
    · rw [if_pos h2] at h
      obtain rfl := Option.some.inj h
      exact Til.fin Tryd.func8 [(4, ca (.tup [.c (.d (L54 v4.1)), .c (.d (.int .i64 v4.2.1)), .c (.d (.int .i64 v4.2.2))])), (13, .b false), (16, .b true)] (fun _ f => o (lex_Words.does h0) (o (ne_f h1) (o (beq_iff_eq.2 h2) f))) (by kernel_rfl)
    · rw [if_neg h2] at h
      obtain ⟨h3, h⟩ := ifp h
      obtain ⟨v21, h4, h⟩ := bnd h
      by_cases h5 : v21 = 0
      · rw [if_pos h5] at h
        obtain rfl := Option.some.inj h
        exact Til.fin Tryd.func8 [(4, ca (.tup [.c (.d (L54 v4.1)), .c (.d (.int .i64 v4.2.1)), .c (.d (.int .i64 v4.2.2))])), (13, .b false), (16, .b false), (21, ca (.c (.d (.int .i64 v21)))), (27, .b true)] (fun _ f => o (lex_Words.does h0) (o (ne_f h1) (o (beq_false_of_ne h2) (o (o (nn 0) h3) (o (dendronlaw28_kind.does h4) (o (beq_iff_eq.2 h5) (o (o (nn 0) h3) f))))))) (by kernel_rfl)
      · rw [if_neg h5] at h
        obtain ⟨h6, h⟩ := ifp h
        obtain ⟨v33, h7, h⟩ := bnd h
        cases v33
        · rw [if_neg (by decide)] at h
          obtain ⟨v35, h9, h⟩ := bnd h
          obtain ⟨v40, h10, h⟩ := bnd h
          cases v40
          · rw [if_neg (by decide)] at h
            obtain ⟨v44, h12, h⟩ := bnd h
            cases v44
            · rw [if_neg (by decide)] at h
              obtain ⟨v48, h14, h⟩ := bnd h
              cases v48
              · rw [if_neg (by decide)] at h
                by_cases h16 : 0 < (v35.length : Int)
                · rw [if_pos h16] at h
                  exact Til.mid Tryd.func8 33 [(4, ca (.tup [.c (.d (L54 v4.1)), .c (.d (.int .i64 v4.2.1)), .c (.d (.int .i64 v4.2.2))])), (13, .b false), (16, .b false), (21, ca (.c (.d (.int .i64 v21)))), (27, .b false), (29, Z54 (v4.1.drop 1)), (33, ca (.c (.d (.bool false)))), (35, ca (.c (.d (L50 v35)))), (40, ca (.c (.d (.bool false)))), (44, ca (.c (.d (.bool false)))), (48, ca (.c (.d (.bool false)))), (54, .b true)] (fun _ f => o (lex_Words.does h0) (o (ne_f h1) (o (beq_false_of_ne h2) (o (o (nn 0) h3) (o (dendronlaw28_kind.does h4) (o (beq_false_of_ne h5) (o (drop_ok c54 (0, 0, ByteArray.empty) v4.1 (nn 1) h6) (o (dendronlaw28_feature.does h7) (o (dendronlaw28_cut.does h9) (o (dendronlaw28_row.does h10) (o (dendronlaw28_grid.does h12) (o (dendronlaw28_many.does h14) (o (decide_eq_true h16) f))))))))))))) (by kernel_rfl) (ih.1 _ _ _ _ _ _ _ _ _ _ _ h)
                · rw [if_neg h16] at h
                  exact Til.mid Tryd.func8 38 [(4, ca (.tup [.c (.d (L54 v4.1)), .c (.d (.int .i64 v4.2.1)), .c (.d (.int .i64 v4.2.2))])), (13, .b false), (16, .b false), (21, ca (.c (.d (.int .i64 v21)))), (27, .b false), (29, Z54 (v4.1.drop 1)), (33, ca (.c (.d (.bool false)))), (35, ca (.c (.d (L50 v35)))), (40, ca (.c (.d (.bool false)))), (44, ca (.c (.d (.bool false)))), (48, ca (.c (.d (.bool false)))), (54, .b false)] (fun _ f => o (lex_Words.does h0) (o (ne_f h1) (o (beq_false_of_ne h2) (o (o (nn 0) h3) (o (dendronlaw28_kind.does h4) (o (beq_false_of_ne h5) (o (drop_ok c54 (0, 0, ByteArray.empty) v4.1 (nn 1) h6) (o (dendronlaw28_feature.does h7) (o (dendronlaw28_cut.does h9) (o (dendronlaw28_row.does h10) (o (dendronlaw28_grid.does h12) (o (dendronlaw28_many.does h14) (o (decide_eq_false h16) f))))))))))))) (by kernel_rfl) (ih.2 _ _ _ _ _ _ _ _ _ _ h)
              · rw [if_pos rfl] at h
                exact Til.mid Tryd.func8 38 [(4, ca (.tup [.c (.d (L54 v4.1)), .c (.d (.int .i64 v4.2.1)), .c (.d (.int .i64 v4.2.2))])), (13, .b false), (16, .b false), (21, ca (.c (.d (.int .i64 v21)))), (27, .b false), (29, Z54 (v4.1.drop 1)), (33, ca (.c (.d (.bool false)))), (35, ca (.c (.d (L50 v35)))), (40, ca (.c (.d (.bool false)))), (44, ca (.c (.d (.bool false)))), (48, ca (.c (.d (.bool true))))] (fun _ f => o (lex_Words.does h0) (o (ne_f h1) (o (beq_false_of_ne h2) (o (o (nn 0) h3) (o (dendronlaw28_kind.does h4) (o (beq_false_of_ne h5) (o (drop_ok c54 (0, 0, ByteArray.empty) v4.1 (nn 1) h6) (o (dendronlaw28_feature.does h7) (o (dendronlaw28_cut.does h9) (o (dendronlaw28_row.does h10) (o (dendronlaw28_grid.does h12) (o (dendronlaw28_many.does h14) f)))))))))))) (by kernel_rfl) (ih.2 _ _ _ _ _ _ _ _ _ _ h)
            · rw [if_pos rfl] at h
              by_cases h14 : (v35.length : Int) > 0
              · rw [if_pos h14] at h
                obtain ⟨v56, h15, h⟩ := bnd h
                by_cases h16 : v56.2.2 ≠ 0
                · rw [if_pos h16] at h
                  obtain rfl := Option.some.inj h
                  exact Til.fin Tryd.func8 [(4, ca (.tup [.c (.d (L54 v4.1)), .c (.d (.int .i64 v4.2.1)), .c (.d (.int .i64 v4.2.2))])), (13, .b false), (16, .b false), (21, ca (.c (.d (.int .i64 v21)))), (27, .b false), (29, Z54 (v4.1.drop 1)), (33, ca (.c (.d (.bool false)))), (35, ca (.c (.d (L50 v35)))), (40, ca (.c (.d (.bool false)))), (44, ca (.c (.d (.bool true)))), (49, .b true), (56, ca (.tup [.c (.d (L43 v56.1)), .c (.d (.int .i64 v56.2.1)), .c (.d (.int .i64 v56.2.2))])), (65, .b true)] (fun _ f => o (lex_Words.does h0) (o (ne_f h1) (o (beq_false_of_ne h2) (o (o (nn 0) h3) (o (dendronlaw28_kind.does h4) (o (beq_false_of_ne h5) (o (drop_ok c54 (0, 0, ByteArray.empty) v4.1 (nn 1) h6) (o (dendronlaw28_feature.does h7) (o (dendronlaw28_cut.does h9) (o (dendronlaw28_row.does h10) (o (dendronlaw28_grid.does h12) (o (decide_eq_true h14) (o (o (nn 0) h14) (o (rows_Words.does h15) (o (bne_iff_ne.2 h16) f))))))))))))))) (by kernel_rfl)
                · rw [if_neg h16] at h
                  obtain ⟨v68, h17, h⟩ := bnd h
                  cases v68
                  · rw [if_neg (by decide)] at h
                    obtain ⟨v74, h19, h⟩ := bnd h
                    cases v74
                    · rw [if_neg (by decide)] at h
                      by_cases h21 : 1 < (v35.length : Int)
                      · rw [if_pos h21] at h
                        exact Til.mid Tryd.func8 33 [(4, ca (.tup [.c (.d (L54 v4.1)), .c (.d (.int .i64 v4.2.1)), .c (.d (.int .i64 v4.2.2))])), (13, .b false), (16, .b false), (21, ca (.c (.d (.int .i64 v21)))), (27, .b false), (29, Z54 (v4.1.drop 1)), (33, ca (.c (.d (.bool false)))), (35, ca (.c (.d (L50 v35)))), (40, ca (.c (.d (.bool false)))), (44, ca (.c (.d (.bool true)))), (49, .b true), (56, ca (.tup [.c (.d (L43 v56.1)), .c (.d (.int .i64 v56.2.1)), .c (.d (.int .i64 v56.2.2))])), (65, .b false), (68, ca (.c (.d (.bool false)))), (74, ca (.c (.d (.bool false)))), (80, .b true)] (fun _ f => o (lex_Words.does h0) (o (ne_f h1) (o (beq_false_of_ne h2) (o (o (nn 0) h3) (o (dendronlaw28_kind.does h4) (o (beq_false_of_ne h5) (o (drop_ok c54 (0, 0, ByteArray.empty) v4.1 (nn 1) h6) (o (dendronlaw28_feature.does h7) (o (dendronlaw28_cut.does h9) (o (dendronlaw28_row.does h10) (o (dendronlaw28_grid.does h12) (o (decide_eq_true h14) (o (o (nn 0) h14) (o (rows_Words.does h15) (o (ne_f h16) (o (dendronlaw28_row.does h17) (o (dendronlaw28_many.does h19) (o (decide_eq_true h21) f)))))))))))))))))) (by kernel_rfl) (ih.1 _ _ _ _ _ _ _ _ _ _ _ h)
                      · rw [if_neg h21] at h
                        exact Til.mid Tryd.func8 38 [(4, ca (.tup [.c (.d (L54 v4.1)), .c (.d (.int .i64 v4.2.1)), .c (.d (.int .i64 v4.2.2))])), (13, .b false), (16, .b false), (21, ca (.c (.d (.int .i64 v21)))), (27, .b false), (29, Z54 (v4.1.drop 1)), (33, ca (.c (.d (.bool false)))), (35, ca (.c (.d (L50 v35)))), (40, ca (.c (.d (.bool false)))), (44, ca (.c (.d (.bool true)))), (49, .b true), (56, ca (.tup [.c (.d (L43 v56.1)), .c (.d (.int .i64 v56.2.1)), .c (.d (.int .i64 v56.2.2))])), (65, .b false), (68, ca (.c (.d (.bool false)))), (74, ca (.c (.d (.bool false)))), (80, .b false)] (fun _ f => o (lex_Words.does h0) (o (ne_f h1) (o (beq_false_of_ne h2) (o (o (nn 0) h3) (o (dendronlaw28_kind.does h4) (o (beq_false_of_ne h5) (o (drop_ok c54 (0, 0, ByteArray.empty) v4.1 (nn 1) h6) (o (dendronlaw28_feature.does h7) (o (dendronlaw28_cut.does h9) (o (dendronlaw28_row.does h10) (o (dendronlaw28_grid.does h12) (o (decide_eq_true h14) (o (o (nn 0) h14) (o (rows_Words.does h15) (o (ne_f h16) (o (dendronlaw28_row.does h17) (o (dendronlaw28_many.does h19) (o (decide_eq_false h21) f)))))))))))))))))) (by kernel_rfl) (ih.2 _ _ _ _ _ _ _ _ _ _ h)
                    · rw [if_pos rfl] at h
                      exact Til.mid Tryd.func8 38 [(4, ca (.tup [.c (.d (L54 v4.1)), .c (.d (.int .i64 v4.2.1)), .c (.d (.int .i64 v4.2.2))])), (13, .b false), (16, .b false), (21, ca (.c (.d (.int .i64 v21)))), (27, .b false), (29, Z54 (v4.1.drop 1)), (33, ca (.c (.d (.bool false)))), (35, ca (.c (.d (L50 v35)))), (40, ca (.c (.d (.bool false)))), (44, ca (.c (.d (.bool true)))), (49, .b true), (56, ca (.tup [.c (.d (L43 v56.1)), .c (.d (.int .i64 v56.2.1)), .c (.d (.int .i64 v56.2.2))])), (65, .b false), (68, ca (.c (.d (.bool false)))), (74, ca (.c (.d (.bool true))))] (fun _ f => o (lex_Words.does h0) (o (ne_f h1) (o (beq_false_of_ne h2) (o (o (nn 0) h3) (o (dendronlaw28_kind.does h4) (o (beq_false_of_ne h5) (o (drop_ok c54 (0, 0, ByteArray.empty) v4.1 (nn 1) h6) (o (dendronlaw28_feature.does h7) (o (dendronlaw28_cut.does h9) (o (dendronlaw28_row.does h10) (o (dendronlaw28_grid.does h12) (o (decide_eq_true h14) (o (o (nn 0) h14) (o (rows_Words.does h15) (o (ne_f h16) (o (dendronlaw28_row.does h17) (o (dendronlaw28_many.does h19) f))))))))))))))))) (by kernel_rfl) (ih.2 _ _ _ _ _ _ _ _ _ _ h)
                  · rw [if_pos rfl] at h
                    obtain ⟨v74, h19, h⟩ := bnd h
                    cases v74
                    · rw [if_neg (by decide)] at h
                      by_cases h21 : 1 < (v35.length : Int)
                      · rw [if_pos h21] at h
                        exact Til.mid Tryd.func8 33 [(4, ca (.tup [.c (.d (L54 v4.1)), .c (.d (.int .i64 v4.2.1)), .c (.d (.int .i64 v4.2.2))])), (13, .b false), (16, .b false), (21, ca (.c (.d (.int .i64 v21)))), (27, .b false), (29, Z54 (v4.1.drop 1)), (33, ca (.c (.d (.bool false)))), (35, ca (.c (.d (L50 v35)))), (40, ca (.c (.d (.bool false)))), (44, ca (.c (.d (.bool true)))), (49, .b true), (56, ca (.tup [.c (.d (L43 v56.1)), .c (.d (.int .i64 v56.2.1)), .c (.d (.int .i64 v56.2.2))])), (65, .b false), (68, ca (.c (.d (.bool true)))), (74, ca (.c (.d (.bool false)))), (80, .b true)] (fun _ f => o (lex_Words.does h0) (o (ne_f h1) (o (beq_false_of_ne h2) (o (o (nn 0) h3) (o (dendronlaw28_kind.does h4) (o (beq_false_of_ne h5) (o (drop_ok c54 (0, 0, ByteArray.empty) v4.1 (nn 1) h6) (o (dendronlaw28_feature.does h7) (o (dendronlaw28_cut.does h9) (o (dendronlaw28_row.does h10) (o (dendronlaw28_grid.does h12) (o (decide_eq_true h14) (o (o (nn 0) h14) (o (rows_Words.does h15) (o (ne_f h16) (o (dendronlaw28_row.does h17) (o (dendronlaw28_many.does h19) (o (decide_eq_true h21) f)))))))))))))))))) (by kernel_rfl) (ih.1 _ _ _ _ _ _ _ _ _ _ _ h)
                      · rw [if_neg h21] at h
                        exact Til.mid Tryd.func8 38 [(4, ca (.tup [.c (.d (L54 v4.1)), .c (.d (.int .i64 v4.2.1)), .c (.d (.int .i64 v4.2.2))])), (13, .b false), (16, .b false), (21, ca (.c (.d (.int .i64 v21)))), (27, .b false), (29, Z54 (v4.1.drop 1)), (33, ca (.c (.d (.bool false)))), (35, ca (.c (.d (L50 v35)))), (40, ca (.c (.d (.bool false)))), (44, ca (.c (.d (.bool true)))), (49, .b true), (56, ca (.tup [.c (.d (L43 v56.1)), .c (.d (.int .i64 v56.2.1)), .c (.d (.int .i64 v56.2.2))])), (65, .b false), (68, ca (.c (.d (.bool true)))), (74, ca (.c (.d (.bool false)))), (80, .b false)] (fun _ f => o (lex_Words.does h0) (o (ne_f h1) (o (beq_false_of_ne h2) (o (o (nn 0) h3) (o (dendronlaw28_kind.does h4) (o (beq_false_of_ne h5) (o (drop_ok c54 (0, 0, ByteArray.empty) v4.1 (nn 1) h6) (o (dendronlaw28_feature.does h7) (o (dendronlaw28_cut.does h9) (o (dendronlaw28_row.does h10) (o (dendronlaw28_grid.does h12) (o (decide_eq_true h14) (o (o (nn 0) h14) (o (rows_Words.does h15) (o (ne_f h16) (o (dendronlaw28_row.does h17) (o (dendronlaw28_many.does h19) (o (decide_eq_false h21) f)))))))))))))))))) (by kernel_rfl) (ih.2 _ _ _ _ _ _ _ _ _ _ h)
                    · rw [if_pos rfl] at h
                      exact Til.mid Tryd.func8 38 [(4, ca (.tup [.c (.d (L54 v4.1)), .c (.d (.int .i64 v4.2.1)), .c (.d (.int .i64 v4.2.2))])), (13, .b false), (16, .b false), (21, ca (.c (.d (.int .i64 v21)))), (27, .b false), (29, Z54 (v4.1.drop 1)), (33, ca (.c (.d (.bool false)))), (35, ca (.c (.d (L50 v35)))), (40, ca (.c (.d (.bool false)))), (44, ca (.c (.d (.bool true)))), (49, .b true), (56, ca (.tup [.c (.d (L43 v56.1)), .c (.d (.int .i64 v56.2.1)), .c (.d (.int .i64 v56.2.2))])), (65, .b false), (68, ca (.c (.d (.bool true)))), (74, ca (.c (.d (.bool true))))] (fun _ f => o (lex_Words.does h0) (o (ne_f h1) (o (beq_false_of_ne h2) (o (o (nn 0) h3) (o (dendronlaw28_kind.does h4) (o (beq_false_of_ne h5) (o (drop_ok c54 (0, 0, ByteArray.empty) v4.1 (nn 1) h6) (o (dendronlaw28_feature.does h7) (o (dendronlaw28_cut.does h9) (o (dendronlaw28_row.does h10) (o (dendronlaw28_grid.does h12) (o (decide_eq_true h14) (o (o (nn 0) h14) (o (rows_Words.does h15) (o (ne_f h16) (o (dendronlaw28_row.does h17) (o (dendronlaw28_many.does h19) f))))))))))))))))) (by kernel_rfl) (ih.2 _ _ _ _ _ _ _ _ _ _ h)
              · rw [if_neg h14] at h
                obtain ⟨v51, h15, h⟩ := bnd h
                by_cases h16 : v51.2.2 ≠ 0
                · rw [if_pos h16] at h
                  obtain rfl := Option.some.inj h
                  exact Til.fin Tryd.func8 [(4, ca (.tup [.c (.d (L54 v4.1)), .c (.d (.int .i64 v4.2.1)), .c (.d (.int .i64 v4.2.2))])), (13, .b false), (16, .b false), (21, ca (.c (.d (.int .i64 v21)))), (27, .b false), (29, Z54 (v4.1.drop 1)), (33, ca (.c (.d (.bool false)))), (35, ca (.c (.d (L50 v35)))), (40, ca (.c (.d (.bool false)))), (44, ca (.c (.d (.bool true)))), (49, .b false), (51, .call [(0, .c (.d (L54 ([] : List (Int × Int × ByteArray)))))] [] (.tup [.c (.d (L43 v51.1)), .c (.d (.int .i64 v51.2.1)), .c (.d (.int .i64 v51.2.2))]) none [] []), (60, .b true)] (fun _ f => o (lex_Words.does h0) (o (ne_f h1) (o (beq_false_of_ne h2) (o (o (nn 0) h3) (o (dendronlaw28_kind.does h4) (o (beq_false_of_ne h5) (o (drop_ok c54 (0, 0, ByteArray.empty) v4.1 (nn 1) h6) (o (dendronlaw28_feature.does h7) (o (dendronlaw28_cut.does h9) (o (dendronlaw28_row.does h10) (o (dendronlaw28_grid.does h12) (o (decide_eq_false h14) (o (rows_Words.does h15) (o (bne_iff_ne.2 h16) f)))))))))))))) (by kernel_rfl)
                · rw [if_neg h16] at h
                  obtain ⟨v63, h17, h⟩ := bnd h
                  cases v63
                  · rw [if_neg (by decide)] at h
                    obtain ⟨v69, h19, h⟩ := bnd h
                    cases v69
                    · rw [if_neg (by decide)] at h
                      by_cases h21 : 0 < (v35.length : Int)
                      · rw [if_pos h21] at h
                        exact Til.mid Tryd.func8 33 [(4, ca (.tup [.c (.d (L54 v4.1)), .c (.d (.int .i64 v4.2.1)), .c (.d (.int .i64 v4.2.2))])), (13, .b false), (16, .b false), (21, ca (.c (.d (.int .i64 v21)))), (27, .b false), (29, Z54 (v4.1.drop 1)), (33, ca (.c (.d (.bool false)))), (35, ca (.c (.d (L50 v35)))), (40, ca (.c (.d (.bool false)))), (44, ca (.c (.d (.bool true)))), (49, .b false), (51, .call [(0, .c (.d (L54 ([] : List (Int × Int × ByteArray)))))] [] (.tup [.c (.d (L43 v51.1)), .c (.d (.int .i64 v51.2.1)), .c (.d (.int .i64 v51.2.2))]) none [] []), (60, .b false), (63, ca (.c (.d (.bool false)))), (69, ca (.c (.d (.bool false)))), (75, .b true)] (fun _ f => o (lex_Words.does h0) (o (ne_f h1) (o (beq_false_of_ne h2) (o (o (nn 0) h3) (o (dendronlaw28_kind.does h4) (o (beq_false_of_ne h5) (o (drop_ok c54 (0, 0, ByteArray.empty) v4.1 (nn 1) h6) (o (dendronlaw28_feature.does h7) (o (dendronlaw28_cut.does h9) (o (dendronlaw28_row.does h10) (o (dendronlaw28_grid.does h12) (o (decide_eq_false h14) (o (rows_Words.does h15) (o (ne_f h16) (o (dendronlaw28_row.does h17) (o (dendronlaw28_many.does h19) (o (decide_eq_true h21) f))))))))))))))))) (by kernel_rfl) (ih.1 _ _ _ _ _ _ _ _ _ _ _ h)
                      · rw [if_neg h21] at h
                        exact Til.mid Tryd.func8 38 [(4, ca (.tup [.c (.d (L54 v4.1)), .c (.d (.int .i64 v4.2.1)), .c (.d (.int .i64 v4.2.2))])), (13, .b false), (16, .b false), (21, ca (.c (.d (.int .i64 v21)))), (27, .b false), (29, Z54 (v4.1.drop 1)), (33, ca (.c (.d (.bool false)))), (35, ca (.c (.d (L50 v35)))), (40, ca (.c (.d (.bool false)))), (44, ca (.c (.d (.bool true)))), (49, .b false), (51, .call [(0, .c (.d (L54 ([] : List (Int × Int × ByteArray)))))] [] (.tup [.c (.d (L43 v51.1)), .c (.d (.int .i64 v51.2.1)), .c (.d (.int .i64 v51.2.2))]) none [] []), (60, .b false), (63, ca (.c (.d (.bool false)))), (69, ca (.c (.d (.bool false)))), (75, .b false)] (fun _ f => o (lex_Words.does h0) (o (ne_f h1) (o (beq_false_of_ne h2) (o (o (nn 0) h3) (o (dendronlaw28_kind.does h4) (o (beq_false_of_ne h5) (o (drop_ok c54 (0, 0, ByteArray.empty) v4.1 (nn 1) h6) (o (dendronlaw28_feature.does h7) (o (dendronlaw28_cut.does h9) (o (dendronlaw28_row.does h10) (o (dendronlaw28_grid.does h12) (o (decide_eq_false h14) (o (rows_Words.does h15) (o (ne_f h16) (o (dendronlaw28_row.does h17) (o (dendronlaw28_many.does h19) (o (decide_eq_false h21) f))))))))))))))))) (by kernel_rfl) (ih.2 _ _ _ _ _ _ _ _ _ _ h)
                    · rw [if_pos rfl] at h
                      exact Til.mid Tryd.func8 38 [(4, ca (.tup [.c (.d (L54 v4.1)), .c (.d (.int .i64 v4.2.1)), .c (.d (.int .i64 v4.2.2))])), (13, .b false), (16, .b false), (21, ca (.c (.d (.int .i64 v21)))), (27, .b false), (29, Z54 (v4.1.drop 1)), (33, ca (.c (.d (.bool false)))), (35, ca (.c (.d (L50 v35)))), (40, ca (.c (.d (.bool false)))), (44, ca (.c (.d (.bool true)))), (49, .b false), (51, .call [(0, .c (.d (L54 ([] : List (Int × Int × ByteArray)))))] [] (.tup [.c (.d (L43 v51.1)), .c (.d (.int .i64 v51.2.1)), .c (.d (.int .i64 v51.2.2))]) none [] []), (60, .b false), (63, ca (.c (.d (.bool false)))), (69, ca (.c (.d (.bool true))))] (fun _ f => o (lex_Words.does h0) (o (ne_f h1) (o (beq_false_of_ne h2) (o (o (nn 0) h3) (o (dendronlaw28_kind.does h4) (o (beq_false_of_ne h5) (o (drop_ok c54 (0, 0, ByteArray.empty) v4.1 (nn 1) h6) (o (dendronlaw28_feature.does h7) (o (dendronlaw28_cut.does h9) (o (dendronlaw28_row.does h10) (o (dendronlaw28_grid.does h12) (o (decide_eq_false h14) (o (rows_Words.does h15) (o (ne_f h16) (o (dendronlaw28_row.does h17) (o (dendronlaw28_many.does h19) f)))))))))))))))) (by kernel_rfl) (ih.2 _ _ _ _ _ _ _ _ _ _ h)
                  · rw [if_pos rfl] at h
                    obtain ⟨v69, h19, h⟩ := bnd h
                    cases v69
                    · rw [if_neg (by decide)] at h
                      by_cases h21 : 0 < (v35.length : Int)
                      · rw [if_pos h21] at h
                        exact Til.mid Tryd.func8 33 [(4, ca (.tup [.c (.d (L54 v4.1)), .c (.d (.int .i64 v4.2.1)), .c (.d (.int .i64 v4.2.2))])), (13, .b false), (16, .b false), (21, ca (.c (.d (.int .i64 v21)))), (27, .b false), (29, Z54 (v4.1.drop 1)), (33, ca (.c (.d (.bool false)))), (35, ca (.c (.d (L50 v35)))), (40, ca (.c (.d (.bool false)))), (44, ca (.c (.d (.bool true)))), (49, .b false), (51, .call [(0, .c (.d (L54 ([] : List (Int × Int × ByteArray)))))] [] (.tup [.c (.d (L43 v51.1)), .c (.d (.int .i64 v51.2.1)), .c (.d (.int .i64 v51.2.2))]) none [] []), (60, .b false), (63, ca (.c (.d (.bool true)))), (69, ca (.c (.d (.bool false)))), (75, .b true)] (fun _ f => o (lex_Words.does h0) (o (ne_f h1) (o (beq_false_of_ne h2) (o (o (nn 0) h3) (o (dendronlaw28_kind.does h4) (o (beq_false_of_ne h5) (o (drop_ok c54 (0, 0, ByteArray.empty) v4.1 (nn 1) h6) (o (dendronlaw28_feature.does h7) (o (dendronlaw28_cut.does h9) (o (dendronlaw28_row.does h10) (o (dendronlaw28_grid.does h12) (o (decide_eq_false h14) (o (rows_Words.does h15) (o (ne_f h16) (o (dendronlaw28_row.does h17) (o (dendronlaw28_many.does h19) (o (decide_eq_true h21) f))))))))))))))))) (by kernel_rfl) (ih.1 _ _ _ _ _ _ _ _ _ _ _ h)
                      · rw [if_neg h21] at h
                        exact Til.mid Tryd.func8 38 [(4, ca (.tup [.c (.d (L54 v4.1)), .c (.d (.int .i64 v4.2.1)), .c (.d (.int .i64 v4.2.2))])), (13, .b false), (16, .b false), (21, ca (.c (.d (.int .i64 v21)))), (27, .b false), (29, Z54 (v4.1.drop 1)), (33, ca (.c (.d (.bool false)))), (35, ca (.c (.d (L50 v35)))), (40, ca (.c (.d (.bool false)))), (44, ca (.c (.d (.bool true)))), (49, .b false), (51, .call [(0, .c (.d (L54 ([] : List (Int × Int × ByteArray)))))] [] (.tup [.c (.d (L43 v51.1)), .c (.d (.int .i64 v51.2.1)), .c (.d (.int .i64 v51.2.2))]) none [] []), (60, .b false), (63, ca (.c (.d (.bool true)))), (69, ca (.c (.d (.bool false)))), (75, .b false)] (fun _ f => o (lex_Words.does h0) (o (ne_f h1) (o (beq_false_of_ne h2) (o (o (nn 0) h3) (o (dendronlaw28_kind.does h4) (o (beq_false_of_ne h5) (o (drop_ok c54 (0, 0, ByteArray.empty) v4.1 (nn 1) h6) (o (dendronlaw28_feature.does h7) (o (dendronlaw28_cut.does h9) (o (dendronlaw28_row.does h10) (o (dendronlaw28_grid.does h12) (o (decide_eq_false h14) (o (rows_Words.does h15) (o (ne_f h16) (o (dendronlaw28_row.does h17) (o (dendronlaw28_many.does h19) (o (decide_eq_false h21) f))))))))))))))))) (by kernel_rfl) (ih.2 _ _ _ _ _ _ _ _ _ _ h)
                    · rw [if_pos rfl] at h
                      exact Til.mid Tryd.func8 38 [(4, ca (.tup [.c (.d (L54 v4.1)), .c (.d (.int .i64 v4.2.1)), .c (.d (.int .i64 v4.2.2))])), (13, .b false), (16, .b false), (21, ca (.c (.d (.int .i64 v21)))), (27, .b false), (29, Z54 (v4.1.drop 1)), (33, ca (.c (.d (.bool false)))), (35, ca (.c (.d (L50 v35)))), (40, ca (.c (.d (.bool false)))), (44, ca (.c (.d (.bool true)))), (49, .b false), (51, .call [(0, .c (.d (L54 ([] : List (Int × Int × ByteArray)))))] [] (.tup [.c (.d (L43 v51.1)), .c (.d (.int .i64 v51.2.1)), .c (.d (.int .i64 v51.2.2))]) none [] []), (60, .b false), (63, ca (.c (.d (.bool true)))), (69, ca (.c (.d (.bool true))))] (fun _ f => o (lex_Words.does h0) (o (ne_f h1) (o (beq_false_of_ne h2) (o (o (nn 0) h3) (o (dendronlaw28_kind.does h4) (o (beq_false_of_ne h5) (o (drop_ok c54 (0, 0, ByteArray.empty) v4.1 (nn 1) h6) (o (dendronlaw28_feature.does h7) (o (dendronlaw28_cut.does h9) (o (dendronlaw28_row.does h10) (o (dendronlaw28_grid.does h12) (o (decide_eq_false h14) (o (rows_Words.does h15) (o (ne_f h16) (o (dendronlaw28_row.does h17) (o (dendronlaw28_many.does h19) f)))))))))))))))) (by kernel_rfl) (ih.2 _ _ _ _ _ _ _ _ _ _ h)
          · rw [if_pos rfl] at h
            by_cases h12 : (v35.length : Int) > 0
            · rw [if_pos h12] at h
              obtain ⟨v56, h13, h⟩ := bnd h
              by_cases h14 : v56.2.2 ≠ 0
              · rw [if_pos h14] at h
                obtain rfl := Option.some.inj h
                exact Til.fin Tryd.func8 [(4, ca (.tup [.c (.d (L54 v4.1)), .c (.d (.int .i64 v4.2.1)), .c (.d (.int .i64 v4.2.2))])), (13, .b false), (16, .b false), (21, ca (.c (.d (.int .i64 v21)))), (27, .b false), (29, Z54 (v4.1.drop 1)), (33, ca (.c (.d (.bool false)))), (35, ca (.c (.d (L50 v35)))), (40, ca (.c (.d (.bool true)))), (49, .b true), (56, ca (.tup [.c (.d (L43 v56.1)), .c (.d (.int .i64 v56.2.1)), .c (.d (.int .i64 v56.2.2))])), (65, .b true)] (fun _ f => o (lex_Words.does h0) (o (ne_f h1) (o (beq_false_of_ne h2) (o (o (nn 0) h3) (o (dendronlaw28_kind.does h4) (o (beq_false_of_ne h5) (o (drop_ok c54 (0, 0, ByteArray.empty) v4.1 (nn 1) h6) (o (dendronlaw28_feature.does h7) (o (dendronlaw28_cut.does h9) (o (dendronlaw28_row.does h10) (o (decide_eq_true h12) (o (o (nn 0) h12) (o (rows_Words.does h13) (o (bne_iff_ne.2 h14) f)))))))))))))) (by kernel_rfl)
              · rw [if_neg h14] at h
                obtain ⟨v68, h15, h⟩ := bnd h
                cases v68
                · rw [if_neg (by decide)] at h
                  obtain ⟨v74, h17, h⟩ := bnd h
                  cases v74
                  · rw [if_neg (by decide)] at h
                    by_cases h19 : 1 < (v35.length : Int)
                    · rw [if_pos h19] at h
                      exact Til.mid Tryd.func8 33 [(4, ca (.tup [.c (.d (L54 v4.1)), .c (.d (.int .i64 v4.2.1)), .c (.d (.int .i64 v4.2.2))])), (13, .b false), (16, .b false), (21, ca (.c (.d (.int .i64 v21)))), (27, .b false), (29, Z54 (v4.1.drop 1)), (33, ca (.c (.d (.bool false)))), (35, ca (.c (.d (L50 v35)))), (40, ca (.c (.d (.bool true)))), (49, .b true), (56, ca (.tup [.c (.d (L43 v56.1)), .c (.d (.int .i64 v56.2.1)), .c (.d (.int .i64 v56.2.2))])), (65, .b false), (68, ca (.c (.d (.bool false)))), (74, ca (.c (.d (.bool false)))), (80, .b true)] (fun _ f => o (lex_Words.does h0) (o (ne_f h1) (o (beq_false_of_ne h2) (o (o (nn 0) h3) (o (dendronlaw28_kind.does h4) (o (beq_false_of_ne h5) (o (drop_ok c54 (0, 0, ByteArray.empty) v4.1 (nn 1) h6) (o (dendronlaw28_feature.does h7) (o (dendronlaw28_cut.does h9) (o (dendronlaw28_row.does h10) (o (decide_eq_true h12) (o (o (nn 0) h12) (o (rows_Words.does h13) (o (ne_f h14) (o (dendronlaw28_row.does h15) (o (dendronlaw28_many.does h17) (o (decide_eq_true h19) f))))))))))))))))) (by kernel_rfl) (ih.1 _ _ _ _ _ _ _ _ _ _ _ h)
                    · rw [if_neg h19] at h
                      exact Til.mid Tryd.func8 38 [(4, ca (.tup [.c (.d (L54 v4.1)), .c (.d (.int .i64 v4.2.1)), .c (.d (.int .i64 v4.2.2))])), (13, .b false), (16, .b false), (21, ca (.c (.d (.int .i64 v21)))), (27, .b false), (29, Z54 (v4.1.drop 1)), (33, ca (.c (.d (.bool false)))), (35, ca (.c (.d (L50 v35)))), (40, ca (.c (.d (.bool true)))), (49, .b true), (56, ca (.tup [.c (.d (L43 v56.1)), .c (.d (.int .i64 v56.2.1)), .c (.d (.int .i64 v56.2.2))])), (65, .b false), (68, ca (.c (.d (.bool false)))), (74, ca (.c (.d (.bool false)))), (80, .b false)] (fun _ f => o (lex_Words.does h0) (o (ne_f h1) (o (beq_false_of_ne h2) (o (o (nn 0) h3) (o (dendronlaw28_kind.does h4) (o (beq_false_of_ne h5) (o (drop_ok c54 (0, 0, ByteArray.empty) v4.1 (nn 1) h6) (o (dendronlaw28_feature.does h7) (o (dendronlaw28_cut.does h9) (o (dendronlaw28_row.does h10) (o (decide_eq_true h12) (o (o (nn 0) h12) (o (rows_Words.does h13) (o (ne_f h14) (o (dendronlaw28_row.does h15) (o (dendronlaw28_many.does h17) (o (decide_eq_false h19) f))))))))))))))))) (by kernel_rfl) (ih.2 _ _ _ _ _ _ _ _ _ _ h)
                  · rw [if_pos rfl] at h
                    exact Til.mid Tryd.func8 38 [(4, ca (.tup [.c (.d (L54 v4.1)), .c (.d (.int .i64 v4.2.1)), .c (.d (.int .i64 v4.2.2))])), (13, .b false), (16, .b false), (21, ca (.c (.d (.int .i64 v21)))), (27, .b false), (29, Z54 (v4.1.drop 1)), (33, ca (.c (.d (.bool false)))), (35, ca (.c (.d (L50 v35)))), (40, ca (.c (.d (.bool true)))), (49, .b true), (56, ca (.tup [.c (.d (L43 v56.1)), .c (.d (.int .i64 v56.2.1)), .c (.d (.int .i64 v56.2.2))])), (65, .b false), (68, ca (.c (.d (.bool false)))), (74, ca (.c (.d (.bool true))))] (fun _ f => o (lex_Words.does h0) (o (ne_f h1) (o (beq_false_of_ne h2) (o (o (nn 0) h3) (o (dendronlaw28_kind.does h4) (o (beq_false_of_ne h5) (o (drop_ok c54 (0, 0, ByteArray.empty) v4.1 (nn 1) h6) (o (dendronlaw28_feature.does h7) (o (dendronlaw28_cut.does h9) (o (dendronlaw28_row.does h10) (o (decide_eq_true h12) (o (o (nn 0) h12) (o (rows_Words.does h13) (o (ne_f h14) (o (dendronlaw28_row.does h15) (o (dendronlaw28_many.does h17) f)))))))))))))))) (by kernel_rfl) (ih.2 _ _ _ _ _ _ _ _ _ _ h)
                · rw [if_pos rfl] at h
                  obtain ⟨v74, h17, h⟩ := bnd h
                  cases v74
                  · rw [if_neg (by decide)] at h
                    by_cases h19 : 1 < (v35.length : Int)
                    · rw [if_pos h19] at h
                      exact Til.mid Tryd.func8 33 [(4, ca (.tup [.c (.d (L54 v4.1)), .c (.d (.int .i64 v4.2.1)), .c (.d (.int .i64 v4.2.2))])), (13, .b false), (16, .b false), (21, ca (.c (.d (.int .i64 v21)))), (27, .b false), (29, Z54 (v4.1.drop 1)), (33, ca (.c (.d (.bool false)))), (35, ca (.c (.d (L50 v35)))), (40, ca (.c (.d (.bool true)))), (49, .b true), (56, ca (.tup [.c (.d (L43 v56.1)), .c (.d (.int .i64 v56.2.1)), .c (.d (.int .i64 v56.2.2))])), (65, .b false), (68, ca (.c (.d (.bool true)))), (74, ca (.c (.d (.bool false)))), (80, .b true)] (fun _ f => o (lex_Words.does h0) (o (ne_f h1) (o (beq_false_of_ne h2) (o (o (nn 0) h3) (o (dendronlaw28_kind.does h4) (o (beq_false_of_ne h5) (o (drop_ok c54 (0, 0, ByteArray.empty) v4.1 (nn 1) h6) (o (dendronlaw28_feature.does h7) (o (dendronlaw28_cut.does h9) (o (dendronlaw28_row.does h10) (o (decide_eq_true h12) (o (o (nn 0) h12) (o (rows_Words.does h13) (o (ne_f h14) (o (dendronlaw28_row.does h15) (o (dendronlaw28_many.does h17) (o (decide_eq_true h19) f))))))))))))))))) (by kernel_rfl) (ih.1 _ _ _ _ _ _ _ _ _ _ _ h)
                    · rw [if_neg h19] at h
                      exact Til.mid Tryd.func8 38 [(4, ca (.tup [.c (.d (L54 v4.1)), .c (.d (.int .i64 v4.2.1)), .c (.d (.int .i64 v4.2.2))])), (13, .b false), (16, .b false), (21, ca (.c (.d (.int .i64 v21)))), (27, .b false), (29, Z54 (v4.1.drop 1)), (33, ca (.c (.d (.bool false)))), (35, ca (.c (.d (L50 v35)))), (40, ca (.c (.d (.bool true)))), (49, .b true), (56, ca (.tup [.c (.d (L43 v56.1)), .c (.d (.int .i64 v56.2.1)), .c (.d (.int .i64 v56.2.2))])), (65, .b false), (68, ca (.c (.d (.bool true)))), (74, ca (.c (.d (.bool false)))), (80, .b false)] (fun _ f => o (lex_Words.does h0) (o (ne_f h1) (o (beq_false_of_ne h2) (o (o (nn 0) h3) (o (dendronlaw28_kind.does h4) (o (beq_false_of_ne h5) (o (drop_ok c54 (0, 0, ByteArray.empty) v4.1 (nn 1) h6) (o (dendronlaw28_feature.does h7) (o (dendronlaw28_cut.does h9) (o (dendronlaw28_row.does h10) (o (decide_eq_true h12) (o (o (nn 0) h12) (o (rows_Words.does h13) (o (ne_f h14) (o (dendronlaw28_row.does h15) (o (dendronlaw28_many.does h17) (o (decide_eq_false h19) f))))))))))))))))) (by kernel_rfl) (ih.2 _ _ _ _ _ _ _ _ _ _ h)
                  · rw [if_pos rfl] at h
                    exact Til.mid Tryd.func8 38 [(4, ca (.tup [.c (.d (L54 v4.1)), .c (.d (.int .i64 v4.2.1)), .c (.d (.int .i64 v4.2.2))])), (13, .b false), (16, .b false), (21, ca (.c (.d (.int .i64 v21)))), (27, .b false), (29, Z54 (v4.1.drop 1)), (33, ca (.c (.d (.bool false)))), (35, ca (.c (.d (L50 v35)))), (40, ca (.c (.d (.bool true)))), (49, .b true), (56, ca (.tup [.c (.d (L43 v56.1)), .c (.d (.int .i64 v56.2.1)), .c (.d (.int .i64 v56.2.2))])), (65, .b false), (68, ca (.c (.d (.bool true)))), (74, ca (.c (.d (.bool true))))] (fun _ f => o (lex_Words.does h0) (o (ne_f h1) (o (beq_false_of_ne h2) (o (o (nn 0) h3) (o (dendronlaw28_kind.does h4) (o (beq_false_of_ne h5) (o (drop_ok c54 (0, 0, ByteArray.empty) v4.1 (nn 1) h6) (o (dendronlaw28_feature.does h7) (o (dendronlaw28_cut.does h9) (o (dendronlaw28_row.does h10) (o (decide_eq_true h12) (o (o (nn 0) h12) (o (rows_Words.does h13) (o (ne_f h14) (o (dendronlaw28_row.does h15) (o (dendronlaw28_many.does h17) f)))))))))))))))) (by kernel_rfl) (ih.2 _ _ _ _ _ _ _ _ _ _ h)
            · rw [if_neg h12] at h
              obtain ⟨v51, h13, h⟩ := bnd h
              by_cases h14 : v51.2.2 ≠ 0
              · rw [if_pos h14] at h
                obtain rfl := Option.some.inj h
                exact Til.fin Tryd.func8 [(4, ca (.tup [.c (.d (L54 v4.1)), .c (.d (.int .i64 v4.2.1)), .c (.d (.int .i64 v4.2.2))])), (13, .b false), (16, .b false), (21, ca (.c (.d (.int .i64 v21)))), (27, .b false), (29, Z54 (v4.1.drop 1)), (33, ca (.c (.d (.bool false)))), (35, ca (.c (.d (L50 v35)))), (40, ca (.c (.d (.bool true)))), (49, .b false), (51, .call [(0, .c (.d (L54 ([] : List (Int × Int × ByteArray)))))] [] (.tup [.c (.d (L43 v51.1)), .c (.d (.int .i64 v51.2.1)), .c (.d (.int .i64 v51.2.2))]) none [] []), (60, .b true)] (fun _ f => o (lex_Words.does h0) (o (ne_f h1) (o (beq_false_of_ne h2) (o (o (nn 0) h3) (o (dendronlaw28_kind.does h4) (o (beq_false_of_ne h5) (o (drop_ok c54 (0, 0, ByteArray.empty) v4.1 (nn 1) h6) (o (dendronlaw28_feature.does h7) (o (dendronlaw28_cut.does h9) (o (dendronlaw28_row.does h10) (o (decide_eq_false h12) (o (rows_Words.does h13) (o (bne_iff_ne.2 h14) f))))))))))))) (by kernel_rfl)
              · rw [if_neg h14] at h
                obtain ⟨v63, h15, h⟩ := bnd h
                cases v63
                · rw [if_neg (by decide)] at h
                  obtain ⟨v69, h17, h⟩ := bnd h
                  cases v69
                  · rw [if_neg (by decide)] at h
                    by_cases h19 : 0 < (v35.length : Int)
                    · rw [if_pos h19] at h
                      exact Til.mid Tryd.func8 33 [(4, ca (.tup [.c (.d (L54 v4.1)), .c (.d (.int .i64 v4.2.1)), .c (.d (.int .i64 v4.2.2))])), (13, .b false), (16, .b false), (21, ca (.c (.d (.int .i64 v21)))), (27, .b false), (29, Z54 (v4.1.drop 1)), (33, ca (.c (.d (.bool false)))), (35, ca (.c (.d (L50 v35)))), (40, ca (.c (.d (.bool true)))), (49, .b false), (51, .call [(0, .c (.d (L54 ([] : List (Int × Int × ByteArray)))))] [] (.tup [.c (.d (L43 v51.1)), .c (.d (.int .i64 v51.2.1)), .c (.d (.int .i64 v51.2.2))]) none [] []), (60, .b false), (63, ca (.c (.d (.bool false)))), (69, ca (.c (.d (.bool false)))), (75, .b true)] (fun _ f => o (lex_Words.does h0) (o (ne_f h1) (o (beq_false_of_ne h2) (o (o (nn 0) h3) (o (dendronlaw28_kind.does h4) (o (beq_false_of_ne h5) (o (drop_ok c54 (0, 0, ByteArray.empty) v4.1 (nn 1) h6) (o (dendronlaw28_feature.does h7) (o (dendronlaw28_cut.does h9) (o (dendronlaw28_row.does h10) (o (decide_eq_false h12) (o (rows_Words.does h13) (o (ne_f h14) (o (dendronlaw28_row.does h15) (o (dendronlaw28_many.does h17) (o (decide_eq_true h19) f)))))))))))))))) (by kernel_rfl) (ih.1 _ _ _ _ _ _ _ _ _ _ _ h)
                    · rw [if_neg h19] at h
                      exact Til.mid Tryd.func8 38 [(4, ca (.tup [.c (.d (L54 v4.1)), .c (.d (.int .i64 v4.2.1)), .c (.d (.int .i64 v4.2.2))])), (13, .b false), (16, .b false), (21, ca (.c (.d (.int .i64 v21)))), (27, .b false), (29, Z54 (v4.1.drop 1)), (33, ca (.c (.d (.bool false)))), (35, ca (.c (.d (L50 v35)))), (40, ca (.c (.d (.bool true)))), (49, .b false), (51, .call [(0, .c (.d (L54 ([] : List (Int × Int × ByteArray)))))] [] (.tup [.c (.d (L43 v51.1)), .c (.d (.int .i64 v51.2.1)), .c (.d (.int .i64 v51.2.2))]) none [] []), (60, .b false), (63, ca (.c (.d (.bool false)))), (69, ca (.c (.d (.bool false)))), (75, .b false)] (fun _ f => o (lex_Words.does h0) (o (ne_f h1) (o (beq_false_of_ne h2) (o (o (nn 0) h3) (o (dendronlaw28_kind.does h4) (o (beq_false_of_ne h5) (o (drop_ok c54 (0, 0, ByteArray.empty) v4.1 (nn 1) h6) (o (dendronlaw28_feature.does h7) (o (dendronlaw28_cut.does h9) (o (dendronlaw28_row.does h10) (o (decide_eq_false h12) (o (rows_Words.does h13) (o (ne_f h14) (o (dendronlaw28_row.does h15) (o (dendronlaw28_many.does h17) (o (decide_eq_false h19) f)))))))))))))))) (by kernel_rfl) (ih.2 _ _ _ _ _ _ _ _ _ _ h)
                  · rw [if_pos rfl] at h
                    exact Til.mid Tryd.func8 38 [(4, ca (.tup [.c (.d (L54 v4.1)), .c (.d (.int .i64 v4.2.1)), .c (.d (.int .i64 v4.2.2))])), (13, .b false), (16, .b false), (21, ca (.c (.d (.int .i64 v21)))), (27, .b false), (29, Z54 (v4.1.drop 1)), (33, ca (.c (.d (.bool false)))), (35, ca (.c (.d (L50 v35)))), (40, ca (.c (.d (.bool true)))), (49, .b false), (51, .call [(0, .c (.d (L54 ([] : List (Int × Int × ByteArray)))))] [] (.tup [.c (.d (L43 v51.1)), .c (.d (.int .i64 v51.2.1)), .c (.d (.int .i64 v51.2.2))]) none [] []), (60, .b false), (63, ca (.c (.d (.bool false)))), (69, ca (.c (.d (.bool true))))] (fun _ f => o (lex_Words.does h0) (o (ne_f h1) (o (beq_false_of_ne h2) (o (o (nn 0) h3) (o (dendronlaw28_kind.does h4) (o (beq_false_of_ne h5) (o (drop_ok c54 (0, 0, ByteArray.empty) v4.1 (nn 1) h6) (o (dendronlaw28_feature.does h7) (o (dendronlaw28_cut.does h9) (o (dendronlaw28_row.does h10) (o (decide_eq_false h12) (o (rows_Words.does h13) (o (ne_f h14) (o (dendronlaw28_row.does h15) (o (dendronlaw28_many.does h17) f))))))))))))))) (by kernel_rfl) (ih.2 _ _ _ _ _ _ _ _ _ _ h)
                · rw [if_pos rfl] at h
                  obtain ⟨v69, h17, h⟩ := bnd h
                  cases v69
                  · rw [if_neg (by decide)] at h
                    by_cases h19 : 0 < (v35.length : Int)
                    · rw [if_pos h19] at h
                      exact Til.mid Tryd.func8 33 [(4, ca (.tup [.c (.d (L54 v4.1)), .c (.d (.int .i64 v4.2.1)), .c (.d (.int .i64 v4.2.2))])), (13, .b false), (16, .b false), (21, ca (.c (.d (.int .i64 v21)))), (27, .b false), (29, Z54 (v4.1.drop 1)), (33, ca (.c (.d (.bool false)))), (35, ca (.c (.d (L50 v35)))), (40, ca (.c (.d (.bool true)))), (49, .b false), (51, .call [(0, .c (.d (L54 ([] : List (Int × Int × ByteArray)))))] [] (.tup [.c (.d (L43 v51.1)), .c (.d (.int .i64 v51.2.1)), .c (.d (.int .i64 v51.2.2))]) none [] []), (60, .b false), (63, ca (.c (.d (.bool true)))), (69, ca (.c (.d (.bool false)))), (75, .b true)] (fun _ f => o (lex_Words.does h0) (o (ne_f h1) (o (beq_false_of_ne h2) (o (o (nn 0) h3) (o (dendronlaw28_kind.does h4) (o (beq_false_of_ne h5) (o (drop_ok c54 (0, 0, ByteArray.empty) v4.1 (nn 1) h6) (o (dendronlaw28_feature.does h7) (o (dendronlaw28_cut.does h9) (o (dendronlaw28_row.does h10) (o (decide_eq_false h12) (o (rows_Words.does h13) (o (ne_f h14) (o (dendronlaw28_row.does h15) (o (dendronlaw28_many.does h17) (o (decide_eq_true h19) f)))))))))))))))) (by kernel_rfl) (ih.1 _ _ _ _ _ _ _ _ _ _ _ h)
                    · rw [if_neg h19] at h
                      exact Til.mid Tryd.func8 38 [(4, ca (.tup [.c (.d (L54 v4.1)), .c (.d (.int .i64 v4.2.1)), .c (.d (.int .i64 v4.2.2))])), (13, .b false), (16, .b false), (21, ca (.c (.d (.int .i64 v21)))), (27, .b false), (29, Z54 (v4.1.drop 1)), (33, ca (.c (.d (.bool false)))), (35, ca (.c (.d (L50 v35)))), (40, ca (.c (.d (.bool true)))), (49, .b false), (51, .call [(0, .c (.d (L54 ([] : List (Int × Int × ByteArray)))))] [] (.tup [.c (.d (L43 v51.1)), .c (.d (.int .i64 v51.2.1)), .c (.d (.int .i64 v51.2.2))]) none [] []), (60, .b false), (63, ca (.c (.d (.bool true)))), (69, ca (.c (.d (.bool false)))), (75, .b false)] (fun _ f => o (lex_Words.does h0) (o (ne_f h1) (o (beq_false_of_ne h2) (o (o (nn 0) h3) (o (dendronlaw28_kind.does h4) (o (beq_false_of_ne h5) (o (drop_ok c54 (0, 0, ByteArray.empty) v4.1 (nn 1) h6) (o (dendronlaw28_feature.does h7) (o (dendronlaw28_cut.does h9) (o (dendronlaw28_row.does h10) (o (decide_eq_false h12) (o (rows_Words.does h13) (o (ne_f h14) (o (dendronlaw28_row.does h15) (o (dendronlaw28_many.does h17) (o (decide_eq_false h19) f)))))))))))))))) (by kernel_rfl) (ih.2 _ _ _ _ _ _ _ _ _ _ h)
                  · rw [if_pos rfl] at h
                    exact Til.mid Tryd.func8 38 [(4, ca (.tup [.c (.d (L54 v4.1)), .c (.d (.int .i64 v4.2.1)), .c (.d (.int .i64 v4.2.2))])), (13, .b false), (16, .b false), (21, ca (.c (.d (.int .i64 v21)))), (27, .b false), (29, Z54 (v4.1.drop 1)), (33, ca (.c (.d (.bool false)))), (35, ca (.c (.d (L50 v35)))), (40, ca (.c (.d (.bool true)))), (49, .b false), (51, .call [(0, .c (.d (L54 ([] : List (Int × Int × ByteArray)))))] [] (.tup [.c (.d (L43 v51.1)), .c (.d (.int .i64 v51.2.1)), .c (.d (.int .i64 v51.2.2))]) none [] []), (60, .b false), (63, ca (.c (.d (.bool true)))), (69, ca (.c (.d (.bool true))))] (fun _ f => o (lex_Words.does h0) (o (ne_f h1) (o (beq_false_of_ne h2) (o (o (nn 0) h3) (o (dendronlaw28_kind.does h4) (o (beq_false_of_ne h5) (o (drop_ok c54 (0, 0, ByteArray.empty) v4.1 (nn 1) h6) (o (dendronlaw28_feature.does h7) (o (dendronlaw28_cut.does h9) (o (dendronlaw28_row.does h10) (o (decide_eq_false h12) (o (rows_Words.does h13) (o (ne_f h14) (o (dendronlaw28_row.does h15) (o (dendronlaw28_many.does h17) f))))))))))))))) (by kernel_rfl) (ih.2 _ _ _ _ _ _ _ _ _ _ h)
        · rw [if_pos rfl] at h
          by_cases h9 : ((v4.1.drop 1).length : Int) = 0
          · rw [if_pos h9] at h
            obtain rfl := Option.some.inj h
            exact Til.fin Tryd.func8 [(4, ca (.tup [.c (.d (L54 v4.1)), .c (.d (.int .i64 v4.2.1)), .c (.d (.int .i64 v4.2.2))])), (13, .b false), (16, .b false), (21, ca (.c (.d (.int .i64 v21)))), (27, .b false), (29, Z54 (v4.1.drop 1)), (33, ca (.c (.d (.bool true)))), (36, .b true)] (fun _ f => o (lex_Words.does h0) (o (ne_f h1) (o (beq_false_of_ne h2) (o (o (nn 0) h3) (o (dendronlaw28_kind.does h4) (o (beq_false_of_ne h5) (o (drop_ok c54 (0, 0, ByteArray.empty) v4.1 (nn 1) h6) (o (dendronlaw28_feature.does h7) (o (beq_iff_eq.2 h9) f))))))))) (by kernel_rfl)
          · rw [if_neg h9] at h
            obtain ⟨h10, h⟩ := ifp h
            obtain ⟨v41, h11, h⟩ := bnd h
            by_cases h12 : v41.2 ≠ 0
            · rw [if_pos h12] at h
              obtain rfl := Option.some.inj h
              exact Til.fin Tryd.func8 [(4, ca (.tup [.c (.d (L54 v4.1)), .c (.d (.int .i64 v4.2.1)), .c (.d (.int .i64 v4.2.2))])), (13, .b false), (16, .b false), (21, ca (.c (.d (.int .i64 v21)))), (27, .b false), (29, Z54 (v4.1.drop 1)), (33, ca (.c (.d (.bool true)))), (36, .b false), (41, ca (.tup [.c (.d (.int .i64 v41.1)), .c (.d (.int .i64 v41.2))])), (48, .b true)] (fun _ f => o (lex_Words.does h0) (o (ne_f h1) (o (beq_false_of_ne h2) (o (o (nn 0) h3) (o (dendronlaw28_kind.does h4) (o (beq_false_of_ne h5) (o (drop_ok c54 (0, 0, ByteArray.empty) v4.1 (nn 1) h6) (o (dendronlaw28_feature.does h7) (o (beq_false_of_ne h9) (o (o (nn 0) h10) (o (dendronlaw28_digits.does h11) (o (bne_iff_ne.2 h12) (o (o (nn 0) h10) f))))))))))))) (by kernel_rfl)
            · rw [if_neg h12] at h
              obtain ⟨h13, h⟩ := ifp h
              obtain ⟨v56, h14, h⟩ := bnd h
              obtain ⟨v61, h15, h⟩ := bnd h
              cases v61
              · rw [if_neg (by decide)] at h
                obtain ⟨v65, h17, h⟩ := bnd h
                cases v65
                · rw [if_neg (by decide)] at h
                  obtain ⟨v69, h19, h⟩ := bnd h
                  cases v69
                  · rw [if_neg (by decide)] at h
                    by_cases h21 : 0 < (v56.length : Int)
                    · rw [if_pos h21] at h
                      exact Til.mid Tryd.func8 33 [(4, ca (.tup [.c (.d (L54 v4.1)), .c (.d (.int .i64 v4.2.1)), .c (.d (.int .i64 v4.2.2))])), (13, .b false), (16, .b false), (21, ca (.c (.d (.int .i64 v21)))), (27, .b false), (29, Z54 (v4.1.drop 1)), (33, ca (.c (.d (.bool true)))), (36, .b false), (41, ca (.tup [.c (.d (.int .i64 v41.1)), .c (.d (.int .i64 v41.2))])), (48, .b false), (53, Z54 ((v4.1.drop 1).drop 1)), (56, ca (.c (.d (L50 v56)))), (61, ca (.c (.d (.bool false)))), (65, ca (.c (.d (.bool false)))), (69, ca (.c (.d (.bool false)))), (75, .b true)] (fun _ f => o (lex_Words.does h0) (o (ne_f h1) (o (beq_false_of_ne h2) (o (o (nn 0) h3) (o (dendronlaw28_kind.does h4) (o (beq_false_of_ne h5) (o (drop_ok c54 (0, 0, ByteArray.empty) v4.1 (nn 1) h6) (o (dendronlaw28_feature.does h7) (o (beq_false_of_ne h9) (o (o (nn 0) h10) (o (dendronlaw28_digits.does h11) (o (ne_f h12) (o (drop_ok c54 (0, 0, ByteArray.empty) (v4.1.drop 1) (nn 1) h13) (o (dendronlaw28_cut.does h14) (o (dendronlaw28_row.does h15) (o (dendronlaw28_grid.does h17) (o (dendronlaw28_many.does h19) (o (decide_eq_true h21) f)))))))))))))))))) (by kernel_rfl) (ih.1 _ _ _ _ _ _ _ _ _ _ _ h)
                    · rw [if_neg h21] at h
                      exact Til.mid Tryd.func8 38 [(4, ca (.tup [.c (.d (L54 v4.1)), .c (.d (.int .i64 v4.2.1)), .c (.d (.int .i64 v4.2.2))])), (13, .b false), (16, .b false), (21, ca (.c (.d (.int .i64 v21)))), (27, .b false), (29, Z54 (v4.1.drop 1)), (33, ca (.c (.d (.bool true)))), (36, .b false), (41, ca (.tup [.c (.d (.int .i64 v41.1)), .c (.d (.int .i64 v41.2))])), (48, .b false), (53, Z54 ((v4.1.drop 1).drop 1)), (56, ca (.c (.d (L50 v56)))), (61, ca (.c (.d (.bool false)))), (65, ca (.c (.d (.bool false)))), (69, ca (.c (.d (.bool false)))), (75, .b false)] (fun _ f => o (lex_Words.does h0) (o (ne_f h1) (o (beq_false_of_ne h2) (o (o (nn 0) h3) (o (dendronlaw28_kind.does h4) (o (beq_false_of_ne h5) (o (drop_ok c54 (0, 0, ByteArray.empty) v4.1 (nn 1) h6) (o (dendronlaw28_feature.does h7) (o (beq_false_of_ne h9) (o (o (nn 0) h10) (o (dendronlaw28_digits.does h11) (o (ne_f h12) (o (drop_ok c54 (0, 0, ByteArray.empty) (v4.1.drop 1) (nn 1) h13) (o (dendronlaw28_cut.does h14) (o (dendronlaw28_row.does h15) (o (dendronlaw28_grid.does h17) (o (dendronlaw28_many.does h19) (o (decide_eq_false h21) f)))))))))))))))))) (by kernel_rfl) (ih.2 _ _ _ _ _ _ _ _ _ _ h)
                  · rw [if_pos rfl] at h
                    exact Til.mid Tryd.func8 38 [(4, ca (.tup [.c (.d (L54 v4.1)), .c (.d (.int .i64 v4.2.1)), .c (.d (.int .i64 v4.2.2))])), (13, .b false), (16, .b false), (21, ca (.c (.d (.int .i64 v21)))), (27, .b false), (29, Z54 (v4.1.drop 1)), (33, ca (.c (.d (.bool true)))), (36, .b false), (41, ca (.tup [.c (.d (.int .i64 v41.1)), .c (.d (.int .i64 v41.2))])), (48, .b false), (53, Z54 ((v4.1.drop 1).drop 1)), (56, ca (.c (.d (L50 v56)))), (61, ca (.c (.d (.bool false)))), (65, ca (.c (.d (.bool false)))), (69, ca (.c (.d (.bool true))))] (fun _ f => o (lex_Words.does h0) (o (ne_f h1) (o (beq_false_of_ne h2) (o (o (nn 0) h3) (o (dendronlaw28_kind.does h4) (o (beq_false_of_ne h5) (o (drop_ok c54 (0, 0, ByteArray.empty) v4.1 (nn 1) h6) (o (dendronlaw28_feature.does h7) (o (beq_false_of_ne h9) (o (o (nn 0) h10) (o (dendronlaw28_digits.does h11) (o (ne_f h12) (o (drop_ok c54 (0, 0, ByteArray.empty) (v4.1.drop 1) (nn 1) h13) (o (dendronlaw28_cut.does h14) (o (dendronlaw28_row.does h15) (o (dendronlaw28_grid.does h17) (o (dendronlaw28_many.does h19) f))))))))))))))))) (by kernel_rfl) (ih.2 _ _ _ _ _ _ _ _ _ _ h)
                · rw [if_pos rfl] at h
                  by_cases h19 : (v56.length : Int) > 0
                  · rw [if_pos h19] at h
                    obtain ⟨v77, h20, h⟩ := bnd h
                    by_cases h21 : v77.2.2 ≠ 0
                    · rw [if_pos h21] at h
                      obtain rfl := Option.some.inj h
                      exact Til.fin Tryd.func8 [(4, ca (.tup [.c (.d (L54 v4.1)), .c (.d (.int .i64 v4.2.1)), .c (.d (.int .i64 v4.2.2))])), (13, .b false), (16, .b false), (21, ca (.c (.d (.int .i64 v21)))), (27, .b false), (29, Z54 (v4.1.drop 1)), (33, ca (.c (.d (.bool true)))), (36, .b false), (41, ca (.tup [.c (.d (.int .i64 v41.1)), .c (.d (.int .i64 v41.2))])), (48, .b false), (53, Z54 ((v4.1.drop 1).drop 1)), (56, ca (.c (.d (L50 v56)))), (61, ca (.c (.d (.bool false)))), (65, ca (.c (.d (.bool true)))), (70, .b true), (77, ca (.tup [.c (.d (L43 v77.1)), .c (.d (.int .i64 v77.2.1)), .c (.d (.int .i64 v77.2.2))])), (86, .b true)] (fun _ f => o (lex_Words.does h0) (o (ne_f h1) (o (beq_false_of_ne h2) (o (o (nn 0) h3) (o (dendronlaw28_kind.does h4) (o (beq_false_of_ne h5) (o (drop_ok c54 (0, 0, ByteArray.empty) v4.1 (nn 1) h6) (o (dendronlaw28_feature.does h7) (o (beq_false_of_ne h9) (o (o (nn 0) h10) (o (dendronlaw28_digits.does h11) (o (ne_f h12) (o (drop_ok c54 (0, 0, ByteArray.empty) (v4.1.drop 1) (nn 1) h13) (o (dendronlaw28_cut.does h14) (o (dendronlaw28_row.does h15) (o (dendronlaw28_grid.does h17) (o (decide_eq_true h19) (o (o (nn 0) h19) (o (rows_Words.does h20) (o (bne_iff_ne.2 h21) f)))))))))))))))))))) (by kernel_rfl)
                    · rw [if_neg h21] at h
                      obtain ⟨v89, h22, h⟩ := bnd h
                      cases v89
                      · rw [if_neg (by decide)] at h
                        obtain ⟨v95, h24, h⟩ := bnd h
                        cases v95
                        · rw [if_neg (by decide)] at h
                          by_cases h26 : 1 < (v56.length : Int)
                          · rw [if_pos h26] at h
                            exact Til.mid Tryd.func8 33 [(4, ca (.tup [.c (.d (L54 v4.1)), .c (.d (.int .i64 v4.2.1)), .c (.d (.int .i64 v4.2.2))])), (13, .b false), (16, .b false), (21, ca (.c (.d (.int .i64 v21)))), (27, .b false), (29, Z54 (v4.1.drop 1)), (33, ca (.c (.d (.bool true)))), (36, .b false), (41, ca (.tup [.c (.d (.int .i64 v41.1)), .c (.d (.int .i64 v41.2))])), (48, .b false), (53, Z54 ((v4.1.drop 1).drop 1)), (56, ca (.c (.d (L50 v56)))), (61, ca (.c (.d (.bool false)))), (65, ca (.c (.d (.bool true)))), (70, .b true), (77, ca (.tup [.c (.d (L43 v77.1)), .c (.d (.int .i64 v77.2.1)), .c (.d (.int .i64 v77.2.2))])), (86, .b false), (89, ca (.c (.d (.bool false)))), (95, ca (.c (.d (.bool false)))), (101, .b true)] (fun _ f => o (lex_Words.does h0) (o (ne_f h1) (o (beq_false_of_ne h2) (o (o (nn 0) h3) (o (dendronlaw28_kind.does h4) (o (beq_false_of_ne h5) (o (drop_ok c54 (0, 0, ByteArray.empty) v4.1 (nn 1) h6) (o (dendronlaw28_feature.does h7) (o (beq_false_of_ne h9) (o (o (nn 0) h10) (o (dendronlaw28_digits.does h11) (o (ne_f h12) (o (drop_ok c54 (0, 0, ByteArray.empty) (v4.1.drop 1) (nn 1) h13) (o (dendronlaw28_cut.does h14) (o (dendronlaw28_row.does h15) (o (dendronlaw28_grid.does h17) (o (decide_eq_true h19) (o (o (nn 0) h19) (o (rows_Words.does h20) (o (ne_f h21) (o (dendronlaw28_row.does h22) (o (dendronlaw28_many.does h24) (o (decide_eq_true h26) f))))))))))))))))))))))) (by kernel_rfl) (ih.1 _ _ _ _ _ _ _ _ _ _ _ h)
                          · rw [if_neg h26] at h
                            exact Til.mid Tryd.func8 38 [(4, ca (.tup [.c (.d (L54 v4.1)), .c (.d (.int .i64 v4.2.1)), .c (.d (.int .i64 v4.2.2))])), (13, .b false), (16, .b false), (21, ca (.c (.d (.int .i64 v21)))), (27, .b false), (29, Z54 (v4.1.drop 1)), (33, ca (.c (.d (.bool true)))), (36, .b false), (41, ca (.tup [.c (.d (.int .i64 v41.1)), .c (.d (.int .i64 v41.2))])), (48, .b false), (53, Z54 ((v4.1.drop 1).drop 1)), (56, ca (.c (.d (L50 v56)))), (61, ca (.c (.d (.bool false)))), (65, ca (.c (.d (.bool true)))), (70, .b true), (77, ca (.tup [.c (.d (L43 v77.1)), .c (.d (.int .i64 v77.2.1)), .c (.d (.int .i64 v77.2.2))])), (86, .b false), (89, ca (.c (.d (.bool false)))), (95, ca (.c (.d (.bool false)))), (101, .b false)] (fun _ f => o (lex_Words.does h0) (o (ne_f h1) (o (beq_false_of_ne h2) (o (o (nn 0) h3) (o (dendronlaw28_kind.does h4) (o (beq_false_of_ne h5) (o (drop_ok c54 (0, 0, ByteArray.empty) v4.1 (nn 1) h6) (o (dendronlaw28_feature.does h7) (o (beq_false_of_ne h9) (o (o (nn 0) h10) (o (dendronlaw28_digits.does h11) (o (ne_f h12) (o (drop_ok c54 (0, 0, ByteArray.empty) (v4.1.drop 1) (nn 1) h13) (o (dendronlaw28_cut.does h14) (o (dendronlaw28_row.does h15) (o (dendronlaw28_grid.does h17) (o (decide_eq_true h19) (o (o (nn 0) h19) (o (rows_Words.does h20) (o (ne_f h21) (o (dendronlaw28_row.does h22) (o (dendronlaw28_many.does h24) (o (decide_eq_false h26) f))))))))))))))))))))))) (by kernel_rfl) (ih.2 _ _ _ _ _ _ _ _ _ _ h)
                        · rw [if_pos rfl] at h
                          exact Til.mid Tryd.func8 38 [(4, ca (.tup [.c (.d (L54 v4.1)), .c (.d (.int .i64 v4.2.1)), .c (.d (.int .i64 v4.2.2))])), (13, .b false), (16, .b false), (21, ca (.c (.d (.int .i64 v21)))), (27, .b false), (29, Z54 (v4.1.drop 1)), (33, ca (.c (.d (.bool true)))), (36, .b false), (41, ca (.tup [.c (.d (.int .i64 v41.1)), .c (.d (.int .i64 v41.2))])), (48, .b false), (53, Z54 ((v4.1.drop 1).drop 1)), (56, ca (.c (.d (L50 v56)))), (61, ca (.c (.d (.bool false)))), (65, ca (.c (.d (.bool true)))), (70, .b true), (77, ca (.tup [.c (.d (L43 v77.1)), .c (.d (.int .i64 v77.2.1)), .c (.d (.int .i64 v77.2.2))])), (86, .b false), (89, ca (.c (.d (.bool false)))), (95, ca (.c (.d (.bool true))))] (fun _ f => o (lex_Words.does h0) (o (ne_f h1) (o (beq_false_of_ne h2) (o (o (nn 0) h3) (o (dendronlaw28_kind.does h4) (o (beq_false_of_ne h5) (o (drop_ok c54 (0, 0, ByteArray.empty) v4.1 (nn 1) h6) (o (dendronlaw28_feature.does h7) (o (beq_false_of_ne h9) (o (o (nn 0) h10) (o (dendronlaw28_digits.does h11) (o (ne_f h12) (o (drop_ok c54 (0, 0, ByteArray.empty) (v4.1.drop 1) (nn 1) h13) (o (dendronlaw28_cut.does h14) (o (dendronlaw28_row.does h15) (o (dendronlaw28_grid.does h17) (o (decide_eq_true h19) (o (o (nn 0) h19) (o (rows_Words.does h20) (o (ne_f h21) (o (dendronlaw28_row.does h22) (o (dendronlaw28_many.does h24) f)))))))))))))))))))))) (by kernel_rfl) (ih.2 _ _ _ _ _ _ _ _ _ _ h)
                      · rw [if_pos rfl] at h
                        obtain ⟨v95, h24, h⟩ := bnd h
                        cases v95
                        · rw [if_neg (by decide)] at h
                          by_cases h26 : 1 < (v56.length : Int)
                          · rw [if_pos h26] at h
                            exact Til.mid Tryd.func8 33 [(4, ca (.tup [.c (.d (L54 v4.1)), .c (.d (.int .i64 v4.2.1)), .c (.d (.int .i64 v4.2.2))])), (13, .b false), (16, .b false), (21, ca (.c (.d (.int .i64 v21)))), (27, .b false), (29, Z54 (v4.1.drop 1)), (33, ca (.c (.d (.bool true)))), (36, .b false), (41, ca (.tup [.c (.d (.int .i64 v41.1)), .c (.d (.int .i64 v41.2))])), (48, .b false), (53, Z54 ((v4.1.drop 1).drop 1)), (56, ca (.c (.d (L50 v56)))), (61, ca (.c (.d (.bool false)))), (65, ca (.c (.d (.bool true)))), (70, .b true), (77, ca (.tup [.c (.d (L43 v77.1)), .c (.d (.int .i64 v77.2.1)), .c (.d (.int .i64 v77.2.2))])), (86, .b false), (89, ca (.c (.d (.bool true)))), (95, ca (.c (.d (.bool false)))), (101, .b true)] (fun _ f => o (lex_Words.does h0) (o (ne_f h1) (o (beq_false_of_ne h2) (o (o (nn 0) h3) (o (dendronlaw28_kind.does h4) (o (beq_false_of_ne h5) (o (drop_ok c54 (0, 0, ByteArray.empty) v4.1 (nn 1) h6) (o (dendronlaw28_feature.does h7) (o (beq_false_of_ne h9) (o (o (nn 0) h10) (o (dendronlaw28_digits.does h11) (o (ne_f h12) (o (drop_ok c54 (0, 0, ByteArray.empty) (v4.1.drop 1) (nn 1) h13) (o (dendronlaw28_cut.does h14) (o (dendronlaw28_row.does h15) (o (dendronlaw28_grid.does h17) (o (decide_eq_true h19) (o (o (nn 0) h19) (o (rows_Words.does h20) (o (ne_f h21) (o (dendronlaw28_row.does h22) (o (dendronlaw28_many.does h24) (o (decide_eq_true h26) f))))))))))))))))))))))) (by kernel_rfl) (ih.1 _ _ _ _ _ _ _ _ _ _ _ h)
                          · rw [if_neg h26] at h
                            exact Til.mid Tryd.func8 38 [(4, ca (.tup [.c (.d (L54 v4.1)), .c (.d (.int .i64 v4.2.1)), .c (.d (.int .i64 v4.2.2))])), (13, .b false), (16, .b false), (21, ca (.c (.d (.int .i64 v21)))), (27, .b false), (29, Z54 (v4.1.drop 1)), (33, ca (.c (.d (.bool true)))), (36, .b false), (41, ca (.tup [.c (.d (.int .i64 v41.1)), .c (.d (.int .i64 v41.2))])), (48, .b false), (53, Z54 ((v4.1.drop 1).drop 1)), (56, ca (.c (.d (L50 v56)))), (61, ca (.c (.d (.bool false)))), (65, ca (.c (.d (.bool true)))), (70, .b true), (77, ca (.tup [.c (.d (L43 v77.1)), .c (.d (.int .i64 v77.2.1)), .c (.d (.int .i64 v77.2.2))])), (86, .b false), (89, ca (.c (.d (.bool true)))), (95, ca (.c (.d (.bool false)))), (101, .b false)] (fun _ f => o (lex_Words.does h0) (o (ne_f h1) (o (beq_false_of_ne h2) (o (o (nn 0) h3) (o (dendronlaw28_kind.does h4) (o (beq_false_of_ne h5) (o (drop_ok c54 (0, 0, ByteArray.empty) v4.1 (nn 1) h6) (o (dendronlaw28_feature.does h7) (o (beq_false_of_ne h9) (o (o (nn 0) h10) (o (dendronlaw28_digits.does h11) (o (ne_f h12) (o (drop_ok c54 (0, 0, ByteArray.empty) (v4.1.drop 1) (nn 1) h13) (o (dendronlaw28_cut.does h14) (o (dendronlaw28_row.does h15) (o (dendronlaw28_grid.does h17) (o (decide_eq_true h19) (o (o (nn 0) h19) (o (rows_Words.does h20) (o (ne_f h21) (o (dendronlaw28_row.does h22) (o (dendronlaw28_many.does h24) (o (decide_eq_false h26) f))))))))))))))))))))))) (by kernel_rfl) (ih.2 _ _ _ _ _ _ _ _ _ _ h)
                        · rw [if_pos rfl] at h
                          exact Til.mid Tryd.func8 38 [(4, ca (.tup [.c (.d (L54 v4.1)), .c (.d (.int .i64 v4.2.1)), .c (.d (.int .i64 v4.2.2))])), (13, .b false), (16, .b false), (21, ca (.c (.d (.int .i64 v21)))), (27, .b false), (29, Z54 (v4.1.drop 1)), (33, ca (.c (.d (.bool true)))), (36, .b false), (41, ca (.tup [.c (.d (.int .i64 v41.1)), .c (.d (.int .i64 v41.2))])), (48, .b false), (53, Z54 ((v4.1.drop 1).drop 1)), (56, ca (.c (.d (L50 v56)))), (61, ca (.c (.d (.bool false)))), (65, ca (.c (.d (.bool true)))), (70, .b true), (77, ca (.tup [.c (.d (L43 v77.1)), .c (.d (.int .i64 v77.2.1)), .c (.d (.int .i64 v77.2.2))])), (86, .b false), (89, ca (.c (.d (.bool true)))), (95, ca (.c (.d (.bool true))))] (fun _ f => o (lex_Words.does h0) (o (ne_f h1) (o (beq_false_of_ne h2) (o (o (nn 0) h3) (o (dendronlaw28_kind.does h4) (o (beq_false_of_ne h5) (o (drop_ok c54 (0, 0, ByteArray.empty) v4.1 (nn 1) h6) (o (dendronlaw28_feature.does h7) (o (beq_false_of_ne h9) (o (o (nn 0) h10) (o (dendronlaw28_digits.does h11) (o (ne_f h12) (o (drop_ok c54 (0, 0, ByteArray.empty) (v4.1.drop 1) (nn 1) h13) (o (dendronlaw28_cut.does h14) (o (dendronlaw28_row.does h15) (o (dendronlaw28_grid.does h17) (o (decide_eq_true h19) (o (o (nn 0) h19) (o (rows_Words.does h20) (o (ne_f h21) (o (dendronlaw28_row.does h22) (o (dendronlaw28_many.does h24) f)))))))))))))))))))))) (by kernel_rfl) (ih.2 _ _ _ _ _ _ _ _ _ _ h)
                  · rw [if_neg h19] at h
                    obtain ⟨v72, h20, h⟩ := bnd h
                    by_cases h21 : v72.2.2 ≠ 0
                    · rw [if_pos h21] at h
                      obtain rfl := Option.some.inj h
                      exact Til.fin Tryd.func8 [(4, ca (.tup [.c (.d (L54 v4.1)), .c (.d (.int .i64 v4.2.1)), .c (.d (.int .i64 v4.2.2))])), (13, .b false), (16, .b false), (21, ca (.c (.d (.int .i64 v21)))), (27, .b false), (29, Z54 (v4.1.drop 1)), (33, ca (.c (.d (.bool true)))), (36, .b false), (41, ca (.tup [.c (.d (.int .i64 v41.1)), .c (.d (.int .i64 v41.2))])), (48, .b false), (53, Z54 ((v4.1.drop 1).drop 1)), (56, ca (.c (.d (L50 v56)))), (61, ca (.c (.d (.bool false)))), (65, ca (.c (.d (.bool true)))), (70, .b false), (72, .call [(0, .c (.d (L54 ([] : List (Int × Int × ByteArray)))))] [] (.tup [.c (.d (L43 v72.1)), .c (.d (.int .i64 v72.2.1)), .c (.d (.int .i64 v72.2.2))]) none [] []), (81, .b true)] (fun _ f => o (lex_Words.does h0) (o (ne_f h1) (o (beq_false_of_ne h2) (o (o (nn 0) h3) (o (dendronlaw28_kind.does h4) (o (beq_false_of_ne h5) (o (drop_ok c54 (0, 0, ByteArray.empty) v4.1 (nn 1) h6) (o (dendronlaw28_feature.does h7) (o (beq_false_of_ne h9) (o (o (nn 0) h10) (o (dendronlaw28_digits.does h11) (o (ne_f h12) (o (drop_ok c54 (0, 0, ByteArray.empty) (v4.1.drop 1) (nn 1) h13) (o (dendronlaw28_cut.does h14) (o (dendronlaw28_row.does h15) (o (dendronlaw28_grid.does h17) (o (decide_eq_false h19) (o (rows_Words.does h20) (o (bne_iff_ne.2 h21) f))))))))))))))))))) (by kernel_rfl)
                    · rw [if_neg h21] at h
                      obtain ⟨v84, h22, h⟩ := bnd h
                      cases v84
                      · rw [if_neg (by decide)] at h
                        obtain ⟨v90, h24, h⟩ := bnd h
                        cases v90
                        · rw [if_neg (by decide)] at h
                          by_cases h26 : 0 < (v56.length : Int)
                          · rw [if_pos h26] at h
                            exact Til.mid Tryd.func8 33 [(4, ca (.tup [.c (.d (L54 v4.1)), .c (.d (.int .i64 v4.2.1)), .c (.d (.int .i64 v4.2.2))])), (13, .b false), (16, .b false), (21, ca (.c (.d (.int .i64 v21)))), (27, .b false), (29, Z54 (v4.1.drop 1)), (33, ca (.c (.d (.bool true)))), (36, .b false), (41, ca (.tup [.c (.d (.int .i64 v41.1)), .c (.d (.int .i64 v41.2))])), (48, .b false), (53, Z54 ((v4.1.drop 1).drop 1)), (56, ca (.c (.d (L50 v56)))), (61, ca (.c (.d (.bool false)))), (65, ca (.c (.d (.bool true)))), (70, .b false), (72, .call [(0, .c (.d (L54 ([] : List (Int × Int × ByteArray)))))] [] (.tup [.c (.d (L43 v72.1)), .c (.d (.int .i64 v72.2.1)), .c (.d (.int .i64 v72.2.2))]) none [] []), (81, .b false), (84, ca (.c (.d (.bool false)))), (90, ca (.c (.d (.bool false)))), (96, .b true)] (fun _ f => o (lex_Words.does h0) (o (ne_f h1) (o (beq_false_of_ne h2) (o (o (nn 0) h3) (o (dendronlaw28_kind.does h4) (o (beq_false_of_ne h5) (o (drop_ok c54 (0, 0, ByteArray.empty) v4.1 (nn 1) h6) (o (dendronlaw28_feature.does h7) (o (beq_false_of_ne h9) (o (o (nn 0) h10) (o (dendronlaw28_digits.does h11) (o (ne_f h12) (o (drop_ok c54 (0, 0, ByteArray.empty) (v4.1.drop 1) (nn 1) h13) (o (dendronlaw28_cut.does h14) (o (dendronlaw28_row.does h15) (o (dendronlaw28_grid.does h17) (o (decide_eq_false h19) (o (rows_Words.does h20) (o (ne_f h21) (o (dendronlaw28_row.does h22) (o (dendronlaw28_many.does h24) (o (decide_eq_true h26) f)))))))))))))))))))))) (by kernel_rfl) (ih.1 _ _ _ _ _ _ _ _ _ _ _ h)
                          · rw [if_neg h26] at h
                            exact Til.mid Tryd.func8 38 [(4, ca (.tup [.c (.d (L54 v4.1)), .c (.d (.int .i64 v4.2.1)), .c (.d (.int .i64 v4.2.2))])), (13, .b false), (16, .b false), (21, ca (.c (.d (.int .i64 v21)))), (27, .b false), (29, Z54 (v4.1.drop 1)), (33, ca (.c (.d (.bool true)))), (36, .b false), (41, ca (.tup [.c (.d (.int .i64 v41.1)), .c (.d (.int .i64 v41.2))])), (48, .b false), (53, Z54 ((v4.1.drop 1).drop 1)), (56, ca (.c (.d (L50 v56)))), (61, ca (.c (.d (.bool false)))), (65, ca (.c (.d (.bool true)))), (70, .b false), (72, .call [(0, .c (.d (L54 ([] : List (Int × Int × ByteArray)))))] [] (.tup [.c (.d (L43 v72.1)), .c (.d (.int .i64 v72.2.1)), .c (.d (.int .i64 v72.2.2))]) none [] []), (81, .b false), (84, ca (.c (.d (.bool false)))), (90, ca (.c (.d (.bool false)))), (96, .b false)] (fun _ f => o (lex_Words.does h0) (o (ne_f h1) (o (beq_false_of_ne h2) (o (o (nn 0) h3) (o (dendronlaw28_kind.does h4) (o (beq_false_of_ne h5) (o (drop_ok c54 (0, 0, ByteArray.empty) v4.1 (nn 1) h6) (o (dendronlaw28_feature.does h7) (o (beq_false_of_ne h9) (o (o (nn 0) h10) (o (dendronlaw28_digits.does h11) (o (ne_f h12) (o (drop_ok c54 (0, 0, ByteArray.empty) (v4.1.drop 1) (nn 1) h13) (o (dendronlaw28_cut.does h14) (o (dendronlaw28_row.does h15) (o (dendronlaw28_grid.does h17) (o (decide_eq_false h19) (o (rows_Words.does h20) (o (ne_f h21) (o (dendronlaw28_row.does h22) (o (dendronlaw28_many.does h24) (o (decide_eq_false h26) f)))))))))))))))))))))) (by kernel_rfl) (ih.2 _ _ _ _ _ _ _ _ _ _ h)
                        · rw [if_pos rfl] at h
                          exact Til.mid Tryd.func8 38 [(4, ca (.tup [.c (.d (L54 v4.1)), .c (.d (.int .i64 v4.2.1)), .c (.d (.int .i64 v4.2.2))])), (13, .b false), (16, .b false), (21, ca (.c (.d (.int .i64 v21)))), (27, .b false), (29, Z54 (v4.1.drop 1)), (33, ca (.c (.d (.bool true)))), (36, .b false), (41, ca (.tup [.c (.d (.int .i64 v41.1)), .c (.d (.int .i64 v41.2))])), (48, .b false), (53, Z54 ((v4.1.drop 1).drop 1)), (56, ca (.c (.d (L50 v56)))), (61, ca (.c (.d (.bool false)))), (65, ca (.c (.d (.bool true)))), (70, .b false), (72, .call [(0, .c (.d (L54 ([] : List (Int × Int × ByteArray)))))] [] (.tup [.c (.d (L43 v72.1)), .c (.d (.int .i64 v72.2.1)), .c (.d (.int .i64 v72.2.2))]) none [] []), (81, .b false), (84, ca (.c (.d (.bool false)))), (90, ca (.c (.d (.bool true))))] (fun _ f => o (lex_Words.does h0) (o (ne_f h1) (o (beq_false_of_ne h2) (o (o (nn 0) h3) (o (dendronlaw28_kind.does h4) (o (beq_false_of_ne h5) (o (drop_ok c54 (0, 0, ByteArray.empty) v4.1 (nn 1) h6) (o (dendronlaw28_feature.does h7) (o (beq_false_of_ne h9) (o (o (nn 0) h10) (o (dendronlaw28_digits.does h11) (o (ne_f h12) (o (drop_ok c54 (0, 0, ByteArray.empty) (v4.1.drop 1) (nn 1) h13) (o (dendronlaw28_cut.does h14) (o (dendronlaw28_row.does h15) (o (dendronlaw28_grid.does h17) (o (decide_eq_false h19) (o (rows_Words.does h20) (o (ne_f h21) (o (dendronlaw28_row.does h22) (o (dendronlaw28_many.does h24) f))))))))))))))))))))) (by kernel_rfl) (ih.2 _ _ _ _ _ _ _ _ _ _ h)
                      · rw [if_pos rfl] at h
                        obtain ⟨v90, h24, h⟩ := bnd h
                        cases v90
                        · rw [if_neg (by decide)] at h
                          by_cases h26 : 0 < (v56.length : Int)
                          · rw [if_pos h26] at h
                            exact Til.mid Tryd.func8 33 [(4, ca (.tup [.c (.d (L54 v4.1)), .c (.d (.int .i64 v4.2.1)), .c (.d (.int .i64 v4.2.2))])), (13, .b false), (16, .b false), (21, ca (.c (.d (.int .i64 v21)))), (27, .b false), (29, Z54 (v4.1.drop 1)), (33, ca (.c (.d (.bool true)))), (36, .b false), (41, ca (.tup [.c (.d (.int .i64 v41.1)), .c (.d (.int .i64 v41.2))])), (48, .b false), (53, Z54 ((v4.1.drop 1).drop 1)), (56, ca (.c (.d (L50 v56)))), (61, ca (.c (.d (.bool false)))), (65, ca (.c (.d (.bool true)))), (70, .b false), (72, .call [(0, .c (.d (L54 ([] : List (Int × Int × ByteArray)))))] [] (.tup [.c (.d (L43 v72.1)), .c (.d (.int .i64 v72.2.1)), .c (.d (.int .i64 v72.2.2))]) none [] []), (81, .b false), (84, ca (.c (.d (.bool true)))), (90, ca (.c (.d (.bool false)))), (96, .b true)] (fun _ f => o (lex_Words.does h0) (o (ne_f h1) (o (beq_false_of_ne h2) (o (o (nn 0) h3) (o (dendronlaw28_kind.does h4) (o (beq_false_of_ne h5) (o (drop_ok c54 (0, 0, ByteArray.empty) v4.1 (nn 1) h6) (o (dendronlaw28_feature.does h7) (o (beq_false_of_ne h9) (o (o (nn 0) h10) (o (dendronlaw28_digits.does h11) (o (ne_f h12) (o (drop_ok c54 (0, 0, ByteArray.empty) (v4.1.drop 1) (nn 1) h13) (o (dendronlaw28_cut.does h14) (o (dendronlaw28_row.does h15) (o (dendronlaw28_grid.does h17) (o (decide_eq_false h19) (o (rows_Words.does h20) (o (ne_f h21) (o (dendronlaw28_row.does h22) (o (dendronlaw28_many.does h24) (o (decide_eq_true h26) f)))))))))))))))))))))) (by kernel_rfl) (ih.1 _ _ _ _ _ _ _ _ _ _ _ h)
                          · rw [if_neg h26] at h
                            exact Til.mid Tryd.func8 38 [(4, ca (.tup [.c (.d (L54 v4.1)), .c (.d (.int .i64 v4.2.1)), .c (.d (.int .i64 v4.2.2))])), (13, .b false), (16, .b false), (21, ca (.c (.d (.int .i64 v21)))), (27, .b false), (29, Z54 (v4.1.drop 1)), (33, ca (.c (.d (.bool true)))), (36, .b false), (41, ca (.tup [.c (.d (.int .i64 v41.1)), .c (.d (.int .i64 v41.2))])), (48, .b false), (53, Z54 ((v4.1.drop 1).drop 1)), (56, ca (.c (.d (L50 v56)))), (61, ca (.c (.d (.bool false)))), (65, ca (.c (.d (.bool true)))), (70, .b false), (72, .call [(0, .c (.d (L54 ([] : List (Int × Int × ByteArray)))))] [] (.tup [.c (.d (L43 v72.1)), .c (.d (.int .i64 v72.2.1)), .c (.d (.int .i64 v72.2.2))]) none [] []), (81, .b false), (84, ca (.c (.d (.bool true)))), (90, ca (.c (.d (.bool false)))), (96, .b false)] (fun _ f => o (lex_Words.does h0) (o (ne_f h1) (o (beq_false_of_ne h2) (o (o (nn 0) h3) (o (dendronlaw28_kind.does h4) (o (beq_false_of_ne h5) (o (drop_ok c54 (0, 0, ByteArray.empty) v4.1 (nn 1) h6) (o (dendronlaw28_feature.does h7) (o (beq_false_of_ne h9) (o (o (nn 0) h10) (o (dendronlaw28_digits.does h11) (o (ne_f h12) (o (drop_ok c54 (0, 0, ByteArray.empty) (v4.1.drop 1) (nn 1) h13) (o (dendronlaw28_cut.does h14) (o (dendronlaw28_row.does h15) (o (dendronlaw28_grid.does h17) (o (decide_eq_false h19) (o (rows_Words.does h20) (o (ne_f h21) (o (dendronlaw28_row.does h22) (o (dendronlaw28_many.does h24) (o (decide_eq_false h26) f)))))))))))))))))))))) (by kernel_rfl) (ih.2 _ _ _ _ _ _ _ _ _ _ h)
                        · rw [if_pos rfl] at h
                          exact Til.mid Tryd.func8 38 [(4, ca (.tup [.c (.d (L54 v4.1)), .c (.d (.int .i64 v4.2.1)), .c (.d (.int .i64 v4.2.2))])), (13, .b false), (16, .b false), (21, ca (.c (.d (.int .i64 v21)))), (27, .b false), (29, Z54 (v4.1.drop 1)), (33, ca (.c (.d (.bool true)))), (36, .b false), (41, ca (.tup [.c (.d (.int .i64 v41.1)), .c (.d (.int .i64 v41.2))])), (48, .b false), (53, Z54 ((v4.1.drop 1).drop 1)), (56, ca (.c (.d (L50 v56)))), (61, ca (.c (.d (.bool false)))), (65, ca (.c (.d (.bool true)))), (70, .b false), (72, .call [(0, .c (.d (L54 ([] : List (Int × Int × ByteArray)))))] [] (.tup [.c (.d (L43 v72.1)), .c (.d (.int .i64 v72.2.1)), .c (.d (.int .i64 v72.2.2))]) none [] []), (81, .b false), (84, ca (.c (.d (.bool true)))), (90, ca (.c (.d (.bool true))))] (fun _ f => o (lex_Words.does h0) (o (ne_f h1) (o (beq_false_of_ne h2) (o (o (nn 0) h3) (o (dendronlaw28_kind.does h4) (o (beq_false_of_ne h5) (o (drop_ok c54 (0, 0, ByteArray.empty) v4.1 (nn 1) h6) (o (dendronlaw28_feature.does h7) (o (beq_false_of_ne h9) (o (o (nn 0) h10) (o (dendronlaw28_digits.does h11) (o (ne_f h12) (o (drop_ok c54 (0, 0, ByteArray.empty) (v4.1.drop 1) (nn 1) h13) (o (dendronlaw28_cut.does h14) (o (dendronlaw28_row.does h15) (o (dendronlaw28_grid.does h17) (o (decide_eq_false h19) (o (rows_Words.does h20) (o (ne_f h21) (o (dendronlaw28_row.does h22) (o (dendronlaw28_many.does h24) f))))))))))))))))))))) (by kernel_rfl) (ih.2 _ _ _ _ _ _ _ _ _ _ h)
              · rw [if_pos rfl] at h
                by_cases h17 : (v56.length : Int) > 0
                · rw [if_pos h17] at h
                  obtain ⟨v77, h18, h⟩ := bnd h
                  by_cases h19 : v77.2.2 ≠ 0
                  · rw [if_pos h19] at h
                    obtain rfl := Option.some.inj h
                    exact Til.fin Tryd.func8 [(4, ca (.tup [.c (.d (L54 v4.1)), .c (.d (.int .i64 v4.2.1)), .c (.d (.int .i64 v4.2.2))])), (13, .b false), (16, .b false), (21, ca (.c (.d (.int .i64 v21)))), (27, .b false), (29, Z54 (v4.1.drop 1)), (33, ca (.c (.d (.bool true)))), (36, .b false), (41, ca (.tup [.c (.d (.int .i64 v41.1)), .c (.d (.int .i64 v41.2))])), (48, .b false), (53, Z54 ((v4.1.drop 1).drop 1)), (56, ca (.c (.d (L50 v56)))), (61, ca (.c (.d (.bool true)))), (70, .b true), (77, ca (.tup [.c (.d (L43 v77.1)), .c (.d (.int .i64 v77.2.1)), .c (.d (.int .i64 v77.2.2))])), (86, .b true)] (fun _ f => o (lex_Words.does h0) (o (ne_f h1) (o (beq_false_of_ne h2) (o (o (nn 0) h3) (o (dendronlaw28_kind.does h4) (o (beq_false_of_ne h5) (o (drop_ok c54 (0, 0, ByteArray.empty) v4.1 (nn 1) h6) (o (dendronlaw28_feature.does h7) (o (beq_false_of_ne h9) (o (o (nn 0) h10) (o (dendronlaw28_digits.does h11) (o (ne_f h12) (o (drop_ok c54 (0, 0, ByteArray.empty) (v4.1.drop 1) (nn 1) h13) (o (dendronlaw28_cut.does h14) (o (dendronlaw28_row.does h15) (o (decide_eq_true h17) (o (o (nn 0) h17) (o (rows_Words.does h18) (o (bne_iff_ne.2 h19) f))))))))))))))))))) (by kernel_rfl)
                  · rw [if_neg h19] at h
                    obtain ⟨v89, h20, h⟩ := bnd h
                    cases v89
                    · rw [if_neg (by decide)] at h
                      obtain ⟨v95, h22, h⟩ := bnd h
                      cases v95
                      · rw [if_neg (by decide)] at h
                        by_cases h24 : 1 < (v56.length : Int)
                        · rw [if_pos h24] at h
                          exact Til.mid Tryd.func8 33 [(4, ca (.tup [.c (.d (L54 v4.1)), .c (.d (.int .i64 v4.2.1)), .c (.d (.int .i64 v4.2.2))])), (13, .b false), (16, .b false), (21, ca (.c (.d (.int .i64 v21)))), (27, .b false), (29, Z54 (v4.1.drop 1)), (33, ca (.c (.d (.bool true)))), (36, .b false), (41, ca (.tup [.c (.d (.int .i64 v41.1)), .c (.d (.int .i64 v41.2))])), (48, .b false), (53, Z54 ((v4.1.drop 1).drop 1)), (56, ca (.c (.d (L50 v56)))), (61, ca (.c (.d (.bool true)))), (70, .b true), (77, ca (.tup [.c (.d (L43 v77.1)), .c (.d (.int .i64 v77.2.1)), .c (.d (.int .i64 v77.2.2))])), (86, .b false), (89, ca (.c (.d (.bool false)))), (95, ca (.c (.d (.bool false)))), (101, .b true)] (fun _ f => o (lex_Words.does h0) (o (ne_f h1) (o (beq_false_of_ne h2) (o (o (nn 0) h3) (o (dendronlaw28_kind.does h4) (o (beq_false_of_ne h5) (o (drop_ok c54 (0, 0, ByteArray.empty) v4.1 (nn 1) h6) (o (dendronlaw28_feature.does h7) (o (beq_false_of_ne h9) (o (o (nn 0) h10) (o (dendronlaw28_digits.does h11) (o (ne_f h12) (o (drop_ok c54 (0, 0, ByteArray.empty) (v4.1.drop 1) (nn 1) h13) (o (dendronlaw28_cut.does h14) (o (dendronlaw28_row.does h15) (o (decide_eq_true h17) (o (o (nn 0) h17) (o (rows_Words.does h18) (o (ne_f h19) (o (dendronlaw28_row.does h20) (o (dendronlaw28_many.does h22) (o (decide_eq_true h24) f)))))))))))))))))))))) (by kernel_rfl) (ih.1 _ _ _ _ _ _ _ _ _ _ _ h)
                        · rw [if_neg h24] at h
                          exact Til.mid Tryd.func8 38 [(4, ca (.tup [.c (.d (L54 v4.1)), .c (.d (.int .i64 v4.2.1)), .c (.d (.int .i64 v4.2.2))])), (13, .b false), (16, .b false), (21, ca (.c (.d (.int .i64 v21)))), (27, .b false), (29, Z54 (v4.1.drop 1)), (33, ca (.c (.d (.bool true)))), (36, .b false), (41, ca (.tup [.c (.d (.int .i64 v41.1)), .c (.d (.int .i64 v41.2))])), (48, .b false), (53, Z54 ((v4.1.drop 1).drop 1)), (56, ca (.c (.d (L50 v56)))), (61, ca (.c (.d (.bool true)))), (70, .b true), (77, ca (.tup [.c (.d (L43 v77.1)), .c (.d (.int .i64 v77.2.1)), .c (.d (.int .i64 v77.2.2))])), (86, .b false), (89, ca (.c (.d (.bool false)))), (95, ca (.c (.d (.bool false)))), (101, .b false)] (fun _ f => o (lex_Words.does h0) (o (ne_f h1) (o (beq_false_of_ne h2) (o (o (nn 0) h3) (o (dendronlaw28_kind.does h4) (o (beq_false_of_ne h5) (o (drop_ok c54 (0, 0, ByteArray.empty) v4.1 (nn 1) h6) (o (dendronlaw28_feature.does h7) (o (beq_false_of_ne h9) (o (o (nn 0) h10) (o (dendronlaw28_digits.does h11) (o (ne_f h12) (o (drop_ok c54 (0, 0, ByteArray.empty) (v4.1.drop 1) (nn 1) h13) (o (dendronlaw28_cut.does h14) (o (dendronlaw28_row.does h15) (o (decide_eq_true h17) (o (o (nn 0) h17) (o (rows_Words.does h18) (o (ne_f h19) (o (dendronlaw28_row.does h20) (o (dendronlaw28_many.does h22) (o (decide_eq_false h24) f)))))))))))))))))))))) (by kernel_rfl) (ih.2 _ _ _ _ _ _ _ _ _ _ h)
                      · rw [if_pos rfl] at h
                        exact Til.mid Tryd.func8 38 [(4, ca (.tup [.c (.d (L54 v4.1)), .c (.d (.int .i64 v4.2.1)), .c (.d (.int .i64 v4.2.2))])), (13, .b false), (16, .b false), (21, ca (.c (.d (.int .i64 v21)))), (27, .b false), (29, Z54 (v4.1.drop 1)), (33, ca (.c (.d (.bool true)))), (36, .b false), (41, ca (.tup [.c (.d (.int .i64 v41.1)), .c (.d (.int .i64 v41.2))])), (48, .b false), (53, Z54 ((v4.1.drop 1).drop 1)), (56, ca (.c (.d (L50 v56)))), (61, ca (.c (.d (.bool true)))), (70, .b true), (77, ca (.tup [.c (.d (L43 v77.1)), .c (.d (.int .i64 v77.2.1)), .c (.d (.int .i64 v77.2.2))])), (86, .b false), (89, ca (.c (.d (.bool false)))), (95, ca (.c (.d (.bool true))))] (fun _ f => o (lex_Words.does h0) (o (ne_f h1) (o (beq_false_of_ne h2) (o (o (nn 0) h3) (o (dendronlaw28_kind.does h4) (o (beq_false_of_ne h5) (o (drop_ok c54 (0, 0, ByteArray.empty) v4.1 (nn 1) h6) (o (dendronlaw28_feature.does h7) (o (beq_false_of_ne h9) (o (o (nn 0) h10) (o (dendronlaw28_digits.does h11) (o (ne_f h12) (o (drop_ok c54 (0, 0, ByteArray.empty) (v4.1.drop 1) (nn 1) h13) (o (dendronlaw28_cut.does h14) (o (dendronlaw28_row.does h15) (o (decide_eq_true h17) (o (o (nn 0) h17) (o (rows_Words.does h18) (o (ne_f h19) (o (dendronlaw28_row.does h20) (o (dendronlaw28_many.does h22) f))))))))))))))))))))) (by kernel_rfl) (ih.2 _ _ _ _ _ _ _ _ _ _ h)
                    · rw [if_pos rfl] at h
                      obtain ⟨v95, h22, h⟩ := bnd h
                      cases v95
                      · rw [if_neg (by decide)] at h
                        by_cases h24 : 1 < (v56.length : Int)
                        · rw [if_pos h24] at h
                          exact Til.mid Tryd.func8 33 [(4, ca (.tup [.c (.d (L54 v4.1)), .c (.d (.int .i64 v4.2.1)), .c (.d (.int .i64 v4.2.2))])), (13, .b false), (16, .b false), (21, ca (.c (.d (.int .i64 v21)))), (27, .b false), (29, Z54 (v4.1.drop 1)), (33, ca (.c (.d (.bool true)))), (36, .b false), (41, ca (.tup [.c (.d (.int .i64 v41.1)), .c (.d (.int .i64 v41.2))])), (48, .b false), (53, Z54 ((v4.1.drop 1).drop 1)), (56, ca (.c (.d (L50 v56)))), (61, ca (.c (.d (.bool true)))), (70, .b true), (77, ca (.tup [.c (.d (L43 v77.1)), .c (.d (.int .i64 v77.2.1)), .c (.d (.int .i64 v77.2.2))])), (86, .b false), (89, ca (.c (.d (.bool true)))), (95, ca (.c (.d (.bool false)))), (101, .b true)] (fun _ f => o (lex_Words.does h0) (o (ne_f h1) (o (beq_false_of_ne h2) (o (o (nn 0) h3) (o (dendronlaw28_kind.does h4) (o (beq_false_of_ne h5) (o (drop_ok c54 (0, 0, ByteArray.empty) v4.1 (nn 1) h6) (o (dendronlaw28_feature.does h7) (o (beq_false_of_ne h9) (o (o (nn 0) h10) (o (dendronlaw28_digits.does h11) (o (ne_f h12) (o (drop_ok c54 (0, 0, ByteArray.empty) (v4.1.drop 1) (nn 1) h13) (o (dendronlaw28_cut.does h14) (o (dendronlaw28_row.does h15) (o (decide_eq_true h17) (o (o (nn 0) h17) (o (rows_Words.does h18) (o (ne_f h19) (o (dendronlaw28_row.does h20) (o (dendronlaw28_many.does h22) (o (decide_eq_true h24) f)))))))))))))))))))))) (by kernel_rfl) (ih.1 _ _ _ _ _ _ _ _ _ _ _ h)
                        · rw [if_neg h24] at h
                          exact Til.mid Tryd.func8 38 [(4, ca (.tup [.c (.d (L54 v4.1)), .c (.d (.int .i64 v4.2.1)), .c (.d (.int .i64 v4.2.2))])), (13, .b false), (16, .b false), (21, ca (.c (.d (.int .i64 v21)))), (27, .b false), (29, Z54 (v4.1.drop 1)), (33, ca (.c (.d (.bool true)))), (36, .b false), (41, ca (.tup [.c (.d (.int .i64 v41.1)), .c (.d (.int .i64 v41.2))])), (48, .b false), (53, Z54 ((v4.1.drop 1).drop 1)), (56, ca (.c (.d (L50 v56)))), (61, ca (.c (.d (.bool true)))), (70, .b true), (77, ca (.tup [.c (.d (L43 v77.1)), .c (.d (.int .i64 v77.2.1)), .c (.d (.int .i64 v77.2.2))])), (86, .b false), (89, ca (.c (.d (.bool true)))), (95, ca (.c (.d (.bool false)))), (101, .b false)] (fun _ f => o (lex_Words.does h0) (o (ne_f h1) (o (beq_false_of_ne h2) (o (o (nn 0) h3) (o (dendronlaw28_kind.does h4) (o (beq_false_of_ne h5) (o (drop_ok c54 (0, 0, ByteArray.empty) v4.1 (nn 1) h6) (o (dendronlaw28_feature.does h7) (o (beq_false_of_ne h9) (o (o (nn 0) h10) (o (dendronlaw28_digits.does h11) (o (ne_f h12) (o (drop_ok c54 (0, 0, ByteArray.empty) (v4.1.drop 1) (nn 1) h13) (o (dendronlaw28_cut.does h14) (o (dendronlaw28_row.does h15) (o (decide_eq_true h17) (o (o (nn 0) h17) (o (rows_Words.does h18) (o (ne_f h19) (o (dendronlaw28_row.does h20) (o (dendronlaw28_many.does h22) (o (decide_eq_false h24) f)))))))))))))))))))))) (by kernel_rfl) (ih.2 _ _ _ _ _ _ _ _ _ _ h)
                      · rw [if_pos rfl] at h
                        exact Til.mid Tryd.func8 38 [(4, ca (.tup [.c (.d (L54 v4.1)), .c (.d (.int .i64 v4.2.1)), .c (.d (.int .i64 v4.2.2))])), (13, .b false), (16, .b false), (21, ca (.c (.d (.int .i64 v21)))), (27, .b false), (29, Z54 (v4.1.drop 1)), (33, ca (.c (.d (.bool true)))), (36, .b false), (41, ca (.tup [.c (.d (.int .i64 v41.1)), .c (.d (.int .i64 v41.2))])), (48, .b false), (53, Z54 ((v4.1.drop 1).drop 1)), (56, ca (.c (.d (L50 v56)))), (61, ca (.c (.d (.bool true)))), (70, .b true), (77, ca (.tup [.c (.d (L43 v77.1)), .c (.d (.int .i64 v77.2.1)), .c (.d (.int .i64 v77.2.2))])), (86, .b false), (89, ca (.c (.d (.bool true)))), (95, ca (.c (.d (.bool true))))] (fun _ f => o (lex_Words.does h0) (o (ne_f h1) (o (beq_false_of_ne h2) (o (o (nn 0) h3) (o (dendronlaw28_kind.does h4) (o (beq_false_of_ne h5) (o (drop_ok c54 (0, 0, ByteArray.empty) v4.1 (nn 1) h6) (o (dendronlaw28_feature.does h7) (o (beq_false_of_ne h9) (o (o (nn 0) h10) (o (dendronlaw28_digits.does h11) (o (ne_f h12) (o (drop_ok c54 (0, 0, ByteArray.empty) (v4.1.drop 1) (nn 1) h13) (o (dendronlaw28_cut.does h14) (o (dendronlaw28_row.does h15) (o (decide_eq_true h17) (o (o (nn 0) h17) (o (rows_Words.does h18) (o (ne_f h19) (o (dendronlaw28_row.does h20) (o (dendronlaw28_many.does h22) f))))))))))))))))))))) (by kernel_rfl) (ih.2 _ _ _ _ _ _ _ _ _ _ h)
                · rw [if_neg h17] at h
                  obtain ⟨v72, h18, h⟩ := bnd h
                  by_cases h19 : v72.2.2 ≠ 0
                  · rw [if_pos h19] at h
                    obtain rfl := Option.some.inj h
                    exact Til.fin Tryd.func8 [(4, ca (.tup [.c (.d (L54 v4.1)), .c (.d (.int .i64 v4.2.1)), .c (.d (.int .i64 v4.2.2))])), (13, .b false), (16, .b false), (21, ca (.c (.d (.int .i64 v21)))), (27, .b false), (29, Z54 (v4.1.drop 1)), (33, ca (.c (.d (.bool true)))), (36, .b false), (41, ca (.tup [.c (.d (.int .i64 v41.1)), .c (.d (.int .i64 v41.2))])), (48, .b false), (53, Z54 ((v4.1.drop 1).drop 1)), (56, ca (.c (.d (L50 v56)))), (61, ca (.c (.d (.bool true)))), (70, .b false), (72, .call [(0, .c (.d (L54 ([] : List (Int × Int × ByteArray)))))] [] (.tup [.c (.d (L43 v72.1)), .c (.d (.int .i64 v72.2.1)), .c (.d (.int .i64 v72.2.2))]) none [] []), (81, .b true)] (fun _ f => o (lex_Words.does h0) (o (ne_f h1) (o (beq_false_of_ne h2) (o (o (nn 0) h3) (o (dendronlaw28_kind.does h4) (o (beq_false_of_ne h5) (o (drop_ok c54 (0, 0, ByteArray.empty) v4.1 (nn 1) h6) (o (dendronlaw28_feature.does h7) (o (beq_false_of_ne h9) (o (o (nn 0) h10) (o (dendronlaw28_digits.does h11) (o (ne_f h12) (o (drop_ok c54 (0, 0, ByteArray.empty) (v4.1.drop 1) (nn 1) h13) (o (dendronlaw28_cut.does h14) (o (dendronlaw28_row.does h15) (o (decide_eq_false h17) (o (rows_Words.does h18) (o (bne_iff_ne.2 h19) f)))))))))))))))))) (by kernel_rfl)
                  · rw [if_neg h19] at h
                    obtain ⟨v84, h20, h⟩ := bnd h
                    cases v84
                    · rw [if_neg (by decide)] at h
                      obtain ⟨v90, h22, h⟩ := bnd h
                      cases v90
                      · rw [if_neg (by decide)] at h
                        by_cases h24 : 0 < (v56.length : Int)
                        · rw [if_pos h24] at h
                          exact Til.mid Tryd.func8 33 [(4, ca (.tup [.c (.d (L54 v4.1)), .c (.d (.int .i64 v4.2.1)), .c (.d (.int .i64 v4.2.2))])), (13, .b false), (16, .b false), (21, ca (.c (.d (.int .i64 v21)))), (27, .b false), (29, Z54 (v4.1.drop 1)), (33, ca (.c (.d (.bool true)))), (36, .b false), (41, ca (.tup [.c (.d (.int .i64 v41.1)), .c (.d (.int .i64 v41.2))])), (48, .b false), (53, Z54 ((v4.1.drop 1).drop 1)), (56, ca (.c (.d (L50 v56)))), (61, ca (.c (.d (.bool true)))), (70, .b false), (72, .call [(0, .c (.d (L54 ([] : List (Int × Int × ByteArray)))))] [] (.tup [.c (.d (L43 v72.1)), .c (.d (.int .i64 v72.2.1)), .c (.d (.int .i64 v72.2.2))]) none [] []), (81, .b false), (84, ca (.c (.d (.bool false)))), (90, ca (.c (.d (.bool false)))), (96, .b true)] (fun _ f => o (lex_Words.does h0) (o (ne_f h1) (o (beq_false_of_ne h2) (o (o (nn 0) h3) (o (dendronlaw28_kind.does h4) (o (beq_false_of_ne h5) (o (drop_ok c54 (0, 0, ByteArray.empty) v4.1 (nn 1) h6) (o (dendronlaw28_feature.does h7) (o (beq_false_of_ne h9) (o (o (nn 0) h10) (o (dendronlaw28_digits.does h11) (o (ne_f h12) (o (drop_ok c54 (0, 0, ByteArray.empty) (v4.1.drop 1) (nn 1) h13) (o (dendronlaw28_cut.does h14) (o (dendronlaw28_row.does h15) (o (decide_eq_false h17) (o (rows_Words.does h18) (o (ne_f h19) (o (dendronlaw28_row.does h20) (o (dendronlaw28_many.does h22) (o (decide_eq_true h24) f))))))))))))))))))))) (by kernel_rfl) (ih.1 _ _ _ _ _ _ _ _ _ _ _ h)
                        · rw [if_neg h24] at h
                          exact Til.mid Tryd.func8 38 [(4, ca (.tup [.c (.d (L54 v4.1)), .c (.d (.int .i64 v4.2.1)), .c (.d (.int .i64 v4.2.2))])), (13, .b false), (16, .b false), (21, ca (.c (.d (.int .i64 v21)))), (27, .b false), (29, Z54 (v4.1.drop 1)), (33, ca (.c (.d (.bool true)))), (36, .b false), (41, ca (.tup [.c (.d (.int .i64 v41.1)), .c (.d (.int .i64 v41.2))])), (48, .b false), (53, Z54 ((v4.1.drop 1).drop 1)), (56, ca (.c (.d (L50 v56)))), (61, ca (.c (.d (.bool true)))), (70, .b false), (72, .call [(0, .c (.d (L54 ([] : List (Int × Int × ByteArray)))))] [] (.tup [.c (.d (L43 v72.1)), .c (.d (.int .i64 v72.2.1)), .c (.d (.int .i64 v72.2.2))]) none [] []), (81, .b false), (84, ca (.c (.d (.bool false)))), (90, ca (.c (.d (.bool false)))), (96, .b false)] (fun _ f => o (lex_Words.does h0) (o (ne_f h1) (o (beq_false_of_ne h2) (o (o (nn 0) h3) (o (dendronlaw28_kind.does h4) (o (beq_false_of_ne h5) (o (drop_ok c54 (0, 0, ByteArray.empty) v4.1 (nn 1) h6) (o (dendronlaw28_feature.does h7) (o (beq_false_of_ne h9) (o (o (nn 0) h10) (o (dendronlaw28_digits.does h11) (o (ne_f h12) (o (drop_ok c54 (0, 0, ByteArray.empty) (v4.1.drop 1) (nn 1) h13) (o (dendronlaw28_cut.does h14) (o (dendronlaw28_row.does h15) (o (decide_eq_false h17) (o (rows_Words.does h18) (o (ne_f h19) (o (dendronlaw28_row.does h20) (o (dendronlaw28_many.does h22) (o (decide_eq_false h24) f))))))))))))))))))))) (by kernel_rfl) (ih.2 _ _ _ _ _ _ _ _ _ _ h)
                      · rw [if_pos rfl] at h
                        exact Til.mid Tryd.func8 38 [(4, ca (.tup [.c (.d (L54 v4.1)), .c (.d (.int .i64 v4.2.1)), .c (.d (.int .i64 v4.2.2))])), (13, .b false), (16, .b false), (21, ca (.c (.d (.int .i64 v21)))), (27, .b false), (29, Z54 (v4.1.drop 1)), (33, ca (.c (.d (.bool true)))), (36, .b false), (41, ca (.tup [.c (.d (.int .i64 v41.1)), .c (.d (.int .i64 v41.2))])), (48, .b false), (53, Z54 ((v4.1.drop 1).drop 1)), (56, ca (.c (.d (L50 v56)))), (61, ca (.c (.d (.bool true)))), (70, .b false), (72, .call [(0, .c (.d (L54 ([] : List (Int × Int × ByteArray)))))] [] (.tup [.c (.d (L43 v72.1)), .c (.d (.int .i64 v72.2.1)), .c (.d (.int .i64 v72.2.2))]) none [] []), (81, .b false), (84, ca (.c (.d (.bool false)))), (90, ca (.c (.d (.bool true))))] (fun _ f => o (lex_Words.does h0) (o (ne_f h1) (o (beq_false_of_ne h2) (o (o (nn 0) h3) (o (dendronlaw28_kind.does h4) (o (beq_false_of_ne h5) (o (drop_ok c54 (0, 0, ByteArray.empty) v4.1 (nn 1) h6) (o (dendronlaw28_feature.does h7) (o (beq_false_of_ne h9) (o (o (nn 0) h10) (o (dendronlaw28_digits.does h11) (o (ne_f h12) (o (drop_ok c54 (0, 0, ByteArray.empty) (v4.1.drop 1) (nn 1) h13) (o (dendronlaw28_cut.does h14) (o (dendronlaw28_row.does h15) (o (decide_eq_false h17) (o (rows_Words.does h18) (o (ne_f h19) (o (dendronlaw28_row.does h20) (o (dendronlaw28_many.does h22) f)))))))))))))))))))) (by kernel_rfl) (ih.2 _ _ _ _ _ _ _ _ _ _ h)
                    · rw [if_pos rfl] at h
                      obtain ⟨v90, h22, h⟩ := bnd h
                      cases v90
                      · rw [if_neg (by decide)] at h
                        by_cases h24 : 0 < (v56.length : Int)
                        · rw [if_pos h24] at h
                          exact Til.mid Tryd.func8 33 [(4, ca (.tup [.c (.d (L54 v4.1)), .c (.d (.int .i64 v4.2.1)), .c (.d (.int .i64 v4.2.2))])), (13, .b false), (16, .b false), (21, ca (.c (.d (.int .i64 v21)))), (27, .b false), (29, Z54 (v4.1.drop 1)), (33, ca (.c (.d (.bool true)))), (36, .b false), (41, ca (.tup [.c (.d (.int .i64 v41.1)), .c (.d (.int .i64 v41.2))])), (48, .b false), (53, Z54 ((v4.1.drop 1).drop 1)), (56, ca (.c (.d (L50 v56)))), (61, ca (.c (.d (.bool true)))), (70, .b false), (72, .call [(0, .c (.d (L54 ([] : List (Int × Int × ByteArray)))))] [] (.tup [.c (.d (L43 v72.1)), .c (.d (.int .i64 v72.2.1)), .c (.d (.int .i64 v72.2.2))]) none [] []), (81, .b false), (84, ca (.c (.d (.bool true)))), (90, ca (.c (.d (.bool false)))), (96, .b true)] (fun _ f => o (lex_Words.does h0) (o (ne_f h1) (o (beq_false_of_ne h2) (o (o (nn 0) h3) (o (dendronlaw28_kind.does h4) (o (beq_false_of_ne h5) (o (drop_ok c54 (0, 0, ByteArray.empty) v4.1 (nn 1) h6) (o (dendronlaw28_feature.does h7) (o (beq_false_of_ne h9) (o (o (nn 0) h10) (o (dendronlaw28_digits.does h11) (o (ne_f h12) (o (drop_ok c54 (0, 0, ByteArray.empty) (v4.1.drop 1) (nn 1) h13) (o (dendronlaw28_cut.does h14) (o (dendronlaw28_row.does h15) (o (decide_eq_false h17) (o (rows_Words.does h18) (o (ne_f h19) (o (dendronlaw28_row.does h20) (o (dendronlaw28_many.does h22) (o (decide_eq_true h24) f))))))))))))))))))))) (by kernel_rfl) (ih.1 _ _ _ _ _ _ _ _ _ _ _ h)
                        · rw [if_neg h24] at h
                          exact Til.mid Tryd.func8 38 [(4, ca (.tup [.c (.d (L54 v4.1)), .c (.d (.int .i64 v4.2.1)), .c (.d (.int .i64 v4.2.2))])), (13, .b false), (16, .b false), (21, ca (.c (.d (.int .i64 v21)))), (27, .b false), (29, Z54 (v4.1.drop 1)), (33, ca (.c (.d (.bool true)))), (36, .b false), (41, ca (.tup [.c (.d (.int .i64 v41.1)), .c (.d (.int .i64 v41.2))])), (48, .b false), (53, Z54 ((v4.1.drop 1).drop 1)), (56, ca (.c (.d (L50 v56)))), (61, ca (.c (.d (.bool true)))), (70, .b false), (72, .call [(0, .c (.d (L54 ([] : List (Int × Int × ByteArray)))))] [] (.tup [.c (.d (L43 v72.1)), .c (.d (.int .i64 v72.2.1)), .c (.d (.int .i64 v72.2.2))]) none [] []), (81, .b false), (84, ca (.c (.d (.bool true)))), (90, ca (.c (.d (.bool false)))), (96, .b false)] (fun _ f => o (lex_Words.does h0) (o (ne_f h1) (o (beq_false_of_ne h2) (o (o (nn 0) h3) (o (dendronlaw28_kind.does h4) (o (beq_false_of_ne h5) (o (drop_ok c54 (0, 0, ByteArray.empty) v4.1 (nn 1) h6) (o (dendronlaw28_feature.does h7) (o (beq_false_of_ne h9) (o (o (nn 0) h10) (o (dendronlaw28_digits.does h11) (o (ne_f h12) (o (drop_ok c54 (0, 0, ByteArray.empty) (v4.1.drop 1) (nn 1) h13) (o (dendronlaw28_cut.does h14) (o (dendronlaw28_row.does h15) (o (decide_eq_false h17) (o (rows_Words.does h18) (o (ne_f h19) (o (dendronlaw28_row.does h20) (o (dendronlaw28_many.does h22) (o (decide_eq_false h24) f))))))))))))))))))))) (by kernel_rfl) (ih.2 _ _ _ _ _ _ _ _ _ _ h)
                      · rw [if_pos rfl] at h
                        exact Til.mid Tryd.func8 38 [(4, ca (.tup [.c (.d (L54 v4.1)), .c (.d (.int .i64 v4.2.1)), .c (.d (.int .i64 v4.2.2))])), (13, .b false), (16, .b false), (21, ca (.c (.d (.int .i64 v21)))), (27, .b false), (29, Z54 (v4.1.drop 1)), (33, ca (.c (.d (.bool true)))), (36, .b false), (41, ca (.tup [.c (.d (.int .i64 v41.1)), .c (.d (.int .i64 v41.2))])), (48, .b false), (53, Z54 ((v4.1.drop 1).drop 1)), (56, ca (.c (.d (L50 v56)))), (61, ca (.c (.d (.bool true)))), (70, .b false), (72, .call [(0, .c (.d (L54 ([] : List (Int × Int × ByteArray)))))] [] (.tup [.c (.d (L43 v72.1)), .c (.d (.int .i64 v72.2.1)), .c (.d (.int .i64 v72.2.2))]) none [] []), (81, .b false), (84, ca (.c (.d (.bool true)))), (90, ca (.c (.d (.bool true))))] (fun _ f => o (lex_Words.does h0) (o (ne_f h1) (o (beq_false_of_ne h2) (o (o (nn 0) h3) (o (dendronlaw28_kind.does h4) (o (beq_false_of_ne h5) (o (drop_ok c54 (0, 0, ByteArray.empty) v4.1 (nn 1) h6) (o (dendronlaw28_feature.does h7) (o (beq_false_of_ne h9) (o (o (nn 0) h10) (o (dendronlaw28_digits.does h11) (o (ne_f h12) (o (drop_ok c54 (0, 0, ByteArray.empty) (v4.1.drop 1) (nn 1) h13) (o (dendronlaw28_cut.does h14) (o (dendronlaw28_row.does h15) (o (decide_eq_false h17) (o (rows_Words.does h18) (o (ne_f h19) (o (dendronlaw28_row.does h20) (o (dendronlaw28_many.does h22) f)))))))))))))))))))) (by kernel_rfl) (ih.2 _ _ _ _ _ _ _ _ _ _ h)

def c3 (x : Int) : List Dat := [.int .i64 x]
def L3 (xs : List Int) : Dat := fr 1 c3 0 xs
def Z3 (xs : List Int) : Sup := .r xs.length (enc c3 0 xs)
def O3 (k : RK) (xs : List Int) : Ob := .row k 3 1 xs.length (enc c3 0 xs)

def dendronref01_Order.l0E (x0 : List Int) (x1 : List Int) (x5 : Int) : Env := [(0, .c (.d (L3 x0))), (1, .c (.d (L3 x1))), (5, .c (.d (.int .i64 x5)))]
theorem dendronref01_Order.w (k : Nat) : (∀  (x0 : List Int) (x1 : List Int) (x5 : Int) (r : Int), dendronref01_Order.l0 k x0 x1 x5 = some r → Til Tryd.prog 105 [] (.c (.d (.int .i64 r))) none [] (at_ Tryd.f105 6) (dendronref01_Order.l0E x0 x1 x5) []) := by
  induction k with
  | zero =>
    exact fun _ _ _ _ h => (by cases h)
  | succ k ih =>
    intro x0 x1 x5 r h
    rw [dendronref01_Order.l0] at h
    by_cases h0 : x5 ≥ 0
    · rw [if_pos h0] at h
      obtain ⟨h1, h⟩ := ifp h
      obtain ⟨h2, h⟩ := ifp h
      by_cases h3 : (rd x0 x5) < (rd x1 x5)
      · rw [if_pos h3] at h
        obtain rfl := Option.some.inj h
        exact Til.fin Tryd.func105 [(1, .b true), (10, .b true)] (fun _ f => o (decide_eq_true h0) (o (o h0 h1) (o (o h0 h2) (o (decide_eq_true h3) f)))) (by kernel_rfl)
      · rw [if_neg h3] at h
        by_cases h4 : (rd x0 x5) > (rd x1 x5)
        · rw [if_pos h4] at h
          obtain rfl := Option.some.inj h
          exact Til.fin Tryd.func105 [(1, .b true), (10, .b false), (19, .b true)] (fun _ f => o (decide_eq_true h0) (o (o h0 h1) (o (o h0 h2) (o (decide_eq_false h3) (o (o h0 h1) (o (o h0 h2) (o (decide_eq_true h4) f))))))) (by kernel_rfl)
        · rw [if_neg h4] at h
          exact Til.mid Tryd.func105 6 [(1, .b true), (10, .b false), (19, .b false)] (fun _ f => o (decide_eq_true h0) (o (o h0 h1) (o (o h0 h2) (o (decide_eq_false h3) (o (o h0 h1) (o (o h0 h2) (o (decide_eq_false h4) f))))))) (by kernel_rfl) (ih _ _ _ _ h)
    · rw [if_neg h0] at h
      obtain rfl := Option.some.inj h
      exact Til.fin Tryd.func105 [(1, .b false)] (fun _ f => o (decide_eq_false h0) f) (by kernel_rfl)
theorem dendronref01_Order.does {k : Nat} {l0 : List Int} {l1 : List Int} {r : Int} (h : dendronref01_Order.f k l0 l1 = some r) :
    Does Tryd.prog 105 [.c (.d (L3 l0)), .c (.d (L3 l1))] [] (.c (.d (.int .i64 r))) none [] := by
  refine does_fn Tryd.func105 (by kernel_rfl) rfl rfl ?_
  unfold dendronref01_Order.f at h
  have ih := dendronref01_Order.w k
  by_cases h0 : (l0.length : Int) ≠ (l1.length : Int)
  · rw [if_pos h0] at h
    by_cases h1 : (l0.length : Int) < (l1.length : Int)
    · rw [if_pos h1] at h
      obtain rfl := Option.some.inj h
      exact Til.fin Tryd.func105 [(5, .b true), (10, .b true)] (fun _ f => o (bne_iff_ne.2 h0) (o (decide_eq_true h1) f)) (by kernel_rfl)
    · rw [if_neg h1] at h
      obtain rfl := Option.some.inj h
      exact Til.fin Tryd.func105 [(5, .b true), (10, .b false)] (fun _ f => o (bne_iff_ne.2 h0) (o (decide_eq_false h1) f)) (by kernel_rfl)
  · rw [if_neg h0] at h
    exact Til.mid Tryd.func105 6 [(5, .b false)] (fun _ f => o (ne_f h0) f) (by kernel_rfl) (ih _ _ _ _ h)

theorem dendronref02_Order.does {k : Nat} {a0_0 : Bool} {l0_1 : List Int} {a1_0 : Bool} {l1_1 : List Int} {r : Int} (h : dendronref02_Order.f k a0_0 l0_1 a1_0 l1_1 = some r) :
    Does Tryd.prog 89 [.agg [.d (.bool a0_0), .d (L3 l0_1)], .agg [.d (.bool a1_0), .d (L3 l1_1)]] [] (.c (.d (.int .i64 r))) none [] := by
  refine does_fn Tryd.func89 (by kernel_rfl) rfl rfl ?_
  unfold dendronref02_Order.f at h
  by_cases h0 : a0_0 = true
  · rw [if_pos h0] at h
    by_cases h1 : a1_0 = true
    · rw [if_pos h1] at h
      by_cases h2 : a0_0 = true
      · rw [if_pos h2] at h
        by_cases h3 : a0_0 = true
        · rw [if_pos h3] at h
          obtain ⟨v23, h4, h⟩ := bnd h
          obtain rfl := Option.some.inj h
          exact Til.fin Tryd.func89 [(4, .b true), (7, .b true), (11, .b true), (18, .b true), (23, ca (.c (.d (.int .i64 v23))))] (fun _ f => o h0 (o h1 (o h2 (o h3 (o (dendronref01_Order.does h4) f))))) (by kernel_rfl)
        · rw [if_neg h3] at h
          obtain ⟨v23, h4, h⟩ := bnd h
          obtain rfl := Option.some.inj h
          exact Til.fin Tryd.func89 [(4, .b true), (7, .b true), (11, .b true), (18, .b false), (23, ca (.c (.d (.int .i64 v23))))] (fun _ f => o h0 (o h1 (o h2 (o (Bool.eq_false_iff.2 h3) (o (dendronref01_Order.does h4) f))))) (by kernel_rfl)
      · rw [if_neg h2] at h
        by_cases h3 : a1_0 = true
        · rw [if_pos h3] at h
          obtain rfl := Option.some.inj h
          exact Til.fin Tryd.func89 [(4, .b true), (7, .b true), (11, .b false), (15, .b true)] (fun _ f => o h0 (o h1 (o (Bool.eq_false_iff.2 h2) (o h3 f)))) (by kernel_rfl)
        · rw [if_neg h3] at h
          by_cases h4 : a0_0 = true
          · rw [if_pos h4] at h
            obtain ⟨v23, h5, h⟩ := bnd h
            obtain rfl := Option.some.inj h
            exact Til.fin Tryd.func89 [(4, .b true), (7, .b true), (11, .b false), (15, .b false), (18, .b true), (23, ca (.c (.d (.int .i64 v23))))] (fun _ f => o h0 (o h1 (o (Bool.eq_false_iff.2 h2) (o (Bool.eq_false_iff.2 h3) (o h4 (o (dendronref01_Order.does h5) f)))))) (by kernel_rfl)
          · rw [if_neg h4] at h
            obtain ⟨v23, h5, h⟩ := bnd h
            obtain rfl := Option.some.inj h
            exact Til.fin Tryd.func89 [(4, .b true), (7, .b true), (11, .b false), (15, .b false), (18, .b false), (23, ca (.c (.d (.int .i64 v23))))] (fun _ f => o h0 (o h1 (o (Bool.eq_false_iff.2 h2) (o (Bool.eq_false_iff.2 h3) (o (Bool.eq_false_iff.2 h4) (o (dendronref01_Order.does h5) f)))))) (by kernel_rfl)
    · rw [if_neg h1] at h
      obtain rfl := Option.some.inj h
      exact Til.fin Tryd.func89 [(4, .b true), (7, .b false)] (fun _ f => o h0 (o (Bool.eq_false_iff.2 h1) f)) (by kernel_rfl)
  · rw [if_neg h0] at h
    by_cases h1 : a0_0 = true
    · rw [if_pos h1] at h
      by_cases h2 : a0_0 = true
      · rw [if_pos h2] at h
        obtain ⟨v23, h3, h⟩ := bnd h
        obtain rfl := Option.some.inj h
        exact Til.fin Tryd.func89 [(4, .b false), (11, .b true), (18, .b true), (23, ca (.c (.d (.int .i64 v23))))] (fun _ f => o (Bool.eq_false_iff.2 h0) (o h1 (o h2 (o (dendronref01_Order.does h3) f)))) (by kernel_rfl)
      · rw [if_neg h2] at h
        obtain ⟨v23, h3, h⟩ := bnd h
        obtain rfl := Option.some.inj h
        exact Til.fin Tryd.func89 [(4, .b false), (11, .b true), (18, .b false), (23, ca (.c (.d (.int .i64 v23))))] (fun _ f => o (Bool.eq_false_iff.2 h0) (o h1 (o (Bool.eq_false_iff.2 h2) (o (dendronref01_Order.does h3) f)))) (by kernel_rfl)
    · rw [if_neg h1] at h
      by_cases h2 : a1_0 = true
      · rw [if_pos h2] at h
        obtain rfl := Option.some.inj h
        exact Til.fin Tryd.func89 [(4, .b false), (11, .b false), (15, .b true)] (fun _ f => o (Bool.eq_false_iff.2 h0) (o (Bool.eq_false_iff.2 h1) (o h2 f))) (by kernel_rfl)
      · rw [if_neg h2] at h
        by_cases h3 : a0_0 = true
        · rw [if_pos h3] at h
          obtain ⟨v23, h4, h⟩ := bnd h
          obtain rfl := Option.some.inj h
          exact Til.fin Tryd.func89 [(4, .b false), (11, .b false), (15, .b false), (18, .b true), (23, ca (.c (.d (.int .i64 v23))))] (fun _ f => o (Bool.eq_false_iff.2 h0) (o (Bool.eq_false_iff.2 h1) (o (Bool.eq_false_iff.2 h2) (o h3 (o (dendronref01_Order.does h4) f))))) (by kernel_rfl)
        · rw [if_neg h3] at h
          obtain ⟨v23, h4, h⟩ := bnd h
          obtain rfl := Option.some.inj h
          exact Til.fin Tryd.func89 [(4, .b false), (11, .b false), (15, .b false), (18, .b false), (23, ca (.c (.d (.int .i64 v23))))] (fun _ f => o (Bool.eq_false_iff.2 h0) (o (Bool.eq_false_iff.2 h1) (o (Bool.eq_false_iff.2 h2) (o (Bool.eq_false_iff.2 h3) (o (dendronref01_Order.does h4) f))))) (by kernel_rfl)

theorem dendronref02_Make.does {a0 : Bool} {l1 : List Int} {r : Bool × List Int} (h : dendronref02_Make.f a0 l1 = some r) :
    Does Tryd.prog 106 [.c (.d (.bool a0)), .c (.d (L3 l1))] [] (.agg [.d (.bool r.1), .d (L3 r.2)]) none [] := by
  refine does_fn Tryd.func106 (by kernel_rfl) rfl rfl ?_
  unfold dendronref02_Make.f at h
  by_cases h0 : a0 = true
  · rw [if_pos h0] at h
    obtain rfl := Option.some.inj h
    exact Til.fin Tryd.func106 [(1, .b true)] (fun _ f => o h0 f) (by kernel_rfl)
  · rw [if_neg h0] at h
    obtain rfl := Option.some.inj h
    exact Til.fin Tryd.func106 [(1, .b false)] (fun _ f => o (Bool.eq_false_iff.2 h0) f) (by kernel_rfl)

def dendronref01_Trim.l0E (x0 : List Int) (x3 : Int) : Env := [(0, .c (.d (L3 x0))), (3, .c (.d (.int .i64 x3)))]
theorem dendronref01_Trim.w (k : Nat) : (∀  (x0 : List Int) (x3 : Int) (r : List Int), dendronref01_Trim.l0 k x0 x3 = some r → Til Tryd.prog 115 [] (.c (.d (L3 r))) none [] (at_ Tryd.f115 2) (dendronref01_Trim.l0E x0 x3) []) := by
  induction k with
  | zero =>
    exact fun _ _ _ h => (by cases h)
  | succ k ih =>
    intro x0 x3 r h
    rw [dendronref01_Trim.l0] at h
    by_cases h0 : x3 > 0
    · rw [if_pos h0] at h
      obtain ⟨h1, h⟩ := ifp h
      obtain ⟨h2, h⟩ := ifp h
      by_cases h3 : (rd x0 (wrap64 (x3 - 1))) = 0
      · rw [if_pos h3] at h
        exact Til.mid Tryd.func115 2 [(1, .b true), (8, .b true)] (fun _ f => o (decide_eq_true h0) (o (o h1 h2) (o (beq_iff_eq.2 h3) f))) (by kernel_rfl) (ih _ _ _ h)
      · rw [if_neg h3] at h
        obtain ⟨h4, h⟩ := ifp h
        obtain ⟨h5, h⟩ := ifp h
        obtain rfl := Option.some.inj h
        exact Til.fin Tryd.func115 [(1, .b true), (8, .b false), (12, Z3 (x0.take ((x3 : Int).toNat)))] (fun _ f => o (decide_eq_true h0) (o (o h1 h2) (o (beq_false_of_ne h3) (o (take_ok c3 0 x0 h4 h5) f)))) (by kernel_rfl)
    · rw [if_neg h0] at h
      obtain ⟨h1, h⟩ := ifp h
      obtain ⟨h2, h⟩ := ifp h
      obtain rfl := Option.some.inj h
      exact Til.fin Tryd.func115 [(1, .b false), (12, Z3 (x0.take ((x3 : Int).toNat)))] (fun _ f => o (decide_eq_false h0) (o (take_ok c3 0 x0 h1 h2) f)) (by kernel_rfl)
theorem dendronref01_Trim.does {k : Nat} {l0 : List Int} {r : List Int} (h : dendronref01_Trim.f k l0 = some r) :
    Does Tryd.prog 115 [.c (.d (L3 l0))] [] (.c (.d (L3 r))) none [] := by
  refine does_fn Tryd.func115 (by kernel_rfl) rfl rfl ?_
  unfold dendronref01_Trim.f at h
  have ih := dendronref01_Trim.w k
  exact Til.mid Tryd.func115 2 [] (fun _ f => f) (by kernel_rfl) (ih _ _ _ h)

def dendronref01_Times.l0E (x0 : List Int) (x1 : List Int) (x5 : List Int) (x6 : Int) : Env := [(0, .c (.d (L3 x0))), (1, .c (.d (L3 x1))), (5, .c (.own 5)), (6, .c (.d (.int .i64 x6)))]
def dendronref01_Times.l0B (x0 : List Int) (x1 : List Int) (x5 : List Int) (x6 : Int) : Obs := [(5, some (O3 .own x5))]
def dendronref01_Times.l1E (x0 : List Int) (x1 : List Int) (x5 : List Int) (x6 : Int) (x7 : Int) (x8 : Int) : Env := [(0, .c (.d (L3 x0))), (1, .c (.d (L3 x1))), (5, .c (.own 5)), (6, .c (.d (.int .i64 x6))), (7, .c (.d (.int .i64 x7))), (8, .c (.d (.int .i64 x8)))]
def dendronref01_Times.l1B (x0 : List Int) (x1 : List Int) (x5 : List Int) (x6 : Int) (x7 : Int) (x8 : Int) : Obs := [(5, some (O3 .own x5))]
theorem dendronref01_Times.w (k : Nat) : (∀  (x0 : List Int) (x1 : List Int) (x5 : List Int) (x6 : Int) (r : List Int), dendronref01_Times.l0 k x0 x1 x5 x6 = some r → Til Tryd.prog 107 [] (.c (.d (L3 r))) none [] (at_ Tryd.f107 3) (dendronref01_Times.l0E x0 x1 x5 x6) (dendronref01_Times.l0B x0 x1 x5 x6)) ∧
    (∀  (x0 : List Int) (x1 : List Int) (x5 : List Int) (x6 : Int) (x7 : Int) (x8 : Int) (r : List Int), dendronref01_Times.l1 k x0 x1 x5 x6 x7 x8 = some r → Til Tryd.prog 107 [] (.c (.d (L3 r))) none [] (at_ Tryd.f107 7) (dendronref01_Times.l1E x0 x1 x5 x6 x7 x8) (dendronref01_Times.l1B x0 x1 x5 x6 x7 x8)) := by
  induction k with
  | zero =>
    exact ⟨fun _ _ _ _ _ h => (by cases h), fun _ _ _ _ _ _ _ h => (by cases h)⟩
  | succ k ih =>
    refine ⟨?_, ?_⟩
    · intro x0 x1 x5 x6 r h
      rw [dendronref01_Times.l0] at h
      by_cases h0 : x6 < (x0.length : Int)
      · rw [if_pos h0] at h
        exact Til.mid Tryd.func107 7 [(3, .b true)] (fun _ f => o (decide_eq_true h0) f) (by kernel_rfl) (ih.2 _ _ _ _ _ _ _ h)
      · rw [if_neg h0] at h
        obtain ⟨v5, h1, h⟩ := bnd h
        obtain rfl := Option.some.inj h
        exact Til.fin Tryd.func107 [(3, .b false), (5, ca (.c (.d (L3 v5))))] (fun _ f => o (decide_eq_false h0) (o (dendronref01_Trim.does h1) f)) (by kernel_rfl)
    · intro x0 x1 x5 x6 x7 x8 r h
      rw [dendronref01_Times.l1] at h
      by_cases h0 : x8 < (x1.length : Int)
      · rw [if_pos h0] at h
        obtain ⟨h1, h⟩ := ifp h
        obtain ⟨h2, h⟩ := ifp h
        obtain ⟨h3, h⟩ := ifp h
        obtain ⟨h4, h⟩ := ifp h
        obtain ⟨h5, h⟩ := ifp h
        exact Til.mid Tryd.func107 7 [(3, .b true), (30, Z3 (x5.set (((wrap64 (x6 + x8)) : Int).toNat) (Int.tmod (wrap64 ((wrap64 (x7 + (rd x5 (wrap64 (x6 + x8))))) + (wrap64 ((rd x0 x6) * (rd x1 x8))))) 10000)))] (fun _ f => o (decide_eq_true h0) (o (o h1 h2) (o (o h3 h4) (o (o h5 h0) (o (by decide : ¬ (10000 : Int) = 0) (o (o h1 h2) (o (set_ok c3 0 (fun _ _ => rfl) x5 (((wrap64 (x6 + x8)) : Int).toNat) (Int.tmod (wrap64 ((wrap64 (x7 + (rd x5 (wrap64 (x6 + x8))))) + (wrap64 ((rd x0 x6) * (rd x1 x8))))) 10000) (lt_ok h1 h2)) (o (by decide : ¬ (10000 : Int) = 0) f)))))))) (by kernel_rfl) (ih.2 _ _ _ _ _ _ _ h)
      · rw [if_neg h0] at h
        obtain ⟨h1, h⟩ := ifp h
        obtain ⟨h2, h⟩ := ifp h
        exact Til.mid Tryd.func107 3 [(3, .b false), (11, Z3 (x5.set (((wrap64 (x6 + (x1.length : Int))) : Int).toNat) x7))] (fun _ f => o (decide_eq_false h0) (o (o h1 h2) (o (set_ok c3 0 (fun _ _ => rfl) x5 (((wrap64 (x6 + (x1.length : Int))) : Int).toNat) x7 (lt_ok h1 h2)) f))) (by kernel_rfl) (ih.1 _ _ _ _ _ h)
theorem dendronref01_Times.does {k : Nat} {l0 : List Int} {l1 : List Int} {r : List Int} (h : dendronref01_Times.f k l0 l1 = some r) :
    Does Tryd.prog 107 [.c (.d (L3 l0)), .c (.d (L3 l1))] [] (.c (.d (L3 r))) none [] := by
  refine does_fn Tryd.func107 (by kernel_rfl) rfl rfl ?_
  unfold dendronref01_Times.f at h
  have ih := dendronref01_Times.w k
  obtain ⟨h0, h⟩ := ifp h
  obtain ⟨h1, h⟩ := ifp h
  exact Til.mid Tryd.func107 3 [(6, Z3 (List.replicate (((wrap64 ((l0.length : Int) + (l1.length : Int))) : Int).toNat) 0 : List Int))] (fun _ f => o (make_ok c3 0 [.int .i64 0] ⟨.refl _, trivial⟩ (wrap64 ((l0.length : Int) + (l1.length : Int))) 8 35184372088832 (by decide) h0 h1) f) (by kernel_rfl) (ih.1 _ _ _ _ _ h)

theorem dendronref02_Times.does {k : Nat} {a0_0 : Bool} {l0_1 : List Int} {a1_0 : Bool} {l1_1 : List Int} {r : Bool × List Int} (h : dendronref02_Times.f k a0_0 l0_1 a1_0 l1_1 = some r) :
    Does Tryd.prog 90 [.agg [.d (.bool a0_0), .d (L3 l0_1)], .agg [.d (.bool a1_0), .d (L3 l1_1)]] [] (.agg [.d (.bool r.1), .d (L3 r.2)]) none [] := by
  refine does_fn Tryd.func90 (by kernel_rfl) rfl rfl ?_
  unfold dendronref02_Times.f at h
  obtain ⟨v12, h0, h⟩ := bnd h
  obtain ⟨v13, h1, h⟩ := bnd h
  obtain rfl := Option.some.inj h
  exact Til.fin Tryd.func90 [(12, ca (.c (.d (L3 v12)))), (13, ca (.agg [.d (.bool v13.1), .d (L3 v13.2)]))] (fun _ f => o (dendronref01_Times.does h0) (o (dendronref02_Make.does h1) f)) (by kernel_rfl)

theorem dendronref03_den.does {a0_0 : Bool} {l0_1 : List Int} {l0_2 : List Int} {r : Bool × List Int} (h : dendronref03_den.f a0_0 l0_1 l0_2 = some r) :
    Does Tryd.prog 91 [.agg [.d (.bool a0_0), .d (L3 l0_1), .d (L3 l0_2)]] [] (.agg [.d (.bool r.1), .d (L3 r.2)]) none [] := by
  refine does_fn Tryd.func91 (by kernel_rfl) rfl rfl ?_
  unfold dendronref03_den.f at h
  obtain ⟨v4, h0, h⟩ := bnd h
  obtain rfl := Option.some.inj h
  exact Til.fin Tryd.func91 [(4, ca (.agg [.d (.bool v4.1), .d (L3 v4.2)]))] (fun _ f => o (dendronref02_Make.does h0) f) (by kernel_rfl)

theorem dendronref03_Order.does {k : Nat} {a0_0 : Bool} {l0_1 : List Int} {l0_2 : List Int} {a1_0 : Bool} {l1_1 : List Int} {l1_2 : List Int} {r : Int} (h : dendronref03_Order.f k a0_0 l0_1 l0_2 a1_0 l1_1 l1_2 = some r) :
    Does Tryd.prog 72 [.agg [.d (.bool a0_0), .d (L3 l0_1), .d (L3 l0_2)], .agg [.d (.bool a1_0), .d (L3 l1_1), .d (L3 l1_2)]] [] (.c (.d (.int .i64 r))) none [] := by
  refine does_fn Tryd.func72 (by kernel_rfl) rfl rfl ?_
  unfold dendronref03_Order.f at h
  obtain ⟨v6, h0, h⟩ := bnd h
  obtain ⟨v7, h1, h⟩ := bnd h
  obtain ⟨v11, h2, h⟩ := bnd h
  obtain ⟨v12, h3, h⟩ := bnd h
  obtain ⟨v13, h4, h⟩ := bnd h
  obtain rfl := Option.some.inj h
  exact Til.fin Tryd.func72 [(6, ca (.agg [.d (.bool v6.1), .d (L3 v6.2)])), (7, ca (.agg [.d (.bool v7.1), .d (L3 v7.2)])), (11, ca (.agg [.d (.bool v11.1), .d (L3 v11.2)])), (12, ca (.agg [.d (.bool v12.1), .d (L3 v12.2)])), (13, ca (.c (.d (.int .i64 v13))))] (fun _ f => o (dendronref03_den.does h0) (o (dendronref02_Times.does h1) (o (dendronref03_den.does h2) (o (dendronref02_Times.does h3) (o (dendronref02_Order.does h4) f))))) (by kernel_rfl)

def dendronref01_Small.l0E (x0 : Int) (x3 : List Int) : Env := [(0, .c (.d (.int .i64 x0))), (3, .c (.own 3))]
def dendronref01_Small.l0B (x0 : Int) (x3 : List Int) : Obs := [(3, some (O3 .own x3))]
theorem dendronref01_Small.w (k : Nat) : (∀  (x0 : Int) (x3 : List Int) (r : List Int), dendronref01_Small.l0 k x0 x3 = some r → Til Tryd.prog 108 [] (.c (.d (L3 r))) none [] (at_ Tryd.f108 2) (dendronref01_Small.l0E x0 x3) (dendronref01_Small.l0B x0 x3)) := by
  induction k with
  | zero =>
    exact fun _ _ _ h => (by cases h)
  | succ k ih =>
    intro x0 x3 r h
    rw [dendronref01_Small.l0] at h
    by_cases h0 : x0 > 0
    · rw [if_pos h0] at h
      obtain ⟨h1, h⟩ := ifp h
      exact Til.mid Tryd.func108 2 [(1, .b true), (5, Z3 ([(Int.tmod x0 10000)] : List Int)), (6, Z3 (x3 ++ [(Int.tmod x0 10000)]))] (fun _ f => o (decide_eq_true h0) (o (by decide : ¬ (10000 : Int) = 0) (o (lit_ok c3 0 ([(Int.tmod x0 10000)] : List Int)) (o (app1 c3 0 x3 (Int.tmod x0 10000) 8 17592186044416 (by decide) h1) (o (by decide : ¬ (10000 : Int) = 0) f))))) (by kernel_rfl) (ih _ _ _ h)
    · rw [if_neg h0] at h
      obtain rfl := Option.some.inj h
      exact Til.fin Tryd.func108 [(1, .b false)] (fun _ f => o (decide_eq_false h0) f) (by kernel_rfl)
theorem dendronref01_Small.does {k : Nat} {a0 : Int} {r : List Int} (h : dendronref01_Small.f k a0 = some r) :
    Does Tryd.prog 108 [.c (.d (.int .i64 a0))] [] (.c (.d (L3 r))) none [] := by
  refine does_fn Tryd.func108 (by kernel_rfl) rfl rfl ?_
  unfold dendronref01_Small.f at h
  have ih := dendronref01_Small.w k
  exact Til.mid Tryd.func108 2 [] (fun _ f => f) (by kernel_rfl) (ih _ _ _ h)

theorem dendronref01_digit.does {l0 : List Int} {a1 : Int} {r : Int} (h : dendronref01_digit.f l0 a1 = some r) :
    Does Tryd.prog 116 [.c (.d (L3 l0)), .c (.d (.int .i64 a1))] [] (.c (.d (.int .i64 r))) none [] := by
  refine does_fn Tryd.func116 (by kernel_rfl) rfl rfl ?_
  unfold dendronref01_digit.f at h
  by_cases h0 : a1 < (l0.length : Int)
  · rw [if_pos h0] at h
    obtain ⟨h1, h⟩ := ifp h
    obtain rfl := Option.some.inj h
    exact Til.fin Tryd.func116 [(4, .b true)] (fun _ f => o (decide_eq_true h0) (o (o h1 h0) f)) (by kernel_rfl)
  · rw [if_neg h0] at h
    obtain rfl := Option.some.inj h
    exact Til.fin Tryd.func116 [(4, .b false)] (fun _ f => o (decide_eq_false h0) f) (by kernel_rfl)

def dendronref01_Plus.l0E (x0 : List Int) (x1 : List Int) (x5 : List Int) (x6 : Int) (x7 : Int) : Env := [(0, .c (.d (L3 x0))), (1, .c (.d (L3 x1))), (5, .c (.own 5)), (6, .c (.d (.int .i64 x6))), (7, .c (.d (.int .i64 x7)))]
def dendronref01_Plus.l0B (x0 : List Int) (x1 : List Int) (x5 : List Int) (x6 : Int) (x7 : Int) : Obs := [(5, some (O3 .own x5))]
theorem dendronref01_Plus.w (k : Nat) : (∀  (x0 : List Int) (x1 : List Int) (x5 : List Int) (x6 : Int) (x7 : Int) (r : List Int), dendronref01_Plus.l0 k x0 x1 x5 x6 x7 = some r → Til Tryd.prog 109 [] (.c (.d (L3 r))) none [] (at_ Tryd.f109 4) (dendronref01_Plus.l0E x0 x1 x5 x6 x7) (dendronref01_Plus.l0B x0 x1 x5 x6 x7)) := by
  induction k with
  | zero =>
    exact fun _ _ _ _ _ _ h => (by cases h)
  | succ k ih =>
    intro x0 x1 x5 x6 x7 r h
    rw [dendronref01_Plus.l0] at h
    by_cases h0 : x7 < (x0.length : Int)
    · rw [if_pos h0] at h
      obtain ⟨v17, h1, h⟩ := bnd h
      obtain ⟨v21, h2, h⟩ := bnd h
      obtain ⟨h3, h⟩ := ifp h
      exact Til.mid Tryd.func109 4 [(3, .b true), (17, ca (.c (.d (.int .i64 v17)))), (21, ca (.c (.d (.int .i64 v21)))), (27, Z3 ([(Int.tmod (wrap64 ((wrap64 (x6 + v17)) + v21)) 10000)] : List Int)), (28, Z3 (x5 ++ [(Int.tmod (wrap64 ((wrap64 (x6 + v17)) + v21)) 10000)]))] (fun _ f => o (decide_eq_true h0) (o (dendronref01_digit.does h1) (o (dendronref01_digit.does h2) (o (by decide : ¬ (10000 : Int) = 0) (o (lit_ok c3 0 ([(Int.tmod (wrap64 ((wrap64 (x6 + v17)) + v21)) 10000)] : List Int)) (o (app1 c3 0 x5 (Int.tmod (wrap64 ((wrap64 (x6 + v17)) + v21)) 10000) 8 17592186044416 (by decide) h3) (o (by decide : ¬ (10000 : Int) = 0) f))))))) (by kernel_rfl) (ih _ _ _ _ _ _ h)
    · rw [if_neg h0] at h
      by_cases h1 : x7 < (x1.length : Int)
      · rw [if_pos h1] at h
        obtain ⟨v17, h2, h⟩ := bnd h
        obtain ⟨v21, h3, h⟩ := bnd h
        obtain ⟨h4, h⟩ := ifp h
        exact Til.mid Tryd.func109 4 [(3, .b false), (8, .b true), (17, ca (.c (.d (.int .i64 v17)))), (21, ca (.c (.d (.int .i64 v21)))), (27, Z3 ([(Int.tmod (wrap64 ((wrap64 (x6 + v17)) + v21)) 10000)] : List Int)), (28, Z3 (x5 ++ [(Int.tmod (wrap64 ((wrap64 (x6 + v17)) + v21)) 10000)]))] (fun _ f => o (decide_eq_false h0) (o (decide_eq_true h1) (o (dendronref01_digit.does h2) (o (dendronref01_digit.does h3) (o (by decide : ¬ (10000 : Int) = 0) (o (lit_ok c3 0 ([(Int.tmod (wrap64 ((wrap64 (x6 + v17)) + v21)) 10000)] : List Int)) (o (app1 c3 0 x5 (Int.tmod (wrap64 ((wrap64 (x6 + v17)) + v21)) 10000) 8 17592186044416 (by decide) h4) (o (by decide : ¬ (10000 : Int) = 0) f)))))))) (by kernel_rfl) (ih _ _ _ _ _ _ h)
      · rw [if_neg h1] at h
        by_cases h2 : x6 > 0
        · rw [if_pos h2] at h
          obtain ⟨v17, h3, h⟩ := bnd h
          obtain ⟨v21, h4, h⟩ := bnd h
          obtain ⟨h5, h⟩ := ifp h
          exact Til.mid Tryd.func109 4 [(3, .b false), (8, .b false), (12, .b true), (17, ca (.c (.d (.int .i64 v17)))), (21, ca (.c (.d (.int .i64 v21)))), (27, Z3 ([(Int.tmod (wrap64 ((wrap64 (x6 + v17)) + v21)) 10000)] : List Int)), (28, Z3 (x5 ++ [(Int.tmod (wrap64 ((wrap64 (x6 + v17)) + v21)) 10000)]))] (fun _ f => o (decide_eq_false h0) (o (decide_eq_false h1) (o (decide_eq_true h2) (o (dendronref01_digit.does h3) (o (dendronref01_digit.does h4) (o (by decide : ¬ (10000 : Int) = 0) (o (lit_ok c3 0 ([(Int.tmod (wrap64 ((wrap64 (x6 + v17)) + v21)) 10000)] : List Int)) (o (app1 c3 0 x5 (Int.tmod (wrap64 ((wrap64 (x6 + v17)) + v21)) 10000) 8 17592186044416 (by decide) h5) (o (by decide : ¬ (10000 : Int) = 0) f))))))))) (by kernel_rfl) (ih _ _ _ _ _ _ h)
        · rw [if_neg h2] at h
          obtain rfl := Option.some.inj h
          exact Til.fin Tryd.func109 [(3, .b false), (8, .b false), (12, .b false)] (fun _ f => o (decide_eq_false h0) (o (decide_eq_false h1) (o (decide_eq_false h2) f))) (by kernel_rfl)
theorem dendronref01_Plus.does {k : Nat} {l0 : List Int} {l1 : List Int} {r : List Int} (h : dendronref01_Plus.f k l0 l1 = some r) :
    Does Tryd.prog 109 [.c (.d (L3 l0)), .c (.d (L3 l1))] [] (.c (.d (L3 r))) none [] := by
  refine does_fn Tryd.func109 (by kernel_rfl) rfl rfl ?_
  unfold dendronref01_Plus.f at h
  have ih := dendronref01_Plus.w k
  exact Til.mid Tryd.func109 4 [] (fun _ f => f) (by kernel_rfl) (ih _ _ _ _ _ _ h)

def dendronref01_From.l0E (x0 : List Int) (x3 : List Int) (x4 : List Int) (x5 : Int) : Env := [(0, .c (.d (L74 x0))), (3, .c (.d (L3 x3))), (4, .c (.d (L3 x4))), (5, .c (.d (.int .i64 x5)))]
theorem dendronref01_From.w (k : Nat) : (∀  (x0 : List Int) (x3 : List Int) (x4 : List Int) (x5 : Int) (r : List Int), dendronref01_From.l0 k x0 x3 x4 x5 = some r → Til Tryd.prog 92 [] (.c (.d (L3 r))) none [] (at_ Tryd.f92 4) (dendronref01_From.l0E x0 x3 x4 x5) []) := by
  induction k with
  | zero =>
    exact fun _ _ _ _ _ h => (by cases h)
  | succ k ih =>
    intro x0 x3 x4 x5 r h
    rw [dendronref01_From.l0] at h
    by_cases h0 : x5 ≥ 0
    · rw [if_pos h0] at h
      obtain ⟨v4, h1, h⟩ := bnd h
      obtain ⟨h2, h⟩ := ifp h
      obtain ⟨v11, h3, h⟩ := bnd h
      obtain ⟨v12, h4, h⟩ := bnd h
      exact Til.mid Tryd.func92 4 [(1, .b true), (4, ca (.c (.d (L3 v4)))), (11, ca (.c (.d (L3 v11)))), (12, ca (.c (.d (L3 v12))))] (fun _ f => o (decide_eq_true h0) (o (dendronref01_Times.does h1) (o (o h0 h2) (o (dendronref01_Small.does h3) (o (dendronref01_Plus.does h4) f))))) (by kernel_rfl) (ih _ _ _ _ _ h)
    · rw [if_neg h0] at h
      obtain rfl := Option.some.inj h
      exact Til.fin Tryd.func92 [(1, .b false)] (fun _ f => o (decide_eq_false h0) f) (by kernel_rfl)
theorem dendronref01_From.does {k : Nat} {l0 : List Int} {r : List Int} (h : dendronref01_From.f k l0 = some r) :
    Does Tryd.prog 92 [.c (.d (L74 l0))] [] (.c (.d (L3 r))) none [] := by
  refine does_fn Tryd.func92 (by kernel_rfl) rfl rfl ?_
  unfold dendronref01_From.f at h
  have ih := dendronref01_From.w k
  obtain ⟨v2, h0, h⟩ := bnd h
  exact Til.mid Tryd.func92 4 [(2, ca (.c (.d (L3 v2))))] (fun _ f => o (dendronref01_Small.does h0) f) (by kernel_rfl) (ih _ _ _ _ _ h)

theorem dendronref02_Small.does {k : Nat} {a0 : Int} {r : Bool × List Int} (h : dendronref02_Small.f k a0 = some r) :
    Does Tryd.prog 110 [.c (.d (.int .i64 a0))] [] (.agg [.d (.bool r.1), .d (L3 r.2)]) none [] := by
  refine does_fn Tryd.func110 (by kernel_rfl) rfl rfl ?_
  unfold dendronref02_Small.f at h
  by_cases h0 : a0 < 0
  · rw [if_pos h0] at h
    obtain ⟨v6, h1, h⟩ := bnd h
    obtain ⟨v7, h2, h⟩ := bnd h
    obtain ⟨v8, h3, h⟩ := bnd h
    obtain ⟨v9, h4, h⟩ := bnd h
    obtain rfl := Option.some.inj h
    exact Til.fin Tryd.func110 [(2, .b true), (6, ca (.c (.d (L3 v6)))), (7, ca (.c (.d (L3 v7)))), (8, ca (.c (.d (L3 v8)))), (9, ca (.agg [.d (.bool v9.1), .d (L3 v9.2)]))] (fun _ f => o (decide_eq_true h0) (o (dendronref01_Small.does h1) (o (dendronref01_Small.does h2) (o (dendronref01_Plus.does h3) (o (dendronref02_Make.does h4) f))))) (by kernel_rfl)
  · rw [if_neg h0] at h
    obtain ⟨v4, h1, h⟩ := bnd h
    obtain ⟨v5, h2, h⟩ := bnd h
    obtain rfl := Option.some.inj h
    exact Til.fin Tryd.func110 [(2, .b false), (4, ca (.c (.d (L3 v4)))), (5, ca (.agg [.d (.bool v5.1), .d (L3 v5.2)]))] (fun _ f => o (decide_eq_false h0) (o (dendronref01_Small.does h1) (o (dendronref02_Make.does h2) f))) (by kernel_rfl)

theorem dendronref03_Small.does {k : Nat} {a0 : Int} {a1 : Int} {r : Bool × List Int × List Int} (h : dendronref03_Small.f k a0 a1 = some r) :
    Does Tryd.prog 93 [.c (.d (.int .i64 a0)), .c (.d (.int .i64 a1))] [] (.agg [.d (.bool r.1), .d (L3 r.2.1), .d (L3 r.2.2)]) none [] := by
  refine does_fn Tryd.func93 (by kernel_rfl) rfl rfl ?_
  unfold dendronref03_Small.f at h
  obtain ⟨v2, h0, h⟩ := bnd h
  obtain ⟨v4, h1, h⟩ := bnd h
  obtain rfl := Option.some.inj h
  exact Til.fin Tryd.func93 [(2, ca (.agg [.d (.bool v2.1), .d (L3 v2.2)])), (4, ca (.c (.d (L3 v4))))] (fun _ f => o (dendronref02_Small.does h0) (o (dendronref01_Small.does h1) f)) (by kernel_rfl)

theorem dendronref02_From.does {k : Nat} {a0_0 : Bool} {l0_1 : List Int} {r : Bool × List Int} (h : dendronref02_From.f k a0_0 l0_1 = some r) :
    Does Tryd.prog 94 [.agg [.d (.bool a0_0), .d (L74 l0_1)]] [] (.agg [.d (.bool r.1), .d (L3 r.2)]) none [] := by
  refine does_fn Tryd.func94 (by kernel_rfl) rfl rfl ?_
  unfold dendronref02_From.f at h
  obtain ⟨v6, h0, h⟩ := bnd h
  obtain ⟨v7, h1, h⟩ := bnd h
  obtain rfl := Option.some.inj h
  exact Til.fin Tryd.func94 [(6, ca (.c (.d (L3 v6)))), (7, ca (.agg [.d (.bool v7.1), .d (L3 v7.2)]))] (fun _ f => o (dendronref01_From.does h0) (o (dendronref02_Make.does h1) f)) (by kernel_rfl)

theorem dendronref03_From.does {k : Nat} {a0_0 : Bool} {l0_1 : List Int} {l0_2 : List Int} {r : Bool × List Int × List Int} (h : dendronref03_From.f k a0_0 l0_1 l0_2 = some r) :
    Does Tryd.prog 73 [.agg [.d (.bool a0_0), .d (L74 l0_1), .d (L74 l0_2)]] [] (.agg [.d (.bool r.1), .d (L3 r.2.1), .d (L3 r.2.2)]) none [] := by
  refine does_fn Tryd.func73 (by kernel_rfl) rfl rfl ?_
  unfold dendronref03_From.f at h
  obtain ⟨v4, h0, h⟩ := bnd h
  by_cases h1 : (v4.length : Int) = 0
  · rw [if_pos h1] at h
    obtain ⟨v9, h2, h⟩ := bnd h
    obtain rfl := Option.some.inj h
    exact Til.fin Tryd.func73 [(4, ca (.c (.d (L3 v4)))), (8, .b true), (9, ca (.agg [.d (.bool v9.1), .d (L3 v9.2.1), .d (L3 v9.2.2)]))] (fun _ f => o (dendronref01_From.does h0) (o (beq_iff_eq.2 h1) (o (dendronref03_Small.does h2) f))) (by kernel_rfl)
  · rw [if_neg h1] at h
    obtain ⟨v11, h2, h⟩ := bnd h
    obtain rfl := Option.some.inj h
    exact Til.fin Tryd.func73 [(4, ca (.c (.d (L3 v4)))), (8, .b false), (11, ca (.agg [.d (.bool v11.1), .d (L3 v11.2)]))] (fun _ f => o (dendronref01_From.does h0) (o (beq_false_of_ne h1) (o (dendronref02_From.does h2) f))) (by kernel_rfl)

theorem dendronref09_Same.does {k : Nat} {a0_0 : Bool} {a0_1 : Bool} {l0_2 : List Int} {l0_3 : List Int} {a1_0 : Bool} {a1_1 : Bool} {l1_2 : List Int} {l1_3 : List Int} {r : Bool} (h : dendronref09_Same.f k a0_0 a0_1 l0_2 l0_3 a1_0 a1_1 l1_2 l1_3 = some r) :
    Does Tryd.prog 52 [.agg [.d (.bool a0_0), .d (.bool a0_1), .d (L74 l0_2), .d (L74 l0_3)], .agg [.d (.bool a1_0), .d (.bool a1_1), .d (L74 l1_2), .d (L74 l1_3)]] [] (.c (.d (.bool r))) none [] := by
  refine does_fn Tryd.func52 (by kernel_rfl) rfl rfl ?_
  unfold dendronref09_Same.f at h
  by_cases h0 : a0_0 = true
  · rw [if_pos h0] at h
    by_cases h1 : a0_0 = true
    · rw [if_pos h1] at h
      obtain rfl := Option.some.inj h
      exact Til.fin Tryd.func52 [(4, .b true), (10, .b true)] (fun _ f => o h0 (o h1 f)) (by kernel_rfl)
    · rw [if_neg h1] at h
      obtain rfl := Option.some.inj h
      exact Til.fin Tryd.func52 [(4, .b true), (10, .b false)] (fun _ f => o h0 (o (Bool.eq_false_iff.2 h1) f)) (by kernel_rfl)
  · rw [if_neg h0] at h
    by_cases h1 : a1_0 = true
    · rw [if_pos h1] at h
      by_cases h2 : a0_0 = true
      · rw [if_pos h2] at h
        obtain rfl := Option.some.inj h
        exact Til.fin Tryd.func52 [(4, .b false), (7, .b true), (10, .b true)] (fun _ f => o (Bool.eq_false_iff.2 h0) (o h1 (o h2 f))) (by kernel_rfl)
      · rw [if_neg h2] at h
        obtain rfl := Option.some.inj h
        exact Til.fin Tryd.func52 [(4, .b false), (7, .b true), (10, .b false)] (fun _ f => o (Bool.eq_false_iff.2 h0) (o h1 (o (Bool.eq_false_iff.2 h2) f))) (by kernel_rfl)
    · rw [if_neg h1] at h
      obtain ⟨v11, h2, h⟩ := bnd h
      obtain ⟨v14, h3, h⟩ := bnd h
      obtain ⟨v15, h4, h⟩ := bnd h
      obtain rfl := Option.some.inj h
      exact Til.fin Tryd.func52 [(4, .b false), (7, .b false), (11, ca (.agg [.d (.bool v11.1), .d (L3 v11.2.1), .d (L3 v11.2.2)])), (14, ca (.agg [.d (.bool v14.1), .d (L3 v14.2.1), .d (L3 v14.2.2)])), (15, ca (.c (.d (.int .i64 v15))))] (fun _ f => o (Bool.eq_false_iff.2 h0) (o (Bool.eq_false_iff.2 h1) (o (dendronref03_From.does h2) (o (dendronref03_From.does h3) (o (dendronref03_Order.does h4) f))))) (by kernel_rfl)

def dendronref09_Equal.l0E (x0 : List (Bool × Bool × List Int × List Int)) (x1 : List (Bool × Bool × List Int × List Int)) (x5 : Int) : Env := [(0, .c (.d (L43 x0))), (1, .c (.d (L43 x1))), (5, .c (.d (.int .i64 x5)))]
theorem dendronref09_Equal.w (k : Nat) : (∀  (x0 : List (Bool × Bool × List Int × List Int)) (x1 : List (Bool × Bool × List Int × List Int)) (x5 : Int) (r : Bool), dendronref09_Equal.l0 k x0 x1 x5 = some r → Til Tryd.prog 30 [] (.c (.d (.bool r))) none [] (at_ Tryd.f30 4) (dendronref09_Equal.l0E x0 x1 x5) []) := by
  induction k with
  | zero =>
    exact fun _ _ _ _ h => (by cases h)
  | succ k ih =>
    intro x0 x1 x5 r h
    rw [dendronref09_Equal.l0] at h
    by_cases h0 : x5 < (x0.length : Int)
    · rw [if_pos h0] at h
      obtain ⟨h1, h⟩ := ifp h
      obtain ⟨h2, h⟩ := ifp h
      obtain ⟨v12, h3, h⟩ := bnd h
      cases v12
      · rw [if_neg (by decide)] at h
        obtain rfl := Option.some.inj h
        exact Til.fin Tryd.func30 [(3, .b true), (12, ca (.c (.d (.bool false))))] (fun _ f => o (decide_eq_true h0) (o (o h1 h0) (o (o h1 h2) (o (dendronref09_Same.does h3) f)))) (by kernel_rfl)
      · rw [if_pos rfl] at h
        exact Til.mid Tryd.func30 4 [(3, .b true), (12, ca (.c (.d (.bool true))))] (fun _ f => o (decide_eq_true h0) (o (o h1 h0) (o (o h1 h2) (o (dendronref09_Same.does h3) f)))) (by kernel_rfl) (ih _ _ _ _ h)
    · rw [if_neg h0] at h
      obtain rfl := Option.some.inj h
      exact Til.fin Tryd.func30 [(3, .b false)] (fun _ f => o (decide_eq_false h0) f) (by kernel_rfl)
theorem dendronref09_Equal.does {k : Nat} {l0 : List (Bool × Bool × List Int × List Int)} {l1 : List (Bool × Bool × List Int × List Int)} {r : Bool} (h : dendronref09_Equal.f k l0 l1 = some r) :
    Does Tryd.prog 30 [.c (.d (L43 l0)), .c (.d (L43 l1))] [] (.c (.d (.bool r))) none [] := by
  refine does_fn Tryd.func30 (by kernel_rfl) rfl rfl ?_
  unfold dendronref09_Equal.f at h
  have ih := dendronref09_Equal.w k
  by_cases h0 : (l0.length : Int) ≠ (l1.length : Int)
  · rw [if_pos h0] at h
    obtain rfl := Option.some.inj h
    exact Til.fin Tryd.func30 [(5, .b true)] (fun _ f => o (bne_iff_ne.2 h0) f) (by kernel_rfl)
  · rw [if_neg h0] at h
    exact Til.mid Tryd.func30 4 [(5, .b false)] (fun _ f => o (ne_f h0) f) (by kernel_rfl) (ih _ _ _ _ h)

def dendronref28_Same.l0E (x5 : Int) (b2_0 : Int) (b2_1 : Int) (b2_2 : List (Bool × Bool × List Int × List Int)) (b2_3 : List (List (Bool × Bool × List Int × List Int))) (b2_4 : List (Bool × Bool × List Int × List Int)) (b3_0 : Int) (b3_1 : Int) (b3_2 : List (Bool × Bool × List Int × List Int)) (b3_3 : List (List (Bool × Bool × List Int × List Int))) (b3_4 : List (Bool × Bool × List Int × List Int)) : Env := [(2, .c (.ptr 2 0)), (3, .c (.ptr 3 0)), (5, .c (.d (.int .i64 x5)))]
def dendronref28_Same.l0B (x5 : Int) (b2_0 : Int) (b2_1 : Int) (b2_2 : List (Bool × Bool × List Int × List Int)) (b2_3 : List (List (Bool × Bool × List Int × List Int))) (b2_4 : List (Bool × Bool × List Int × List Int)) (b3_0 : Int) (b3_1 : Int) (b3_2 : List (Bool × Bool × List Int × List Int)) (b3_3 : List (List (Bool × Bool × List Int × List Int))) (b3_4 : List (Bool × Bool × List Int × List Int)) : Obs := [(2, some (.box [.d (.int .i64 b2_0), .d (.int .i64 b2_1), .d (L43 b2_2), .d (L22 b2_3), .d (L43 b2_4)])), (3, some (.box [.d (.int .i64 b3_0), .d (.int .i64 b3_1), .d (L43 b3_2), .d (L22 b3_3), .d (L43 b3_4)]))]
theorem dendronref28_Same.w (k : Nat) : (∀  (x5 : Int) (b2_0 : Int) (b2_1 : Int) (b2_2 : List (Bool × Bool × List Int × List Int)) (b2_3 : List (List (Bool × Bool × List Int × List Int))) (b2_4 : List (Bool × Bool × List Int × List Int)) (b3_0 : Int) (b3_1 : Int) (b3_2 : List (Bool × Bool × List Int × List Int)) (b3_3 : List (List (Bool × Bool × List Int × List Int))) (b3_4 : List (Bool × Bool × List Int × List Int)) (r : Bool), dendronref28_Same.l0 k x5 b2_0 b2_1 b2_2 b2_3 b2_4 b3_0 b3_1 b3_2 b3_3 b3_4 = some r → Til Tryd.prog 9 [] (.c (.d (.bool r))) none [] (at_ Tryd.f9 4) (dendronref28_Same.l0E x5 b2_0 b2_1 b2_2 b2_3 b2_4 b3_0 b3_1 b3_2 b3_3 b3_4) (dendronref28_Same.l0B x5 b2_0 b2_1 b2_2 b2_3 b2_4 b3_0 b3_1 b3_2 b3_3 b3_4)) := by
  induction k with
  | zero =>
    exact fun _ _ _ _ _ _ _ _ _ _ _ _ h => (by cases h)
  | succ k ih =>
    intro x5 b2_0 b2_1 b2_2 b2_3 b2_4 b3_0 b3_1 b3_2 b3_3 b3_4 r h
    rw [dendronref28_Same.l0] at h
    by_cases h0 : x5 < (b2_3.length : Int)
    · rw [if_pos h0] at h
      obtain ⟨h1, h⟩ := ifp h
      obtain ⟨h2, h⟩ := ifp h
      obtain ⟨v15, h3, h⟩ := bnd h
      cases v15
      · rw [if_neg (by decide)] at h
        obtain rfl := Option.some.inj h
        exact Til.fin Tryd.func9 [(4, .b true), (15, ca (.c (.d (.bool false))))] (fun _ f => o (decide_eq_true h0) (o (o h1 h0) (o (o h1 h2) (o (dendronref09_Equal.does h3) f)))) (by kernel_rfl)
      · rw [if_pos rfl] at h
        exact Til.mid Tryd.func9 4 [(4, .b true), (15, ca (.c (.d (.bool true))))] (fun _ f => o (decide_eq_true h0) (o (o h1 h0) (o (o h1 h2) (o (dendronref09_Equal.does h3) f)))) (by kernel_rfl) (ih _ _ _ _ _ _ _ _ _ _ _ _ h)
    · rw [if_neg h0] at h
      obtain rfl := Option.some.inj h
      exact Til.fin Tryd.func9 [(4, .b false)] (fun _ f => o (decide_eq_false h0) f) (by kernel_rfl)
theorem dendronref28_Same.does {k : Nat} {a0_0 : Int} {a0_1 : Int} {l0_2 : List (Bool × Bool × List Int × List Int)} {l0_3 : List (List (Bool × Bool × List Int × List Int))} {l0_4 : List (Bool × Bool × List Int × List Int)} {a1_0 : Int} {a1_1 : Int} {l1_2 : List (Bool × Bool × List Int × List Int)} {l1_3 : List (List (Bool × Bool × List Int × List Int))} {l1_4 : List (Bool × Bool × List Int × List Int)} {r : Bool} (h : dendronref28_Same.f k a0_0 a0_1 l0_2 l0_3 l0_4 a1_0 a1_1 l1_2 l1_3 l1_4 = some r) :
    Does Tryd.prog 9 [.agg [.d (.int .i64 a0_0), .d (.int .i64 a0_1), .d (L43 l0_2), .d (L22 l0_3), .d (L43 l0_4)], .agg [.d (.int .i64 a1_0), .d (.int .i64 a1_1), .d (L43 l1_2), .d (L22 l1_3), .d (L43 l1_4)]] [] (.c (.d (.bool r))) none [] := by
  refine does_fn Tryd.func9 (by kernel_rfl) rfl rfl ?_
  unfold dendronref28_Same.f at h
  have ih := dendronref28_Same.w k
  by_cases h0 : a0_0 ≠ a1_0
  · rw [if_pos h0] at h
    obtain rfl := Option.some.inj h
    exact Til.fin Tryd.func9 [(7, .b true)] (fun _ f => o (bne_iff_ne.2 h0) f) (by kernel_rfl)
  · rw [if_neg h0] at h
    by_cases h1 : a0_1 ≠ a1_1
    · rw [if_pos h1] at h
      obtain rfl := Option.some.inj h
      exact Til.fin Tryd.func9 [(7, .b false), (13, .b true)] (fun _ f => o (ne_f h0) (o (bne_iff_ne.2 h1) f)) (by kernel_rfl)
    · rw [if_neg h1] at h
      obtain ⟨v20, h2, h⟩ := bnd h
      cases v20
      · rw [if_neg (by decide)] at h
        obtain rfl := Option.some.inj h
        exact Til.fin Tryd.func9 [(7, .b false), (13, .b false), (20, ca (.c (.d (.bool false))))] (fun _ f => o (ne_f h0) (o (ne_f h1) (o (dendronref09_Equal.does h2) f))) (by kernel_rfl)
      · rw [if_pos rfl] at h
        obtain ⟨v28, h4, h⟩ := bnd h
        cases v28
        · rw [if_neg (by decide)] at h
          obtain rfl := Option.some.inj h
          exact Til.fin Tryd.func9 [(7, .b false), (13, .b false), (20, ca (.c (.d (.bool true)))), (28, ca (.c (.d (.bool false))))] (fun _ f => o (ne_f h0) (o (ne_f h1) (o (dendronref09_Equal.does h2) (o (dendronref09_Equal.does h4) f)))) (by kernel_rfl)
        · rw [if_pos rfl] at h
          by_cases h6 : (l0_3.length : Int) ≠ (l1_3.length : Int)
          · rw [if_pos h6] at h
            obtain rfl := Option.some.inj h
            exact Til.fin Tryd.func9 [(7, .b false), (13, .b false), (20, ca (.c (.d (.bool true)))), (28, ca (.c (.d (.bool true)))), (38, .b true)] (fun _ f => o (ne_f h0) (o (ne_f h1) (o (dendronref09_Equal.does h2) (o (dendronref09_Equal.does h4) (o (bne_iff_ne.2 h6) f))))) (by kernel_rfl)
          · rw [if_neg h6] at h
            exact Til.mid Tryd.func9 4 [(7, .b false), (13, .b false), (20, ca (.c (.d (.bool true)))), (28, ca (.c (.d (.bool true)))), (38, .b false)] (fun _ f => o (ne_f h0) (o (ne_f h1) (o (dendronref09_Equal.does h2) (o (dendronref09_Equal.does h4) (o (ne_f h6) f))))) (by kernel_rfl) (ih _ _ _ _ _ _ _ _ _ _ _ _ h)

theorem dendronlaw28_awake.does {k : Nat}  {r : Bool} (h : dendronlaw28_awake.f k = some r) :
    Does Tryd.prog 10 [] [] (.c (.d (.bool r))) none [] := by
  refine does_fn Tryd.func10 (by kernel_rfl) rfl rfl ?_
  unfold dendronlaw28_awake.f at h
  obtain ⟨v1, h0, h⟩ := bnd h
  by_cases h1 : v1.2.2.2.2.2.2 = 0
  · rw [if_pos h1] at h
    by_cases h2 : v1.1 = 4
    · rw [if_pos h2] at h
      by_cases h3 : (v1.2.2.1.length : Int) = 2
      · rw [if_pos h3] at h
        obtain ⟨h4, h⟩ := ifp h
        by_cases h5 : ((gt (false, false, [], []) v1.2.2.1 1).1) = true
        · rw [if_pos h5] at h
          by_cases h6 : (v1.2.2.2.1.length : Int) = 1
          · rw [if_pos h6] at h
            obtain ⟨h7, h⟩ := ifp h
            obtain rfl := Option.some.inj h
            exact Til.fin Tryd.func10 [(1, ca (.tup [.agg [.d (.int .i64 v1.1), .d (.int .i64 v1.2.1), .d (L43 v1.2.2.1), .d (L22 v1.2.2.2.1), .d (L43 v1.2.2.2.2.1)], .c (.d (.int .i64 v1.2.2.2.2.2.1)), .c (.d (.int .i64 v1.2.2.2.2.2.2))])), (11, .b true), (15, .b true), (21, .b true), (28, .b true), (34, .b true)] (fun _ f => o (ask_Parse.does h0) (o (beq_iff_eq.2 h1) (o (beq_iff_eq.2 h2) (o (beq_iff_eq.2 h3) (o (o (nn 1) h4) (o h5 (o (beq_iff_eq.2 h6) (o (o (nn 0) h7) f)))))))) (by kernel_rfl)
          · rw [if_neg h6] at h
            obtain rfl := Option.some.inj h
            exact Til.fin Tryd.func10 [(1, ca (.tup [.agg [.d (.int .i64 v1.1), .d (.int .i64 v1.2.1), .d (L43 v1.2.2.1), .d (L22 v1.2.2.2.1), .d (L43 v1.2.2.2.2.1)], .c (.d (.int .i64 v1.2.2.2.2.2.1)), .c (.d (.int .i64 v1.2.2.2.2.2.2))])), (11, .b true), (15, .b true), (21, .b true), (28, .b true), (34, .b false)] (fun _ f => o (ask_Parse.does h0) (o (beq_iff_eq.2 h1) (o (beq_iff_eq.2 h2) (o (beq_iff_eq.2 h3) (o (o (nn 1) h4) (o h5 (o (beq_false_of_ne h6) f))))))) (by kernel_rfl)
        · rw [if_neg h5] at h
          obtain rfl := Option.some.inj h
          exact Til.fin Tryd.func10 [(1, ca (.tup [.agg [.d (.int .i64 v1.1), .d (.int .i64 v1.2.1), .d (L43 v1.2.2.1), .d (L22 v1.2.2.2.1), .d (L43 v1.2.2.2.2.1)], .c (.d (.int .i64 v1.2.2.2.2.2.1)), .c (.d (.int .i64 v1.2.2.2.2.2.2))])), (11, .b true), (15, .b true), (21, .b true), (28, .b false)] (fun _ f => o (ask_Parse.does h0) (o (beq_iff_eq.2 h1) (o (beq_iff_eq.2 h2) (o (beq_iff_eq.2 h3) (o (o (nn 1) h4) (o (Bool.eq_false_iff.2 h5) f)))))) (by kernel_rfl)
      · rw [if_neg h3] at h
        obtain rfl := Option.some.inj h
        exact Til.fin Tryd.func10 [(1, ca (.tup [.agg [.d (.int .i64 v1.1), .d (.int .i64 v1.2.1), .d (L43 v1.2.2.1), .d (L22 v1.2.2.2.1), .d (L43 v1.2.2.2.2.1)], .c (.d (.int .i64 v1.2.2.2.2.2.1)), .c (.d (.int .i64 v1.2.2.2.2.2.2))])), (11, .b true), (15, .b true), (21, .b false)] (fun _ f => o (ask_Parse.does h0) (o (beq_iff_eq.2 h1) (o (beq_iff_eq.2 h2) (o (beq_false_of_ne h3) f)))) (by kernel_rfl)
    · rw [if_neg h2] at h
      obtain rfl := Option.some.inj h
      exact Til.fin Tryd.func10 [(1, ca (.tup [.agg [.d (.int .i64 v1.1), .d (.int .i64 v1.2.1), .d (L43 v1.2.2.1), .d (L22 v1.2.2.2.1), .d (L43 v1.2.2.2.2.1)], .c (.d (.int .i64 v1.2.2.2.2.2.1)), .c (.d (.int .i64 v1.2.2.2.2.2.2))])), (11, .b true), (15, .b false)] (fun _ f => o (ask_Parse.does h0) (o (beq_iff_eq.2 h1) (o (beq_false_of_ne h2) f))) (by kernel_rfl)
  · rw [if_neg h1] at h
    obtain rfl := Option.some.inj h
    exact Til.fin Tryd.func10 [(1, ca (.tup [.agg [.d (.int .i64 v1.1), .d (.int .i64 v1.2.1), .d (L43 v1.2.2.1), .d (L22 v1.2.2.2.1), .d (L43 v1.2.2.2.2.1)], .c (.d (.int .i64 v1.2.2.2.2.2.1)), .c (.d (.int .i64 v1.2.2.2.2.2.2))])), (11, .b false)] (fun _ f => o (ask_Parse.does h0) (o (beq_false_of_ne h1) f)) (by kernel_rfl)

theorem dendronlaw28_AskParses.does {k : Nat} {a0 : ByteArray} {r : Bool} (h : dendronlaw28_AskParses.f k a0 = some r) :
    Does Tryd.prog 3 [.c (.d (.str a0))] [] (.c (.d (.bool r))) none [] := by
  refine does_fn Tryd.func3 (by kernel_rfl) rfl rfl ?_
  unfold dendronlaw28_AskParses.f at h
  by_cases h0 : (a0.size : Int) > 600
  · rw [if_pos h0] at h
    obtain ⟨h1, h⟩ := ifp h
    obtain ⟨v8, h2, h⟩ := bnd h
    obtain ⟨v18, h3, h⟩ := bnd h
    obtain ⟨v29, h4, h⟩ := bnd h
    cases v29
    · rw [if_neg (by decide)] at h
      obtain rfl := Option.some.inj h
      exact Til.fin Tryd.func3 [(3, .b true), (8, ca (.tup [.agg [.d (.int .i64 v8.1), .d (.int .i64 v8.2.1), .d (L43 v8.2.2.1), .d (L22 v8.2.2.2.1), .d (L43 v8.2.2.2.2.1)], .c (.d (.int .i64 v8.2.2.2.2.2.1)), .c (.d (.int .i64 v8.2.2.2.2.2.2))])), (18, ca (.tup [.agg [.d (.int .i64 v18.1), .d (.int .i64 v18.2.1), .d (L43 v18.2.2.1), .d (L22 v18.2.2.2.1), .d (L43 v18.2.2.2.2.1)], .c (.d (.int .i64 v18.2.2.2.2.2.1)), .c (.d (.int .i64 v18.2.2.2.2.2.2))])), (29, ca (.c (.d (.bool false))))] (fun _ f => o (decide_eq_true h0) (o (o (nn 600) h1) (o (ask_Parse.does h2) (o (dendronlaw28_parse.does h3) (o (dendronref28_Same.does h4) f))))) (by kernel_rfl)
    · rw [if_pos rfl] at h
      by_cases h6 : v8.2.2.2.2.2.1 = v18.2.2.2.2.2.1
      · rw [if_pos h6] at h
        by_cases h7 : v8.2.2.2.2.2.2 = v18.2.2.2.2.2.2
        · rw [if_pos h7] at h
          obtain ⟨v41, h8, h⟩ := bnd h
          obtain rfl := Option.some.inj h
          exact Til.fin Tryd.func3 [(3, .b true), (8, ca (.tup [.agg [.d (.int .i64 v8.1), .d (.int .i64 v8.2.1), .d (L43 v8.2.2.1), .d (L22 v8.2.2.2.1), .d (L43 v8.2.2.2.2.1)], .c (.d (.int .i64 v8.2.2.2.2.2.1)), .c (.d (.int .i64 v8.2.2.2.2.2.2))])), (18, ca (.tup [.agg [.d (.int .i64 v18.1), .d (.int .i64 v18.2.1), .d (L43 v18.2.2.1), .d (L22 v18.2.2.2.1), .d (L43 v18.2.2.2.2.1)], .c (.d (.int .i64 v18.2.2.2.2.2.1)), .c (.d (.int .i64 v18.2.2.2.2.2.2))])), (29, ca (.c (.d (.bool true)))), (33, .b true), (38, .b true), (41, ca (.c (.d (.bool v41))))] (fun _ f => o (decide_eq_true h0) (o (o (nn 600) h1) (o (ask_Parse.does h2) (o (dendronlaw28_parse.does h3) (o (dendronref28_Same.does h4) (o (beq_iff_eq.2 h6) (o (beq_iff_eq.2 h7) (o (dendronlaw28_awake.does h8) f)))))))) (by kernel_rfl)
        · rw [if_neg h7] at h
          obtain rfl := Option.some.inj h
          exact Til.fin Tryd.func3 [(3, .b true), (8, ca (.tup [.agg [.d (.int .i64 v8.1), .d (.int .i64 v8.2.1), .d (L43 v8.2.2.1), .d (L22 v8.2.2.2.1), .d (L43 v8.2.2.2.2.1)], .c (.d (.int .i64 v8.2.2.2.2.2.1)), .c (.d (.int .i64 v8.2.2.2.2.2.2))])), (18, ca (.tup [.agg [.d (.int .i64 v18.1), .d (.int .i64 v18.2.1), .d (L43 v18.2.2.1), .d (L22 v18.2.2.2.1), .d (L43 v18.2.2.2.2.1)], .c (.d (.int .i64 v18.2.2.2.2.2.1)), .c (.d (.int .i64 v18.2.2.2.2.2.2))])), (29, ca (.c (.d (.bool true)))), (33, .b true), (38, .b false)] (fun _ f => o (decide_eq_true h0) (o (o (nn 600) h1) (o (ask_Parse.does h2) (o (dendronlaw28_parse.does h3) (o (dendronref28_Same.does h4) (o (beq_iff_eq.2 h6) (o (beq_false_of_ne h7) f))))))) (by kernel_rfl)
      · rw [if_neg h6] at h
        obtain rfl := Option.some.inj h
        exact Til.fin Tryd.func3 [(3, .b true), (8, ca (.tup [.agg [.d (.int .i64 v8.1), .d (.int .i64 v8.2.1), .d (L43 v8.2.2.1), .d (L22 v8.2.2.2.1), .d (L43 v8.2.2.2.2.1)], .c (.d (.int .i64 v8.2.2.2.2.2.1)), .c (.d (.int .i64 v8.2.2.2.2.2.2))])), (18, ca (.tup [.agg [.d (.int .i64 v18.1), .d (.int .i64 v18.2.1), .d (L43 v18.2.2.1), .d (L22 v18.2.2.2.1), .d (L43 v18.2.2.2.2.1)], .c (.d (.int .i64 v18.2.2.2.2.2.1)), .c (.d (.int .i64 v18.2.2.2.2.2.2))])), (29, ca (.c (.d (.bool true)))), (33, .b false)] (fun _ f => o (decide_eq_true h0) (o (o (nn 600) h1) (o (ask_Parse.does h2) (o (dendronlaw28_parse.does h3) (o (dendronref28_Same.does h4) (o (beq_false_of_ne h6) f)))))) (by kernel_rfl)
  · rw [if_neg h0] at h
    obtain ⟨v5, h1, h⟩ := bnd h
    obtain ⟨v15, h2, h⟩ := bnd h
    obtain ⟨v26, h3, h⟩ := bnd h
    cases v26
    · rw [if_neg (by decide)] at h
      obtain rfl := Option.some.inj h
      exact Til.fin Tryd.func3 [(3, .b false), (5, ca (.tup [.agg [.d (.int .i64 v5.1), .d (.int .i64 v5.2.1), .d (L43 v5.2.2.1), .d (L22 v5.2.2.2.1), .d (L43 v5.2.2.2.2.1)], .c (.d (.int .i64 v5.2.2.2.2.2.1)), .c (.d (.int .i64 v5.2.2.2.2.2.2))])), (15, ca (.tup [.agg [.d (.int .i64 v15.1), .d (.int .i64 v15.2.1), .d (L43 v15.2.2.1), .d (L22 v15.2.2.2.1), .d (L43 v15.2.2.2.2.1)], .c (.d (.int .i64 v15.2.2.2.2.2.1)), .c (.d (.int .i64 v15.2.2.2.2.2.2))])), (26, ca (.c (.d (.bool false))))] (fun _ f => o (decide_eq_false h0) (o (ask_Parse.does h1) (o (dendronlaw28_parse.does h2) (o (dendronref28_Same.does h3) f)))) (by kernel_rfl)
    · rw [if_pos rfl] at h
      by_cases h5 : v5.2.2.2.2.2.1 = v15.2.2.2.2.2.1
      · rw [if_pos h5] at h
        by_cases h6 : v5.2.2.2.2.2.2 = v15.2.2.2.2.2.2
        · rw [if_pos h6] at h
          obtain ⟨v38, h7, h⟩ := bnd h
          obtain rfl := Option.some.inj h
          exact Til.fin Tryd.func3 [(3, .b false), (5, ca (.tup [.agg [.d (.int .i64 v5.1), .d (.int .i64 v5.2.1), .d (L43 v5.2.2.1), .d (L22 v5.2.2.2.1), .d (L43 v5.2.2.2.2.1)], .c (.d (.int .i64 v5.2.2.2.2.2.1)), .c (.d (.int .i64 v5.2.2.2.2.2.2))])), (15, ca (.tup [.agg [.d (.int .i64 v15.1), .d (.int .i64 v15.2.1), .d (L43 v15.2.2.1), .d (L22 v15.2.2.2.1), .d (L43 v15.2.2.2.2.1)], .c (.d (.int .i64 v15.2.2.2.2.2.1)), .c (.d (.int .i64 v15.2.2.2.2.2.2))])), (26, ca (.c (.d (.bool true)))), (30, .b true), (35, .b true), (38, ca (.c (.d (.bool v38))))] (fun _ f => o (decide_eq_false h0) (o (ask_Parse.does h1) (o (dendronlaw28_parse.does h2) (o (dendronref28_Same.does h3) (o (beq_iff_eq.2 h5) (o (beq_iff_eq.2 h6) (o (dendronlaw28_awake.does h7) f))))))) (by kernel_rfl)
        · rw [if_neg h6] at h
          obtain rfl := Option.some.inj h
          exact Til.fin Tryd.func3 [(3, .b false), (5, ca (.tup [.agg [.d (.int .i64 v5.1), .d (.int .i64 v5.2.1), .d (L43 v5.2.2.1), .d (L22 v5.2.2.2.1), .d (L43 v5.2.2.2.2.1)], .c (.d (.int .i64 v5.2.2.2.2.2.1)), .c (.d (.int .i64 v5.2.2.2.2.2.2))])), (15, ca (.tup [.agg [.d (.int .i64 v15.1), .d (.int .i64 v15.2.1), .d (L43 v15.2.2.1), .d (L22 v15.2.2.2.1), .d (L43 v15.2.2.2.2.1)], .c (.d (.int .i64 v15.2.2.2.2.2.1)), .c (.d (.int .i64 v15.2.2.2.2.2.2))])), (26, ca (.c (.d (.bool true)))), (30, .b true), (35, .b false)] (fun _ f => o (decide_eq_false h0) (o (ask_Parse.does h1) (o (dendronlaw28_parse.does h2) (o (dendronref28_Same.does h3) (o (beq_iff_eq.2 h5) (o (beq_false_of_ne h6) f)))))) (by kernel_rfl)
      · rw [if_neg h5] at h
        obtain rfl := Option.some.inj h
        exact Til.fin Tryd.func3 [(3, .b false), (5, ca (.tup [.agg [.d (.int .i64 v5.1), .d (.int .i64 v5.2.1), .d (L43 v5.2.2.1), .d (L22 v5.2.2.2.1), .d (L43 v5.2.2.2.2.1)], .c (.d (.int .i64 v5.2.2.2.2.2.1)), .c (.d (.int .i64 v5.2.2.2.2.2.2))])), (15, ca (.tup [.agg [.d (.int .i64 v15.1), .d (.int .i64 v15.2.1), .d (L43 v15.2.2.1), .d (L22 v15.2.2.2.1), .d (L43 v15.2.2.2.2.1)], .c (.d (.int .i64 v15.2.2.2.2.2.1)), .c (.d (.int .i64 v15.2.2.2.2.2.2))])), (26, ca (.c (.d (.bool true)))), (30, .b false)] (fun _ f => o (decide_eq_false h0) (o (ask_Parse.does h1) (o (dendronlaw28_parse.does h2) (o (dendronref28_Same.does h3) (o (beq_false_of_ne h5) f))))) (by kernel_rfl)

end Go.DI
