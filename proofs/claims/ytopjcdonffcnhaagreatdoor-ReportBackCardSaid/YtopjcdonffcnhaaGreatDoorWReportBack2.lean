/- The code of the functions does what is told of it, part 2. No condition. -/
import Derived.Test.YtopjcdonffcnhaaGreatDoorWReportBack1
set_option linter.all false
namespace Go.DI
open Go Go.RowKit Go.Proofs
set_option linter.unusedVariables false
set_option maxRecDepth 20000
def dendronlaw29_Few.l0E (x0 : List (Int × Int × Int × List (List (Bool × List Int × List Int)))) (x3 : List (Int × Int × Int × List (List (Bool × List Int × List Int)))) (x4 : Int) : Env := [(0, .c (.d (L34 x0))), (3, .c (.own 3)), (4, .c (.d (.int .i64 x4)))]
def dendronlaw29_Few.l0B (x0 : List (Int × Int × Int × List (List (Bool × List Int × List Int)))) (x3 : List (Int × Int × Int × List (List (Bool × List Int × List Int)))) (x4 : Int) : Obs := [(3, some (O34 .own x3))]
def dendronlaw29_Few.l1E (x0 : List (Int × Int × Int × List (List (Bool × List Int × List Int)))) (x3 : List (Int × Int × Int × List (List (Bool × List Int × List Int)))) (x4 : Int) (x6 : List (List (Bool × List Int × List Int))) (x7 : Int) (x16 : Int) (x17 : Bool) (b5_0 : Int) (b5_1 : Int) (b5_2 : Int) (b5_3 : List (List (Bool × List Int × List Int))) : Env := [(0, .c (.d (L34 x0))), (3, .c (.own 3)), (4, .c (.d (.int .i64 x4))), (5, .c (.ptr 5 0)), (6, .c (.own 6)), (7, .c (.d (.int .i64 x7))), (16, .c (.d (.int .i64 x16))), (17, .c (.d (.bool x17)))]
def dendronlaw29_Few.l1B (x0 : List (Int × Int × Int × List (List (Bool × List Int × List Int)))) (x3 : List (Int × Int × Int × List (List (Bool × List Int × List Int)))) (x4 : Int) (x6 : List (List (Bool × List Int × List Int))) (x7 : Int) (x16 : Int) (x17 : Bool) (b5_0 : Int) (b5_1 : Int) (b5_2 : Int) (b5_3 : List (List (Bool × List Int × List Int))) : Obs := [(3, some (O34 .own x3)), (5, some (.box [.d (.int .i64 b5_0), .d (.int .i64 b5_1), .d (.int .i64 b5_2), .d (L35 b5_3)])), (6, some (O35 .own x6))]
def dendronlaw29_Few.l2E (x0 : List (Int × Int × Int × List (List (Bool × List Int × List Int)))) (x3 : List (Int × Int × Int × List (List (Bool × List Int × List Int)))) (x4 : Int) (x6 : List (List (Bool × List Int × List Int))) (x7 : Int) (x8 : List (Bool × List Int × List Int)) (x9 : Int) (x16 : Int) (x17 : Bool) (x31 : Int) (x32 : Bool) (b5_0 : Int) (b5_1 : Int) (b5_2 : Int) (b5_3 : List (List (Bool × List Int × List Int))) : Env := [(0, .c (.d (L34 x0))), (3, .c (.own 3)), (4, .c (.d (.int .i64 x4))), (5, .c (.ptr 5 0)), (6, .c (.own 6)), (7, .c (.d (.int .i64 x7))), (8, .c (.own 8)), (9, .c (.d (.int .i64 x9))), (16, .c (.d (.int .i64 x16))), (17, .c (.d (.bool x17))), (31, .c (.d (.int .i64 x31))), (32, .c (.d (.bool x32)))]
def dendronlaw29_Few.l2B (x0 : List (Int × Int × Int × List (List (Bool × List Int × List Int)))) (x3 : List (Int × Int × Int × List (List (Bool × List Int × List Int)))) (x4 : Int) (x6 : List (List (Bool × List Int × List Int))) (x7 : Int) (x8 : List (Bool × List Int × List Int)) (x9 : Int) (x16 : Int) (x17 : Bool) (x31 : Int) (x32 : Bool) (b5_0 : Int) (b5_1 : Int) (b5_2 : Int) (b5_3 : List (List (Bool × List Int × List Int))) : Obs := [(3, some (O34 .own x3)), (5, some (.box [.d (.int .i64 b5_0), .d (.int .i64 b5_1), .d (.int .i64 b5_2), .d (L35 b5_3)])), (6, some (O35 .own x6)), (8, some (O42 .own x8))]
theorem dendronlaw29_Few.w (k : Nat) : (∀  (x0 : List (Int × Int × Int × List (List (Bool × List Int × List Int)))) (x3 : List (Int × Int × Int × List (List (Bool × List Int × List Int)))) (x4 : Int) (r : List (Int × Int × Int × List (List (Bool × List Int × List Int)))), dendronlaw29_Few.l0 k x0 x3 x4 = some r → Til Tryz.prog 11 [] (.c (.d (L34 r))) none [] (at_ Tryz.f11 3) (dendronlaw29_Few.l0E x0 x3 x4) (dendronlaw29_Few.l0B x0 x3 x4)) ∧
    (∀  (x0 : List (Int × Int × Int × List (List (Bool × List Int × List Int)))) (x3 : List (Int × Int × Int × List (List (Bool × List Int × List Int)))) (x4 : Int) (x6 : List (List (Bool × List Int × List Int))) (x7 : Int) (x16 : Int) (x17 : Bool) (b5_0 : Int) (b5_1 : Int) (b5_2 : Int) (b5_3 : List (List (Bool × List Int × List Int))) (r : List (Int × Int × Int × List (List (Bool × List Int × List Int)))), dendronlaw29_Few.l1 k x0 x3 x4 x6 x7 x16 x17 b5_0 b5_1 b5_2 b5_3 = some r → Til Tryz.prog 11 [] (.c (.d (L34 r))) none [] (at_ Tryz.f11 8) (dendronlaw29_Few.l1E x0 x3 x4 x6 x7 x16 x17 b5_0 b5_1 b5_2 b5_3) (dendronlaw29_Few.l1B x0 x3 x4 x6 x7 x16 x17 b5_0 b5_1 b5_2 b5_3)) ∧
    (∀  (x0 : List (Int × Int × Int × List (List (Bool × List Int × List Int)))) (x3 : List (Int × Int × Int × List (List (Bool × List Int × List Int)))) (x4 : Int) (x6 : List (List (Bool × List Int × List Int))) (x7 : Int) (x8 : List (Bool × List Int × List Int)) (x9 : Int) (x16 : Int) (x17 : Bool) (x31 : Int) (x32 : Bool) (b5_0 : Int) (b5_1 : Int) (b5_2 : Int) (b5_3 : List (List (Bool × List Int × List Int))) (r : List (Int × Int × Int × List (List (Bool × List Int × List Int)))), dendronlaw29_Few.l2 k x0 x3 x4 x6 x7 x8 x9 x16 x17 x31 x32 b5_0 b5_1 b5_2 b5_3 = some r → Til Tryz.prog 11 [] (.c (.d (L34 r))) none [] (at_ Tryz.f11 12) (dendronlaw29_Few.l2E x0 x3 x4 x6 x7 x8 x9 x16 x17 x31 x32 b5_0 b5_1 b5_2 b5_3) (dendronlaw29_Few.l2B x0 x3 x4 x6 x7 x8 x9 x16 x17 x31 x32 b5_0 b5_1 b5_2 b5_3)) := by
  induction k with
  | zero =>
    exact ⟨fun _ _ _ _ h => (by cases h), fun _ _ _ _ _ _ _ _ _ _ _ _ h => (by cases h), fun _ _ _ _ _ _ _ _ _ _ _ _ _ _ _ _ h => (by cases h)⟩
  | succ k ih =>
    refine ⟨?_, ?_, ?_⟩
    · intro x0 x3 x4 r h
      rw [dendronlaw29_Few.l0] at h
      by_cases h0 : x4 < (x0.length : Int)
      · rw [if_pos h0] at h
        by_cases h1 : x4 < 8
        · rw [if_pos h1] at h
          obtain ⟨h2, h⟩ := ifp h
          exact Til.mid Tryz.func11 8 [(3, .b true), (6, .b true)] (fun _ f => o (decide_eq_true h0) (o (decide_eq_true h1) (o (o h2 h0) f))) (by kernel_rfl) (ih.2.1 _ _ _ _ _ _ _ _ _ _ _ _ h)
        · rw [if_neg h1] at h
          obtain rfl := Option.some.inj h
          exact Til.fin Tryz.func11 [(3, .b true), (6, .b false)] (fun _ f => o (decide_eq_true h0) (o (decide_eq_false h1) f)) (by kernel_rfl)
      · rw [if_neg h0] at h
        obtain rfl := Option.some.inj h
        exact Til.fin Tryz.func11 [(3, .b false)] (fun _ f => o (decide_eq_false h0) f) (by kernel_rfl)
    · intro x0 x3 x4 x6 x7 x16 x17 b5_0 b5_1 b5_2 b5_3 r h
      rw [dendronlaw29_Few.l1] at h
      by_cases h0 : x7 < (b5_3.length : Int)
      · rw [if_pos h0] at h
        by_cases h1 : x7 < 70
        · rw [if_pos h1] at h
          exact Til.mid Tryz.func11 12 [(4, .b true), (7, .b true)] (fun _ f => o (decide_eq_true h0) (o (decide_eq_true h1) f)) (by kernel_rfl) (ih.2.2 _ _ _ _ _ _ _ _ _ _ _ _ _ _ _ _ h)
        · rw [if_neg h1] at h
          obtain ⟨h2, h⟩ := ifp h
          exact Til.mid Tryz.func11 3 [(4, .b true), (7, .b false), (14, Z34 ([(b5_0, b5_1, b5_2, x6)] : List (Int × Int × Int × List (List (Bool × List Int × List Int))))), (15, Z34 (x3 ++ [(b5_0, b5_1, b5_2, x6)]))] (fun _ f => o (decide_eq_true h0) (o (decide_eq_false h1) (o (lit_ok c34 (0, 0, 0, []) ([(b5_0, b5_1, b5_2, x6)] : List (Int × Int × Int × List (List (Bool × List Int × List Int))))) (o (app1 c34 (0, 0, 0, []) x3 (b5_0, b5_1, b5_2, x6) 48 2932031007402 (by decide) h2) f)))) (by kernel_rfl) (ih.1 _ _ _ _ h)
      · rw [if_neg h0] at h
        obtain ⟨h1, h⟩ := ifp h
        exact Til.mid Tryz.func11 3 [(4, .b false), (14, Z34 ([(b5_0, b5_1, b5_2, x6)] : List (Int × Int × Int × List (List (Bool × List Int × List Int))))), (15, Z34 (x3 ++ [(b5_0, b5_1, b5_2, x6)]))] (fun _ f => o (decide_eq_false h0) (o (lit_ok c34 (0, 0, 0, []) ([(b5_0, b5_1, b5_2, x6)] : List (Int × Int × Int × List (List (Bool × List Int × List Int))))) (o (app1 c34 (0, 0, 0, []) x3 (b5_0, b5_1, b5_2, x6) 48 2932031007402 (by decide) h1) f))) (by kernel_rfl) (ih.1 _ _ _ _ h)
    · intro x0 x3 x4 x6 x7 x8 x9 x16 x17 x31 x32 b5_0 b5_1 b5_2 b5_3 r h
      rw [dendronlaw29_Few.l2] at h
      obtain ⟨h0, h⟩ := ifp h
      obtain ⟨h1, h⟩ := ifp h
      by_cases h2 : x9 < ((gt [] b5_3 x7).length : Int)
      · rw [if_pos h2] at h
        by_cases h3 : x9 < 12
        · rw [if_pos h3] at h
          obtain ⟨h4, h⟩ := ifp h
          obtain ⟨v22, h5, h⟩ := bnd h
          obtain ⟨h6, h⟩ := ifp h
          obtain ⟨h7, h⟩ := ifp h
          exact Til.mid Tryz.func11 12 [(7, .b true), (10, .b true), (21, Z71 ([(false, (gt (false, [], []) (gt [] b5_3 x7) x9).1, (gt (false, [], []) (gt [] b5_3 x7) x9).2.1, (gt (false, [], []) (gt [] b5_3 x7) x9).2.2)] : List (Bool × Bool × List Int × List Int))), (22, ca (.c (.d (L71 v22)))), (29, Z42 ([((gt (false, false, [], []) v22 0).2.1, (gt (false, false, [], []) v22 0).2.2.1, (gt (false, false, [], []) v22 0).2.2.2)] : List (Bool × List Int × List Int))), (30, Z42 (x8 ++ [((gt (false, false, [], []) v22 0).2.1, (gt (false, false, [], []) v22 0).2.2.1, (gt (false, false, [], []) v22 0).2.2.2)]))] (fun _ f => o (o h0 h1) (o (decide_eq_true h2) (o (decide_eq_true h3) (o (o h0 h1) (o (o h4 h2) (o (lit_ok c71 (false, false, [], []) ([(false, (gt (false, [], []) (gt [] b5_3 x7) x9).1, (gt (false, [], []) (gt [] b5_3 x7) x9).2.1, (gt (false, [], []) (gt [] b5_3 x7) x9).2.2)] : List (Bool × Bool × List Int × List Int))) (o (dendronlaw09_Few.does h5) (o (o (nn 0) h6) (o (lit_ok c42 (false, [], []) ([((gt (false, false, [], []) v22 0).2.1, (gt (false, false, [], []) v22 0).2.2.1, (gt (false, false, [], []) v22 0).2.2.2)] : List (Bool × List Int × List Int))) (o (app1 c42 (false, [], []) x8 ((gt (false, false, [], []) v22 0).2.1, (gt (false, false, [], []) v22 0).2.2.1, (gt (false, false, [], []) v22 0).2.2.2) 56 2513169434916 (by decide) h7) f)))))))))) (by kernel_rfl) (ih.2.2 _ _ _ _ _ _ _ _ _ _ _ _ _ _ _ _ h)
        · rw [if_neg h3] at h
          obtain ⟨h4, h⟩ := ifp h
          exact Til.mid Tryz.func11 8 [(7, .b true), (10, .b false), (14, Z35 ([x8] : List (List (Bool × List Int × List Int)))), (15, Z35 (x6 ++ [x8]))] (fun _ f => o (o h0 h1) (o (decide_eq_true h2) (o (decide_eq_false h3) (o (lit_ok c35 [] ([x8] : List (List (Bool × List Int × List Int)))) (o (app1 c35 [] x6 x8 24 5864062014805 (by decide) h4) f))))) (by kernel_rfl) (ih.2.1 _ _ _ _ _ _ _ _ _ _ _ _ h)
      · rw [if_neg h2] at h
        obtain ⟨h3, h⟩ := ifp h
        exact Til.mid Tryz.func11 8 [(7, .b false), (14, Z35 ([x8] : List (List (Bool × List Int × List Int)))), (15, Z35 (x6 ++ [x8]))] (fun _ f => o (o h0 h1) (o (decide_eq_false h2) (o (lit_ok c35 [] ([x8] : List (List (Bool × List Int × List Int)))) (o (app1 c35 [] x6 x8 24 5864062014805 (by decide) h3) f)))) (by kernel_rfl) (ih.2.1 _ _ _ _ _ _ _ _ _ _ _ _ h)
theorem dendronlaw29_Few.does {k : Nat} {l0 : List (Int × Int × Int × List (List (Bool × List Int × List Int)))} {r : List (Int × Int × Int × List (List (Bool × List Int × List Int)))} (h : dendronlaw29_Few.f k l0 = some r) :
    Does Tryz.prog 11 [.c (.d (L34 l0))] [] (.c (.d (L34 r))) none [] := by
  refine does_fn Tryz.func11 (by kernel_rfl) rfl rfl ?_
  unfold dendronlaw29_Few.f at h
  have ih := dendronlaw29_Few.w k
  exact Til.mid Tryz.func11 3 [] (fun _ f => f) (by kernel_rfl) (ih.1 _ _ _ _ h)

def nat_Right.l0E (x0 : List Int) (x5 : List Int) (x6 : Int) (x7 : Int) : Env := [(0, .c (.d (L77 x0))), (5, .c (.d (L77 x5))), (6, .c (.d (.int .i64 x6))), (7, .c (.d (.int .i64 x7)))]
theorem nat_Right.w (k : Nat) : (∀  (x0 : List Int) (x5 : List Int) (x6 : Int) (x7 : Int) (r : Bool), nat_Right.l0 k x0 x5 x6 x7 = some r → Til Tryz.prog 35 [] (.c (.d (.bool r))) none [] (at_ Tryz.f35 2) (nat_Right.l0E x0 x5 x6 x7) []) := by
  induction k with
  | zero =>
    exact fun _ _ _ _ _ h => (by cases h)
  | succ k ih =>
    intro x0 x5 x6 x7 r h
    rw [nat_Right.l0] at h
    by_cases h0 : x7 < x6
    · rw [if_pos h0] at h
      obtain ⟨h1, h⟩ := ifp h
      obtain ⟨h2, h⟩ := ifp h
      by_cases h3 : (rd x5 x7) > 4294967295
      · rw [if_pos h3] at h
        obtain rfl := Option.some.inj h
        exact Til.fin Tryz.func35 [(0, .b true), (5, .b true)] (fun _ f => o (decide_eq_true h0) (o (o h1 h2) (o (decide_eq_true h3) f))) (by kernel_rfl)
      · rw [if_neg h3] at h
        exact Til.mid Tryz.func35 2 [(0, .b true), (5, .b false)] (fun _ f => o (decide_eq_true h0) (o (o h1 h2) (o (decide_eq_false h3) f))) (by kernel_rfl) (ih _ _ _ _ _ h)
    · rw [if_neg h0] at h
      by_cases h1 : (x0.length : Int) = 0
      · rw [if_pos h1] at h
        obtain rfl := Option.some.inj h
        exact Til.fin Tryz.func35 [(0, .b false), (3, .b true)] (fun _ f => o (decide_eq_false h0) (o (beq_iff_eq.2 h1) f)) (by kernel_rfl)
      · rw [if_neg h1] at h
        obtain ⟨h2, h⟩ := ifp h
        obtain ⟨h3, h⟩ := ifp h
        obtain rfl := Option.some.inj h
        exact Til.fin Tryz.func35 [(0, .b false), (3, .b false)] (fun _ f => o (decide_eq_false h0) (o (beq_false_of_ne h1) (o (o h2 h3) f))) (by kernel_rfl)
theorem nat_Right.does {k : Nat} {l0 : List Int} {r : Bool} (h : nat_Right.f k l0 = some r) :
    Does Tryz.prog 35 [.c (.d (L77 l0))] [] (.c (.d (.bool r))) none [] := by
  refine does_fn Tryz.func35 (by kernel_rfl) rfl rfl ?_
  unfold nat_Right.f at h
  have ih := nat_Right.w k
  exact Til.mid Tryz.func35 2 [] (fun _ f => f) (by kernel_rfl) (ih _ _ _ _ _ h)

theorem whole_Right.does {k : Nat} {a0_0 : Bool} {l0_1 : List Int} {r : Bool} (h : whole_Right.f k a0_0 l0_1 = some r) :
    Does Tryz.prog 34 [.agg [.d (.bool a0_0), .d (L77 l0_1)]] [] (.c (.d (.bool r))) none [] := by
  refine does_fn Tryz.func34 (by kernel_rfl) rfl rfl ?_
  unfold whole_Right.f at h
  obtain ⟨v4, h0, h⟩ := bnd h
  cases v4
  · rw [if_neg (by decide)] at h
    obtain rfl := Option.some.inj h
    exact Til.fin Tryz.func34 [(4, ca (.c (.d (.bool false))))] (fun _ f => o (nat_Right.does h0) f) (by kernel_rfl)
  · rw [if_pos rfl] at h
    by_cases h2 : (l0_1.length : Int) > 0
    · rw [if_pos h2] at h
      obtain rfl := Option.some.inj h
      exact Til.fin Tryz.func34 [(4, ca (.c (.d (.bool true)))), (9, .b true)] (fun _ f => o (nat_Right.does h0) (o (decide_eq_true h2) f)) (by kernel_rfl)
    · rw [if_neg h2] at h
      obtain rfl := Option.some.inj h
      exact Til.fin Tryz.func34 [(4, ca (.c (.d (.bool true)))), (9, .b false)] (fun _ f => o (nat_Right.does h0) (o (decide_eq_false h2) f)) (by kernel_rfl)

theorem ratio_Right.does {k : Nat} {a0_0 : Bool} {l0_1 : List Int} {l0_2 : List Int} {r : Bool} (h : ratio_Right.f k a0_0 l0_1 l0_2 = some r) :
    Does Tryz.prog 12 [.agg [.d (.bool a0_0), .d (L77 l0_1), .d (L77 l0_2)]] [] (.c (.d (.bool r))) none [] := by
  refine does_fn Tryz.func12 (by kernel_rfl) rfl rfl ?_
  unfold ratio_Right.f at h
  obtain ⟨v4, h0, h⟩ := bnd h
  cases v4
  · rw [if_neg (by decide)] at h
    obtain rfl := Option.some.inj h
    exact Til.fin Tryz.func12 [(4, ca (.c (.d (.bool false))))] (fun _ f => o (whole_Right.does h0) f) (by kernel_rfl)
  · rw [if_pos rfl] at h
    obtain ⟨v9, h2, h⟩ := bnd h
    cases v9
    · rw [if_neg (by decide)] at h
      obtain rfl := Option.some.inj h
      exact Til.fin Tryz.func12 [(4, ca (.c (.d (.bool true)))), (9, ca (.c (.d (.bool false))))] (fun _ f => o (whole_Right.does h0) (o (nat_Right.does h2) f)) (by kernel_rfl)
    · rw [if_pos rfl] at h
      by_cases h4 : (l0_2.length : Int) = 0
      · rw [if_pos h4] at h
        obtain rfl := Option.some.inj h
        exact Til.fin Tryz.func12 [(4, ca (.c (.d (.bool true)))), (9, ca (.c (.d (.bool true)))), (16, .b true)] (fun _ f => o (whole_Right.does h0) (o (nat_Right.does h2) (o (beq_iff_eq.2 h4) f))) (by kernel_rfl)
      · rw [if_neg h4] at h
        obtain ⟨v23, h5, h⟩ := bnd h
        obtain ⟨v26, h6, h⟩ := bnd h
        obtain ⟨v27, h7, h⟩ := bnd h
        obtain rfl := Option.some.inj h
        exact Til.fin Tryz.func12 [(4, ca (.c (.d (.bool true)))), (9, ca (.c (.d (.bool true)))), (16, .b false), (23, ca (.c (.d (L77 v23)))), (26, ca (.c (.d (L77 v26)))), (27, ca (.c (.d (.int .i64 v27))))] (fun _ f => o (whole_Right.does h0) (o (nat_Right.does h2) (o (beq_false_of_ne h4) (o (nat_Gcd.does h5) (o (nat_Of.does h6) (o (nat_Cmp.does h7) f)))))) (by kernel_rfl)

def dendronlaw29_ReportBack.l0E (x5 : List (Int × Int × Int × List (List (Bool × List Int × List Int)))) (x7 : Int) : Env := [(5, .c (.d (L34 x5))), (7, .c (.d (.int .i64 x7)))]
def dendronlaw29_ReportBack.l1E (x5 : List (Int × Int × Int × List (List (Bool × List Int × List Int)))) (x7 : Int) (x8 : Int) : Env := [(5, .c (.d (L34 x5))), (7, .c (.d (.int .i64 x7))), (8, .c (.d (.int .i64 x8)))]
def dendronlaw29_ReportBack.l2E (x5 : List (Int × Int × Int × List (List (Bool × List Int × List Int)))) (x7 : Int) (x8 : Int) (x9 : Int) : Env := [(5, .c (.d (L34 x5))), (7, .c (.d (.int .i64 x7))), (8, .c (.d (.int .i64 x8))), (9, .c (.d (.int .i64 x9)))]
theorem dendronlaw29_ReportBack.w (k : Nat) : (∀  (x5 : List (Int × Int × Int × List (List (Bool × List Int × List Int)))) (x7 : Int) (r : Bool), dendronlaw29_ReportBack.l0 k x5 x7 = some r → Til Tryz.prog 5 [] (.c (.d (.bool r))) none [] (at_ Tryz.f5 9) (dendronlaw29_ReportBack.l0E x5 x7) []) ∧
    (∀  (x5 : List (Int × Int × Int × List (List (Bool × List Int × List Int)))) (x7 : Int) (x8 : Int) (r : Bool), dendronlaw29_ReportBack.l1 k x5 x7 x8 = some r → Til Tryz.prog 5 [] (.c (.d (.bool r))) none [] (at_ Tryz.f5 12) (dendronlaw29_ReportBack.l1E x5 x7 x8) []) ∧
    (∀  (x5 : List (Int × Int × Int × List (List (Bool × List Int × List Int)))) (x7 : Int) (x8 : Int) (x9 : Int) (r : Bool), dendronlaw29_ReportBack.l2 k x5 x7 x8 x9 = some r → Til Tryz.prog 5 [] (.c (.d (.bool r))) none [] (at_ Tryz.f5 15) (dendronlaw29_ReportBack.l2E x5 x7 x8 x9) []) := by
  induction k with
  | zero =>
    exact ⟨fun _ _ _ h => (by cases h), fun _ _ _ _ h => (by cases h), fun _ _ _ _ _ h => (by cases h)⟩
  | succ k ih =>
    refine ⟨?_, ?_, ?_⟩
    · intro x5 x7 r h
      rw [dendronlaw29_ReportBack.l0] at h
      by_cases h0 : x7 < (x5.length : Int)
      · rw [if_pos h0] at h
        exact Til.mid Tryz.func5 12 [(3, .b true)] (fun _ f => o (decide_eq_true h0) f) (by kernel_rfl) (ih.2.1 _ _ _ _ h)
      · rw [if_neg h0] at h
        obtain ⟨v4, h1, h⟩ := bnd h
        obtain rfl := Option.some.inj h
        exact Til.fin Tryz.func5 [(3, .b false), (4, ca (.c (.d (.bool v4))))] (fun _ f => o (decide_eq_false h0) (o (dendronlaw29_awake.does h1) f)) (by kernel_rfl)
    · intro x5 x7 x8 r h
      rw [dendronlaw29_ReportBack.l1] at h
      obtain ⟨h0, h⟩ := ifp h
      obtain ⟨h1, h⟩ := ifp h
      by_cases h2 : x8 < (((gt (0, 0, 0, []) x5 x7).2.2.2).length : Int)
      · rw [if_pos h2] at h
        exact Til.mid Tryz.func5 15 [(7, .b true)] (fun _ f => o (o h0 h1) (o (decide_eq_true h2) f)) (by kernel_rfl) (ih.2.2 _ _ _ _ _ h)
      · rw [if_neg h2] at h
        exact Til.mid Tryz.func5 9 [(7, .b false)] (fun _ f => o (o h0 h1) (o (decide_eq_false h2) f)) (by kernel_rfl) (ih.1 _ _ _ h)
    · intro x5 x7 x8 x9 r h
      rw [dendronlaw29_ReportBack.l2] at h
      obtain ⟨h0, h⟩ := ifp h
      obtain ⟨h1, h⟩ := ifp h
      obtain ⟨h2, h⟩ := ifp h
      obtain ⟨h3, h⟩ := ifp h
      by_cases h4 : x9 < ((gt [] ((gt (0, 0, 0, []) x5 x7).2.2.2) x8).length : Int)
      · rw [if_pos h4] at h
        obtain ⟨h5, h⟩ := ifp h
        obtain ⟨v22, h6, h⟩ := bnd h
        cases v22
        · rw [if_neg (by decide)] at h
          obtain rfl := Option.some.inj h
          exact Til.fin Tryz.func5 [(10, .b true), (22, ca (.c (.d (.bool false))))] (fun _ f => o (o h0 h1) (o (o h2 h3) (o (decide_eq_true h4) (o (o h0 h1) (o (o h2 h3) (o (o h5 h4) (o (ratio_Right.does h6) f))))))) (by kernel_rfl)
        · rw [if_pos rfl] at h
          exact Til.mid Tryz.func5 15 [(10, .b true), (22, ca (.c (.d (.bool true))))] (fun _ f => o (o h0 h1) (o (o h2 h3) (o (decide_eq_true h4) (o (o h0 h1) (o (o h2 h3) (o (o h5 h4) (o (ratio_Right.does h6) f))))))) (by kernel_rfl) (ih.2.2 _ _ _ _ _ h)
      · rw [if_neg h4] at h
        exact Til.mid Tryz.func5 12 [(10, .b false)] (fun _ f => o (o h0 h1) (o (o h2 h3) (o (decide_eq_false h4) f))) (by kernel_rfl) (ih.2.1 _ _ _ _ h)
theorem dendronlaw29_ReportBack.does {k : Nat} {l0 : List (Int × Int × Int × List (List (Bool × List Int × List Int)))} {r : Bool} (h : dendronlaw29_ReportBack.f k l0 = some r) :
    Does Tryz.prog 5 [.c (.d (L34 l0))] [] (.c (.d (.bool r))) none [] := by
  refine does_fn Tryz.func5 (by kernel_rfl) rfl rfl ?_
  unfold dendronlaw29_ReportBack.f at h
  have ih := dendronlaw29_ReportBack.w k
  obtain ⟨v2, h0, h⟩ := bnd h
  obtain ⟨v5, h1, h⟩ := bnd h
  by_cases h2 : v5.2 ≠ 0
  · rw [if_pos h2] at h
    obtain ⟨v13, h3, h⟩ := bnd h
    obtain rfl := Option.some.inj h
    exact Til.fin Tryz.func5 [(2, ca (.c (.d (L34 v2)))), (5, ca (.tup [.c (.d (.str v5.1)), .c (.d (.int .i64 v5.2))])), (12, .b true), (13, ca (.c (.d (.bool v13))))] (fun _ f => o (dendronlaw29_Few.does h0) (o (report_Write.does h1) (o (bne_iff_ne.2 h2) (o (dendronlaw29_awake.does h3) f)))) (by kernel_rfl)
  · rw [if_neg h2] at h
    obtain ⟨v14, h3, h⟩ := bnd h
    by_cases h4 : v14.2 ≠ 0
    · rw [if_pos h4] at h
      obtain rfl := Option.some.inj h
      exact Til.fin Tryz.func5 [(2, ca (.c (.d (L34 v2)))), (5, ca (.tup [.c (.d (.str v5.1)), .c (.d (.int .i64 v5.2))])), (12, .b false), (14, ca (.tup [.c (.d (L34 v14.1)), .c (.d (.int .i64 v14.2))])), (21, .b true)] (fun _ f => o (dendronlaw29_Few.does h0) (o (report_Write.does h1) (o (ne_f h2) (o (report_Read.does h3) (o (bne_iff_ne.2 h4) f))))) (by kernel_rfl)
    · rw [if_neg h4] at h
      obtain ⟨v25, h5, h⟩ := bnd h
      cases v25
      · rw [if_neg (by decide)] at h
        obtain rfl := Option.some.inj h
        exact Til.fin Tryz.func5 [(2, ca (.c (.d (L34 v2)))), (5, ca (.tup [.c (.d (.str v5.1)), .c (.d (.int .i64 v5.2))])), (12, .b false), (14, ca (.tup [.c (.d (L34 v14.1)), .c (.d (.int .i64 v14.2))])), (21, .b false), (25, ca (.c (.d (.bool false))))] (fun _ f => o (dendronlaw29_Few.does h0) (o (report_Write.does h1) (o (ne_f h2) (o (report_Read.does h3) (o (ne_f h4) (o (dendronref29_All.does h5) f)))))) (by kernel_rfl)
      · rw [if_pos rfl] at h
        exact Til.mid Tryz.func5 9 [(2, ca (.c (.d (L34 v2)))), (5, ca (.tup [.c (.d (.str v5.1)), .c (.d (.int .i64 v5.2))])), (12, .b false), (14, ca (.tup [.c (.d (L34 v14.1)), .c (.d (.int .i64 v14.2))])), (21, .b false), (25, ca (.c (.d (.bool true))))] (fun _ f => o (dendronlaw29_Few.does h0) (o (report_Write.does h1) (o (ne_f h2) (o (report_Read.does h3) (o (ne_f h4) (o (dendronref29_All.does h5) f)))))) (by kernel_rfl) (ih.1 _ _ _ h)

def c22 (x : List (Int × Int × Int × List (List (Bool × List Int × List Int)))) : List Dat := [L34 x]
def L22 (xs : List (List (Int × Int × Int × List (List (Bool × List Int × List Int))))) : Dat := fr 1 c22 [] xs
def Z22 (xs : List (List (Int × Int × Int × List (List (Bool × List Int × List Int))))) : Sup := .r xs.length (enc c22 [] xs)
def O22 (k : RK) (xs : List (List (Int × Int × Int × List (List (Bool × List Int × List Int))))) : Ob := .row k 22 1 xs.length (enc c22 [] xs)

def c23 (x : Int) : List Dat := [.int .i64 x]
def L23 (xs : List Int) : Dat := fr 1 c23 0 xs
def Z23 (xs : List Int) : Sup := .r xs.length (enc c23 0 xs)
def O23 (k : RK) (xs : List Int) : Ob := .row k 23 1 xs.length (enc c23 0 xs)

def c32 (x : List (List (Bool × List Int × List Int))) : List Dat := [L35 x]
def L32 (xs : List (List (List (Bool × List Int × List Int)))) : Dat := fr 1 c32 [] xs
def Z32 (xs : List (List (List (Bool × List Int × List Int)))) : Sup := .r xs.length (enc c32 [] xs)
def O32 (k : RK) (xs : List (List (List (Bool × List Int × List Int)))) : Ob := .row k 32 1 xs.length (enc c32 [] xs)

def c40 (x : Bool × List Int) : List Dat := [.bool x.1, L77 x.2]
def L40 (xs : List (Bool × List Int)) : Dat := fr 2 c40 (false, []) xs
def Z40 (xs : List (Bool × List Int)) : Sup := .r xs.length (enc c40 (false, []) xs)
def O40 (k : RK) (xs : List (Bool × List Int)) : Ob := .row k 40 2 xs.length (enc c40 (false, []) xs)

def c4 (x : Bool) : List Dat := [.bool x]
def L4 (xs : List Bool) : Dat := fr 1 c4 false xs
def Z4 (xs : List Bool) : Sup := .r xs.length (enc c4 false xs)
def O4 (k : RK) (xs : List Bool) : Ob := .row k 4 1 xs.length (enc c4 false xs)

def c38 (x : List Int) : List Dat := [L77 x]
def L38 (xs : List (List Int)) : Dat := fr 1 c38 [] xs
def Z38 (xs : List (List Int)) : Sup := .r xs.length (enc c38 [] xs)
def O38 (k : RK) (xs : List (List Int)) : Ob := .row k 38 1 xs.length (enc c38 [] xs)

end Go.DI
