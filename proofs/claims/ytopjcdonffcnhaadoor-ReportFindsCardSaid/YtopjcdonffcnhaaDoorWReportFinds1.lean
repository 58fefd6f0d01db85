/- The code of the functions does what is told of it, part 1. No condition. -/
import Derived.Test.YtopjcdonffcnhaaDoorBReportFinds
set_option linter.all false
namespace Go.DI
open Go Go.RowKit Go.Proofs
set_option linter.unusedVariables false
set_option maxRecDepth 20000
def c90 (x : Int) : List Dat := [.int .u64 x]
def L90 (xs : List Int) : Dat := fr 1 c90 0 xs
def Z90 (xs : List Int) : Sup := .r xs.length (enc c90 0 xs)
def O90 (k : RK) (xs : List Int) : Ob := .row k 90 1 xs.length (enc c90 0 xs)

theorem dendronlaw09_number.does {a0_0 : Bool} {l0_1 : List Int} {l0_2 : List Int} {r : Bool × List Int × List Int} (h : dendronlaw09_number.f a0_0 l0_1 l0_2 = some r) :
    Does Tryd.prog 38 [.agg [.d (.bool a0_0), .d (L90 l0_1), .d (L90 l0_2)]] [] (.agg [.d (.bool r.1), .d (L90 r.2.1), .d (L90 r.2.2)]) none [] := by
  refine does_fn Tryd.func38 (by kernel_rfl) rfl rfl ?_
  unfold dendronlaw09_number.f at h
  by_cases h0 : (l0_1.length : Int) > 3
  · rw [if_pos h0] at h
    obtain ⟨h1, h⟩ := ifp h
    by_cases h2 : (l0_2.length : Int) > 3
    · rw [if_pos h2] at h
      obtain ⟨h3, h⟩ := ifp h
      obtain rfl := Option.some.inj h
      exact Til.fin Tryd.func38 [(6, .b true), (10, Z90 (l0_1.take 3)), (17, .b true), (20, Z90 (l0_2.take 3))] (fun _ f => o (decide_eq_true h0) (o (take_ok c90 0 l0_1 (nn 3) h1) (o (decide_eq_true h2) (o (take_ok c90 0 l0_2 (nn 3) h3) f)))) (by kernel_rfl)
    · rw [if_neg h2] at h
      obtain rfl := Option.some.inj h
      exact Til.fin Tryd.func38 [(6, .b true), (10, Z90 (l0_1.take 3)), (17, .b false)] (fun _ f => o (decide_eq_true h0) (o (take_ok c90 0 l0_1 (nn 3) h1) (o (decide_eq_false h2) f))) (by kernel_rfl)
  · rw [if_neg h0] at h
    by_cases h1 : (l0_2.length : Int) > 3
    · rw [if_pos h1] at h
      obtain ⟨h2, h⟩ := ifp h
      obtain rfl := Option.some.inj h
      exact Til.fin Tryd.func38 [(6, .b false), (10, .b true), (13, Z90 (l0_2.take 3))] (fun _ f => o (decide_eq_false h0) (o (decide_eq_true h1) (o (take_ok c90 0 l0_2 (nn 3) h2) f))) (by kernel_rfl)
    · rw [if_neg h1] at h
      obtain rfl := Option.some.inj h
      exact Til.fin Tryd.func38 [(6, .b false), (10, .b false)] (fun _ f => o (decide_eq_false h0) (o (decide_eq_false h1) f)) (by kernel_rfl)

def c57 (x : Bool × Bool × List Int × List Int) : List Dat := [.bool x.1, .bool x.2.1, L90 x.2.2.1, L90 x.2.2.2]
def L57 (xs : List (Bool × Bool × List Int × List Int)) : Dat := fr 4 c57 (false, false, [], []) xs
def Z57 (xs : List (Bool × Bool × List Int × List Int)) : Sup := .r xs.length (enc c57 (false, false, [], []) xs)
def O57 (k : RK) (xs : List (Bool × Bool × List Int × List Int)) : Ob := .row k 57 4 xs.length (enc c57 (false, false, [], []) xs)

def dendronlaw09_Few.l0E (x0 : List (Bool × Bool × List Int × List Int)) (x1 : Int) (x5 : List (Bool × Bool × List Int × List Int)) (x6 : Int) : Env := [(0, .c (.d (L57 x0))), (1, .c (.d (.int .i64 x1))), (5, .c (.own 5)), (6, .c (.d (.int .i64 x6)))]
def dendronlaw09_Few.l0B (x0 : List (Bool × Bool × List Int × List Int)) (x1 : Int) (x5 : List (Bool × Bool × List Int × List Int)) (x6 : Int) : Obs := [(5, some (O57 .own x5))]
theorem dendronlaw09_Few.w (k : Nat) : (∀  (x0 : List (Bool × Bool × List Int × List Int)) (x1 : Int) (x5 : List (Bool × Bool × List Int × List Int)) (x6 : Int) (r : List (Bool × Bool × List Int × List Int)), dendronlaw09_Few.l0 k x0 x1 x5 x6 = some r → Til Tryd.prog 20 [] (.c (.d (L57 r))) none [] (at_ Tryd.f20 3) (dendronlaw09_Few.l0E x0 x1 x5 x6) (dendronlaw09_Few.l0B x0 x1 x5 x6)) := by
  induction k with
  | zero =>
    exact fun _ _ _ _ _ h => (by cases h)
  | succ k ih =>
    intro x0 x1 x5 x6 r h
    rw [dendronlaw09_Few.l0] at h
    by_cases h0 : x6 < (x0.length : Int)
    · rw [if_pos h0] at h
      by_cases h1 : x6 < x1
      · rw [if_pos h1] at h
        obtain ⟨h2, h⟩ := ifp h
        obtain ⟨v17, h3, h⟩ := bnd h
        obtain ⟨h4, h⟩ := ifp h
        exact Til.mid Tryd.func20 3 [(3, .b true), (7, .b true), (17, ca (.agg [.d (.bool v17.1), .d (L90 v17.2.1), .d (L90 v17.2.2)])), (22, Z57 ([((gt (false, false, [], []) x0 x6).1, v17.1, v17.2.1, v17.2.2)] : List (Bool × Bool × List Int × List Int))), (23, Z57 (x5 ++ [((gt (false, false, [], []) x0 x6).1, v17.1, v17.2.1, v17.2.2)]))] (fun _ f => o (decide_eq_true h0) (o (decide_eq_true h1) (o (o h2 h0) (o (dendronlaw09_number.does h3) (o (lit_ok c57 (false, false, [], []) ([((gt (false, false, [], []) x0 x6).1, v17.1, v17.2.1, v17.2.2)] : List (Bool × Bool × List Int × List Int))) (o (app1 c57 (false, false, [], []) x5 ((gt (false, false, [], []) x0 x6).1, v17.1, v17.2.1, v17.2.2) 64 2199023255552 (by decide) h4) f)))))) (by kernel_rfl) (ih _ _ _ _ _ h)
      · rw [if_neg h1] at h
        obtain rfl := Option.some.inj h
        exact Til.fin Tryd.func20 [(3, .b true), (7, .b false)] (fun _ f => o (decide_eq_true h0) (o (decide_eq_false h1) f)) (by kernel_rfl)
    · rw [if_neg h0] at h
      obtain rfl := Option.some.inj h
      exact Til.fin Tryd.func20 [(3, .b false)] (fun _ f => o (decide_eq_false h0) f) (by kernel_rfl)
theorem dendronlaw09_Few.does {k : Nat} {l0 : List (Bool × Bool × List Int × List Int)} {a1 : Int} {r : List (Bool × Bool × List Int × List Int)} (h : dendronlaw09_Few.f k l0 a1 = some r) :
    Does Tryd.prog 20 [.c (.d (L57 l0)), .c (.d (.int .i64 a1))] [] (.c (.d (L57 r))) none [] := by
  refine does_fn Tryd.func20 (by kernel_rfl) rfl rfl ?_
  unfold dendronlaw09_Few.f at h
  have ih := dendronlaw09_Few.w k
  exact Til.mid Tryd.func20 3 [] (fun _ f => f) (by kernel_rfl) (ih _ _ _ _ _ h)

def c55 (x : Bool × List Int × List Int) : List Dat := [.bool x.1, L90 x.2.1, L90 x.2.2]
def L55 (xs : List (Bool × List Int × List Int)) : Dat := fr 3 c55 (false, [], []) xs
def Z55 (xs : List (Bool × List Int × List Int)) : Sup := .r xs.length (enc c55 (false, [], []) xs)
def O55 (k : RK) (xs : List (Bool × List Int × List Int)) : Ob := .row k 55 3 xs.length (enc c55 (false, [], []) xs)

def c47 (x : List (Bool × List Int × List Int)) : List Dat := [L55 x]
def L47 (xs : List (List (Bool × List Int × List Int))) : Dat := fr 1 c47 [] xs
def Z47 (xs : List (List (Bool × List Int × List Int))) : Sup := .r xs.length (enc c47 [] xs)
def O47 (k : RK) (xs : List (List (Bool × List Int × List Int))) : Ob := .row k 47 1 xs.length (enc c47 [] xs)

def c33 (x : Int × Int × Int × List (List (Bool × List Int × List Int))) : List Dat := [.int .i64 x.1, .int .i64 x.2.1, .int .i64 x.2.2.1, L47 x.2.2.2]
def L33 (xs : List (Int × Int × Int × List (List (Bool × List Int × List Int)))) : Dat := fr 4 c33 (0, 0, 0, []) xs
def Z33 (xs : List (Int × Int × Int × List (List (Bool × List Int × List Int)))) : Sup := .r xs.length (enc c33 (0, 0, 0, []) xs)
def O33 (k : RK) (xs : List (Int × Int × Int × List (List (Bool × List Int × List Int)))) : Ob := .row k 33 4 xs.length (enc c33 (0, 0, 0, []) xs)

def dendronlaw29_Few.l0E (x0 : List (Int × Int × Int × List (List (Bool × List Int × List Int)))) (x3 : List (Int × Int × Int × List (List (Bool × List Int × List Int)))) (x4 : Int) : Env := [(0, .c (.d (L33 x0))), (3, .c (.own 3)), (4, .c (.d (.int .i64 x4)))]
def dendronlaw29_Few.l0B (x0 : List (Int × Int × Int × List (List (Bool × List Int × List Int)))) (x3 : List (Int × Int × Int × List (List (Bool × List Int × List Int)))) (x4 : Int) : Obs := [(3, some (O33 .own x3))]
def dendronlaw29_Few.l1E (x0 : List (Int × Int × Int × List (List (Bool × List Int × List Int)))) (x3 : List (Int × Int × Int × List (List (Bool × List Int × List Int)))) (x4 : Int) (x6 : List (List (Bool × List Int × List Int))) (x7 : Int) (x16 : Int) (x17 : Bool) (b5_0 : Int) (b5_1 : Int) (b5_2 : Int) (b5_3 : List (List (Bool × List Int × List Int))) : Env := [(0, .c (.d (L33 x0))), (3, .c (.own 3)), (4, .c (.d (.int .i64 x4))), (5, .c (.ptr 5 0)), (6, .c (.own 6)), (7, .c (.d (.int .i64 x7))), (16, .c (.d (.int .i64 x16))), (17, .c (.d (.bool x17)))]
def dendronlaw29_Few.l1B (x0 : List (Int × Int × Int × List (List (Bool × List Int × List Int)))) (x3 : List (Int × Int × Int × List (List (Bool × List Int × List Int)))) (x4 : Int) (x6 : List (List (Bool × List Int × List Int))) (x7 : Int) (x16 : Int) (x17 : Bool) (b5_0 : Int) (b5_1 : Int) (b5_2 : Int) (b5_3 : List (List (Bool × List Int × List Int))) : Obs := [(3, some (O33 .own x3)), (5, some (.box [.d (.int .i64 b5_0), .d (.int .i64 b5_1), .d (.int .i64 b5_2), .d (L47 b5_3)])), (6, some (O47 .own x6))]
def dendronlaw29_Few.l2E (x0 : List (Int × Int × Int × List (List (Bool × List Int × List Int)))) (x3 : List (Int × Int × Int × List (List (Bool × List Int × List Int)))) (x4 : Int) (x6 : List (List (Bool × List Int × List Int))) (x7 : Int) (x8 : List (Bool × List Int × List Int)) (x9 : Int) (x16 : Int) (x17 : Bool) (x31 : Int) (x32 : Bool) (b5_0 : Int) (b5_1 : Int) (b5_2 : Int) (b5_3 : List (List (Bool × List Int × List Int))) : Env := [(0, .c (.d (L33 x0))), (3, .c (.own 3)), (4, .c (.d (.int .i64 x4))), (5, .c (.ptr 5 0)), (6, .c (.own 6)), (7, .c (.d (.int .i64 x7))), (8, .c (.own 8)), (9, .c (.d (.int .i64 x9))), (16, .c (.d (.int .i64 x16))), (17, .c (.d (.bool x17))), (31, .c (.d (.int .i64 x31))), (32, .c (.d (.bool x32)))]
def dendronlaw29_Few.l2B (x0 : List (Int × Int × Int × List (List (Bool × List Int × List Int)))) (x3 : List (Int × Int × Int × List (List (Bool × List Int × List Int)))) (x4 : Int) (x6 : List (List (Bool × List Int × List Int))) (x7 : Int) (x8 : List (Bool × List Int × List Int)) (x9 : Int) (x16 : Int) (x17 : Bool) (x31 : Int) (x32 : Bool) (b5_0 : Int) (b5_1 : Int) (b5_2 : Int) (b5_3 : List (List (Bool × List Int × List Int))) : Obs := [(3, some (O33 .own x3)), (5, some (.box [.d (.int .i64 b5_0), .d (.int .i64 b5_1), .d (.int .i64 b5_2), .d (L47 b5_3)])), (6, some (O47 .own x6)), (8, some (O55 .own x8))]
theorem dendronlaw29_Few.w (k : Nat) : (∀  (x0 : List (Int × Int × Int × List (List (Bool × List Int × List Int)))) (x3 : List (Int × Int × Int × List (List (Bool × List Int × List Int)))) (x4 : Int) (r : List (Int × Int × Int × List (List (Bool × List Int × List Int)))), dendronlaw29_Few.l0 k x0 x3 x4 = some r → Til Tryd.prog 7 [] (.c (.d (L33 r))) none [] (at_ Tryd.f7 3) (dendronlaw29_Few.l0E x0 x3 x4) (dendronlaw29_Few.l0B x0 x3 x4)) ∧
    (∀  (x0 : List (Int × Int × Int × List (List (Bool × List Int × List Int)))) (x3 : List (Int × Int × Int × List (List (Bool × List Int × List Int)))) (x4 : Int) (x6 : List (List (Bool × List Int × List Int))) (x7 : Int) (x16 : Int) (x17 : Bool) (b5_0 : Int) (b5_1 : Int) (b5_2 : Int) (b5_3 : List (List (Bool × List Int × List Int))) (r : List (Int × Int × Int × List (List (Bool × List Int × List Int)))), dendronlaw29_Few.l1 k x0 x3 x4 x6 x7 x16 x17 b5_0 b5_1 b5_2 b5_3 = some r → Til Tryd.prog 7 [] (.c (.d (L33 r))) none [] (at_ Tryd.f7 8) (dendronlaw29_Few.l1E x0 x3 x4 x6 x7 x16 x17 b5_0 b5_1 b5_2 b5_3) (dendronlaw29_Few.l1B x0 x3 x4 x6 x7 x16 x17 b5_0 b5_1 b5_2 b5_3)) ∧
    (∀  (x0 : List (Int × Int × Int × List (List (Bool × List Int × List Int)))) (x3 : List (Int × Int × Int × List (List (Bool × List Int × List Int)))) (x4 : Int) (x6 : List (List (Bool × List Int × List Int))) (x7 : Int) (x8 : List (Bool × List Int × List Int)) (x9 : Int) (x16 : Int) (x17 : Bool) (x31 : Int) (x32 : Bool) (b5_0 : Int) (b5_1 : Int) (b5_2 : Int) (b5_3 : List (List (Bool × List Int × List Int))) (r : List (Int × Int × Int × List (List (Bool × List Int × List Int)))), dendronlaw29_Few.l2 k x0 x3 x4 x6 x7 x8 x9 x16 x17 x31 x32 b5_0 b5_1 b5_2 b5_3 = some r → Til Tryd.prog 7 [] (.c (.d (L33 r))) none [] (at_ Tryd.f7 12) (dendronlaw29_Few.l2E x0 x3 x4 x6 x7 x8 x9 x16 x17 x31 x32 b5_0 b5_1 b5_2 b5_3) (dendronlaw29_Few.l2B x0 x3 x4 x6 x7 x8 x9 x16 x17 x31 x32 b5_0 b5_1 b5_2 b5_3)) := by
  induction k with
  | zero =>
    exact ⟨fun _ _ _ _ h => (by cases h), fun _ _ _ _ _ _ _ _ _ _ _ _ h => (by cases h), fun _ _ _ _ _ _ _ _ _ _ _ _ _ _ _ _ h => (by cases h)⟩
  | succ k ih =>
    refine ⟨?_, ?_, ?_⟩
    · intro x0 x3 x4 r h
      rw [dendronlaw29_Few.l0] at h
      by_cases h0 : x4 < (x0.length : Int)
      · rw [if_pos h0] at h
        by_cases h1 : x4 < 8
        · rw [if_pos h1] at h
          obtain ⟨h2, h⟩ := ifp h
          exact Til.mid Tryd.func7 8 [(3, .b true), (6, .b true)] (fun _ f => o (decide_eq_true h0) (o (decide_eq_true h1) (o (o h2 h0) f))) (by kernel_rfl) (ih.2.1 _ _ _ _ _ _ _ _ _ _ _ _ h)
        · rw [if_neg h1] at h
          obtain rfl := Option.some.inj h
          exact Til.fin Tryd.func7 [(3, .b true), (6, .b false)] (fun _ f => o (decide_eq_true h0) (o (decide_eq_false h1) f)) (by kernel_rfl)
      · rw [if_neg h0] at h
        obtain rfl := Option.some.inj h
        exact Til.fin Tryd.func7 [(3, .b false)] (fun _ f => o (decide_eq_false h0) f) (by kernel_rfl)
    · intro x0 x3 x4 x6 x7 x16 x17 b5_0 b5_1 b5_2 b5_3 r h
      rw [dendronlaw29_Few.l1] at h
      by_cases h0 : x7 < (b5_3.length : Int)
      · rw [if_pos h0] at h
        by_cases h1 : x7 < 70
        · rw [if_pos h1] at h
          exact Til.mid Tryd.func7 12 [(4, .b true), (7, .b true)] (fun _ f => o (decide_eq_true h0) (o (decide_eq_true h1) f)) (by kernel_rfl) (ih.2.2 _ _ _ _ _ _ _ _ _ _ _ _ _ _ _ _ h)
        · rw [if_neg h1] at h
          obtain ⟨h2, h⟩ := ifp h
          exact Til.mid Tryd.func7 3 [(4, .b true), (7, .b false), (14, Z33 ([(b5_0, b5_1, b5_2, x6)] : List (Int × Int × Int × List (List (Bool × List Int × List Int))))), (15, Z33 (x3 ++ [(b5_0, b5_1, b5_2, x6)]))] (fun _ f => o (decide_eq_true h0) (o (decide_eq_false h1) (o (lit_ok c33 (0, 0, 0, []) ([(b5_0, b5_1, b5_2, x6)] : List (Int × Int × Int × List (List (Bool × List Int × List Int))))) (o (app1 c33 (0, 0, 0, []) x3 (b5_0, b5_1, b5_2, x6) 48 2932031007402 (by decide) h2) f)))) (by kernel_rfl) (ih.1 _ _ _ _ h)
      · rw [if_neg h0] at h
        obtain ⟨h1, h⟩ := ifp h
        exact Til.mid Tryd.func7 3 [(4, .b false), (14, Z33 ([(b5_0, b5_1, b5_2, x6)] : List (Int × Int × Int × List (List (Bool × List Int × List Int))))), (15, Z33 (x3 ++ [(b5_0, b5_1, b5_2, x6)]))] (fun _ f => o (decide_eq_false h0) (o (lit_ok c33 (0, 0, 0, []) ([(b5_0, b5_1, b5_2, x6)] : List (Int × Int × Int × List (List (Bool × List Int × List Int))))) (o (app1 c33 (0, 0, 0, []) x3 (b5_0, b5_1, b5_2, x6) 48 2932031007402 (by decide) h1) f))) (by kernel_rfl) (ih.1 _ _ _ _ h)
    · intro x0 x3 x4 x6 x7 x8 x9 x16 x17 x31 x32 b5_0 b5_1 b5_2 b5_3 r h
      rw [dendronlaw29_Few.l2] at h
      obtain ⟨h0, h⟩ := ifp h
      obtain ⟨h1, h⟩ := ifp h
      by_cases h2 : x9 < ((gt [] b5_3 x7).length : Int)
      · rw [if_pos h2] at h
        by_cases h3 : x9 < 12
        · rw [if_pos h3] at h
          obtain ⟨h4, h⟩ := ifp h
          obtain ⟨v22, h5, h⟩ := bnd h
          obtain ⟨h6, h⟩ := ifp h
          obtain ⟨h7, h⟩ := ifp h
          exact Til.mid Tryd.func7 12 [(7, .b true), (10, .b true), (21, Z57 ([(false, (gt (false, [], []) (gt [] b5_3 x7) x9).1, (gt (false, [], []) (gt [] b5_3 x7) x9).2.1, (gt (false, [], []) (gt [] b5_3 x7) x9).2.2)] : List (Bool × Bool × List Int × List Int))), (22, ca (.c (.d (L57 v22)))), (29, Z55 ([((gt (false, false, [], []) v22 0).2.1, (gt (false, false, [], []) v22 0).2.2.1, (gt (false, false, [], []) v22 0).2.2.2)] : List (Bool × List Int × List Int))), (30, Z55 (x8 ++ [((gt (false, false, [], []) v22 0).2.1, (gt (false, false, [], []) v22 0).2.2.1, (gt (false, false, [], []) v22 0).2.2.2)]))] (fun _ f => o (o h0 h1) (o (decide_eq_true h2) (o (decide_eq_true h3) (o (o h0 h1) (o (o h4 h2) (o (lit_ok c57 (false, false, [], []) ([(false, (gt (false, [], []) (gt [] b5_3 x7) x9).1, (gt (false, [], []) (gt [] b5_3 x7) x9).2.1, (gt (false, [], []) (gt [] b5_3 x7) x9).2.2)] : List (Bool × Bool × List Int × List Int))) (o (dendronlaw09_Few.does h5) (o (o (nn 0) h6) (o (lit_ok c55 (false, [], []) ([((gt (false, false, [], []) v22 0).2.1, (gt (false, false, [], []) v22 0).2.2.1, (gt (false, false, [], []) v22 0).2.2.2)] : List (Bool × List Int × List Int))) (o (app1 c55 (false, [], []) x8 ((gt (false, false, [], []) v22 0).2.1, (gt (false, false, [], []) v22 0).2.2.1, (gt (false, false, [], []) v22 0).2.2.2) 56 2513169434916 (by decide) h7) f)))))))))) (by kernel_rfl) (ih.2.2 _ _ _ _ _ _ _ _ _ _ _ _ _ _ _ _ h)
        · rw [if_neg h3] at h
          obtain ⟨h4, h⟩ := ifp h
          exact Til.mid Tryd.func7 8 [(7, .b true), (10, .b false), (14, Z47 ([x8] : List (List (Bool × List Int × List Int)))), (15, Z47 (x6 ++ [x8]))] (fun _ f => o (o h0 h1) (o (decide_eq_true h2) (o (decide_eq_false h3) (o (lit_ok c47 [] ([x8] : List (List (Bool × List Int × List Int)))) (o (app1 c47 [] x6 x8 24 5864062014805 (by decide) h4) f))))) (by kernel_rfl) (ih.2.1 _ _ _ _ _ _ _ _ _ _ _ _ h)
      · rw [if_neg h2] at h
        obtain ⟨h3, h⟩ := ifp h
        exact Til.mid Tryd.func7 8 [(7, .b false), (14, Z47 ([x8] : List (List (Bool × List Int × List Int)))), (15, Z47 (x6 ++ [x8]))] (fun _ f => o (o h0 h1) (o (decide_eq_false h2) (o (lit_ok c47 [] ([x8] : List (List (Bool × List Int × List Int)))) (o (app1 c47 [] x6 x8 24 5864062014805 (by decide) h3) f)))) (by kernel_rfl) (ih.2.1 _ _ _ _ _ _ _ _ _ _ _ _ h)
theorem dendronlaw29_Few.does {k : Nat} {l0 : List (Int × Int × Int × List (List (Bool × List Int × List Int)))} {r : List (Int × Int × Int × List (List (Bool × List Int × List Int)))} (h : dendronlaw29_Few.f k l0 = some r) :
    Does Tryd.prog 7 [.c (.d (L33 l0))] [] (.c (.d (L33 r))) none [] := by
  refine does_fn Tryd.func7 (by kernel_rfl) rfl rfl ?_
  unfold dendronlaw29_Few.f at h
  have ih := dendronlaw29_Few.w k
  exact Til.mid Tryd.func7 3 [] (fun _ f => f) (by kernel_rfl) (ih.1 _ _ _ _ h)

def nat_trim.l0E (x0 : List Int) (x3 : Int) : Env := [(0, .c (.d (L90 x0))), (3, .c (.d (.int .i64 x3)))]
theorem nat_trim.w (k : Nat) : (∀  (x0 : List Int) (x3 : Int) (r : List Int), nat_trim.l0 k x0 x3 = some r → Til Tryd.prog 68 [] (.c (.d (L90 r))) none [] (at_ Tryd.f68 2) (nat_trim.l0E x0 x3) []) := by
  induction k with
  | zero =>
    exact fun _ _ _ h => (by cases h)
  | succ k ih =>
    intro x0 x3 r h
    rw [nat_trim.l0] at h
    by_cases h0 : x3 > 0
    · rw [if_pos h0] at h
      obtain ⟨h1, h⟩ := ifp h
      obtain ⟨h2, h⟩ := ifp h
      by_cases h3 : (rd x0 (wrap64 (x3 - 1))) = 0
      · rw [if_pos h3] at h
        exact Til.mid Tryd.func68 2 [(1, .b true), (8, .b true)] (fun _ f => o (decide_eq_true h0) (o (o h1 h2) (o (beq_iff_eq.2 h3) f))) (by kernel_rfl) (ih _ _ _ h)
      · rw [if_neg h3] at h
        by_cases h4 : x3 = 0
        · rw [if_pos h4] at h
          obtain rfl := Option.some.inj h
          exact Til.fin Tryd.func68 [(1, .b true), (8, .b false), (11, .b true)] (fun _ f => o (decide_eq_true h0) (o (o h1 h2) (o (beq_false_of_ne h3) (o (beq_iff_eq.2 h4) f)))) (by kernel_rfl)
        · rw [if_neg h4] at h
          obtain ⟨h5, h⟩ := ifp h
          obtain ⟨h6, h⟩ := ifp h
          obtain rfl := Option.some.inj h
          exact Til.fin Tryd.func68 [(1, .b true), (8, .b false), (11, .b false), (14, Z90 (x0.take ((x3 : Int).toNat)))] (fun _ f => o (decide_eq_true h0) (o (o h1 h2) (o (beq_false_of_ne h3) (o (beq_false_of_ne h4) (o (take_ok c90 0 x0 h5 h6) f))))) (by kernel_rfl)
    · rw [if_neg h0] at h
      by_cases h1 : x3 = 0
      · rw [if_pos h1] at h
        obtain rfl := Option.some.inj h
        exact Til.fin Tryd.func68 [(1, .b false), (11, .b true)] (fun _ f => o (decide_eq_false h0) (o (beq_iff_eq.2 h1) f)) (by kernel_rfl)
      · rw [if_neg h1] at h
        obtain ⟨h2, h⟩ := ifp h
        obtain ⟨h3, h⟩ := ifp h
        obtain rfl := Option.some.inj h
        exact Til.fin Tryd.func68 [(1, .b false), (11, .b false), (14, Z90 (x0.take ((x3 : Int).toNat)))] (fun _ f => o (decide_eq_false h0) (o (beq_false_of_ne h1) (o (take_ok c90 0 x0 h2 h3) f))) (by kernel_rfl)
theorem nat_trim.does {k : Nat} {l0 : List Int} {r : List Int} (h : nat_trim.f k l0 = some r) :
    Does Tryd.prog 68 [.c (.d (L90 l0))] [] (.c (.d (L90 r))) none [] := by
  refine does_fn Tryd.func68 (by kernel_rfl) rfl rfl ?_
  unfold nat_trim.f at h
  have ih := nat_trim.w k
  exact Til.mid Tryd.func68 2 [] (fun _ f => f) (by kernel_rfl) (ih _ _ _ h)

def nat_Clean.l0E (x3 : List Int) (x9 : List Int) (x10 : Int) (x11 : Int) : Env := [(3, .c (.own 3)), (9, .c (.d (L90 x9))), (10, .c (.d (.int .i64 x10))), (11, .c (.d (.int .i64 x11)))]
def nat_Clean.l0B (x3 : List Int) (x9 : List Int) (x10 : Int) (x11 : Int) : Obs := [(3, some (O90 .own x3))]
theorem nat_Clean.w (k : Nat) : (∀  (x3 : List Int) (x9 : List Int) (x10 : Int) (x11 : Int) (r : List Int), nat_Clean.l0 k x3 x9 x10 x11 = some r → Til Tryd.prog 63 [] (.c (.d (L90 r))) none [] (at_ Tryd.f63 3) (nat_Clean.l0E x3 x9 x10 x11) (nat_Clean.l0B x3 x9 x10 x11)) := by
  induction k with
  | zero =>
    exact fun _ _ _ _ _ h => (by cases h)
  | succ k ih =>
    intro x3 x9 x10 x11 r h
    rw [nat_Clean.l0] at h
    by_cases h0 : x11 < x10
    · rw [if_pos h0] at h
      obtain ⟨h1, h⟩ := ifp h
      obtain ⟨h2, h⟩ := ifp h
      obtain ⟨h3, h⟩ := ifp h
      exact Til.mid Tryd.func63 3 [(0, .b true), (11, Z90 (x3.set ((x11 : Int).toNat) (Go.bits .and .u64 (rd x9 x11) 4294967295)))] (fun _ f => o (decide_eq_true h0) (o (o h1 h2) (o (o h1 h3) (o (set_ok c90 0 (fun _ _ => rfl) x3 ((x11 : Int).toNat) (Go.bits .and .u64 (rd x9 x11) 4294967295) (lt_ok h1 h3)) f)))) (by kernel_rfl) (ih _ _ _ _ _ h)
    · rw [if_neg h0] at h
      obtain ⟨v2, h1, h⟩ := bnd h
      obtain rfl := Option.some.inj h
      exact Til.fin Tryd.func63 [(0, .b false), (2, ca (.c (.d (L90 v2))))] (fun _ f => o (decide_eq_false h0) (o (nat_trim.does h1) f)) (by kernel_rfl)
theorem nat_Clean.does {k : Nat} {l0 : List Int} {r : List Int} (h : nat_Clean.f k l0 = some r) :
    Does Tryd.prog 63 [.c (.d (L90 l0))] [] (.c (.d (L90 r))) none [] := by
  refine does_fn Tryd.func63 (by kernel_rfl) rfl rfl ?_
  unfold nat_Clean.f at h
  have ih := nat_Clean.w k
  obtain ⟨h0, h⟩ := ifp h
  exact Til.mid Tryd.func63 3 [(3, Z90 (List.replicate (((l0.length : Int) : Int).toNat) 0 : List Int))] (fun _ f => o (make_ok c90 0 [.int .u64 0] ⟨.refl _, trivial⟩ (l0.length : Int) 8 35184372088832 (by decide) (Int.natCast_nonneg l0.length) h0) f) (by kernel_rfl) (ih _ _ _ _ _ h)

theorem nat_Of.does {k : Nat} {a0 : Int} {r : List Int} (h : nat_Of.f k a0 = some r) :
    Does Tryd.prog 43 [.c (.d (.int .u64 a0))] [] (.c (.d (L90 r))) none [] := by
  refine does_fn Tryd.func43 (by kernel_rfl) rfl rfl ?_
  unfold nat_Of.f at h
  obtain ⟨v6, h0, h⟩ := bnd h
  obtain rfl := Option.some.inj h
  exact Til.fin Tryd.func43 [(5, Z90 ([(Go.bits .and .u64 a0 4294967295), (a0 / 4294967296)] : List Int)), (6, ca (.c (.d (L90 v6))))] (fun _ f => o (nn 32) (o (lit_ok c90 0 ([(Go.bits .and .u64 a0 4294967295), (a0 / 4294967296)] : List Int)) (o (nat_trim.does h0) f))) (by kernel_rfl)

theorem ratio_Zero.does {k : Nat}  {r : Bool × List Int × List Int} (h : ratio_Zero.f k = some r) :
    Does Tryd.prog 64 [] [] (.agg [.d (.bool r.1), .d (L90 r.2.1), .d (L90 r.2.2)]) none [] := by
  refine does_fn Tryd.func64 (by kernel_rfl) rfl rfl ?_
  unfold ratio_Zero.f at h
  obtain ⟨v1, h0, h⟩ := bnd h
  obtain rfl := Option.some.inj h
  exact Til.fin Tryd.func64 [(1, ca (.c (.d (L90 v1))))] (fun _ f => o (nat_Of.does h0) f) (by kernel_rfl)

def nat_order.l0E (x0 : List Int) (x1 : List Int) (x5 : Int) : Env := [(0, .c (.d (L90 x0))), (1, .c (.d (L90 x1))), (5, .c (.d (.int .i64 x5)))]
theorem nat_order.w (k : Nat) : (∀  (x0 : List Int) (x1 : List Int) (x5 : Int) (r : Int), nat_order.l0 k x0 x1 x5 = some r → Til Tryd.prog 67 [] (.c (.d (.int .i64 r))) none [] (at_ Tryd.f67 6) (nat_order.l0E x0 x1 x5) []) := by
  induction k with
  | zero =>
    exact fun _ _ _ _ h => (by cases h)
  | succ k ih =>
    intro x0 x1 x5 r h
    rw [nat_order.l0] at h
    by_cases h0 : x5 ≥ 0
    · rw [if_pos h0] at h
      obtain ⟨h1, h⟩ := ifp h
      obtain ⟨h2, h⟩ := ifp h
      by_cases h3 : (rd x0 x5) < (rd x1 x5)
      · rw [if_pos h3] at h
        obtain rfl := Option.some.inj h
        exact Til.fin Tryd.func67 [(1, .b true), (10, .b true)] (fun _ f => o (decide_eq_true h0) (o (o h0 h1) (o (o h0 h2) (o (decide_eq_true h3) f)))) (by kernel_rfl)
      · rw [if_neg h3] at h
        by_cases h4 : (rd x0 x5) > (rd x1 x5)
        · rw [if_pos h4] at h
          obtain rfl := Option.some.inj h
          exact Til.fin Tryd.func67 [(1, .b true), (10, .b false), (20, .b true)] (fun _ f => o (decide_eq_true h0) (o (o h0 h1) (o (o h0 h2) (o (decide_eq_false h3) (o (o h0 h1) (o (o h0 h2) (o (decide_eq_true h4) f))))))) (by kernel_rfl)
        · rw [if_neg h4] at h
          exact Til.mid Tryd.func67 6 [(1, .b true), (10, .b false), (20, .b false)] (fun _ f => o (decide_eq_true h0) (o (o h0 h1) (o (o h0 h2) (o (decide_eq_false h3) (o (o h0 h1) (o (o h0 h2) (o (decide_eq_false h4) f))))))) (by kernel_rfl) (ih _ _ _ _ h)
    · rw [if_neg h0] at h
      obtain rfl := Option.some.inj h
      exact Til.fin Tryd.func67 [(1, .b false)] (fun _ f => o (decide_eq_false h0) f) (by kernel_rfl)
theorem nat_order.does {k : Nat} {l0 : List Int} {l1 : List Int} {r : Int} (h : nat_order.f k l0 l1 = some r) :
    Does Tryd.prog 67 [.c (.d (L90 l0)), .c (.d (L90 l1))] [] (.c (.d (.int .i64 r))) none [] := by
  refine does_fn Tryd.func67 (by kernel_rfl) rfl rfl ?_
  unfold nat_order.f at h
  have ih := nat_order.w k
  by_cases h0 : (l0.length : Int) < (l1.length : Int)
  · rw [if_pos h0] at h
    obtain rfl := Option.some.inj h
    exact Til.fin Tryd.func67 [(5, .b true)] (fun _ f => o (decide_eq_true h0) f) (by kernel_rfl)
  · rw [if_neg h0] at h
    by_cases h1 : (l0.length : Int) > (l1.length : Int)
    · rw [if_pos h1] at h
      obtain rfl := Option.some.inj h
      exact Til.fin Tryd.func67 [(5, .b false), (11, .b true)] (fun _ f => o (decide_eq_false h0) (o (decide_eq_true h1) f)) (by kernel_rfl)
    · rw [if_neg h1] at h
      exact Til.mid Tryd.func67 6 [(5, .b false), (11, .b false)] (fun _ f => o (decide_eq_false h0) (o (decide_eq_false h1) f)) (by kernel_rfl) (ih _ _ _ _ h)

theorem nat_To.does {k : Nat} {l0 : List Int} {r : Int × Bool} (h : nat_To.f k l0 = some r) :
    Does Tryd.prog 98 [.c (.d (L90 l0))] [] (.tup [.c (.d (.int .u64 r.1)), .c (.d (.bool r.2))]) none [] := by
  refine does_fn Tryd.func98 (by kernel_rfl) rfl rfl ?_
  unfold nat_To.f at h
  obtain ⟨v3, h0, h⟩ := bnd h
  by_cases h1 : (v3.length : Int) = 0
  · rw [if_pos h1] at h
    obtain rfl := Option.some.inj h
    exact Til.fin Tryd.func98 [(3, ca (.c (.d (L90 v3)))), (7, .b true)] (fun _ f => o (nat_Clean.does h0) (o (beq_iff_eq.2 h1) f)) (by kernel_rfl)
  · rw [if_neg h1] at h
    by_cases h2 : (v3.length : Int) = 1
    · rw [if_pos h2] at h
      obtain ⟨h3, h⟩ := ifp h
      obtain rfl := Option.some.inj h
      exact Til.fin Tryd.func98 [(3, ca (.c (.d (L90 v3)))), (7, .b false), (9, .b true)] (fun _ f => o (nat_Clean.does h0) (o (beq_false_of_ne h1) (o (beq_iff_eq.2 h2) (o (o (nn 0) h3) f)))) (by kernel_rfl)
    · rw [if_neg h2] at h
      by_cases h3 : (v3.length : Int) = 2
      · rw [if_pos h3] at h
        obtain ⟨h4, h⟩ := ifp h
        obtain ⟨h5, h⟩ := ifp h
        obtain rfl := Option.some.inj h
        exact Til.fin Tryd.func98 [(3, ca (.c (.d (L90 v3)))), (7, .b false), (9, .b false), (11, .b true)] (fun _ f => o (nat_Clean.does h0) (o (beq_false_of_ne h1) (o (beq_false_of_ne h2) (o (beq_iff_eq.2 h3) (o (o (nn 1) h4) (o (nn 32) (o (o (nn 0) h5) f))))))) (by kernel_rfl)
      · rw [if_neg h3] at h
        obtain rfl := Option.some.inj h
        exact Til.fin Tryd.func98 [(3, ca (.c (.d (L90 v3)))), (7, .b false), (9, .b false), (11, .b false)] (fun _ f => o (nat_Clean.does h0) (o (beq_false_of_ne h1) (o (beq_false_of_ne h2) (o (beq_false_of_ne h3) f)))) (by kernel_rfl)

def nat_euclid.l0E (x5 : Int) (x7 : Int) : Env := [(5, .c (.d (.int .u64 x5))), (7, .c (.d (.int .u64 x7)))]
theorem nat_euclid.w (k : Nat) : (∀  (x5 : Int) (x7 : Int) (r : List Int), nat_euclid.l0 k x5 x7 = some r → Til Tryd.prog 91 [] (.c (.d (L90 r))) none [] (at_ Tryd.f91 3) (nat_euclid.l0E x5 x7) []) := by
  induction k with
  | zero =>
    exact fun _ _ _ h => (by cases h)
  | succ k ih =>
    intro x5 x7 r h
    rw [nat_euclid.l0] at h
    by_cases h0 : x7 ≠ 0
    · rw [if_pos h0] at h
      obtain ⟨h1, h⟩ := ifn h
      exact Til.mid Tryd.func91 3 [(1, .b true)] (fun _ f => o (bne_iff_ne.2 h0) (o h1 f)) (by kernel_rfl) (ih _ _ _ h)
    · rw [if_neg h0] at h
      obtain ⟨v3, h1, h⟩ := bnd h
      obtain rfl := Option.some.inj h
      exact Til.fin Tryd.func91 [(1, .b false), (3, ca (.c (.d (L90 v3))))] (fun _ f => o (ne_f h0) (o (nat_Of.does h1) f)) (by kernel_rfl)
theorem nat_euclid.does {k : Nat} {l0 : List Int} {l1 : List Int} {r : List Int} (h : nat_euclid.f k l0 l1 = some r) :
    Does Tryd.prog 91 [.c (.d (L90 l0)), .c (.d (L90 l1))] [] (.c (.d (L90 r))) none [] := by
  refine does_fn Tryd.func91 (by kernel_rfl) rfl rfl ?_
  unfold nat_euclid.f at h
  have ih := nat_euclid.w k
  obtain ⟨v2, h0, h⟩ := bnd h
  obtain ⟨v9, h1, h⟩ := bnd h
  exact Til.mid Tryd.func91 3 [(2, ca (.tup [.c (.d (.int .u64 v2.1)), .c (.d (.bool v2.2))])), (9, ca (.tup [.c (.d (.int .u64 v9.1)), .c (.d (.bool v9.2))]))] (fun _ f => o (nat_To.does h0) (o (nat_To.does h1) f)) (by kernel_rfl) (ih _ _ _ h)

theorem bits_TrailingZeros64.does {a0 : Int} {r : Int} (h : bits_TrailingZeros64.f a0 = some r) :
    Does Tryd.prog 99 [.c (.d (.int .u64 a0))] [] (.c (.d (.int .i64 r))) none [] := by
  refine does_fn Tryd.func99 (by kernel_rfl) rfl rfl ?_
  unfold bits_TrailingZeros64.f at h
  by_cases h0 : a0 = 0
  · rw [if_pos h0] at h
    obtain rfl := Option.some.inj h
    exact Til.fin Tryd.func99 [(2, .b true)] (fun _ f => o (beq_iff_eq.2 h0) f) (by kernel_rfl)
  · rw [if_neg h0] at h
    obtain ⟨h1, h⟩ := ifp h
    obtain ⟨h2, h⟩ := ifp h
    obtain rfl := Option.some.inj h
    exact Til.fin Tryd.func99 [(2, .b false), (10, .v (.c (.d (.int .u8 (rd tab_deBruijn64tab ((IntKind.u64.wrap ((Go.bits .and .u64 a0 (IntKind.u64.wrap (0 - a0))) * 285870213051353865)) / 288230376151711744))))))] (fun _ f => o (beq_false_of_ne h0) (o (nn 58) (o (o h1 h2) (o (tab_ok .u8 tab_deBruijn64tab h1 h2 rfl) f)))) (by kernel_rfl)

def nat_zeros.l0E (x3 : Int) (x6 : List Int) (x7 : Int) (x8 : Int) : Env := [(3, .c (.d (.int .i64 x3))), (6, .c (.d (L90 x6))), (7, .c (.d (.int .i64 x7))), (8, .c (.d (.int .i64 x8)))]
theorem nat_zeros.w (k : Nat) : (∀  (x3 : Int) (x6 : List Int) (x7 : Int) (x8 : Int) (r : Int), nat_zeros.l0 k x3 x6 x7 x8 = some r → Til Tryd.prog 92 [] (.c (.d (.int .i64 r))) none [] (at_ Tryd.f92 3) (nat_zeros.l0E x3 x6 x7 x8) []) := by
  induction k with
  | zero =>
    exact fun _ _ _ _ _ h => (by cases h)
  | succ k ih =>
    intro x3 x6 x7 x8 r h
    rw [nat_zeros.l0] at h
    by_cases h0 : x8 < x7
    · rw [if_pos h0] at h
      obtain ⟨h1, h⟩ := ifp h
      obtain ⟨h2, h⟩ := ifp h
      by_cases h3 : (rd x6 x8) ≠ 0
      · rw [if_pos h3] at h
        obtain ⟨v11, h4, h⟩ := bnd h
        obtain rfl := Option.some.inj h
        exact Til.fin Tryd.func92 [(0, .b true), (7, .b true), (11, ca (.c (.d (.int .i64 v11))))] (fun _ f => o (decide_eq_true h0) (o (o h1 h2) (o (bne_iff_ne.2 h3) (o (bits_TrailingZeros64.does h4) f)))) (by kernel_rfl)
      · rw [if_neg h3] at h
        exact Til.mid Tryd.func92 3 [(0, .b true), (7, .b false)] (fun _ f => o (decide_eq_true h0) (o (o h1 h2) (o (ne_f h3) f))) (by kernel_rfl) (ih _ _ _ _ _ h)
    · rw [if_neg h0] at h
      obtain rfl := Option.some.inj h
      exact Til.fin Tryd.func92 [(0, .b false)] (fun _ f => o (decide_eq_false h0) f) (by kernel_rfl)
theorem nat_zeros.does {k : Nat} {l0 : List Int} {r : Int} (h : nat_zeros.f k l0 = some r) :
    Does Tryd.prog 92 [.c (.d (L90 l0))] [] (.c (.d (.int .i64 r))) none [] := by
  refine does_fn Tryd.func92 (by kernel_rfl) rfl rfl ?_
  unfold nat_zeros.f at h
  have ih := nat_zeros.w k
  exact Til.mid Tryd.func92 3 [] (fun _ f => f) (by kernel_rfl) (ih _ _ _ _ _ h)

theorem nat_limb.does {l0 : List Int} {a1 : Int} {r : Int} (h : nat_limb.f l0 a1 = some r) :
    Does Tryd.prog 100 [.c (.d (L90 l0)), .c (.d (.int .i64 a1))] [] (.c (.d (.int .u64 r))) none [] := by
  refine does_fn Tryd.func100 (by kernel_rfl) rfl rfl ?_
  unfold nat_limb.f at h
  by_cases h0 : a1 < (l0.length : Int)
  · rw [if_pos h0] at h
    obtain ⟨h1, h⟩ := ifp h
    obtain rfl := Option.some.inj h
    exact Til.fin Tryd.func100 [(4, .b true)] (fun _ f => o (decide_eq_true h0) (o (o h1 h0) f)) (by kernel_rfl)
  · rw [if_neg h0] at h
    obtain rfl := Option.some.inj h
    exact Til.fin Tryd.func100 [(4, .b false)] (fun _ f => o (decide_eq_false h0) f) (by kernel_rfl)

def nat_shr.l0E (x0 : List Int) (x5 : Int) (x6 : Int) (x7 : List Int) (x23 : Int) (x24 : Int) : Env := [(0, .c (.d (L90 x0))), (5, .c (.d (.int .i64 x5))), (6, .c (.d (.int .i64 x6))), (7, .c (.own 7)), (23, .c (.d (.int .i64 x23))), (24, .c (.d (.int .i64 x24)))]
def nat_shr.l0B (x0 : List Int) (x5 : Int) (x6 : Int) (x7 : List Int) (x23 : Int) (x24 : Int) : Obs := [(7, some (O90 .own x7))]
theorem nat_shr.w (k : Nat) : (∀  (x0 : List Int) (x5 : Int) (x6 : Int) (x7 : List Int) (x23 : Int) (x24 : Int) (r : List Int), nat_shr.l0 k x0 x5 x6 x7 x23 x24 = some r → Til Tryd.prog 93 [] (.c (.d (L90 r))) none [] (at_ Tryd.f93 6) (nat_shr.l0E x0 x5 x6 x7 x23 x24) (nat_shr.l0B x0 x5 x6 x7 x23 x24)) := by
  induction k with
  | zero =>
    exact fun _ _ _ _ _ _ _ h => (by cases h)
  | succ k ih =>
    intro x0 x5 x6 x7 x23 x24 r h
    rw [nat_shr.l0] at h
    by_cases h0 : x24 < x23
    · rw [if_pos h0] at h
      obtain ⟨v10, h1, h⟩ := bnd h
      obtain ⟨h2, h⟩ := ifp h
      obtain ⟨h3, h⟩ := ifp h
      obtain ⟨h4, h⟩ := ifp h
      obtain ⟨h5, h⟩ := ifp h
      obtain ⟨h6, h⟩ := ifp h
      exact Til.mid Tryd.func93 6 [(0, .b true), (10, ca (.c (.d (.int .u64 v10)))), (23, Z90 (x7.set ((x24 : Int).toNat) (Go.bits .and .u64 (shr .u64 (Go.bits .or .u64 (IntKind.u64.wrap (v10 * 4294967296)) (rd x0 (wrap64 (x24 + x5)))) x6) 4294967295)))] (fun _ f => o (decide_eq_true h0) (o (nat_limb.does h1) (o (nn 32) (o (o h2 h3) (o h4 (o (o h5 h6) (o (set_ok c90 0 (fun _ _ => rfl) x7 ((x24 : Int).toNat) (Go.bits .and .u64 (shr .u64 (Go.bits .or .u64 (IntKind.u64.wrap (v10 * 4294967296)) (rd x0 (wrap64 (x24 + x5)))) x6) 4294967295) (lt_ok h5 h6)) f))))))) (by kernel_rfl) (ih _ _ _ _ _ _ _ h)
    · rw [if_neg h0] at h
      obtain ⟨v2, h1, h⟩ := bnd h
      obtain rfl := Option.some.inj h
      exact Til.fin Tryd.func93 [(0, .b false), (2, ca (.c (.d (L90 v2))))] (fun _ f => o (decide_eq_false h0) (o (nat_trim.does h1) f)) (by kernel_rfl)
theorem nat_shr.does {k : Nat} {l0 : List Int} {a1 : Int} {r : List Int} (h : nat_shr.f k l0 a1 = some r) :
    Does Tryd.prog 93 [.c (.d (L90 l0)), .c (.d (.int .i64 a1))] [] (.c (.d (L90 r))) none [] := by
  refine does_fn Tryd.func93 (by kernel_rfl) rfl rfl ?_
  unfold nat_shr.f at h
  have ih := nat_shr.w k
  by_cases h0 : (wrap64 (Int.tdiv a1 32)) ≥ (l0.length : Int)
  · rw [if_pos h0] at h
    obtain rfl := Option.some.inj h
    exact Til.fin Tryd.func93 [(10, .b true)] (fun _ f => o (by decide : ¬ (32 : Int) = 0) (o (by decide : ¬ (32 : Int) = 0) (o (decide_eq_true h0) f))) (by kernel_rfl)
  · rw [if_neg h0] at h
    obtain ⟨h1, h⟩ := ifp h
    obtain ⟨h2, h⟩ := ifp h
    exact Til.mid Tryd.func93 6 [(10, .b false), (15, Z90 (List.replicate (((wrap64 ((l0.length : Int) - (wrap64 (Int.tdiv a1 32)))) : Int).toNat) 0 : List Int))] (fun _ f => o (by decide : ¬ (32 : Int) = 0) (o (by decide : ¬ (32 : Int) = 0) (o (decide_eq_false h0) (o (make_ok c90 0 [.int .u64 0] ⟨.refl _, trivial⟩ (wrap64 ((l0.length : Int) - (wrap64 (Int.tdiv a1 32)))) 8 35184372088832 (by decide) h1 h2) f)))) (by kernel_rfl) (ih _ _ _ _ _ _ _ h)

def nat_trimM.l0E (x0 : List Int) (x3 : Int) : Env := [(0, .c (.own 0)), (3, .c (.d (.int .i64 x3)))]
def nat_trimM.l0B (x0 : List Int) (x3 : Int) : Obs := [(0, some (O90 .own x0))]
theorem nat_trimM.w (k : Nat) : (∀ (l0 : List Int) (x0 : List Int) (x3 : Int) (r : List Int), nat_trimM.l0 k x0 x3 = some r → Til Tryd.prog 68 [(0, some (O90 .own l0))] (.c (.own newName)) (some (O90 .own r)) [] (at_ Tryd.f68 2) (nat_trimM.l0E x0 x3) (nat_trimM.l0B x0 x3)) := by
  induction k with
  | zero =>
    exact fun _ _ _ _ h => (by cases h)
  | succ k ih =>
    intro l0 x0 x3 r h
    rw [nat_trimM.l0] at h
    by_cases h0 : x3 > 0
    · rw [if_pos h0] at h
      obtain ⟨h1, h⟩ := ifp h
      obtain ⟨h2, h⟩ := ifp h
      by_cases h3 : (rd x0 (wrap64 (x3 - 1))) = 0
      · rw [if_pos h3] at h
        exact Til.mid Tryd.func68 2 [(1, .b true), (8, .b true)] (fun _ f => o (decide_eq_true h0) (o (o h1 h2) (o (beq_iff_eq.2 h3) f))) (by kernel_rfl) (ih _ _ _ _ h)
      · rw [if_neg h3] at h
        by_cases h4 : x3 = 0
        · rw [if_pos h4] at h
          obtain rfl := Option.some.inj h
          exact Til.fin Tryd.func68 [(1, .b true), (8, .b false), (11, .b true)] (fun _ f => o (decide_eq_true h0) (o (o h1 h2) (o (beq_false_of_ne h3) (o (beq_iff_eq.2 h4) f)))) (by kernel_rfl)
        · rw [if_neg h4] at h
          obtain ⟨h5, h⟩ := ifp h
          obtain ⟨h6, h⟩ := ifp h
          obtain rfl := Option.some.inj h
          exact Til.fin Tryd.func68 [(1, .b true), (8, .b false), (11, .b false), (14, Z90 (x0.take ((x3 : Int).toNat)))] (fun _ f => o (decide_eq_true h0) (o (o h1 h2) (o (beq_false_of_ne h3) (o (beq_false_of_ne h4) (o (take_ok c90 0 x0 h5 h6) f))))) (by kernel_rfl)
    · rw [if_neg h0] at h
      by_cases h1 : x3 = 0
      · rw [if_pos h1] at h
        obtain rfl := Option.some.inj h
        exact Til.fin Tryd.func68 [(1, .b false), (11, .b true)] (fun _ f => o (decide_eq_false h0) (o (beq_iff_eq.2 h1) f)) (by kernel_rfl)
      · rw [if_neg h1] at h
        obtain ⟨h2, h⟩ := ifp h
        obtain ⟨h3, h⟩ := ifp h
        obtain rfl := Option.some.inj h
        exact Til.fin Tryd.func68 [(1, .b false), (11, .b false), (14, Z90 (x0.take ((x3 : Int).toNat)))] (fun _ f => o (decide_eq_false h0) (o (beq_false_of_ne h1) (o (take_ok c90 0 x0 h2 h3) f))) (by kernel_rfl)
theorem nat_trimM.does {k : Nat} {l0 : List Int} {r : List Int} (h : nat_trimM.f k l0 = some r) :
    Does Tryd.prog 68 [.c (.own 0)] [(0, some (O90 .own l0))] (.c (.own newName)) (some (O90 .own r)) [] := by
  refine does_fn Tryd.func68 (by kernel_rfl) rfl rfl ?_
  unfold nat_trimM.f at h
  have ih := nat_trimM.w k
  exact Til.mid Tryd.func68 2 [] (fun _ f => f) (by kernel_rfl) (ih _ _ _ _ h)

def nat_shl.l0E (x5 : Int) (x6 : Int) (x7 : List Int) (x20 : List Int) (x21 : Int) (x22 : Int) : Env := [(5, .c (.d (.int .i64 x5))), (6, .c (.d (.int .i64 x6))), (7, .c (.own 7)), (20, .c (.d (L90 x20))), (21, .c (.d (.int .i64 x21))), (22, .c (.d (.int .i64 x22)))]
def nat_shl.l0B (x5 : Int) (x6 : Int) (x7 : List Int) (x20 : List Int) (x21 : Int) (x22 : Int) : Obs := [(7, some (O90 .own x7))]
theorem nat_shl.w (k : Nat) : (∀  (x5 : Int) (x6 : Int) (x7 : List Int) (x20 : List Int) (x21 : Int) (x22 : Int) (r : List Int), nat_shl.l0 k x5 x6 x7 x20 x21 x22 = some r → Til Tryd.prog 94 [] (.c (.own newName)) (some (O90 .own r)) [] (at_ Tryd.f94 4) (nat_shl.l0E x5 x6 x7 x20 x21 x22) (nat_shl.l0B x5 x6 x7 x20 x21 x22)) := by
  induction k with
  | zero =>
    exact fun _ _ _ _ _ _ _ h => (by cases h)
  | succ k ih =>
    intro x5 x6 x7 x20 x21 x22 r h
    rw [nat_shl.l0] at h
    by_cases h0 : x22 < x21
    · rw [if_pos h0] at h
      obtain ⟨h1, h⟩ := ifp h
      obtain ⟨h2, h⟩ := ifp h
      obtain ⟨h3, h⟩ := ifp h
      obtain ⟨h4, h⟩ := ifp h
      obtain ⟨h5, h⟩ := ifp h
      obtain ⟨h6, h⟩ := ifp h
      obtain ⟨h7, h⟩ := ifp h
      exact Til.mid Tryd.func94 4 [(0, .b true), (20, Z90 (x7.set (((wrap64 (x22 + x5)) : Int).toNat) (Go.bits .or .u64 (rd x7 (wrap64 (x22 + x5))) (Go.bits .and .u64 (shl .u64 (rd x20 x22) x6) 4294967295)))), (29, Z90 ((x7.set (((wrap64 (x22 + x5)) : Int).toNat) (Go.bits .or .u64 (rd x7 (wrap64 (x22 + x5))) (Go.bits .and .u64 (shl .u64 (rd x20 x22) x6) 4294967295))).set (((wrap64 ((wrap64 (x22 + x5)) + 1)) : Int).toNat) ((shl .u64 (rd x20 x22) x6) / 4294967296)))] (fun _ f => o (decide_eq_true h0) (o (o h1 h2) (o h3 (o (o h4 h5) (o (o h4 h5) (o (set_ok c90 0 (fun _ _ => rfl) x7 (((wrap64 (x22 + x5)) : Int).toNat) (Go.bits .or .u64 (rd x7 (wrap64 (x22 + x5))) (Go.bits .and .u64 (shl .u64 (rd x20 x22) x6) 4294967295)) (lt_ok h4 h5)) (o (nn 32) (o (o h6 h7) (o (set_ok c90 0 (fun _ _ => rfl) (x7.set (((wrap64 (x22 + x5)) : Int).toNat) (Go.bits .or .u64 (rd x7 (wrap64 (x22 + x5))) (Go.bits .and .u64 (shl .u64 (rd x20 x22) x6) 4294967295))) (((wrap64 ((wrap64 (x22 + x5)) + 1)) : Int).toNat) ((shl .u64 (rd x20 x22) x6) / 4294967296) (lt_ok h6 h7)) f))))))))) (by kernel_rfl) (ih _ _ _ _ _ _ _ h)
    · rw [if_neg h0] at h
      obtain ⟨v2, h1, h⟩ := bnd h
      obtain rfl := Option.some.inj h
      exact Til.fin Tryd.func94 [(0, .b false), (2, .call [] [0] (.c (.own 0)) (some (O90 .own v2)) [] [])] (fun _ f => o (decide_eq_false h0) (o (nat_trimM.does h1) f)) (by kernel_rfl)
theorem nat_shl.does {k : Nat} {l0 : List Int} {a1 : Int} {r : List Int} (h : nat_shl.f k l0 a1 = some r) :
    Does Tryd.prog 94 [.c (.d (L90 l0)), .c (.d (.int .i64 a1))] [] (.c (.own newName)) (some (O90 .own r)) [] := by
  refine does_fn Tryd.func94 (by kernel_rfl) rfl rfl ?_
  unfold nat_shl.f at h
  have ih := nat_shl.w k
  obtain ⟨h0, h⟩ := ifp h
  obtain ⟨h1, h⟩ := ifp h
  exact Til.mid Tryd.func94 4 [(12, Z90 (List.replicate (((wrap64 ((wrap64 ((l0.length : Int) + (wrap64 (Int.tdiv a1 32)))) + 1)) : Int).toNat) 0 : List Int))] (fun _ f => o (by decide : ¬ (32 : Int) = 0) (o (by decide : ¬ (32 : Int) = 0) (o (make_ok c90 0 [.int .u64 0] ⟨.refl _, trivial⟩ (wrap64 ((wrap64 ((l0.length : Int) + (wrap64 (Int.tdiv a1 32)))) + 1)) 8 35184372088832 (by decide) h0 h1) f))) (by kernel_rfl) (ih _ _ _ _ _ _ _ h)

def nat_small.l0E (x0 : List Int) (x1 : Int) (x6 : List Int) (x7 : Int) (x8 : Int) : Env := [(0, .c (.d (L90 x0))), (1, .c (.d (.int .u64 x1))), (6, .c (.own 6)), (7, .c (.d (.int .u64 x7))), (8, .c (.d (.int .i64 x8)))]
def nat_small.l0B (x0 : List Int) (x1 : Int) (x6 : List Int) (x7 : Int) (x8 : Int) : Obs := [(6, some (O90 .own x6))]
theorem nat_small.w (k : Nat) : (∀  (x0 : List Int) (x1 : Int) (x6 : List Int) (x7 : Int) (x8 : Int) (r : List Int × Int), nat_small.l0 k x0 x1 x6 x7 x8 = some r → Til Tryd.prog 69 [] (.tup [.c (.d (L90 r.1)), .c (.d (.int .u64 r.2))]) none [] (at_ Tryd.f69 4) (nat_small.l0E x0 x1 x6 x7 x8) (nat_small.l0B x0 x1 x6 x7 x8)) := by
  induction k with
  | zero =>
    exact fun _ _ _ _ _ _ h => (by cases h)
  | succ k ih =>
    intro x0 x1 x6 x7 x8 r h
    rw [nat_small.l0] at h
    by_cases h0 : x8 ≥ 0
    · rw [if_pos h0] at h
      obtain ⟨h1, h⟩ := ifp h
      obtain ⟨h2, h⟩ := ifn h
      obtain ⟨h3, h⟩ := ifp h
      exact Til.mid Tryd.func69 4 [(1, .b true), (16, Z90 (x6.set ((x8 : Int).toNat) (IntKind.u64.wrap (Int.tdiv (Go.bits .or .u64 (IntKind.u64.wrap (x7 * 4294967296)) (rd x0 x8)) x1))))] (fun _ f => o (decide_eq_true h0) (o (nn 32) (o (o h0 h1) (o h2 (o (o h0 h3) (o (set_ok c90 0 (fun _ _ => rfl) x6 ((x8 : Int).toNat) (IntKind.u64.wrap (Int.tdiv (Go.bits .or .u64 (IntKind.u64.wrap (x7 * 4294967296)) (rd x0 x8)) x1)) (lt_ok h0 h3)) (o h2 f))))))) (by kernel_rfl) (ih _ _ _ _ _ _ h)
    · rw [if_neg h0] at h
      obtain ⟨v3, h1, h⟩ := bnd h
      obtain rfl := Option.some.inj h
      exact Til.fin Tryd.func69 [(1, .b false), (3, ca (.c (.d (L90 v3))))] (fun _ f => o (decide_eq_false h0) (o (nat_trim.does h1) f)) (by kernel_rfl)
theorem nat_small.does {k : Nat} {l0 : List Int} {a1 : Int} {r : List Int × Int} (h : nat_small.f k l0 a1 = some r) :
    Does Tryd.prog 69 [.c (.d (L90 l0)), .c (.d (.int .u64 a1))] [] (.tup [.c (.d (L90 r.1)), .c (.d (.int .u64 r.2))]) none [] := by
  refine does_fn Tryd.func69 (by kernel_rfl) rfl rfl ?_
  unfold nat_small.f at h
  have ih := nat_small.w k
  obtain ⟨h0, h⟩ := ifp h
  exact Til.mid Tryd.func69 4 [(4, Z90 (List.replicate (((l0.length : Int) : Int).toNat) 0 : List Int))] (fun _ f => o (make_ok c90 0 [.int .u64 0] ⟨.refl _, trivial⟩ (l0.length : Int) 8 35184372088832 (by decide) (Int.natCast_nonneg l0.length) h0) f) (by kernel_rfl) (ih _ _ _ _ _ _ h)

theorem bits_Len32.does {a0 : Int} {r : Int} (h : bits_Len32.f a0 = some r) :
    Does Tryd.prog 103 [.c (.d (.int .u32 a0))] [] (.c (.d (.int .i64 r))) none [] := by
  refine does_fn Tryd.func103 (by kernel_rfl) rfl rfl ?_
  unfold bits_Len32.f at h
  by_cases h0 : a0 ≥ 65536
  · rw [if_pos h0] at h
    by_cases h1 : (a0 / 65536) ≥ 256
    · rw [if_pos h1] at h
      obtain ⟨h2, h⟩ := ifp h
      obtain ⟨h3, h⟩ := ifp h
      obtain rfl := Option.some.inj h
      exact Til.fin Tryd.func103 [(2, .b true), (8, .b true)] (fun _ f => o (decide_eq_true h0) (o (nn 16) (o (decide_eq_true h1) (o (nn 8) (o (o h2 h3) f))))) (by kernel_rfl)
    · rw [if_neg h1] at h
      obtain ⟨h2, h⟩ := ifp h
      obtain ⟨h3, h⟩ := ifp h
      obtain rfl := Option.some.inj h
      exact Til.fin Tryd.func103 [(2, .b true), (8, .b false)] (fun _ f => o (decide_eq_true h0) (o (nn 16) (o (decide_eq_false h1) (o (o h2 h3) f)))) (by kernel_rfl)
  · rw [if_neg h0] at h
    by_cases h1 : a0 ≥ 256
    · rw [if_pos h1] at h
      obtain ⟨h2, h⟩ := ifp h
      obtain ⟨h3, h⟩ := ifp h
      obtain rfl := Option.some.inj h
      exact Til.fin Tryd.func103 [(2, .b false), (4, .b true)] (fun _ f => o (decide_eq_false h0) (o (decide_eq_true h1) (o (nn 8) (o (o h2 h3) f)))) (by kernel_rfl)
    · rw [if_neg h1] at h
      obtain ⟨h2, h⟩ := ifp h
      obtain ⟨h3, h⟩ := ifp h
      obtain rfl := Option.some.inj h
      exact Til.fin Tryd.func103 [(2, .b false), (4, .b false)] (fun _ f => o (decide_eq_false h0) (o (decide_eq_false h1) (o (o h2 h3) f))) (by kernel_rfl)

theorem bits_LeadingZeros32.does {a0 : Int} {r : Int} (h : bits_LeadingZeros32.f a0 = some r) :
    Does Tryd.prog 101 [.c (.d (.int .u32 a0))] [] (.c (.d (.int .i64 r))) none [] := by
  refine does_fn Tryd.func101 (by kernel_rfl) rfl rfl ?_
  unfold bits_LeadingZeros32.f at h
  obtain ⟨v2, h0, h⟩ := bnd h
  obtain rfl := Option.some.inj h
  exact Til.fin Tryd.func101 [(2, ca (.c (.d (.int .i64 v2))))] (fun _ f => o (bits_Len32.does h0) f) (by kernel_rfl)

def nat_take.l0E (x0 : List Int) (x1 : List Int) (x2 : Int) (x7 : Int) (x8 : Int) (x12 : Int) (x13 : Int) : Env := [(0, .c (.own 0)), (1, .c (.d (L90 x1))), (2, .c (.d (.int .u64 x2))), (7, .c (.d (.int .u64 x7))), (8, .c (.d (.int .u64 x8))), (12, .c (.d (.int .i64 x12))), (13, .c (.d (.int .i64 x13)))]
def nat_take.l0B (x0 : List Int) (x1 : List Int) (x2 : Int) (x7 : Int) (x8 : Int) (x12 : Int) (x13 : Int) : Obs := [(0, some (O90 .win x0))]
theorem nat_take.w (k : Nat) : (∀ (l0 : List Int) (x0 : List Int) (x1 : List Int) (x2 : Int) (x7 : Int) (x8 : Int) (x12 : Int) (x13 : Int) (r : Bool × List Int), nat_take.l0 k x0 x1 x2 x7 x8 x12 x13 = some r → Til Tryd.prog 104 [(0, some (O90 .win l0))] (.c (.d (.bool r.1))) none [(0, some (O90 .win r.2))] (at_ Tryd.f104 3) (nat_take.l0E x0 x1 x2 x7 x8 x12 x13) (nat_take.l0B x0 x1 x2 x7 x8 x12 x13)) := by
  induction k with
  | zero =>
    exact fun _ _ _ _ _ _ _ _ _ h => (by cases h)
  | succ k ih =>
    intro l0 x0 x1 x2 x7 x8 x12 x13 r h
    rw [nat_take.l0] at h
    by_cases h0 : x13 < x12
    · rw [if_pos h0] at h
      obtain ⟨v7, h1, h⟩ := bnd h
      obtain ⟨h2, h⟩ := ifp h
      obtain ⟨h3, h⟩ := ifp h
      exact Til.mid Tryd.func104 3 [(0, .b true), (7, ca (.c (.d (.int .u64 v7)))), (27, Z90 (x0.set ((x13 : Int).toNat) (Go.bits .and .u64 (IntKind.u64.wrap ((IntKind.u64.wrap ((IntKind.u64.wrap (4294967296 + (rd x0 x13))) - (Go.bits .and .u64 (IntKind.u64.wrap (x7 + (IntKind.u64.wrap (x2 * v7)))) 4294967295))) - x8)) 4294967295)))] (fun _ f => o (decide_eq_true h0) (o (nat_limb.does h1) (o (o h2 h3) (o (o h2 h3) (o (set_ok c90 0 (fun _ _ => rfl) x0 ((x13 : Int).toNat) (Go.bits .and .u64 (IntKind.u64.wrap ((IntKind.u64.wrap ((IntKind.u64.wrap (4294967296 + (rd x0 x13))) - (Go.bits .and .u64 (IntKind.u64.wrap (x7 + (IntKind.u64.wrap (x2 * v7)))) 4294967295))) - x8)) 4294967295) (lt_ok h2 h3)) (o (nn 32) (o (nn 32) f))))))) (by kernel_rfl) (ih _ _ _ _ _ _ _ _ _ h)
    · rw [if_neg h0] at h
      obtain rfl := Option.some.inj h
      exact Til.fin Tryd.func104 [(0, .b false)] (fun _ f => o (decide_eq_false h0) f) (by kernel_rfl)
theorem nat_take.does {k : Nat} {l0 : List Int} {l1 : List Int} {a2 : Int} {r : Bool × List Int} (h : nat_take.f k l0 l1 a2 = some r) :
    Does Tryd.prog 104 [.c (.own 0), .c (.d (L90 l1)), .c (.d (.int .u64 a2))] [(0, some (O90 .win l0))] (.c (.d (.bool r.1))) none [(0, some (O90 .win r.2))] := by
  refine does_fn Tryd.func104 (by kernel_rfl) rfl rfl ?_
  unfold nat_take.f at h
  have ih := nat_take.w k
  exact Til.mid Tryd.func104 3 [] (fun _ f => f) (by kernel_rfl) (ih _ _ _ _ _ _ _ _ _ h)

def nat_give.l0E (x0 : List Int) (x1 : List Int) (x4 : Int) (x7 : Int) (x8 : Int) : Env := [(0, .c (.own 0)), (1, .c (.d (L90 x1))), (4, .c (.d (.int .u64 x4))), (7, .c (.d (.int .i64 x7))), (8, .c (.d (.int .i64 x8)))]
def nat_give.l0B (x0 : List Int) (x1 : List Int) (x4 : Int) (x7 : Int) (x8 : Int) : Obs := [(0, some (O90 .win x0))]
theorem nat_give.w (k : Nat) : (∀ (l0 : List Int) (x0 : List Int) (x1 : List Int) (x4 : Int) (x7 : Int) (x8 : Int) (r : List Int), nat_give.l0 k x0 x1 x4 x7 x8 = some r → Til Tryd.prog 105 [(0, some (O90 .win l0))] (.tup []) none [(0, some (O90 .win r))] (at_ Tryd.f105 2) (nat_give.l0E x0 x1 x4 x7 x8) (nat_give.l0B x0 x1 x4 x7 x8)) := by
  induction k with
  | zero =>
    exact fun _ _ _ _ _ _ _ h => (by cases h)
  | succ k ih =>
    intro l0 x0 x1 x4 x7 x8 r h
    rw [nat_give.l0] at h
    by_cases h0 : x8 < x7
    · rw [if_pos h0] at h
      obtain ⟨h1, h⟩ := ifp h
      obtain ⟨h2, h⟩ := ifp h
      obtain ⟨v10, h3, h⟩ := bnd h
      exact Til.mid Tryd.func105 2 [(0, .b true), (10, ca (.c (.d (.int .u64 v10)))), (19, Z90 (x0.set ((x8 : Int).toNat) (Go.bits .and .u64 (IntKind.u64.wrap (x4 + (IntKind.u64.wrap ((rd x0 x8) + v10)))) 4294967295)))] (fun _ f => o (decide_eq_true h0) (o (o h1 h2) (o (nat_limb.does h3) (o (o h1 h2) (o (set_ok c90 0 (fun _ _ => rfl) x0 ((x8 : Int).toNat) (Go.bits .and .u64 (IntKind.u64.wrap (x4 + (IntKind.u64.wrap ((rd x0 x8) + v10)))) 4294967295) (lt_ok h1 h2)) (o (nn 32) f)))))) (by kernel_rfl) (ih _ _ _ _ _ _ _ h)
    · rw [if_neg h0] at h
      obtain rfl := Option.some.inj h
      exact Til.fin Tryd.func105 [(0, .b false)] (fun _ f => o (decide_eq_false h0) f) (by kernel_rfl)
theorem nat_give.does {k : Nat} {l0 : List Int} {l1 : List Int} {r : List Int} (h : nat_give.f k l0 l1 = some r) :
    Does Tryd.prog 105 [.c (.own 0), .c (.d (L90 l1))] [(0, some (O90 .win l0))] (.tup []) none [(0, some (O90 .win r))] := by
  refine does_fn Tryd.func105 (by kernel_rfl) rfl rfl ?_
  unfold nat_give.f at h
  have ih := nat_give.w k
  exact Til.mid Tryd.func105 2 [] (fun _ f => f) (by kernel_rfl) (ih _ _ _ _ _ _ _ h)

def nat_digit.l0E (x0 : List Int) (x1 : List Int) (x5 : Int) (x7 : Int) (x8 : Int) : Env := [(0, .c (.own 0)), (1, .c (.d (L90 x1))), (5, .c (.d (.int .i64 x5))), (7, .c (.d (.int .u64 x7))), (8, .c (.d (.int .u64 x8)))]
def nat_digit.l0B (x0 : List Int) (x1 : List Int) (x5 : Int) (x7 : Int) (x8 : Int) : Obs := [(0, some (O90 .win x0))]
theorem nat_digit.w (k : Nat) : (∀ (l0 : List Int) (x0 : List Int) (x1 : List Int) (x5 : Int) (x7 : Int) (x8 : Int) (r : Int × List Int), nat_digit.l0 k x0 x1 x5 x7 x8 = some r → Til Tryd.prog 102 [(0, some (O90 .win l0))] (.c (.d (.int .u64 r.1))) none [(0, some (O90 .win r.2))] (at_ Tryd.f102 4) (nat_digit.l0E x0 x1 x5 x7 x8) (nat_digit.l0B x0 x1 x5 x7 x8)) := by
  induction k with
  | zero =>
    exact fun _ _ _ _ _ _ _ h => (by cases h)
  | succ k ih =>
    intro l0 x0 x1 x5 x7 x8 r h
    rw [nat_digit.l0] at h
    by_cases h0 : x7 ≥ 4294967296
    · rw [if_pos h0] at h
      obtain ⟨h1, h⟩ := ifp h
      obtain ⟨h2, h⟩ := ifp h
      by_cases h3 : (IntKind.u64.wrap (x8 + (rd x1 (wrap64 (x5 - 1))))) ≥ 4294967296
      · rw [if_pos h3] at h
        obtain ⟨⟨v36_0, v36_1⟩, h4, h⟩ := bnd h
        dsimp only at h
        obtain ⟨h5, h⟩ := ifp h
        cases v36_0
        · rw [if_neg (by decide)] at h
          obtain ⟨h6, h⟩ := ifp h
          obtain rfl := Option.some.inj h
          exact Til.fin Tryd.func102 [(1, .b true), (32, .b true), (36, .call [] [0] (.c (.d (.bool false))) none [(0, some (O90 .win v36_1))] [])] (fun _ f => o (decide_eq_true h0) (o (o h1 h2) (o (decide_eq_true h3) (o (nat_take.does h4) (o (o (rfl : (1 : Nat) = 1) h6) f))))) (by kernel_rfl)
        · rw [if_pos rfl] at h
          obtain ⟨h6, h⟩ := ifp h
          obtain ⟨v42, h7, h⟩ := bnd h
          obtain ⟨h8, h⟩ := ifp h
          obtain rfl := Option.some.inj h
          exact Til.fin Tryd.func102 [(1, .b true), (32, .b true), (36, .call [] [0] (.c (.d (.bool true))) none [(0, some (O90 .win v36_1))] []), (42, .call [] [0] (.tup []) none [(0, some (O90 .win v42))] [])] (fun _ f => o (decide_eq_true h0) (o (o h1 h2) (o (decide_eq_true h3) (o (nat_take.does h4) (o (o (rfl : (1 : Nat) = 1) h6) (o (nat_give.does h7) (o (o (rfl : (1 : Nat) = 1) h8) f))))))) (by kernel_rfl)
      · rw [if_neg h3] at h
        exact Til.mid Tryd.func102 4 [(1, .b true), (32, .b false)] (fun _ f => o (decide_eq_true h0) (o (o h1 h2) (o (decide_eq_false h3) f))) (by kernel_rfl) (ih _ _ _ _ _ _ _ h)
    · rw [if_neg h0] at h
      obtain ⟨h1, h⟩ := ifp h
      obtain ⟨h2, h⟩ := ifp h
      obtain ⟨h3, h⟩ := ifp h
      by_cases h4 : (IntKind.u64.wrap (x7 * (rd x1 (wrap64 (x5 - 2))))) > (Go.bits .or .u64 (IntKind.u64.wrap (x8 * 4294967296)) (rd x0 (wrap64 (x5 - 2))))
      · rw [if_pos h4] at h
        obtain ⟨h5, h⟩ := ifp h
        obtain ⟨h6, h⟩ := ifp h
        by_cases h7 : (IntKind.u64.wrap (x8 + (rd x1 (wrap64 (x5 - 1))))) ≥ 4294967296
        · rw [if_pos h7] at h
          obtain ⟨⟨v36_0, v36_1⟩, h8, h⟩ := bnd h
          dsimp only at h
          obtain ⟨h9, h⟩ := ifp h
          cases v36_0
          · rw [if_neg (by decide)] at h
            obtain ⟨h10, h⟩ := ifp h
            obtain rfl := Option.some.inj h
            exact Til.fin Tryd.func102 [(1, .b false), (18, .b true), (32, .b true), (36, .call [] [0] (.c (.d (.bool false))) none [(0, some (O90 .win v36_1))] [])] (fun _ f => o (decide_eq_false h0) (o (o h1 h2) (o (nn 32) (o (o h1 h3) (o (decide_eq_true h4) (o (o h5 h6) (o (decide_eq_true h7) (o (nat_take.does h8) (o (o (rfl : (1 : Nat) = 1) h10) f))))))))) (by kernel_rfl)
          · rw [if_pos rfl] at h
            obtain ⟨h10, h⟩ := ifp h
            obtain ⟨v42, h11, h⟩ := bnd h
            obtain ⟨h12, h⟩ := ifp h
            obtain rfl := Option.some.inj h
            exact Til.fin Tryd.func102 [(1, .b false), (18, .b true), (32, .b true), (36, .call [] [0] (.c (.d (.bool true))) none [(0, some (O90 .win v36_1))] []), (42, .call [] [0] (.tup []) none [(0, some (O90 .win v42))] [])] (fun _ f => o (decide_eq_false h0) (o (o h1 h2) (o (nn 32) (o (o h1 h3) (o (decide_eq_true h4) (o (o h5 h6) (o (decide_eq_true h7) (o (nat_take.does h8) (o (o (rfl : (1 : Nat) = 1) h10) (o (nat_give.does h11) (o (o (rfl : (1 : Nat) = 1) h12) f))))))))))) (by kernel_rfl)
        · rw [if_neg h7] at h
          exact Til.mid Tryd.func102 4 [(1, .b false), (18, .b true), (32, .b false)] (fun _ f => o (decide_eq_false h0) (o (o h1 h2) (o (nn 32) (o (o h1 h3) (o (decide_eq_true h4) (o (o h5 h6) (o (decide_eq_false h7) f))))))) (by kernel_rfl) (ih _ _ _ _ _ _ _ h)
      · rw [if_neg h4] at h
        obtain ⟨⟨v23_0, v23_1⟩, h5, h⟩ := bnd h
        dsimp only at h
        obtain ⟨h6, h⟩ := ifp h
        cases v23_0
        · rw [if_neg (by decide)] at h
          obtain ⟨h7, h⟩ := ifp h
          obtain rfl := Option.some.inj h
          exact Til.fin Tryd.func102 [(1, .b false), (18, .b false), (23, .call [] [0] (.c (.d (.bool false))) none [(0, some (O90 .win v23_1))] [])] (fun _ f => o (decide_eq_false h0) (o (o h1 h2) (o (nn 32) (o (o h1 h3) (o (decide_eq_false h4) (o (nat_take.does h5) (o (o (rfl : (1 : Nat) = 1) h7) f))))))) (by kernel_rfl)
        · rw [if_pos rfl] at h
          obtain ⟨h7, h⟩ := ifp h
          obtain ⟨v29, h8, h⟩ := bnd h
          obtain ⟨h9, h⟩ := ifp h
          obtain rfl := Option.some.inj h
          exact Til.fin Tryd.func102 [(1, .b false), (18, .b false), (23, .call [] [0] (.c (.d (.bool true))) none [(0, some (O90 .win v23_1))] []), (29, .call [] [0] (.tup []) none [(0, some (O90 .win v29))] [])] (fun _ f => o (decide_eq_false h0) (o (o h1 h2) (o (nn 32) (o (o h1 h3) (o (decide_eq_false h4) (o (nat_take.does h5) (o (o (rfl : (1 : Nat) = 1) h7) (o (nat_give.does h8) (o (o (rfl : (1 : Nat) = 1) h9) f))))))))) (by kernel_rfl)
theorem nat_digit.does {k : Nat} {l0 : List Int} {l1 : List Int} {r : Int × List Int} (h : nat_digit.f k l0 l1 = some r) :
    Does Tryd.prog 102 [.c (.own 0), .c (.d (L90 l1))] [(0, some (O90 .win l0))] (.c (.d (.int .u64 r.1))) none [(0, some (O90 .win r.2))] := by
  refine does_fn Tryd.func102 (by kernel_rfl) rfl rfl ?_
  unfold nat_digit.f at h
  have ih := nat_digit.w k
  obtain ⟨h0, h⟩ := ifp h
  obtain ⟨h1, h⟩ := ifp h
  obtain ⟨h2, h⟩ := ifp h
  obtain ⟨h3, h⟩ := ifp h
  obtain ⟨h4, h⟩ := ifn h
  exact Til.mid Tryd.func102 4 [] (fun _ f => o (o (Int.natCast_nonneg l1.length) h0) (o (nn 32) (o (o h1 h2) (o (o h1 h3) (o h4 (o (o h1 h3) (o h4 f))))))) (by kernel_rfl) (ih _ _ _ _ _ _ _ h)

def nat_long.l0E (x6 : Int) (x7 : List Int) (x8 : List Int) (x9 : Int) (x10 : List Int) (x11 : Int) : Env := [(6, .c (.d (.int .i64 x6))), (7, .c (.d (L90 x7))), (8, .c (.own 8)), (9, .c (.d (.int .i64 x9))), (10, .c (.own 10)), (11, .c (.d (.int .i64 x11)))]
def nat_long.l0B (x6 : Int) (x7 : List Int) (x8 : List Int) (x9 : Int) (x10 : List Int) (x11 : Int) : Obs := [(8, some (O90 .own x8)), (10, some (O90 .own x10))]
theorem nat_long.w (k : Nat) : (∀  (x6 : Int) (x7 : List Int) (x8 : List Int) (x9 : Int) (x10 : List Int) (x11 : Int) (r : List Int × List Int), nat_long.l0 k x6 x7 x8 x9 x10 x11 = some r → Til Tryd.prog 97 [] (.tup [.c (.d (L90 r.1)), .c (.d (L90 r.2))]) none [] (at_ Tryd.f97 7) (nat_long.l0E x6 x7 x8 x9 x10 x11) (nat_long.l0B x6 x7 x8 x9 x10 x11)) := by
  induction k with
  | zero =>
    exact fun _ _ _ _ _ _ _ h => (by cases h)
  | succ k ih =>
    intro x6 x7 x8 x9 x10 x11 r h
    rw [nat_long.l0] at h
    by_cases h0 : x11 ≥ 0
    · rw [if_pos h0] at h
      obtain ⟨h1, h⟩ := ifp h
      obtain ⟨h2, h⟩ := ifp h
      obtain ⟨v12, h3, h⟩ := bnd h
      obtain ⟨h4, h⟩ := ifp h
      obtain ⟨h5, h⟩ := ifp h
      exact Til.mid Tryd.func97 7 [(1, .b true), (12, .call [] [0] (.c (.d (.int .u64 v12.1))) none [(0, some (O90 .win v12.2))] [(0, (x8.take ((x11 : Int).toNat) ++ v12.2 ++ x8.drop (((wrap64 ((wrap64 (x11 + x9)) + 1)) : Int).toNat)).length, enc c90 0 (x8.take ((x11 : Int).toNat) ++ v12.2 ++ x8.drop (((wrap64 ((wrap64 (x11 + x9)) + 1)) : Int).toNat))), (1000000, ((x8.drop ((x11 : Int).toNat)).take (((wrap64 ((wrap64 (x11 + x9)) + 1)) : Int).toNat - (x11 : Int).toNat)).length, enc c90 0 ((x8.drop ((x11 : Int).toNat)).take (((wrap64 ((wrap64 (x11 + x9)) + 1)) : Int).toNat - (x11 : Int).toNat)))]), (14, Z90 (x10.set ((x11 : Int).toNat) v12.1))] (fun _ f => o (decide_eq_true h0) (o (o h0 (o h1 h2)) (o (nat_digit.does h3) (o (backw_ok c90 0 1 x8 v12.2 h0 (Int.le_of_lt h1) h2 h4) (o (part_ok c90 0 x8 h0 (Int.le_of_lt h1) h2).2.2.2 (o (o h0 h5) (o (set_ok c90 0 (fun _ _ => rfl) x10 ((x11 : Int).toNat) v12.1 (lt_ok h0 h5)) f))))))) (by kernel_rfl) (ih _ _ _ _ _ _ _ h)
    · rw [if_neg h0] at h
      obtain ⟨v3, h1, h⟩ := bnd h
      obtain ⟨v5, h2, h⟩ := bnd h
      obtain ⟨v7, h3, h⟩ := bnd h
      obtain rfl := Option.some.inj h
      exact Til.fin Tryd.func97 [(1, .b false), (3, ca (.c (.d (L90 v3)))), (5, ca (.c (.d (L90 v5)))), (7, ca (.c (.d (L90 v7))))] (fun _ f => o (decide_eq_false h0) (o (nat_trim.does h1) (o (nat_trim.does h2) (o (nat_shr.does h3) f)))) (by kernel_rfl)
theorem nat_long.does {k : Nat} {l0 : List Int} {l1 : List Int} {r : List Int × List Int} (h : nat_long.f k l0 l1 = some r) :
    Does Tryd.prog 97 [.c (.d (L90 l0)), .c (.d (L90 l1))] [] (.tup [.c (.d (L90 r.1)), .c (.d (L90 r.2))]) none [] := by
  refine does_fn Tryd.func97 (by kernel_rfl) rfl rfl ?_
  unfold nat_long.f at h
  have ih := nat_long.w k
  obtain ⟨h0, h⟩ := ifp h
  obtain ⟨h1, h⟩ := ifp h
  obtain ⟨v9, h2, h⟩ := bnd h
  obtain ⟨v13, h3, h⟩ := bnd h
  obtain ⟨v17, h4, h⟩ := bnd h
  obtain ⟨h5, h⟩ := ifp h
  obtain ⟨h6, h⟩ := ifp h
  obtain ⟨h7, h⟩ := ifp h
  obtain ⟨h8, h⟩ := ifp h
  obtain ⟨h9, h⟩ := ifp h
  exact Til.mid Tryd.func97 7 [(9, ca (.c (.d (.int .i64 v9)))), (13, .call [] [] (.c (.own 0)) (some (O90 .own v13)) [] []), (17, .call [] [] (.c (.own 0)) (some (O90 .own v17)) [] []), (18, Z90 ([0, 0] : List Int)), (19, Z90 (v17 ++ ([0, 0] : List Int))), (23, Z90 ((v17 ++ ([0, 0] : List Int)).take (((wrap64 ((l0.length : Int) + 1)) : Int).toNat))), (32, Z90 (List.replicate (((wrap64 ((((v17 ++ ([0, 0] : List Int)).take (((wrap64 ((l0.length : Int) + 1)) : Int).toNat)).length : Int) - (v13.length : Int))) : Int).toNat) 0 : List Int))] (fun _ f => o (o h0 h1) (o (bits_LeadingZeros32.does h2) (o (nat_shl.does h3) (o (nat_shl.does h4) (o (lit_ok c90 0 ([0, 0] : List Int)) (o (app c90 0 v17 ([0, 0] : List Int) 8 17592186044416 (by decide) h5) (o (take_ok c90 0 (v17 ++ ([0, 0] : List Int)) h6 h7) (o (make_ok c90 0 [.int .u64 0] ⟨.refl _, trivial⟩ (wrap64 ((((v17 ++ ([0, 0] : List Int)).take (((wrap64 ((l0.length : Int) + 1)) : Int).toNat)).length : Int) - (v13.length : Int))) 8 35184372088832 (by decide) h8 h9) f)))))))) (by kernel_rfl) (ih _ _ _ _ _ _ _ h)

theorem nat_DivMod.does {k : Nat} {l0 : List Int} {l1 : List Int} {r : List Int × List Int × Int} (h : nat_DivMod.f k l0 l1 = some r) :
    Does Tryd.prog 85 [.c (.d (L90 l0)), .c (.d (L90 l1))] [] (.tup [.c (.d (L90 r.1)), .c (.d (L90 r.2.1)), .c (.d (.int .i64 r.2.2))]) none [] := by
  refine does_fn Tryd.func85 (by kernel_rfl) rfl rfl ?_
  unfold nat_DivMod.f at h
  obtain ⟨v4, h0, h⟩ := bnd h
  obtain ⟨v6, h1, h⟩ := bnd h
  by_cases h2 : (v6.length : Int) = 0
  · rw [if_pos h2] at h
    obtain rfl := Option.some.inj h
    exact Til.fin Tryd.func85 [(4, ca (.c (.d (L90 v4)))), (6, ca (.c (.d (L90 v6)))), (11, .b true)] (fun _ f => o (nat_Clean.does h0) (o (nat_Clean.does h1) (o (beq_iff_eq.2 h2) f))) (by kernel_rfl)
  · rw [if_neg h2] at h
    obtain ⟨v15, h3, h⟩ := bnd h
    by_cases h4 : v15 < 0
    · rw [if_pos h4] at h
      obtain rfl := Option.some.inj h
      exact Til.fin Tryd.func85 [(4, ca (.c (.d (L90 v4)))), (6, ca (.c (.d (L90 v6)))), (11, .b false), (15, ca (.c (.d (.int .i64 v15)))), (16, .b true)] (fun _ f => o (nat_Clean.does h0) (o (nat_Clean.does h1) (o (beq_false_of_ne h2) (o (nat_order.does h3) (o (decide_eq_true h4) f))))) (by kernel_rfl)
    · rw [if_neg h4] at h
      by_cases h5 : (v6.length : Int) = 1
      · rw [if_pos h5] at h
        obtain ⟨h6, h⟩ := ifp h
        obtain ⟨v26, h7, h⟩ := bnd h
        obtain ⟨v34, h8, h⟩ := bnd h
        obtain rfl := Option.some.inj h
        exact Til.fin Tryd.func85 [(4, ca (.c (.d (L90 v4)))), (6, ca (.c (.d (L90 v6)))), (11, .b false), (15, ca (.c (.d (.int .i64 v15)))), (16, .b false), (20, .b true), (26, ca (.tup [.c (.d (L90 v26.1)), .c (.d (.int .u64 v26.2))])), (34, ca (.c (.d (L90 v34))))] (fun _ f => o (nat_Clean.does h0) (o (nat_Clean.does h1) (o (beq_false_of_ne h2) (o (nat_order.does h3) (o (decide_eq_false h4) (o (beq_iff_eq.2 h5) (o (o (nn 0) h6) (o (nat_small.does h7) (o (nat_Of.does h8) f))))))))) (by kernel_rfl)
      · rw [if_neg h5] at h
        obtain ⟨v24, h6, h⟩ := bnd h
        obtain rfl := Option.some.inj h
        exact Til.fin Tryd.func85 [(4, ca (.c (.d (L90 v4)))), (6, ca (.c (.d (L90 v6)))), (11, .b false), (15, ca (.c (.d (.int .i64 v15)))), (16, .b false), (20, .b false), (24, ca (.tup [.c (.d (L90 v24.1)), .c (.d (L90 v24.2))]))] (fun _ f => o (nat_Clean.does h0) (o (nat_Clean.does h1) (o (beq_false_of_ne h2) (o (nat_order.does h3) (o (decide_eq_false h4) (o (beq_false_of_ne h5) (o (nat_long.does h6) f))))))) (by kernel_rfl)

theorem nat_rest.does {k : Nat} {l0 : List Int} {l1 : List Int} {r : List Int × List Int} (h : nat_rest.f k l0 l1 = some r) :
    Does Tryd.prog 95 [.c (.d (L90 l0)), .c (.d (L90 l1))] [] (.tup [.c (.d (L90 r.1)), .c (.d (L90 r.2))]) none [] := by
  refine does_fn Tryd.func95 (by kernel_rfl) rfl rfl ?_
  unfold nat_rest.f at h
  obtain ⟨v4, h0, h⟩ := bnd h
  obtain rfl := Option.some.inj h
  exact Til.fin Tryd.func95 [(4, ca (.tup [.c (.d (L90 v4.1)), .c (.d (L90 v4.2.1)), .c (.d (.int .i64 v4.2.2))]))] (fun _ f => o (nat_DivMod.does h0) f) (by kernel_rfl)

def nat_minus.l0E (x0 : List Int) (x1 : List Int) (x5 : List Int) (x6 : Int) (x13 : Int) (x14 : Int) : Env := [(0, .c (.d (L90 x0))), (1, .c (.d (L90 x1))), (5, .c (.own 5)), (6, .c (.d (.int .u64 x6))), (13, .c (.d (.int .i64 x13))), (14, .c (.d (.int .i64 x14)))]
def nat_minus.l0B (x0 : List Int) (x1 : List Int) (x5 : List Int) (x6 : Int) (x13 : Int) (x14 : Int) : Obs := [(5, some (O90 .own x5))]
theorem nat_minus.w (k : Nat) : (∀  (x0 : List Int) (x1 : List Int) (x5 : List Int) (x6 : Int) (x13 : Int) (x14 : Int) (r : List Int), nat_minus.l0 k x0 x1 x5 x6 x13 x14 = some r → Til Tryd.prog 96 [] (.c (.d (L90 r))) none [] (at_ Tryd.f96 4) (nat_minus.l0E x0 x1 x5 x6 x13 x14) (nat_minus.l0B x0 x1 x5 x6 x13 x14)) := by
  induction k with
  | zero =>
    exact fun _ _ _ _ _ _ _ h => (by cases h)
  | succ k ih =>
    intro x0 x1 x5 x6 x13 x14 r h
    rw [nat_minus.l0] at h
    by_cases h0 : x14 < x13
    · rw [if_pos h0] at h
      obtain ⟨h1, h⟩ := ifp h
      obtain ⟨h2, h⟩ := ifp h
      obtain ⟨v10, h3, h⟩ := bnd h
      obtain ⟨h4, h⟩ := ifp h
      exact Til.mid Tryd.func96 4 [(0, .b true), (10, ca (.c (.d (.int .u64 v10)))), (20, Z90 (x5.set ((x14 : Int).toNat) (Go.bits .and .u64 (IntKind.u64.wrap ((IntKind.u64.wrap ((IntKind.u64.wrap (4294967296 + (rd x0 x14))) - v10)) - x6)) 4294967295)))] (fun _ f => o (decide_eq_true h0) (o (o h1 h2) (o (nat_limb.does h3) (o (o h1 h4) (o (set_ok c90 0 (fun _ _ => rfl) x5 ((x14 : Int).toNat) (Go.bits .and .u64 (IntKind.u64.wrap ((IntKind.u64.wrap ((IntKind.u64.wrap (4294967296 + (rd x0 x14))) - v10)) - x6)) 4294967295) (lt_ok h1 h4)) (o (nn 32) f)))))) (by kernel_rfl) (ih _ _ _ _ _ _ _ h)
    · rw [if_neg h0] at h
      obtain ⟨v2, h1, h⟩ := bnd h
      obtain rfl := Option.some.inj h
      exact Til.fin Tryd.func96 [(0, .b false), (2, ca (.c (.d (L90 v2))))] (fun _ f => o (decide_eq_false h0) (o (nat_trim.does h1) f)) (by kernel_rfl)
theorem nat_minus.does {k : Nat} {l0 : List Int} {l1 : List Int} {r : List Int} (h : nat_minus.f k l0 l1 = some r) :
    Does Tryd.prog 96 [.c (.d (L90 l0)), .c (.d (L90 l1))] [] (.c (.d (L90 r))) none [] := by
  refine does_fn Tryd.func96 (by kernel_rfl) rfl rfl ?_
  unfold nat_minus.f at h
  have ih := nat_minus.w k
  obtain ⟨h0, h⟩ := ifp h
  exact Til.mid Tryd.func96 4 [(3, Z90 (List.replicate (((l0.length : Int) : Int).toNat) 0 : List Int))] (fun _ f => o (make_ok c90 0 [.int .u64 0] ⟨.refl _, trivial⟩ (l0.length : Int) 8 35184372088832 (by decide) (Int.natCast_nonneg l0.length) h0) f) (by kernel_rfl) (ih _ _ _ _ _ _ _ h)

def nat_Gcd.l0E (x0 : List Int) (x1 : List Int) (x5 : Int) (x6 : Int) : Env := [(0, .c (.d (L90 x0))), (1, .c (.d (L90 x1))), (5, .c (.d (.int .i64 x5))), (6, .c (.d (.int .i64 x6)))]
theorem nat_Gcd.w (k : Nat) : (∀  (x0 : List Int) (x1 : List Int) (x5 : Int) (x6 : Int) (r : List Int), nat_Gcd.l0 k x0 x1 x5 x6 = some r → Til Tryd.prog 84 [] (.c (.d (L90 r))) none [] (at_ Tryd.f84 10) (nat_Gcd.l0E x0 x1 x5 x6) []) := by
  induction k with
  | zero =>
    exact fun _ _ _ _ _ h => (by cases h)
  | succ k ih =>
    intro x0 x1 x5 x6 r h
    rw [nat_Gcd.l0] at h
    obtain ⟨v2, h0, h⟩ := bnd h
    by_cases h1 : v2 = 0
    · rw [if_pos h1] at h
      obtain ⟨v11, h2, h⟩ := bnd h
      obtain rfl := Option.some.inj h
      exact Til.fin Tryd.func84 [(2, ca (.c (.d (.int .i64 v2)))), (5, .b true), (11, .call [] [] (.c (.own 0)) (some (O90 .own v11)) [] [])] (fun _ f => o (nat_order.does h0) (o (beq_iff_eq.2 h1) (o (nat_shl.does h2) f))) (by kernel_rfl)
    · rw [if_neg h1] at h
      by_cases h2 : v2 < 0
      · rw [if_pos h2] at h
        by_cases h3 : (x1.length : Int) > (wrap64 ((x0.length : Int) + 1))
        · rw [if_pos h3] at h
          obtain ⟨v22, h4, h⟩ := bnd h
          by_cases h5 : (v22.2.length : Int) = 0
          · rw [if_pos h5] at h
            obtain ⟨v34, h6, h⟩ := bnd h
            obtain rfl := Option.some.inj h
            exact Til.fin Tryd.func84 [(2, ca (.c (.d (.int .i64 v2)))), (5, .b false), (8, .b true), (19, .b true), (22, ca (.tup [.c (.d (L90 v22.1)), .c (.d (L90 v22.2))])), (29, .b true), (34, .call [] [] (.c (.own 0)) (some (O90 .own v34)) [] [])] (fun _ f => o (nat_order.does h0) (o (beq_false_of_ne h1) (o (decide_eq_true h2) (o (decide_eq_true h3) (o (nat_rest.does h4) (o (beq_iff_eq.2 h5) (o (nat_shl.does h6) f))))))) (by kernel_rfl)
          · rw [if_neg h5] at h
            obtain ⟨v32, h6, h⟩ := bnd h
            obtain ⟨v33, h7, h⟩ := bnd h
            exact Til.mid Tryd.func84 10 [(2, ca (.c (.d (.int .i64 v2)))), (5, .b false), (8, .b true), (19, .b true), (22, ca (.tup [.c (.d (L90 v22.1)), .c (.d (L90 v22.2))])), (29, .b false), (32, ca (.c (.d (.int .i64 v32)))), (33, ca (.c (.d (L90 v33))))] (fun _ f => o (nat_order.does h0) (o (beq_false_of_ne h1) (o (decide_eq_true h2) (o (decide_eq_true h3) (o (nat_rest.does h4) (o (beq_false_of_ne h5) (o (nat_zeros.does h6) (o (nat_shr.does h7) f)))))))) (by kernel_rfl) (ih _ _ _ _ _ h)
        · rw [if_neg h3] at h
          obtain ⟨v22, h4, h⟩ := bnd h
          obtain ⟨v26, h5, h⟩ := bnd h
          obtain ⟨v27, h6, h⟩ := bnd h
          exact Til.mid Tryd.func84 10 [(2, ca (.c (.d (.int .i64 v2)))), (5, .b false), (8, .b true), (19, .b false), (22, ca (.c (.d (L90 v22)))), (26, ca (.c (.d (.int .i64 v26)))), (27, ca (.c (.d (L90 v27))))] (fun _ f => o (nat_order.does h0) (o (beq_false_of_ne h1) (o (decide_eq_true h2) (o (decide_eq_false h3) (o (nat_minus.does h4) (o (nat_zeros.does h5) (o (nat_shr.does h6) f))))))) (by kernel_rfl) (ih _ _ _ _ _ h)
      · rw [if_neg h2] at h
        by_cases h3 : (x0.length : Int) > (wrap64 ((x1.length : Int) + 1))
        · rw [if_pos h3] at h
          obtain ⟨v18, h4, h⟩ := bnd h
          by_cases h5 : (v18.2.length : Int) = 0
          · rw [if_pos h5] at h
            obtain ⟨v30, h6, h⟩ := bnd h
            obtain rfl := Option.some.inj h
            exact Til.fin Tryd.func84 [(2, ca (.c (.d (.int .i64 v2)))), (5, .b false), (8, .b false), (15, .b true), (18, ca (.tup [.c (.d (L90 v18.1)), .c (.d (L90 v18.2))])), (25, .b true), (30, .call [] [] (.c (.own 0)) (some (O90 .own v30)) [] [])] (fun _ f => o (nat_order.does h0) (o (beq_false_of_ne h1) (o (decide_eq_false h2) (o (decide_eq_true h3) (o (nat_rest.does h4) (o (beq_iff_eq.2 h5) (o (nat_shl.does h6) f))))))) (by kernel_rfl)
          · rw [if_neg h5] at h
            obtain ⟨v28, h6, h⟩ := bnd h
            obtain ⟨v29, h7, h⟩ := bnd h
            exact Til.mid Tryd.func84 10 [(2, ca (.c (.d (.int .i64 v2)))), (5, .b false), (8, .b false), (15, .b true), (18, ca (.tup [.c (.d (L90 v18.1)), .c (.d (L90 v18.2))])), (25, .b false), (28, ca (.c (.d (.int .i64 v28)))), (29, ca (.c (.d (L90 v29))))] (fun _ f => o (nat_order.does h0) (o (beq_false_of_ne h1) (o (decide_eq_false h2) (o (decide_eq_true h3) (o (nat_rest.does h4) (o (beq_false_of_ne h5) (o (nat_zeros.does h6) (o (nat_shr.does h7) f)))))))) (by kernel_rfl) (ih _ _ _ _ _ h)
        · rw [if_neg h3] at h
          obtain ⟨v18, h4, h⟩ := bnd h
          obtain ⟨v22, h5, h⟩ := bnd h
          obtain ⟨v23, h6, h⟩ := bnd h
          exact Til.mid Tryd.func84 10 [(2, ca (.c (.d (.int .i64 v2)))), (5, .b false), (8, .b false), (15, .b false), (18, ca (.c (.d (L90 v18)))), (22, ca (.c (.d (.int .i64 v22)))), (23, ca (.c (.d (L90 v23))))] (fun _ f => o (nat_order.does h0) (o (beq_false_of_ne h1) (o (decide_eq_false h2) (o (decide_eq_false h3) (o (nat_minus.does h4) (o (nat_zeros.does h5) (o (nat_shr.does h6) f))))))) (by kernel_rfl) (ih _ _ _ _ _ h)
theorem nat_Gcd.does {k : Nat} {l0 : List Int} {l1 : List Int} {r : List Int} (h : nat_Gcd.f k l0 l1 = some r) :
    Does Tryd.prog 84 [.c (.d (L90 l0)), .c (.d (L90 l1))] [] (.c (.d (L90 r))) none [] := by
  refine does_fn Tryd.func84 (by kernel_rfl) rfl rfl ?_
  unfold nat_Gcd.f at h
  have ih := nat_Gcd.w k
  obtain ⟨v2, h0, h⟩ := bnd h
  obtain ⟨v4, h1, h⟩ := bnd h
  by_cases h2 : (v2.length : Int) = 0
  · rw [if_pos h2] at h
    obtain rfl := Option.some.inj h
    exact Til.fin Tryd.func84 [(2, ca (.c (.d (L90 v2)))), (4, ca (.c (.d (L90 v4)))), (9, .b true)] (fun _ f => o (nat_Clean.does h0) (o (nat_Clean.does h1) (o (beq_iff_eq.2 h2) f))) (by kernel_rfl)
  · rw [if_neg h2] at h
    by_cases h3 : (v4.length : Int) = 0
    · rw [if_pos h3] at h
      obtain rfl := Option.some.inj h
      exact Til.fin Tryd.func84 [(2, ca (.c (.d (L90 v2)))), (4, ca (.c (.d (L90 v4)))), (9, .b false), (13, .b true)] (fun _ f => o (nat_Clean.does h0) (o (nat_Clean.does h1) (o (beq_false_of_ne h2) (o (beq_iff_eq.2 h3) f)))) (by kernel_rfl)
    · rw [if_neg h3] at h
      by_cases h4 : (v2.length : Int) ≤ 2
      · rw [if_pos h4] at h
        by_cases h5 : (v4.length : Int) ≤ 2
        · rw [if_pos h5] at h
          obtain ⟨v25, h6, h⟩ := bnd h
          obtain rfl := Option.some.inj h
          exact Til.fin Tryd.func84 [(2, ca (.c (.d (L90 v2)))), (4, ca (.c (.d (L90 v4)))), (9, .b false), (13, .b false), (17, .b true), (21, .b true), (25, ca (.c (.d (L90 v25))))] (fun _ f => o (nat_Clean.does h0) (o (nat_Clean.does h1) (o (beq_false_of_ne h2) (o (beq_false_of_ne h3) (o (decide_eq_true h4) (o (decide_eq_true h5) (o (nat_euclid.does h6) f))))))) (by kernel_rfl)
        · rw [if_neg h5] at h
          obtain ⟨v24, h6, h⟩ := bnd h
          obtain ⟨v26, h7, h⟩ := bnd h
          obtain ⟨v31, h8, h⟩ := bnd h
          obtain ⟨v34, h9, h⟩ := bnd h
          exact Til.mid Tryd.func84 10 [(2, ca (.c (.d (L90 v2)))), (4, ca (.c (.d (L90 v4)))), (9, .b false), (13, .b false), (17, .b true), (21, .b false), (24, ca (.c (.d (.int .i64 v24)))), (26, ca (.c (.d (.int .i64 v26)))), (31, ca (.c (.d (L90 v31)))), (34, ca (.c (.d (L90 v34))))] (fun _ f => o (nat_Clean.does h0) (o (nat_Clean.does h1) (o (beq_false_of_ne h2) (o (beq_false_of_ne h3) (o (decide_eq_true h4) (o (decide_eq_false h5) (o (nat_zeros.does h6) (o (nat_zeros.does h7) (o (nat_shr.does h8) (o (nat_shr.does h9) f)))))))))) (by kernel_rfl) (ih _ _ _ _ _ h)
      · rw [if_neg h4] at h
        obtain ⟨v24, h5, h⟩ := bnd h
        obtain ⟨v26, h6, h⟩ := bnd h
        obtain ⟨v31, h7, h⟩ := bnd h
        obtain ⟨v34, h8, h⟩ := bnd h
        exact Til.mid Tryd.func84 10 [(2, ca (.c (.d (L90 v2)))), (4, ca (.c (.d (L90 v4)))), (9, .b false), (13, .b false), (17, .b false), (24, ca (.c (.d (.int .i64 v24)))), (26, ca (.c (.d (.int .i64 v26)))), (31, ca (.c (.d (L90 v31)))), (34, ca (.c (.d (L90 v34))))] (fun _ f => o (nat_Clean.does h0) (o (nat_Clean.does h1) (o (beq_false_of_ne h2) (o (beq_false_of_ne h3) (o (decide_eq_false h4) (o (nat_zeros.does h5) (o (nat_zeros.does h6) (o (nat_shr.does h7) (o (nat_shr.does h8) f))))))))) (by kernel_rfl) (ih _ _ _ _ _ h)

theorem ratio_form.does {k : Nat} {a0_0 : Bool} {l0_1 : List Int} {l1 : List Int} {r : Bool × List Int × List Int} (h : ratio_form.f k a0_0 l0_1 l1 = some r) :
    Does Tryd.prog 65 [.agg [.d (.bool a0_0), .d (L90 l0_1)], .c (.d (L90 l1))] [] (.agg [.d (.bool r.1), .d (L90 r.2.1), .d (L90 r.2.2)]) none [] := by
  refine does_fn Tryd.func65 (by kernel_rfl) rfl rfl ?_
  unfold ratio_form.f at h
  by_cases h0 : (l0_1.length : Int) = 0
  · rw [if_pos h0] at h
    obtain ⟨v6, h1, h⟩ := bnd h
    obtain rfl := Option.some.inj h
    exact Til.fin Tryd.func65 [(5, .b true), (6, ca (.c (.d (L90 v6))))] (fun _ f => o (beq_iff_eq.2 h0) (o (nat_Of.does h1) f)) (by kernel_rfl)
  · rw [if_neg h0] at h
    obtain ⟨v9, h1, h⟩ := bnd h
    by_cases h2 : (v9.length : Int) = 1
    · rw [if_pos h2] at h
      obtain ⟨h3, h⟩ := ifp h
      by_cases h4 : (rd v9 0) = 1
      · rw [if_pos h4] at h
        obtain rfl := Option.some.inj h
        exact Til.fin Tryd.func65 [(5, .b false), (9, ca (.c (.d (L90 v9)))), (13, .b true), (18, .b true)] (fun _ f => o (beq_false_of_ne h0) (o (nat_Gcd.does h1) (o (beq_iff_eq.2 h2) (o (o (nn 0) h3) (o (beq_iff_eq.2 h4) f))))) (by kernel_rfl)
      · rw [if_neg h4] at h
        obtain ⟨v23, h5, h⟩ := bnd h
        obtain ⟨v33, h6, h⟩ := bnd h
        obtain rfl := Option.some.inj h
        exact Til.fin Tryd.func65 [(5, .b false), (9, ca (.c (.d (L90 v9)))), (13, .b true), (18, .b false), (23, ca (.tup [.c (.d (L90 v23.1)), .c (.d (L90 v23.2.1)), .c (.d (.int .i64 v23.2.2))])), (33, ca (.tup [.c (.d (L90 v33.1)), .c (.d (L90 v33.2.1)), .c (.d (.int .i64 v33.2.2))]))] (fun _ f => o (beq_false_of_ne h0) (o (nat_Gcd.does h1) (o (beq_iff_eq.2 h2) (o (o (nn 0) h3) (o (beq_false_of_ne h4) (o (nat_DivMod.does h5) (o (nat_DivMod.does h6) f))))))) (by kernel_rfl)
    · rw [if_neg h2] at h
      obtain ⟨v23, h3, h⟩ := bnd h
      obtain ⟨v33, h4, h⟩ := bnd h
      obtain rfl := Option.some.inj h
      exact Til.fin Tryd.func65 [(5, .b false), (9, ca (.c (.d (L90 v9)))), (13, .b false), (23, ca (.tup [.c (.d (L90 v23.1)), .c (.d (L90 v23.2.1)), .c (.d (.int .i64 v23.2.2))])), (33, ca (.tup [.c (.d (L90 v33.1)), .c (.d (L90 v33.2.1)), .c (.d (.int .i64 v33.2.2))]))] (fun _ f => o (beq_false_of_ne h0) (o (nat_Gcd.does h1) (o (beq_false_of_ne h2) (o (nat_DivMod.does h3) (o (nat_DivMod.does h4) f))))) (by kernel_rfl)

theorem whole_sign.does {a0 : Bool} {l1 : List Int} {r : Bool × List Int} (h : whole_sign.f a0 l1 = some r) :
    Does Tryd.prog 73 [.c (.d (.bool a0)), .c (.d (L90 l1))] [] (.agg [.d (.bool r.1), .d (L90 r.2)]) none [] := by
  refine does_fn Tryd.func73 (by kernel_rfl) rfl rfl ?_
  unfold whole_sign.f at h
  by_cases h0 : a0 = true
  · rw [if_pos h0] at h
    obtain rfl := Option.some.inj h
    exact Til.fin Tryd.func73 [(1, .b true)] (fun _ f => o h0 f) (by kernel_rfl)
  · rw [if_neg h0] at h
    obtain rfl := Option.some.inj h
    exact Til.fin Tryd.func73 [(1, .b false)] (fun _ f => o (Bool.eq_false_iff.2 h0) f) (by kernel_rfl)

theorem whole_Clean.does {k : Nat} {a0_0 : Bool} {l0_1 : List Int} {r : Bool × List Int} (h : whole_Clean.f k a0_0 l0_1 = some r) :
    Does Tryd.prog 66 [.agg [.d (.bool a0_0), .d (L90 l0_1)]] [] (.agg [.d (.bool r.1), .d (L90 r.2)]) none [] := by
  refine does_fn Tryd.func66 (by kernel_rfl) rfl rfl ?_
  unfold whole_Clean.f at h
  obtain ⟨v6, h0, h⟩ := bnd h
  obtain ⟨v7, h1, h⟩ := bnd h
  obtain rfl := Option.some.inj h
  exact Til.fin Tryd.func66 [(6, ca (.c (.d (L90 v6)))), (7, ca (.agg [.d (.bool v7.1), .d (L90 v7.2)]))] (fun _ f => o (nat_Clean.does h0) (o (whole_sign.does h1) f)) (by kernel_rfl)

theorem ratio_Clean.does {k : Nat} {a0_0 : Bool} {l0_1 : List Int} {l0_2 : List Int} {r : Bool × List Int × List Int} (h : ratio_Clean.f k a0_0 l0_1 l0_2 = some r) :
    Does Tryd.prog 40 [.agg [.d (.bool a0_0), .d (L90 l0_1), .d (L90 l0_2)]] [] (.agg [.d (.bool r.1), .d (L90 r.2.1), .d (L90 r.2.2)]) none [] := by
  refine does_fn Tryd.func40 (by kernel_rfl) rfl rfl ?_
  unfold ratio_Clean.f at h
  obtain ⟨v4, h0, h⟩ := bnd h
  by_cases h1 : (v4.length : Int) = 0
  · rw [if_pos h1] at h
    obtain ⟨v9, h2, h⟩ := bnd h
    obtain rfl := Option.some.inj h
    exact Til.fin Tryd.func40 [(4, ca (.c (.d (L90 v4)))), (8, .b true), (9, ca (.agg [.d (.bool v9.1), .d (L90 v9.2.1), .d (L90 v9.2.2)]))] (fun _ f => o (nat_Clean.does h0) (o (beq_iff_eq.2 h1) (o (ratio_Zero.does h2) f))) (by kernel_rfl)
  · rw [if_neg h1] at h
    obtain ⟨v11, h2, h⟩ := bnd h
    obtain ⟨v13, h3, h⟩ := bnd h
    obtain rfl := Option.some.inj h
    exact Til.fin Tryd.func40 [(4, ca (.c (.d (L90 v4)))), (8, .b false), (11, ca (.agg [.d (.bool v11.1), .d (L90 v11.2)])), (13, ca (.agg [.d (.bool v13.1), .d (L90 v13.2.1), .d (L90 v13.2.2)]))] (fun _ f => o (nat_Clean.does h0) (o (beq_false_of_ne h1) (o (whole_Clean.does h2) (o (ratio_form.does h3) f)))) (by kernel_rfl)

def c5 (x : Int) : List Dat := [.int .u8 x]
def L5 (xs : List Int) : Dat := fr 1 c5 0 xs
def Z5 (xs : List Int) : Sup := .r xs.length (enc c5 0 xs)
def O5 (k : RK) (xs : List Int) : Ob := .row k 5 1 xs.length (enc c5 0 xs)

def nat_nine.l0E (x0 : Int) (x3 : List Int) (x4 : Int) : Env := [(0, .c (.d (.int .u64 x0))), (3, .c (.own 3)), (4, .c (.d (.int .i64 x4)))]
def nat_nine.l0B (x0 : Int) (x3 : List Int) (x4 : Int) : Obs := [(3, some (O5 .own x3))]
theorem nat_nine.w (k : Nat) : (∀  (x0 : Int) (x3 : List Int) (x4 : Int) (r : List Int), nat_nine.l0 k x0 x3 x4 = some r → Til Tryd.prog 70 [] (.c (.d (L5 r))) none [] (at_ Tryd.f70 3) (nat_nine.l0E x0 x3 x4) (nat_nine.l0B x0 x3 x4)) := by
  induction k with
  | zero =>
    exact fun _ _ _ _ h => (by cases h)
  | succ k ih =>
    intro x0 x3 x4 r h
    rw [nat_nine.l0] at h
    by_cases h0 : x4 ≥ 0
    · rw [if_pos h0] at h
      obtain ⟨h1, h⟩ := ifp h
      exact Til.mid Tryd.func70 3 [(1, .b true), (9, Z5 (x3.set ((x4 : Int).toNat) (IntKind.u8.wrap ((IntKind.u64.wrap (48 + (Int.tmod x0 10)))))))] (fun _ f => o (decide_eq_true h0) (o (by decide : ¬ (10 : Int) = 0) (o (o h0 h1) (o (set_ok c5 0 (fun _ _ => rfl) x3 ((x4 : Int).toNat) (IntKind.u8.wrap ((IntKind.u64.wrap (48 + (Int.tmod x0 10))))) (lt_ok h0 h1)) (o (by decide : ¬ (10 : Int) = 0) f))))) (by kernel_rfl) (ih _ _ _ _ h)
    · rw [if_neg h0] at h
      obtain rfl := Option.some.inj h
      exact Til.fin Tryd.func70 [(1, .b false)] (fun _ f => o (decide_eq_false h0) f) (by kernel_rfl)
theorem nat_nine.does {k : Nat} {a0 : Int} {r : List Int} (h : nat_nine.f k a0 = some r) :
    Does Tryd.prog 70 [.c (.d (.int .u64 a0))] [] (.c (.d (L5 r))) none [] := by
  refine does_fn Tryd.func70 (by kernel_rfl) rfl rfl ?_
  unfold nat_nine.f at h
  have ih := nat_nine.w k
  exact Til.mid Tryd.func70 3 [(1, Z5 (List.replicate 9 0 : List Int))] (fun _ f => o (make_ok c5 0 [.int .u8 0] ⟨.refl _, trivial⟩ 9 1 281474976710656 (by decide) (nn 9) (by decide)) f) (by kernel_rfl) (ih _ _ _ _ h)

def nat_Print.l0E (x0 : List Int) (x3 : List Int) : Env := [(0, .c (.d (L90 x0))), (3, .c (.own 3))]
def nat_Print.l0B (x0 : List Int) (x3 : List Int) : Obs := [(3, some (O90 .own x3))]
def nat_Print.l1E (x3 : List Int) (x5 : List Int) (x6 : Int) : Env := [(3, .c (.own 3)), (5, .c (.own 5)), (6, .c (.d (.int .i64 x6)))]
def nat_Print.l1B (x3 : List Int) (x5 : List Int) (x6 : Int) : Obs := [(3, some (O90 .own x3)), (5, some (O5 .own x5))]
def nat_Print.l2E (x5 : List Int) (x7 : Int) : Env := [(5, .c (.own 5)), (7, .c (.d (.int .i64 x7)))]
def nat_Print.l2B (x5 : List Int) (x7 : Int) : Obs := [(5, some (O5 .own x5))]
theorem nat_Print.w (k : Nat) : (∀  (x0 : List Int) (x3 : List Int) (r : ByteArray), nat_Print.l0 k x0 x3 = some r → Til Tryd.prog 44 [] (.c (.d (.str r))) none [] (at_ Tryd.f44 5) (nat_Print.l0E x0 x3) (nat_Print.l0B x0 x3)) ∧
    (∀  (x3 : List Int) (x5 : List Int) (x6 : Int) (r : ByteArray), nat_Print.l1 k x3 x5 x6 = some r → Til Tryd.prog 44 [] (.c (.d (.str r))) none [] (at_ Tryd.f44 11) (nat_Print.l1E x3 x5 x6) (nat_Print.l1B x3 x5 x6)) ∧
    (∀  (x5 : List Int) (x7 : Int) (r : ByteArray), nat_Print.l2 k x5 x7 = some r → Til Tryd.prog 44 [] (.c (.d (.str r))) none [] (at_ Tryd.f44 15) (nat_Print.l2E x5 x7) (nat_Print.l2B x5 x7)) := by
  induction k with
  | zero =>
    exact ⟨fun _ _ _ h => (by cases h), fun _ _ _ _ h => (by cases h), fun _ _ _ h => (by cases h)⟩
  | succ k ih =>
    refine ⟨?_, ?_, ?_⟩
    · intro x0 x3 r h
      rw [nat_Print.l0] at h
      by_cases h0 : (x0.length : Int) > 0
      · rw [if_pos h0] at h
        obtain ⟨v5, h1, h⟩ := bnd h
        obtain ⟨h2, h⟩ := ifp h
        exact Til.mid Tryd.func44 5 [(2, .b true), (5, ca (.tup [.c (.d (L90 v5.1)), .c (.d (.int .u64 v5.2))])), (13, Z90 ([v5.2] : List Int)), (14, Z90 (x3 ++ [v5.2]))] (fun _ f => o (decide_eq_true h0) (o (nat_small.does h1) (o (lit_ok c90 0 ([v5.2] : List Int)) (o (app1 c90 0 x3 v5.2 8 17592186044416 (by decide) h2) f)))) (by kernel_rfl) (ih.1 _ _ _ h)
      · rw [if_neg h0] at h
        exact Til.mid Tryd.func44 11 [(2, .b false)] (fun _ f => o (decide_eq_false h0) f) (by kernel_rfl) (ih.2.1 _ _ _ _ h)
    · intro x3 x5 x6 r h
      rw [nat_Print.l1] at h
      by_cases h0 : x6 ≥ 0
      · rw [if_pos h0] at h
        obtain ⟨h1, h⟩ := ifp h
        obtain ⟨v7, h2, h⟩ := bnd h
        obtain ⟨h3, h⟩ := ifp h
        exact Til.mid Tryd.func44 11 [(1, .b true), (7, ca (.c (.d (L5 v7)))), (8, Z5 (x5 ++ v7))] (fun _ f => o (decide_eq_true h0) (o (o h0 h1) (o (nat_nine.does h2) (o (app c5 0 x5 v7 1 140737488355328 (by decide) h3) f)))) (by kernel_rfl) (ih.2.1 _ _ _ _ h)
      · rw [if_neg h0] at h
        exact Til.mid Tryd.func44 15 [(1, .b false)] (fun _ f => o (decide_eq_false h0) f) (by kernel_rfl) (ih.2.2 _ _ _ h)
    · intro x5 x7 r h
      rw [nat_Print.l2] at h
      obtain ⟨h0, h⟩ := ifp h
      obtain ⟨h1, h⟩ := ifp h
      by_cases h2 : (rd x5 x7) = 48
      · rw [if_pos h2] at h
        exact Til.mid Tryd.func44 15 [(4, .b true)] (fun _ f => o (o h0 h1) (o (beq_iff_eq.2 h2) f)) (by kernel_rfl) (ih.2.2 _ _ _ h)
      · rw [if_neg h2] at h
        obtain ⟨h3, h⟩ := ifp h
        obtain rfl := Option.some.inj h
        exact Til.fin Tryd.func44 [(4, .b false), (8, .v (.c (.d (.str (ofBytes (x5.drop ((x7 : Int).toNat)))))))] (fun _ f => o (o h0 h1) (o (beq_false_of_ne h2) (o (o h0 h1) (o (strd_ok c5 x5 (fun _ => rfl) x7 h0 h1 h3) (o (Eq.refl (TV.c (.d (.str (ofBytes (x5.drop ((x7 : Int).toNat))))))) f))))) (by kernel_rfl)
theorem nat_Print.does {k : Nat} {l0 : List Int} {r : ByteArray} (h : nat_Print.f k l0 = some r) :
    Does Tryd.prog 44 [.c (.d (L90 l0))] [] (.c (.d (.str r))) none [] := by
  refine does_fn Tryd.func44 (by kernel_rfl) rfl rfl ?_
  unfold nat_Print.f at h
  have ih := nat_Print.w k
  obtain ⟨v2, h0, h⟩ := bnd h
  by_cases h1 : (v2.length : Int) = 0
  · rw [if_pos h1] at h
    obtain rfl := Option.some.inj h
    exact Til.fin Tryd.func44 [(2, ca (.c (.d (L90 v2)))), (6, .b true)] (fun _ f => o (nat_Clean.does h0) (o (beq_iff_eq.2 h1) f)) (by kernel_rfl)
  · rw [if_neg h1] at h
    exact Til.mid Tryd.func44 5 [(2, ca (.c (.d (L90 v2)))), (6, .b false)] (fun _ f => o (nat_Clean.does h0) (o (beq_false_of_ne h1) f)) (by kernel_rfl) (ih.1 _ _ _ h)

theorem whole_Print.does {k : Nat} {a0_0 : Bool} {l0_1 : List Int} {r : ByteArray} (h : whole_Print.f k a0_0 l0_1 = some r) :
    Does Tryd.prog 41 [.agg [.d (.bool a0_0), .d (L90 l0_1)]] [] (.c (.d (.str r))) none [] := by
  refine does_fn Tryd.func41 (by kernel_rfl) rfl rfl ?_
  unfold whole_Print.f at h
  obtain ⟨v3, h0, h⟩ := bnd h
  by_cases h1 : v3.1 = true
  · rw [if_pos h1] at h
    obtain ⟨v9, h2, h⟩ := bnd h
    obtain ⟨h3, h⟩ := ifp h
    obtain rfl := Option.some.inj h
    exact Til.fin Tryd.func41 [(3, ca (.agg [.d (.bool v3.1), .d (L90 v3.2)])), (6, .b true), (9, ca (.c (.d (.str v9))))] (fun _ f => o (whole_Clean.does h0) (o h1 (o (nat_Print.does h2) (o h3 f)))) (by kernel_rfl)
  · rw [if_neg h1] at h
    obtain ⟨v9, h2, h⟩ := bnd h
    obtain rfl := Option.some.inj h
    exact Til.fin Tryd.func41 [(3, ca (.agg [.d (.bool v3.1), .d (L90 v3.2)])), (6, .b false), (9, ca (.c (.d (.str v9))))] (fun _ f => o (whole_Clean.does h0) (o (Bool.eq_false_iff.2 h1) (o (nat_Print.does h2) f))) (by kernel_rfl)

theorem nat_Cmp.does {k : Nat} {l0 : List Int} {l1 : List Int} {r : Int} (h : nat_Cmp.f k l0 l1 = some r) :
    Does Tryd.prog 42 [.c (.d (L90 l0)), .c (.d (L90 l1))] [] (.c (.d (.int .i64 r))) none [] := by
  refine does_fn Tryd.func42 (by kernel_rfl) rfl rfl ?_
  unfold nat_Cmp.f at h
  obtain ⟨v2, h0, h⟩ := bnd h
  obtain ⟨v4, h1, h⟩ := bnd h
  obtain ⟨v5, h2, h⟩ := bnd h
  obtain rfl := Option.some.inj h
  exact Til.fin Tryd.func42 [(2, ca (.c (.d (L90 v2)))), (4, ca (.c (.d (L90 v4)))), (5, ca (.c (.d (.int .i64 v5))))] (fun _ f => o (nat_Clean.does h0) (o (nat_Clean.does h1) (o (nat_order.does h2) f))) (by kernel_rfl)

theorem ratio_Print.does {k : Nat} {a0_0 : Bool} {l0_1 : List Int} {l0_2 : List Int} {r : ByteArray} (h : ratio_Print.f k a0_0 l0_1 l0_2 = some r) :
    Does Tryd.prog 24 [.agg [.d (.bool a0_0), .d (L90 l0_1), .d (L90 l0_2)]] [] (.c (.d (.str r))) none [] := by
  refine does_fn Tryd.func24 (by kernel_rfl) rfl rfl ?_
  unfold ratio_Print.f at h
  obtain ⟨v3, h0, h⟩ := bnd h
  obtain ⟨v7, h1, h⟩ := bnd h
  obtain ⟨v11, h2, h⟩ := bnd h
  obtain ⟨v12, h3, h⟩ := bnd h
  by_cases h4 : v12 = 0
  · rw [if_pos h4] at h
    obtain rfl := Option.some.inj h
    exact Til.fin Tryd.func24 [(3, ca (.agg [.d (.bool v3.1), .d (L90 v3.2.1), .d (L90 v3.2.2)])), (7, ca (.c (.d (.str v7)))), (11, ca (.c (.d (L90 v11)))), (12, ca (.c (.d (.int .i64 v12)))), (13, .b true)] (fun _ f => o (ratio_Clean.does h0) (o (whole_Print.does h1) (o (nat_Of.does h2) (o (nat_Cmp.does h3) (o (beq_iff_eq.2 h4) f))))) (by kernel_rfl)
  · rw [if_neg h4] at h
    obtain ⟨h5, h⟩ := ifp h
    obtain ⟨v18, h6, h⟩ := bnd h
    obtain ⟨h7, h⟩ := ifp h
    obtain rfl := Option.some.inj h
    exact Til.fin Tryd.func24 [(3, ca (.agg [.d (.bool v3.1), .d (L90 v3.2.1), .d (L90 v3.2.2)])), (7, ca (.c (.d (.str v7)))), (11, ca (.c (.d (L90 v11)))), (12, ca (.c (.d (.int .i64 v12)))), (13, .b false), (18, ca (.c (.d (.str v18))))] (fun _ f => o (ratio_Clean.does h0) (o (whole_Print.does h1) (o (nat_Of.does h2) (o (nat_Cmp.does h3) (o (beq_false_of_ne h4) (o h5 (o (nat_Print.does h6) (o h7 f)))))))) (by kernel_rfl)

theorem whole_Of.does {k : Nat} {a0 : Int} {r : Bool × List Int} (h : whole_Of.f k a0 = some r) :
    Does Tryd.prog 46 [.c (.d (.int .i64 a0))] [] (.agg [.d (.bool r.1), .d (L90 r.2)]) none [] := by
  refine does_fn Tryd.func46 (by kernel_rfl) rfl rfl ?_
  unfold whole_Of.f at h
  by_cases h0 : a0 < 0
  · rw [if_pos h0] at h
    obtain ⟨v6, h1, h⟩ := bnd h
    obtain ⟨v7, h2, h⟩ := bnd h
    obtain rfl := Option.some.inj h
    exact Til.fin Tryd.func46 [(2, .b true), (6, ca (.c (.d (L90 v6)))), (7, ca (.agg [.d (.bool v7.1), .d (L90 v7.2)]))] (fun _ f => o (decide_eq_true h0) (o (nat_Of.does h1) (o (whole_sign.does h2) f))) (by kernel_rfl)
  · rw [if_neg h0] at h
    obtain ⟨v5, h1, h⟩ := bnd h
    obtain ⟨v6, h2, h⟩ := bnd h
    obtain rfl := Option.some.inj h
    exact Til.fin Tryd.func46 [(2, .b false), (5, ca (.c (.d (L90 v5)))), (6, ca (.agg [.d (.bool v6.1), .d (L90 v6.2)]))] (fun _ f => o (decide_eq_false h0) (o (nat_Of.does h1) (o (whole_sign.does h2) f))) (by kernel_rfl)

theorem ratio_Of.does {k : Nat} {a0 : Int} {r : Bool × List Int × List Int} (h : ratio_Of.f k a0 = some r) :
    Does Tryd.prog 37 [.c (.d (.int .i64 a0))] [] (.agg [.d (.bool r.1), .d (L90 r.2.1), .d (L90 r.2.2)]) none [] := by
  refine does_fn Tryd.func37 (by kernel_rfl) rfl rfl ?_
  unfold ratio_Of.f at h
  obtain ⟨v2, h0, h⟩ := bnd h
  obtain ⟨v3, h1, h⟩ := bnd h
  obtain rfl := Option.some.inj h
  exact Til.fin Tryd.func37 [(2, ca (.agg [.d (.bool v2.1), .d (L90 v2.2)])), (3, ca (.c (.d (L90 v3))))] (fun _ f => o (whole_Of.does h0) (o (nat_Of.does h1) f)) (by kernel_rfl)

theorem report_digits.does {k : Nat} {a0 : Int} {r : ByteArray} (h : report_digits.f k a0 = some r) :
    Does Tryd.prog 22 [.c (.d (.int .i64 a0))] [] (.c (.d (.str r))) none [] := by
  refine does_fn Tryd.func22 (by kernel_rfl) rfl rfl ?_
  unfold report_digits.f at h
  obtain ⟨v2, h0, h⟩ := bnd h
  obtain ⟨v3, h1, h⟩ := bnd h
  obtain rfl := Option.some.inj h
  exact Til.fin Tryd.func22 [(2, ca (.agg [.d (.bool v2.1), .d (L90 v2.2.1), .d (L90 v2.2.2)])), (3, ca (.c (.d (.str v3))))] (fun _ f => o (ratio_Of.does h0) (o (ratio_Print.does h1) f)) (by kernel_rfl)

def report_right.l0E (x49 : List (List (Bool × List Int × List Int))) (x50 : Int) (x51 : Int) : Env := [(49, .c (.d (L47 x49))), (50, .c (.d (.int .i64 x50))), (51, .c (.d (.int .i64 x51)))]
theorem report_right.w (k : Nat) : (∀  (x49 : List (List (Bool × List Int × List Int))) (x50 : Int) (x51 : Int) (r : Bool), report_right.l0 k x49 x50 x51 = some r → Til Tryd.prog 23 [] (.c (.d (.bool r))) none [] (at_ Tryd.f23 4) (report_right.l0E x49 x50 x51) []) := by
  induction k with
  | zero =>
    exact fun _ _ _ _ h => (by cases h)
  | succ k ih =>
    intro x49 x50 x51 r h
    rw [report_right.l0] at h
    by_cases h0 : x51 < x50
    · rw [if_pos h0] at h
      obtain ⟨h1, h⟩ := ifp h
      obtain ⟨h2, h⟩ := ifp h
      by_cases h3 : ((gt [] x49 x51).length : Int) > 1000
      · rw [if_pos h3] at h
        obtain rfl := Option.some.inj h
        exact Til.fin Tryd.func23 [(0, .b true), (6, .b true)] (fun _ f => o (decide_eq_true h0) (o (o h1 h2) (o (decide_eq_true h3) f))) (by kernel_rfl)
      · rw [if_neg h3] at h
        exact Til.mid Tryd.func23 4 [(0, .b true), (6, .b false)] (fun _ f => o (decide_eq_true h0) (o (o h1 h2) (o (decide_eq_false h3) f))) (by kernel_rfl) (ih _ _ _ _ h)
    · rw [if_neg h0] at h
      obtain rfl := Option.some.inj h
      exact Til.fin Tryd.func23 [(0, .b false)] (fun _ f => o (decide_eq_false h0) f) (by kernel_rfl)
theorem report_right.does {k : Nat} {a0_0 : Int} {a0_1 : Int} {a0_2 : Int} {l0_3 : List (List (Bool × List Int × List Int))} {a1 : Int} {r : Bool} (h : report_right.f k a0_0 a0_1 a0_2 l0_3 a1 = some r) :
    Does Tryd.prog 23 [.agg [.d (.int .i64 a0_0), .d (.int .i64 a0_1), .d (.int .i64 a0_2), .d (L47 l0_3)], .c (.d (.int .i64 a1))] [] (.c (.d (.bool r))) none [] := by
  refine does_fn Tryd.func23 (by kernel_rfl) rfl rfl ?_
  unfold report_right.f at h
  have ih := report_right.w k
  by_cases h0 : a0_0 ≠ a1
  · rw [if_pos h0] at h
    obtain rfl := Option.some.inj h
    exact Til.fin Tryd.func23 [(5, .b true)] (fun _ f => o (bne_iff_ne.2 h0) f) (by kernel_rfl)
  · rw [if_neg h0] at h
    by_cases h1 : a0_1 < 0
    · rw [if_pos h1] at h
      obtain rfl := Option.some.inj h
      exact Til.fin Tryd.func23 [(5, .b false), (9, .b true)] (fun _ f => o (ne_f h0) (o (decide_eq_true h1) f)) (by kernel_rfl)
    · rw [if_neg h1] at h
      by_cases h2 : a0_1 > 9
      · rw [if_pos h2] at h
        obtain rfl := Option.some.inj h
        exact Til.fin Tryd.func23 [(5, .b false), (9, .b false), (14, .b true)] (fun _ f => o (ne_f h0) (o (decide_eq_false h1) (o (decide_eq_true h2) f))) (by kernel_rfl)
      · rw [if_neg h2] at h
        by_cases h3 : a0_2 < 0
        · rw [if_pos h3] at h
          obtain rfl := Option.some.inj h
          exact Til.fin Tryd.func23 [(5, .b false), (9, .b false), (14, .b false), (19, .b true)] (fun _ f => o (ne_f h0) (o (decide_eq_false h1) (o (decide_eq_false h2) (o (decide_eq_true h3) f)))) (by kernel_rfl)
        · rw [if_neg h3] at h
          by_cases h4 : a0_2 > 999
          · rw [if_pos h4] at h
            obtain rfl := Option.some.inj h
            exact Til.fin Tryd.func23 [(5, .b false), (9, .b false), (14, .b false), (19, .b false), (24, .b true)] (fun _ f => o (ne_f h0) (o (decide_eq_false h1) (o (decide_eq_false h2) (o (decide_eq_false h3) (o (decide_eq_true h4) f))))) (by kernel_rfl)
          · rw [if_neg h4] at h
            by_cases h5 : a0_2 ≠ 0
            · rw [if_pos h5] at h
              by_cases h6 : (l0_3.length : Int) > 0
              · rw [if_pos h6] at h
                obtain rfl := Option.some.inj h
                exact Til.fin Tryd.func23 [(5, .b false), (9, .b false), (14, .b false), (19, .b false), (24, .b false), (29, .b true), (34, .b true)] (fun _ f => o (ne_f h0) (o (decide_eq_false h1) (o (decide_eq_false h2) (o (decide_eq_false h3) (o (decide_eq_false h4) (o (bne_iff_ne.2 h5) (o (decide_eq_true h6) f))))))) (by kernel_rfl)
              · rw [if_neg h6] at h
                by_cases h7 : (l0_3.length : Int) > 64
                · rw [if_pos h7] at h
                  obtain rfl := Option.some.inj h
                  exact Til.fin Tryd.func23 [(5, .b false), (9, .b false), (14, .b false), (19, .b false), (24, .b false), (29, .b true), (34, .b false), (41, .b true)] (fun _ f => o (ne_f h0) (o (decide_eq_false h1) (o (decide_eq_false h2) (o (decide_eq_false h3) (o (decide_eq_false h4) (o (bne_iff_ne.2 h5) (o (decide_eq_false h6) (o (decide_eq_true h7) f)))))))) (by kernel_rfl)
                · rw [if_neg h7] at h
                  exact Til.mid Tryd.func23 4 [(5, .b false), (9, .b false), (14, .b false), (19, .b false), (24, .b false), (29, .b true), (34, .b false), (41, .b false)] (fun _ f => o (ne_f h0) (o (decide_eq_false h1) (o (decide_eq_false h2) (o (decide_eq_false h3) (o (decide_eq_false h4) (o (bne_iff_ne.2 h5) (o (decide_eq_false h6) (o (decide_eq_false h7) f)))))))) (by kernel_rfl) (ih _ _ _ _ h)
            · rw [if_neg h5] at h
              by_cases h6 : (l0_3.length : Int) > 64
              · rw [if_pos h6] at h
                obtain rfl := Option.some.inj h
                exact Til.fin Tryd.func23 [(5, .b false), (9, .b false), (14, .b false), (19, .b false), (24, .b false), (29, .b false), (41, .b true)] (fun _ f => o (ne_f h0) (o (decide_eq_false h1) (o (decide_eq_false h2) (o (decide_eq_false h3) (o (decide_eq_false h4) (o (ne_f h5) (o (decide_eq_true h6) f))))))) (by kernel_rfl)
              · rw [if_neg h6] at h
                exact Til.mid Tryd.func23 4 [(5, .b false), (9, .b false), (14, .b false), (19, .b false), (24, .b false), (29, .b false), (41, .b false)] (fun _ f => o (ne_f h0) (o (decide_eq_false h1) (o (decide_eq_false h2) (o (decide_eq_false h3) (o (decide_eq_false h4) (o (ne_f h5) (o (decide_eq_false h6) f))))))) (by kernel_rfl) (ih _ _ _ _ h)

def report_Write.l0E (x20 : List (Int × Int × Int × List (List (Bool × List Int × List Int)))) (x21 : Int) (x22 : Int) (b4 : ByteArray) : Env := [(4, .c (.ptr 4 0)), (20, .c (.d (L33 x20))), (21, .c (.d (.int .i64 x21))), (22, .c (.d (.int .i64 x22)))]
def report_Write.l0B (x20 : List (Int × Int × Int × List (List (Bool × List Int × List Int)))) (x21 : Int) (x22 : Int) (b4 : ByteArray) : Obs := [(4, some (.bld b4))]
def report_Write.l1E (x20 : List (Int × Int × Int × List (List (Bool × List Int × List Int)))) (x21 : Int) (x22 : Int) (x59 : List (List (Bool × List Int × List Int))) (x60 : Int) (x61 : Int) (b4 : ByteArray) : Env := [(4, .c (.ptr 4 0)), (20, .c (.d (L33 x20))), (21, .c (.d (.int .i64 x21))), (22, .c (.d (.int .i64 x22))), (59, .c (.d (L47 x59))), (60, .c (.d (.int .i64 x60))), (61, .c (.d (.int .i64 x61)))]
def report_Write.l1B (x20 : List (Int × Int × Int × List (List (Bool × List Int × List Int)))) (x21 : Int) (x22 : Int) (x59 : List (List (Bool × List Int × List Int))) (x60 : Int) (x61 : Int) (b4 : ByteArray) : Obs := [(4, some (.bld b4))]
def report_Write.l2E (x20 : List (Int × Int × Int × List (List (Bool × List Int × List Int)))) (x21 : Int) (x22 : Int) (x59 : List (List (Bool × List Int × List Int))) (x60 : Int) (x61 : Int) (x70 : List (Bool × List Int × List Int)) (x71 : Int) (x72 : Int) (b4 : ByteArray) : Env := [(4, .c (.ptr 4 0)), (20, .c (.d (L33 x20))), (21, .c (.d (.int .i64 x21))), (22, .c (.d (.int .i64 x22))), (59, .c (.d (L47 x59))), (60, .c (.d (.int .i64 x60))), (61, .c (.d (.int .i64 x61))), (70, .c (.d (L55 x70))), (71, .c (.d (.int .i64 x71))), (72, .c (.d (.int .i64 x72)))]
def report_Write.l2B (x20 : List (Int × Int × Int × List (List (Bool × List Int × List Int)))) (x21 : Int) (x22 : Int) (x59 : List (List (Bool × List Int × List Int))) (x60 : Int) (x61 : Int) (x70 : List (Bool × List Int × List Int)) (x71 : Int) (x72 : Int) (b4 : ByteArray) : Obs := [(4, some (.bld b4))]
theorem report_Write.w (k : Nat) : (∀  (x20 : List (Int × Int × Int × List (List (Bool × List Int × List Int)))) (x21 : Int) (x22 : Int) (b4 : ByteArray) (r : ByteArray × Int), report_Write.l0 k x20 x21 x22 b4 = some r → Til Tryd.prog 8 [] (.tup [.c (.d (.str r.1)), .c (.d (.int .i64 r.2))]) none [] (at_ Tryd.f8 6) (report_Write.l0E x20 x21 x22 b4) (report_Write.l0B x20 x21 x22 b4)) ∧
    (∀  (x20 : List (Int × Int × Int × List (List (Bool × List Int × List Int)))) (x21 : Int) (x22 : Int) (x59 : List (List (Bool × List Int × List Int))) (x60 : Int) (x61 : Int) (b4 : ByteArray) (r : ByteArray × Int), report_Write.l1 k x20 x21 x22 x59 x60 x61 b4 = some r → Til Tryd.prog 8 [] (.tup [.c (.d (.str r.1)), .c (.d (.int .i64 r.2))]) none [] (at_ Tryd.f8 15) (report_Write.l1E x20 x21 x22 x59 x60 x61 b4) (report_Write.l1B x20 x21 x22 x59 x60 x61 b4)) ∧
    (∀  (x20 : List (Int × Int × Int × List (List (Bool × List Int × List Int)))) (x21 : Int) (x22 : Int) (x59 : List (List (Bool × List Int × List Int))) (x60 : Int) (x61 : Int) (x70 : List (Bool × List Int × List Int)) (x71 : Int) (x72 : Int) (b4 : ByteArray) (r : ByteArray × Int), report_Write.l2 k x20 x21 x22 x59 x60 x61 x70 x71 x72 b4 = some r → Til Tryd.prog 8 [] (.tup [.c (.d (.str r.1)), .c (.d (.int .i64 r.2))]) none [] (at_ Tryd.f8 19) (report_Write.l2E x20 x21 x22 x59 x60 x61 x70 x71 x72 b4) (report_Write.l2B x20 x21 x22 x59 x60 x61 x70 x71 x72 b4)) := by
  induction k with
  | zero =>
    exact ⟨fun _ _ _ _ _ h => (by cases h), fun _ _ _ _ _ _ _ _ h => (by cases h), fun _ _ _ _ _ _ _ _ _ _ _ h => (by cases h)⟩
  | succ k ih =>
    refine ⟨?_, ?_, ?_⟩
    · intro x20 x21 x22 b4 r h
      rw [report_Write.l0] at h
      by_cases h0 : x22 < x21
      · rw [if_pos h0] at h
        obtain ⟨h1, h⟩ := ifp h
        obtain ⟨h2, h⟩ := ifp h
        obtain ⟨v9, h3, h⟩ := bnd h
        cases v9
        · rw [if_neg (by decide)] at h
          obtain rfl := Option.some.inj h
          exact Til.fin Tryd.func8 [(0, .b true), (9, ca (.c (.d (.bool false))))] (fun _ f => o (decide_eq_true h0) (o (o h1 h2) (o (report_right.does h3) f))) (by kernel_rfl)
        · rw [if_pos rfl] at h
          obtain ⟨v13, h5, h⟩ := bnd h
          obtain ⟨h6, h⟩ := ifp h
          obtain ⟨h7, h⟩ := ifp h
          obtain ⟨v18, h8, h⟩ := bnd h
          obtain ⟨h9, h⟩ := ifp h
          obtain ⟨h10, h⟩ := ifp h
          obtain ⟨v21, h11, h⟩ := bnd h
          by_cases h12 : (gt (0, 0, 0, []) x20 x22).2.2.1 ≠ 0
          · rw [if_pos h12] at h
            obtain ⟨v27, h13, h⟩ := bnd h
            obtain ⟨h14, h⟩ := ifp h
            obtain ⟨h15, h⟩ := ifp h
            obtain ⟨v30, h16, h⟩ := bnd h
            exact Til.mid Tryd.func8 6 [(0, .b true), (9, ca (.c (.d (.bool true)))), (13, ca (.c (.d (.str v13)))), (18, ca (.c (.d (.str v18)))), (21, .call [] [0] (.c (.u)) none [(0, some (.bld v21))] []), (24, .b true), (27, ca (.c (.d (.str v27)))), (30, .call [] [0] (.c (.u)) none [(0, some (.bld v30))] [])] (fun _ f => o (decide_eq_true h0) (o (o h1 h2) (o (report_right.does h3) (o (report_digits.does h5) (o h6 (o h7 (o (report_digits.does h8) (o h9 (o h10 (o (strings_Builder_WriteString.does h11) (o (bne_iff_ne.2 h12) (o (report_digits.does h13) (o h14 (o h15 (o (strings_Builder_WriteString.does h16) f))))))))))))))) (by kernel_rfl) (ih.1 _ _ _ _ _ h)
          · rw [if_neg h12] at h
            obtain ⟨v28, h13, h⟩ := bnd h
            obtain ⟨h14, h⟩ := ifp h
            obtain ⟨h15, h⟩ := ifp h
            obtain ⟨v31, h16, h⟩ := bnd h
            exact Til.mid Tryd.func8 15 [(0, .b true), (9, ca (.c (.d (.bool true)))), (13, ca (.c (.d (.str v13)))), (18, ca (.c (.d (.str v18)))), (21, .call [] [0] (.c (.u)) none [(0, some (.bld v21))] []), (24, .b false), (28, ca (.c (.d (.str v28)))), (31, .call [] [0] (.c (.u)) none [(0, some (.bld v31))] [])] (fun _ f => o (decide_eq_true h0) (o (o h1 h2) (o (report_right.does h3) (o (report_digits.does h5) (o h6 (o h7 (o (report_digits.does h8) (o h9 (o h10 (o (strings_Builder_WriteString.does h11) (o (ne_f h12) (o (report_digits.does h13) (o h14 (o h15 (o (strings_Builder_WriteString.does h16) f))))))))))))))) (by kernel_rfl) (ih.2.1 _ _ _ _ _ _ _ _ h)
      · rw [if_neg h0] at h
        obtain ⟨v1, h1, h⟩ := bnd h
        obtain rfl := Option.some.inj h
        exact Til.fin Tryd.func8 [(0, .b false), (1, .call [] [0] (.c (.d (.str v1.1))) none [(0, some (.bld v1.2))] [])] (fun _ f => o (decide_eq_false h0) (o (strings_Builder_String.does h1) f)) (by kernel_rfl)
    · intro x20 x21 x22 x59 x60 x61 b4 r h
      rw [report_Write.l1] at h
      by_cases h0 : x61 < x60
      · rw [if_pos h0] at h
        obtain ⟨h1, h⟩ := ifp h
        obtain ⟨h2, h⟩ := ifp h
        obtain ⟨v6, h3, h⟩ := bnd h
        obtain ⟨h4, h⟩ := ifp h
        obtain ⟨v8, h5, h⟩ := bnd h
        exact Til.mid Tryd.func8 19 [(0, .b true), (6, ca (.c (.d (.str v6)))), (8, .call [] [0] (.c (.u)) none [(0, some (.bld v8))] [])] (fun _ f => o (decide_eq_true h0) (o (o h1 h2) (o (report_digits.does h3) (o h4 (o (strings_Builder_WriteString.does h5) f))))) (by kernel_rfl) (ih.2.2 _ _ _ _ _ _ _ _ _ _ _ h)
      · rw [if_neg h0] at h
        exact Til.mid Tryd.func8 6 [(0, .b false)] (fun _ f => o (decide_eq_false h0) f) (by kernel_rfl) (ih.1 _ _ _ _ _ h)
    · intro x20 x21 x22 x59 x60 x61 x70 x71 x72 b4 r h
      rw [report_Write.l2] at h
      by_cases h0 : x72 < x71
      · rw [if_pos h0] at h
        obtain ⟨h1, h⟩ := ifp h
        obtain ⟨h2, h⟩ := ifp h
        obtain ⟨v6, h3, h⟩ := bnd h
        obtain ⟨h4, h⟩ := ifp h
        obtain ⟨v8, h5, h⟩ := bnd h
        exact Til.mid Tryd.func8 19 [(0, .b true), (6, ca (.c (.d (.str v6)))), (8, .call [] [0] (.c (.u)) none [(0, some (.bld v8))] [])] (fun _ f => o (decide_eq_true h0) (o (o h1 h2) (o (ratio_Print.does h3) (o h4 (o (strings_Builder_WriteString.does h5) f))))) (by kernel_rfl) (ih.2.2 _ _ _ _ _ _ _ _ _ _ _ h)
      · rw [if_neg h0] at h
        obtain ⟨v1, h1, h⟩ := bnd h
        exact Til.mid Tryd.func8 15 [(0, .b false), (1, .call [] [0] (.c (.u)) none [(0, some (.bld v1))] [])] (fun _ f => o (decide_eq_false h0) (o (strings_Builder_WriteString.does h1) f)) (by kernel_rfl) (ih.2.1 _ _ _ _ _ _ _ _ h)
theorem report_Write.does {k : Nat} {l0 : List (Int × Int × Int × List (List (Bool × List Int × List Int)))} {r : ByteArray × Int} (h : report_Write.f k l0 = some r) :
    Does Tryd.prog 8 [.c (.d (L33 l0))] [] (.tup [.c (.d (.str r.1)), .c (.d (.int .i64 r.2))]) none [] := by
  refine does_fn Tryd.func8 (by kernel_rfl) rfl rfl ?_
  unfold report_Write.f at h
  have ih := report_Write.w k
  by_cases h0 : (l0.length : Int) > 16384
  · rw [if_pos h0] at h
    obtain rfl := Option.some.inj h
    exact Til.fin Tryd.func8 [(4, .b true)] (fun _ f => o (decide_eq_true h0) f) (by kernel_rfl)
  · rw [if_neg h0] at h
    obtain ⟨v8, h1, h⟩ := bnd h
    obtain ⟨h2, h⟩ := ifp h
    obtain ⟨h3, h⟩ := ifp h
    obtain ⟨v11, h4, h⟩ := bnd h
    exact Til.mid Tryd.func8 6 [(4, .b false), (8, ca (.c (.d (.str v8)))), (11, .call [] [0] (.c (.u)) none [(0, some (.bld v11))] [])] (fun _ f => o (decide_eq_false h0) (o (report_digits.does h1) (o h2 (o h3 (o (strings_Builder_WriteString.does h4) f))))) (by kernel_rfl) (ih.1 _ _ _ _ _ h)

theorem whole_Sign.does {k : Nat} {a0_0 : Bool} {l0_1 : List Int} {r : Int} (h : whole_Sign.f k a0_0 l0_1 = some r) :
    Does Tryd.prog 71 [.agg [.d (.bool a0_0), .d (L90 l0_1)]] [] (.c (.d (.int .i64 r))) none [] := by
  refine does_fn Tryd.func71 (by kernel_rfl) rfl rfl ?_
  unfold whole_Sign.f at h
  obtain ⟨v3, h0, h⟩ := bnd h
  by_cases h1 : v3.1 = true
  · rw [if_pos h1] at h
    obtain rfl := Option.some.inj h
    exact Til.fin Tryd.func71 [(3, ca (.agg [.d (.bool v3.1), .d (L90 v3.2)])), (6, .b true)] (fun _ f => o (whole_Clean.does h0) (o h1 f)) (by kernel_rfl)
  · rw [if_neg h1] at h
    by_cases h2 : (v3.2.length : Int) = 0
    · rw [if_pos h2] at h
      obtain rfl := Option.some.inj h
      exact Til.fin Tryd.func71 [(3, ca (.agg [.d (.bool v3.1), .d (L90 v3.2)])), (6, .b false), (11, .b true)] (fun _ f => o (whole_Clean.does h0) (o (Bool.eq_false_iff.2 h1) (o (beq_iff_eq.2 h2) f))) (by kernel_rfl)
    · rw [if_neg h2] at h
      obtain rfl := Option.some.inj h
      exact Til.fin Tryd.func71 [(3, ca (.agg [.d (.bool v3.1), .d (L90 v3.2)])), (6, .b false), (11, .b false)] (fun _ f => o (whole_Clean.does h0) (o (Bool.eq_false_iff.2 h1) (o (beq_false_of_ne h2) f))) (by kernel_rfl)

theorem whole_Neg.does {k : Nat} {a0_0 : Bool} {l0_1 : List Int} {r : Bool × List Int} (h : whole_Neg.f k a0_0 l0_1 = some r) :
    Does Tryd.prog 72 [.agg [.d (.bool a0_0), .d (L90 l0_1)]] [] (.agg [.d (.bool r.1), .d (L90 r.2)]) none [] := by
  refine does_fn Tryd.func72 (by kernel_rfl) rfl rfl ?_
  unfold whole_Neg.f at h
  obtain ⟨v3, h0, h⟩ := bnd h
  obtain ⟨v10, h1, h⟩ := bnd h
  obtain rfl := Option.some.inj h
  exact Til.fin Tryd.func72 [(3, ca (.agg [.d (.bool v3.1), .d (L90 v3.2)])), (10, ca (.agg [.d (.bool v10.1), .d (L90 v10.2)]))] (fun _ f => o (whole_Clean.does h0) (o (whole_sign.does h1) f)) (by kernel_rfl)

theorem ratio_Make.does {k : Nat} {a0_0 : Bool} {l0_1 : List Int} {a1_0 : Bool} {l1_1 : List Int} {r : Bool × List Int × List Int × Int} (h : ratio_Make.f k a0_0 l0_1 a1_0 l1_1 = some r) :
    Does Tryd.prog 45 [.agg [.d (.bool a0_0), .d (L90 l0_1)], .agg [.d (.bool a1_0), .d (L90 l1_1)]] [] (.tup [.agg [.d (.bool r.1), .d (L90 r.2.1), .d (L90 r.2.2.1)], .c (.d (.int .i64 r.2.2.2))]) none [] := by
  refine does_fn Tryd.func45 (by kernel_rfl) rfl rfl ?_
  unfold ratio_Make.f at h
  obtain ⟨v5, h0, h⟩ := bnd h
  obtain ⟨v7, h1, h⟩ := bnd h
  obtain ⟨v11, h2, h⟩ := bnd h
  by_cases h3 : v11 = 0
  · rw [if_pos h3] at h
    obtain rfl := Option.some.inj h
    exact Til.fin Tryd.func45 [(5, ca (.agg [.d (.bool v5.1), .d (L90 v5.2)])), (7, ca (.agg [.d (.bool v7.1), .d (L90 v7.2)])), (11, ca (.c (.d (.int .i64 v11)))), (12, .b true)] (fun _ f => o (whole_Clean.does h0) (o (whole_Clean.does h1) (o (whole_Sign.does h2) (o (beq_iff_eq.2 h3) f)))) (by kernel_rfl)
  · rw [if_neg h3] at h
    by_cases h4 : v7.1 = true
    · rw [if_pos h4] at h
      obtain ⟨v16, h5, h⟩ := bnd h
      obtain ⟨v21, h6, h⟩ := bnd h
      obtain rfl := Option.some.inj h
      exact Til.fin Tryd.func45 [(5, ca (.agg [.d (.bool v5.1), .d (L90 v5.2)])), (7, ca (.agg [.d (.bool v7.1), .d (L90 v7.2)])), (11, ca (.c (.d (.int .i64 v11)))), (12, .b false), (14, .b true), (16, ca (.agg [.d (.bool v16.1), .d (L90 v16.2)])), (21, ca (.agg [.d (.bool v21.1), .d (L90 v21.2.1), .d (L90 v21.2.2)]))] (fun _ f => o (whole_Clean.does h0) (o (whole_Clean.does h1) (o (whole_Sign.does h2) (o (beq_false_of_ne h3) (o h4 (o (whole_Neg.does h5) (o (ratio_form.does h6) f))))))) (by kernel_rfl)
    · rw [if_neg h4] at h
      obtain ⟨v18, h5, h⟩ := bnd h
      obtain rfl := Option.some.inj h
      exact Til.fin Tryd.func45 [(5, ca (.agg [.d (.bool v5.1), .d (L90 v5.2)])), (7, ca (.agg [.d (.bool v7.1), .d (L90 v7.2)])), (11, ca (.c (.d (.int .i64 v11)))), (12, .b false), (14, .b false), (18, ca (.agg [.d (.bool v18.1), .d (L90 v18.2.1), .d (L90 v18.2.2)]))] (fun _ f => o (whole_Clean.does h0) (o (whole_Clean.does h1) (o (whole_Sign.does h2) (o (beq_false_of_ne h3) (o (Bool.eq_false_iff.2 h4) (o (ratio_form.does h5) f)))))) (by kernel_rfl)

theorem ratio_Frac.does {k : Nat} {a0 : Int} {a1 : Int} {r : Bool × List Int × List Int} (h : ratio_Frac.f k a0 a1 = some r) :
    Does Tryd.prog 26 [.c (.d (.int .i64 a0)), .c (.d (.int .i64 a1))] [] (.agg [.d (.bool r.1), .d (L90 r.2.1), .d (L90 r.2.2)]) none [] := by
  refine does_fn Tryd.func26 (by kernel_rfl) rfl rfl ?_
  unfold ratio_Frac.f at h
  obtain ⟨v2, h0, h⟩ := bnd h
  obtain ⟨v4, h1, h⟩ := bnd h
  obtain ⟨v5, h2, h⟩ := bnd h
  obtain ⟨v13, h3, h⟩ := bnd h
  obtain rfl := Option.some.inj h
  exact Til.fin Tryd.func26 [(2, ca (.agg [.d (.bool v2.1), .d (L90 v2.2)])), (4, ca (.agg [.d (.bool v4.1), .d (L90 v4.2)])), (5, ca (.tup [.agg [.d (.bool v5.1), .d (L90 v5.2.1), .d (L90 v5.2.2.1)], .c (.d (.int .i64 v5.2.2.2))])), (13, ca (.agg [.d (.bool v13.1), .d (L90 v13.2.1), .d (L90 v13.2.2)]))] (fun _ f => o (whole_Of.does h0) (o (whole_Of.does h1) (o (ratio_Make.does h2) (o (ratio_Clean.does h3) f)))) (by kernel_rfl)

theorem dendronlaw29_awake.does {k : Nat}  {r : Bool} (h : dendronlaw29_awake.f k = some r) :
    Does Tryd.prog 10 [] [] (.c (.d (.bool r))) none [] := by
  refine does_fn Tryd.func10 (by kernel_rfl) rfl rfl ?_
  unfold dendronlaw29_awake.f at h
  obtain ⟨v1, h0, h⟩ := bnd h
  obtain ⟨v6, h1, h⟩ := bnd h
  by_cases h2 : v6.1 = cst_0edf54b5
  · rw [if_pos h2] at h
    by_cases h3 : v6.2 = 0
    · rw [if_pos h3] at h
      obtain rfl := Option.some.inj h
      exact Til.fin Tryd.func10 [(1, ca (.agg [.d (.bool v1.1), .d (L90 v1.2.1), .d (L90 v1.2.2)])), (2, Z55 ([(v1.1, v1.2.1, v1.2.2)] : List (Bool × List Int × List Int))), (3, Z47 ([([(v1.1, v1.2.1, v1.2.2)] : List (Bool × List Int × List Int))] : List (List (Bool × List Int × List Int)))), (5, Z33 ([(0, 2, 0, ([([(v1.1, v1.2.1, v1.2.2)] : List (Bool × List Int × List Int))] : List (List (Bool × List Int × List Int))))] : List (Int × Int × Int × List (List (Bool × List Int × List Int))))), (6, ca (.tup [.c (.d (.str v6.1)), .c (.d (.int .i64 v6.2))])), (13, .b true), (16, .b true)] (fun _ f => o (ratio_Frac.does h0) (o (lit_ok c55 (false, [], []) ([(v1.1, v1.2.1, v1.2.2)] : List (Bool × List Int × List Int))) (o (lit_ok c47 [] ([([(v1.1, v1.2.1, v1.2.2)] : List (Bool × List Int × List Int))] : List (List (Bool × List Int × List Int)))) (o (lit_ok c33 (0, 0, 0, []) ([(0, 2, 0, ([([(v1.1, v1.2.1, v1.2.2)] : List (Bool × List Int × List Int))] : List (List (Bool × List Int × List Int))))] : List (Int × Int × Int × List (List (Bool × List Int × List Int))))) (o (report_Write.does h1) (o (str_t h2) (o (beq_iff_eq.2 h3) f))))))) (by kernel_rfl)
    · rw [if_neg h3] at h
      obtain rfl := Option.some.inj h
      exact Til.fin Tryd.func10 [(1, ca (.agg [.d (.bool v1.1), .d (L90 v1.2.1), .d (L90 v1.2.2)])), (2, Z55 ([(v1.1, v1.2.1, v1.2.2)] : List (Bool × List Int × List Int))), (3, Z47 ([([(v1.1, v1.2.1, v1.2.2)] : List (Bool × List Int × List Int))] : List (List (Bool × List Int × List Int)))), (5, Z33 ([(0, 2, 0, ([([(v1.1, v1.2.1, v1.2.2)] : List (Bool × List Int × List Int))] : List (List (Bool × List Int × List Int))))] : List (Int × Int × Int × List (List (Bool × List Int × List Int))))), (6, ca (.tup [.c (.d (.str v6.1)), .c (.d (.int .i64 v6.2))])), (13, .b true), (16, .b false)] (fun _ f => o (ratio_Frac.does h0) (o (lit_ok c55 (false, [], []) ([(v1.1, v1.2.1, v1.2.2)] : List (Bool × List Int × List Int))) (o (lit_ok c47 [] ([([(v1.1, v1.2.1, v1.2.2)] : List (Bool × List Int × List Int))] : List (List (Bool × List Int × List Int)))) (o (lit_ok c33 (0, 0, 0, []) ([(0, 2, 0, ([([(v1.1, v1.2.1, v1.2.2)] : List (Bool × List Int × List Int))] : List (List (Bool × List Int × List Int))))] : List (Int × Int × Int × List (List (Bool × List Int × List Int))))) (o (report_Write.does h1) (o (str_t h2) (o (beq_false_of_ne h3) f))))))) (by kernel_rfl)
  · rw [if_neg h2] at h
    obtain rfl := Option.some.inj h
    exact Til.fin Tryd.func10 [(1, ca (.agg [.d (.bool v1.1), .d (L90 v1.2.1), .d (L90 v1.2.2)])), (2, Z55 ([(v1.1, v1.2.1, v1.2.2)] : List (Bool × List Int × List Int))), (3, Z47 ([([(v1.1, v1.2.1, v1.2.2)] : List (Bool × List Int × List Int))] : List (List (Bool × List Int × List Int)))), (5, Z33 ([(0, 2, 0, ([([(v1.1, v1.2.1, v1.2.2)] : List (Bool × List Int × List Int))] : List (List (Bool × List Int × List Int))))] : List (Int × Int × Int × List (List (Bool × List Int × List Int))))), (6, ca (.tup [.c (.d (.str v6.1)), .c (.d (.int .i64 v6.2))])), (13, .b false)] (fun _ f => o (ratio_Frac.does h0) (o (lit_ok c55 (false, [], []) ([(v1.1, v1.2.1, v1.2.2)] : List (Bool × List Int × List Int))) (o (lit_ok c47 [] ([([(v1.1, v1.2.1, v1.2.2)] : List (Bool × List Int × List Int))] : List (List (Bool × List Int × List Int)))) (o (lit_ok c33 (0, 0, 0, []) ([(0, 2, 0, ([([(v1.1, v1.2.1, v1.2.2)] : List (Bool × List Int × List Int))] : List (List (Bool × List Int × List Int))))] : List (Int × Int × Int × List (List (Bool × List Int × List Int))))) (o (report_Write.does h1) (o (str_f h2) f)))))) (by kernel_rfl)

def report_Find.l0E (x1 : Int) (x8 : List (Int × Int × Int × List (List (Bool × List Int × List Int)))) (x9 : Int) (x10 : Int) (b4_0 : Int) (b4_1 : Int) (b4_2 : Int) : Env := [(1, .c (.d (.int .i64 x1))), (4, .c (.ptr 4 0)), (8, .c (.d (L33 x8))), (9, .c (.d (.int .i64 x9))), (10, .c (.d (.int .i64 x10)))]
def report_Find.l0B (x1 : Int) (x8 : List (Int × Int × Int × List (List (Bool × List Int × List Int)))) (x9 : Int) (x10 : Int) (b4_0 : Int) (b4_1 : Int) (b4_2 : Int) : Obs := [(4, some (.box [.d (.int .i64 b4_0), .d (.int .i64 b4_1), .d (.int .i64 b4_2), .nils]))]
theorem report_Find.w (k : Nat) : (∀  (x1 : Int) (x8 : List (Int × Int × Int × List (List (Bool × List Int × List Int)))) (x9 : Int) (x10 : Int) (b4_0 : Int) (b4_1 : Int) (b4_2 : Int) (r : Int × Int × Int × List (List (Bool × List Int × List Int)) × Bool), report_Find.l0 k x1 x8 x9 x10 b4_0 b4_1 b4_2 = some r → Til Tryd.prog 13 [] (.tup [.agg [.d (.int .i64 r.1), .d (.int .i64 r.2.1), .d (.int .i64 r.2.2.1), .d (L47 r.2.2.2.1)], .c (.d (.bool r.2.2.2.2))]) none [] (at_ Tryd.f13 2) (report_Find.l0E x1 x8 x9 x10 b4_0 b4_1 b4_2) (report_Find.l0B x1 x8 x9 x10 b4_0 b4_1 b4_2)) := by
  induction k with
  | zero =>
    exact fun _ _ _ _ _ _ _ _ h => (by cases h)
  | succ k ih =>
    intro x1 x8 x9 x10 b4_0 b4_1 b4_2 r h
    rw [report_Find.l0] at h
    by_cases h0 : x10 < x9
    · rw [if_pos h0] at h
      obtain ⟨h1, h⟩ := ifp h
      obtain ⟨h2, h⟩ := ifp h
      by_cases h3 : (gt (0, 0, 0, []) x8 x10).1 = x1
      · rw [if_pos h3] at h
        obtain rfl := Option.some.inj h
        exact Til.fin Tryd.func13 [(0, .b true), (8, .b true)] (fun _ f => o (decide_eq_true h0) (o (o h1 h2) (o (beq_iff_eq.2 h3) f))) (by kernel_rfl)
      · rw [if_neg h3] at h
        exact Til.mid Tryd.func13 2 [(0, .b true), (8, .b false)] (fun _ f => o (decide_eq_true h0) (o (o h1 h2) (o (beq_false_of_ne h3) f))) (by kernel_rfl) (ih _ _ _ _ _ _ _ _ h)
    · rw [if_neg h0] at h
      obtain rfl := Option.some.inj h
      exact Til.fin Tryd.func13 [(0, .b false)] (fun _ f => o (decide_eq_false h0) f) (by kernel_rfl)
theorem report_Find.does {k : Nat} {l0 : List (Int × Int × Int × List (List (Bool × List Int × List Int)))} {a1 : Int} {r : Int × Int × Int × List (List (Bool × List Int × List Int)) × Bool} (h : report_Find.f k l0 a1 = some r) :
    Does Tryd.prog 13 [.c (.d (L33 l0)), .c (.d (.int .i64 a1))] [] (.tup [.agg [.d (.int .i64 r.1), .d (.int .i64 r.2.1), .d (.int .i64 r.2.2.1), .d (L47 r.2.2.2.1)], .c (.d (.bool r.2.2.2.2))]) none [] := by
  refine does_fn Tryd.func13 (by kernel_rfl) rfl rfl ?_
  unfold report_Find.f at h
  have ih := report_Find.w k
  exact Til.mid Tryd.func13 2 [] (fun _ f => f) (by kernel_rfl) (ih _ _ _ _ _ _ _ _ h)

theorem whole_Cmp.does {k : Nat} {a0_0 : Bool} {l0_1 : List Int} {a1_0 : Bool} {l1_1 : List Int} {r : Int} (h : whole_Cmp.f k a0_0 l0_1 a1_0 l1_1 = some r) :
    Does Tryd.prog 74 [.agg [.d (.bool a0_0), .d (L90 l0_1)], .agg [.d (.bool a1_0), .d (L90 l1_1)]] [] (.c (.d (.int .i64 r))) none [] := by
  refine does_fn Tryd.func74 (by kernel_rfl) rfl rfl ?_
  unfold whole_Cmp.f at h
  obtain ⟨v4, h0, h⟩ := bnd h
  obtain ⟨v6, h1, h⟩ := bnd h
  by_cases h2 : v4.1 ≠ v6.1
  · rw [if_pos h2] at h
    by_cases h3 : v4.1 = true
    · rw [if_pos h3] at h
      obtain rfl := Option.some.inj h
      exact Til.fin Tryd.func74 [(4, ca (.agg [.d (.bool v4.1), .d (L90 v4.2)])), (6, ca (.agg [.d (.bool v6.1), .d (L90 v6.2)])), (13, .b true), (16, .b true)] (fun _ f => o (whole_Clean.does h0) (o (whole_Clean.does h1) (o (nb_t h2) (o h3 f)))) (by kernel_rfl)
    · rw [if_neg h3] at h
      by_cases h4 : v4.1 ≠ v6.1
      · rw [if_pos h4] at h
        obtain rfl := Option.some.inj h
        exact Til.fin Tryd.func74 [(4, ca (.agg [.d (.bool v4.1), .d (L90 v4.2)])), (6, ca (.agg [.d (.bool v6.1), .d (L90 v6.2)])), (13, .b true), (16, .b false), (23, .b true)] (fun _ f => o (whole_Clean.does h0) (o (whole_Clean.does h1) (o (nb_t h2) (o (Bool.eq_false_iff.2 h3) (o (nb_t h4) f))))) (by kernel_rfl)
      · rw [if_neg h4] at h
        by_cases h5 : v4.1 = true
        · rw [if_pos h5] at h
          obtain ⟨v32, h6, h⟩ := bnd h
          obtain rfl := Option.some.inj h
          exact Til.fin Tryd.func74 [(4, ca (.agg [.d (.bool v4.1), .d (L90 v4.2)])), (6, ca (.agg [.d (.bool v6.1), .d (L90 v6.2)])), (13, .b true), (16, .b false), (23, .b false), (26, .b true), (32, ca (.c (.d (.int .i64 v32))))] (fun _ f => o (whole_Clean.does h0) (o (whole_Clean.does h1) (o (nb_t h2) (o (Bool.eq_false_iff.2 h3) (o (nb_f h4) (o h5 (o (nat_Cmp.does h6) f))))))) (by kernel_rfl)
        · rw [if_neg h5] at h
          obtain ⟨v32, h6, h⟩ := bnd h
          obtain rfl := Option.some.inj h
          exact Til.fin Tryd.func74 [(4, ca (.agg [.d (.bool v4.1), .d (L90 v4.2)])), (6, ca (.agg [.d (.bool v6.1), .d (L90 v6.2)])), (13, .b true), (16, .b false), (23, .b false), (26, .b false), (32, ca (.c (.d (.int .i64 v32))))] (fun _ f => o (whole_Clean.does h0) (o (whole_Clean.does h1) (o (nb_t h2) (o (Bool.eq_false_iff.2 h3) (o (nb_f h4) (o (Bool.eq_false_iff.2 h5) (o (nat_Cmp.does h6) f))))))) (by kernel_rfl)
  · rw [if_neg h2] at h
    by_cases h3 : v4.1 ≠ v6.1
    · rw [if_pos h3] at h
      obtain rfl := Option.some.inj h
      exact Til.fin Tryd.func74 [(4, ca (.agg [.d (.bool v4.1), .d (L90 v4.2)])), (6, ca (.agg [.d (.bool v6.1), .d (L90 v6.2)])), (13, .b false), (23, .b true)] (fun _ f => o (whole_Clean.does h0) (o (whole_Clean.does h1) (o (nb_f h2) (o (nb_t h3) f)))) (by kernel_rfl)
    · rw [if_neg h3] at h
      by_cases h4 : v4.1 = true
      · rw [if_pos h4] at h
        obtain ⟨v32, h5, h⟩ := bnd h
        obtain rfl := Option.some.inj h
        exact Til.fin Tryd.func74 [(4, ca (.agg [.d (.bool v4.1), .d (L90 v4.2)])), (6, ca (.agg [.d (.bool v6.1), .d (L90 v6.2)])), (13, .b false), (23, .b false), (26, .b true), (32, ca (.c (.d (.int .i64 v32))))] (fun _ f => o (whole_Clean.does h0) (o (whole_Clean.does h1) (o (nb_f h2) (o (nb_f h3) (o h4 (o (nat_Cmp.does h5) f)))))) (by kernel_rfl)
      · rw [if_neg h4] at h
        obtain ⟨v32, h5, h⟩ := bnd h
        obtain rfl := Option.some.inj h
        exact Til.fin Tryd.func74 [(4, ca (.agg [.d (.bool v4.1), .d (L90 v4.2)])), (6, ca (.agg [.d (.bool v6.1), .d (L90 v6.2)])), (13, .b false), (23, .b false), (26, .b false), (32, ca (.c (.d (.int .i64 v32))))] (fun _ f => o (whole_Clean.does h0) (o (whole_Clean.does h1) (o (nb_f h2) (o (nb_f h3) (o (Bool.eq_false_iff.2 h4) (o (nat_Cmp.does h5) f)))))) (by kernel_rfl)

def nat_Mul.l0E (x1 : List Int) (x5 : List Int) (x21 : List Int) (x22 : Int) (x23 : Int) : Env := [(1, .c (.d (L90 x1))), (5, .c (.own 5)), (21, .c (.d (L90 x21))), (22, .c (.d (.int .i64 x22))), (23, .c (.d (.int .i64 x23)))]
def nat_Mul.l0B (x1 : List Int) (x5 : List Int) (x21 : List Int) (x22 : Int) (x23 : Int) : Obs := [(5, some (O90 .own x5))]
def nat_Mul.l1E (x1 : List Int) (x5 : List Int) (x6 : Int) (x7 : Int) (x8 : Int) (x21 : List Int) (x22 : Int) (x23 : Int) (x28 : List Int) (x29 : Int) (x30 : Int) : Env := [(1, .c (.d (L90 x1))), (5, .c (.own 5)), (6, .c (.d (.int .i64 x6))), (7, .c (.d (.int .u64 x7))), (8, .c (.d (.int .u64 x8))), (21, .c (.d (L90 x21))), (22, .c (.d (.int .i64 x22))), (23, .c (.d (.int .i64 x23))), (28, .c (.d (L90 x28))), (29, .c (.d (.int .i64 x29))), (30, .c (.d (.int .i64 x30)))]
def nat_Mul.l1B (x1 : List Int) (x5 : List Int) (x6 : Int) (x7 : Int) (x8 : Int) (x21 : List Int) (x22 : Int) (x23 : Int) (x28 : List Int) (x29 : Int) (x30 : Int) : Obs := [(5, some (O90 .own x5))]
theorem nat_Mul.w (k : Nat) : (∀  (x1 : List Int) (x5 : List Int) (x21 : List Int) (x22 : Int) (x23 : Int) (r : List Int), nat_Mul.l0 k x1 x5 x21 x22 x23 = some r → Til Tryd.prog 86 [] (.c (.d (L90 r))) none [] (at_ Tryd.f86 4) (nat_Mul.l0E x1 x5 x21 x22 x23) (nat_Mul.l0B x1 x5 x21 x22 x23)) ∧
    (∀  (x1 : List Int) (x5 : List Int) (x6 : Int) (x7 : Int) (x8 : Int) (x21 : List Int) (x22 : Int) (x23 : Int) (x28 : List Int) (x29 : Int) (x30 : Int) (r : List Int), nat_Mul.l1 k x1 x5 x6 x7 x8 x21 x22 x23 x28 x29 x30 = some r → Til Tryd.prog 86 [] (.c (.d (L90 r))) none [] (at_ Tryd.f86 8) (nat_Mul.l1E x1 x5 x6 x7 x8 x21 x22 x23 x28 x29 x30) (nat_Mul.l1B x1 x5 x6 x7 x8 x21 x22 x23 x28 x29 x30)) := by
  induction k with
  | zero =>
    exact ⟨fun _ _ _ _ _ _ h => (by cases h), fun _ _ _ _ _ _ _ _ _ _ _ _ h => (by cases h)⟩
  | succ k ih =>
    refine ⟨?_, ?_⟩
    · intro x1 x5 x21 x22 x23 r h
      rw [nat_Mul.l0] at h
      by_cases h0 : x23 < x22
      · rw [if_pos h0] at h
        obtain ⟨h1, h⟩ := ifp h
        obtain ⟨h2, h⟩ := ifp h
        exact Til.mid Tryd.func86 8 [(0, .b true)] (fun _ f => o (decide_eq_true h0) (o (o h1 h2) f)) (by kernel_rfl) (ih.2 _ _ _ _ _ _ _ _ _ _ _ _ h)
      · rw [if_neg h0] at h
        obtain ⟨v2, h1, h⟩ := bnd h
        obtain rfl := Option.some.inj h
        exact Til.fin Tryd.func86 [(0, .b false), (2, ca (.c (.d (L90 v2))))] (fun _ f => o (decide_eq_false h0) (o (nat_trim.does h1) f)) (by kernel_rfl)
    · intro x1 x5 x6 x7 x8 x21 x22 x23 x28 x29 x30 r h
      rw [nat_Mul.l1] at h
      by_cases h0 : x30 < x29
      · rw [if_pos h0] at h
        obtain ⟨h1, h⟩ := ifp h
        obtain ⟨h2, h⟩ := ifp h
        obtain ⟨h3, h⟩ := ifp h
        obtain ⟨h4, h⟩ := ifp h
        exact Til.mid Tryd.func86 8 [(0, .b true), (26, Z90 (x5.set (((wrap64 (x6 + x30)) : Int).toNat) (Go.bits .and .u64 (IntKind.u64.wrap (x8 + (IntKind.u64.wrap ((rd x5 (wrap64 (x6 + x30))) + (IntKind.u64.wrap (x7 * (rd x28 x30))))))) 4294967295)))] (fun _ f => o (decide_eq_true h0) (o (o h1 h2) (o (o h3 h4) (o (o h3 h4) (o (set_ok c90 0 (fun _ _ => rfl) x5 (((wrap64 (x6 + x30)) : Int).toNat) (Go.bits .and .u64 (IntKind.u64.wrap (x8 + (IntKind.u64.wrap ((rd x5 (wrap64 (x6 + x30))) + (IntKind.u64.wrap (x7 * (rd x28 x30))))))) 4294967295) (lt_ok h3 h4)) (o (nn 32) f)))))) (by kernel_rfl) (ih.2 _ _ _ _ _ _ _ _ _ _ _ _ h)
      · rw [if_neg h0] at h
        obtain ⟨h1, h⟩ := ifp h
        obtain ⟨h2, h⟩ := ifp h
        exact Til.mid Tryd.func86 4 [(0, .b false), (8, Z90 (x5.set (((wrap64 (x6 + (x1.length : Int))) : Int).toNat) x8))] (fun _ f => o (decide_eq_false h0) (o (o h1 h2) (o (set_ok c90 0 (fun _ _ => rfl) x5 (((wrap64 (x6 + (x1.length : Int))) : Int).toNat) x8 (lt_ok h1 h2)) f))) (by kernel_rfl) (ih.1 _ _ _ _ _ _ h)
theorem nat_Mul.does {k : Nat} {l0 : List Int} {l1 : List Int} {r : List Int} (h : nat_Mul.f k l0 l1 = some r) :
    Does Tryd.prog 86 [.c (.d (L90 l0)), .c (.d (L90 l1))] [] (.c (.d (L90 r))) none [] := by
  refine does_fn Tryd.func86 (by kernel_rfl) rfl rfl ?_
  unfold nat_Mul.f at h
  have ih := nat_Mul.w k
  obtain ⟨v2, h0, h⟩ := bnd h
  obtain ⟨v4, h1, h⟩ := bnd h
  obtain ⟨h2, h⟩ := ifp h
  obtain ⟨h3, h⟩ := ifp h
  exact Til.mid Tryd.func86 4 [(2, ca (.c (.d (L90 v2)))), (4, ca (.c (.d (L90 v4)))), (12, Z90 (List.replicate (((wrap64 ((v2.length : Int) + (v4.length : Int))) : Int).toNat) 0 : List Int))] (fun _ f => o (nat_Clean.does h0) (o (nat_Clean.does h1) (o (make_ok c90 0 [.int .u64 0] ⟨.refl _, trivial⟩ (wrap64 ((v2.length : Int) + (v4.length : Int))) 8 35184372088832 (by decide) h2 h3) f))) (by kernel_rfl) (ih.1 _ _ _ _ _ _ h)

theorem whole_Mul.does {k : Nat} {a0_0 : Bool} {l0_1 : List Int} {a1_0 : Bool} {l1_1 : List Int} {r : Bool × List Int} (h : whole_Mul.f k a0_0 l0_1 a1_0 l1_1 = some r) :
    Does Tryd.prog 75 [.agg [.d (.bool a0_0), .d (L90 l0_1)], .agg [.d (.bool a1_0), .d (L90 l1_1)]] [] (.agg [.d (.bool r.1), .d (L90 r.2)]) none [] := by
  refine does_fn Tryd.func75 (by kernel_rfl) rfl rfl ?_
  unfold whole_Mul.f at h
  obtain ⟨v4, h0, h⟩ := bnd h
  obtain ⟨v6, h1, h⟩ := bnd h
  obtain ⟨v18, h2, h⟩ := bnd h
  obtain ⟨v19, h3, h⟩ := bnd h
  obtain rfl := Option.some.inj h
  exact Til.fin Tryd.func75 [(4, ca (.agg [.d (.bool v4.1), .d (L90 v4.2)])), (6, ca (.agg [.d (.bool v6.1), .d (L90 v6.2)])), (18, ca (.c (.d (L90 v18)))), (19, ca (.agg [.d (.bool v19.1), .d (L90 v19.2)]))] (fun _ f => o (whole_Clean.does h0) (o (whole_Clean.does h1) (o (nat_Mul.does h2) (o (whole_sign.does h3) f)))) (by kernel_rfl)

theorem ratio_den.does {a0_0 : Bool} {l0_1 : List Int} {l0_2 : List Int} {r : Bool × List Int} (h : ratio_den.f a0_0 l0_1 l0_2 = some r) :
    Does Tryd.prog 76 [.agg [.d (.bool a0_0), .d (L90 l0_1), .d (L90 l0_2)]] [] (.agg [.d (.bool r.1), .d (L90 r.2)]) none [] := by
  refine does_fn Tryd.func76 (by kernel_rfl) rfl rfl ?_
  unfold ratio_den.f at h
  obtain rfl := Option.some.inj h
  exact Til.fin Tryd.func76 [] (fun _ f => f) (by kernel_rfl)

theorem ratio_Cmp.does {k : Nat} {a0_0 : Bool} {l0_1 : List Int} {l0_2 : List Int} {a1_0 : Bool} {l1_1 : List Int} {l1_2 : List Int} {r : Int} (h : ratio_Cmp.f k a0_0 l0_1 l0_2 a1_0 l1_1 l1_2 = some r) :
    Does Tryd.prog 47 [.agg [.d (.bool a0_0), .d (L90 l0_1), .d (L90 l0_2)], .agg [.d (.bool a1_0), .d (L90 l1_1), .d (L90 l1_2)]] [] (.c (.d (.int .i64 r))) none [] := by
  refine does_fn Tryd.func47 (by kernel_rfl) rfl rfl ?_
  unfold ratio_Cmp.f at h
  obtain ⟨v4, h0, h⟩ := bnd h
  obtain ⟨v6, h1, h⟩ := bnd h
  obtain ⟨v12, h2, h⟩ := bnd h
  obtain ⟨v13, h3, h⟩ := bnd h
  obtain ⟨v17, h4, h⟩ := bnd h
  obtain ⟨v18, h5, h⟩ := bnd h
  obtain ⟨v19, h6, h⟩ := bnd h
  obtain rfl := Option.some.inj h
  exact Til.fin Tryd.func47 [(4, ca (.agg [.d (.bool v4.1), .d (L90 v4.2.1), .d (L90 v4.2.2)])), (6, ca (.agg [.d (.bool v6.1), .d (L90 v6.2.1), .d (L90 v6.2.2)])), (12, ca (.agg [.d (.bool v12.1), .d (L90 v12.2)])), (13, ca (.agg [.d (.bool v13.1), .d (L90 v13.2)])), (17, ca (.agg [.d (.bool v17.1), .d (L90 v17.2)])), (18, ca (.agg [.d (.bool v18.1), .d (L90 v18.2)])), (19, ca (.c (.d (.int .i64 v19))))] (fun _ f => o (ratio_Clean.does h0) (o (ratio_Clean.does h1) (o (ratio_den.does h2) (o (whole_Mul.does h3) (o (ratio_den.does h4) (o (whole_Mul.does h5) (o (whole_Cmp.does h6) f))))))) (by kernel_rfl)

theorem ratio_Same.does {k : Nat} {a0_0 : Bool} {l0_1 : List Int} {l0_2 : List Int} {a1_0 : Bool} {l1_1 : List Int} {l1_2 : List Int} {r : Bool} (h : ratio_Same.f k a0_0 l0_1 l0_2 a1_0 l1_1 l1_2 = some r) :
    Does Tryd.prog 27 [.agg [.d (.bool a0_0), .d (L90 l0_1), .d (L90 l0_2)], .agg [.d (.bool a1_0), .d (L90 l1_1), .d (L90 l1_2)]] [] (.c (.d (.bool r))) none [] := by
  refine does_fn Tryd.func27 (by kernel_rfl) rfl rfl ?_
  unfold ratio_Same.f at h
  obtain ⟨v5, h0, h⟩ := bnd h
  obtain rfl := Option.some.inj h
  exact Til.fin Tryd.func27 [(5, ca (.c (.d (.int .i64 v5))))] (fun _ f => o (ratio_Cmp.does h0) f) (by kernel_rfl)

def report_Same.l0E (x38 : List (List (Bool × List Int × List Int))) (x39 : Int) (x40 : Int) (b3_0 : Int) (b3_1 : Int) (b3_2 : Int) (b3_3 : List (List (Bool × List Int × List Int))) : Env := [(3, .c (.ptr 3 0)), (38, .c (.d (L47 x38))), (39, .c (.d (.int .i64 x39))), (40, .c (.d (.int .i64 x40)))]
def report_Same.l0B (x38 : List (List (Bool × List Int × List Int))) (x39 : Int) (x40 : Int) (b3_0 : Int) (b3_1 : Int) (b3_2 : Int) (b3_3 : List (List (Bool × List Int × List Int))) : Obs := [(3, some (.box [.d (.int .i64 b3_0), .d (.int .i64 b3_1), .d (.int .i64 b3_2), .d (L47 b3_3)]))]
def report_Same.l1E (x5 : Int) (x38 : List (List (Bool × List Int × List Int))) (x39 : Int) (x40 : Int) (x54 : List (Bool × List Int × List Int)) (x55 : Int) (x56 : Int) (b3_0 : Int) (b3_1 : Int) (b3_2 : Int) (b3_3 : List (List (Bool × List Int × List Int))) : Env := [(3, .c (.ptr 3 0)), (5, .c (.d (.int .i64 x5))), (38, .c (.d (L47 x38))), (39, .c (.d (.int .i64 x39))), (40, .c (.d (.int .i64 x40))), (54, .c (.d (L55 x54))), (55, .c (.d (.int .i64 x55))), (56, .c (.d (.int .i64 x56)))]
def report_Same.l1B (x5 : Int) (x38 : List (List (Bool × List Int × List Int))) (x39 : Int) (x40 : Int) (x54 : List (Bool × List Int × List Int)) (x55 : Int) (x56 : Int) (b3_0 : Int) (b3_1 : Int) (b3_2 : Int) (b3_3 : List (List (Bool × List Int × List Int))) : Obs := [(3, some (.box [.d (.int .i64 b3_0), .d (.int .i64 b3_1), .d (.int .i64 b3_2), .d (L47 b3_3)]))]
theorem report_Same.w (k : Nat) : (∀  (x38 : List (List (Bool × List Int × List Int))) (x39 : Int) (x40 : Int) (b3_0 : Int) (b3_1 : Int) (b3_2 : Int) (b3_3 : List (List (Bool × List Int × List Int))) (r : Bool), report_Same.l0 k x38 x39 x40 b3_0 b3_1 b3_2 b3_3 = some r → Til Tryd.prog 14 [] (.c (.d (.bool r))) none [] (at_ Tryd.f14 4) (report_Same.l0E x38 x39 x40 b3_0 b3_1 b3_2 b3_3) (report_Same.l0B x38 x39 x40 b3_0 b3_1 b3_2 b3_3)) ∧
    (∀  (x5 : Int) (x38 : List (List (Bool × List Int × List Int))) (x39 : Int) (x40 : Int) (x54 : List (Bool × List Int × List Int)) (x55 : Int) (x56 : Int) (b3_0 : Int) (b3_1 : Int) (b3_2 : Int) (b3_3 : List (List (Bool × List Int × List Int))) (r : Bool), report_Same.l1 k x5 x38 x39 x40 x54 x55 x56 b3_0 b3_1 b3_2 b3_3 = some r → Til Tryd.prog 14 [] (.c (.d (.bool r))) none [] (at_ Tryd.f14 9) (report_Same.l1E x5 x38 x39 x40 x54 x55 x56 b3_0 b3_1 b3_2 b3_3) (report_Same.l1B x5 x38 x39 x40 x54 x55 x56 b3_0 b3_1 b3_2 b3_3)) := by
  induction k with
  | zero =>
    exact ⟨fun _ _ _ _ _ _ _ _ h => (by cases h), fun _ _ _ _ _ _ _ _ _ _ _ _ h => (by cases h)⟩
  | succ k ih =>
    refine ⟨?_, ?_⟩
    · intro x38 x39 x40 b3_0 b3_1 b3_2 b3_3 r h
      rw [report_Same.l0] at h
      by_cases h0 : x40 < x39
      · rw [if_pos h0] at h
        obtain ⟨h1, h⟩ := ifp h
        obtain ⟨h2, h⟩ := ifp h
        obtain ⟨h3, h⟩ := ifp h
        by_cases h4 : ((gt [] x38 x40).length : Int) ≠ ((gt [] b3_3 x40).length : Int)
        · rw [if_pos h4] at h
          obtain rfl := Option.some.inj h
          exact Til.fin Tryd.func14 [(0, .b true), (14, .b true)] (fun _ f => o (decide_eq_true h0) (o (o h1 h2) (o (o h1 h3) (o (bne_iff_ne.2 h4) f)))) (by kernel_rfl)
        · rw [if_neg h4] at h
          exact Til.mid Tryd.func14 9 [(0, .b true), (14, .b false)] (fun _ f => o (decide_eq_true h0) (o (o h1 h2) (o (o h1 h3) (o (ne_f h4) f)))) (by kernel_rfl) (ih.2 _ _ _ _ _ _ _ _ _ _ _ _ h)
      · rw [if_neg h0] at h
        obtain rfl := Option.some.inj h
        exact Til.fin Tryd.func14 [(0, .b false)] (fun _ f => o (decide_eq_false h0) f) (by kernel_rfl)
    · intro x5 x38 x39 x40 x54 x55 x56 b3_0 b3_1 b3_2 b3_3 r h
      rw [report_Same.l1] at h
      by_cases h0 : x56 < x55
      · rw [if_pos h0] at h
        obtain ⟨h1, h⟩ := ifp h
        obtain ⟨h2, h⟩ := ifp h
        obtain ⟨h3, h⟩ := ifp h
        obtain ⟨h4, h⟩ := ifp h
        obtain ⟨h5, h⟩ := ifp h
        obtain ⟨v16, h6, h⟩ := bnd h
        cases v16
        · rw [if_neg (by decide)] at h
          obtain rfl := Option.some.inj h
          exact Til.fin Tryd.func14 [(0, .b true), (16, ca (.c (.d (.bool false))))] (fun _ f => o (decide_eq_true h0) (o (o h1 h2) (o (o h3 h4) (o (o h1 h5) (o (ratio_Same.does h6) f))))) (by kernel_rfl)
        · rw [if_pos rfl] at h
          exact Til.mid Tryd.func14 9 [(0, .b true), (16, ca (.c (.d (.bool true))))] (fun _ f => o (decide_eq_true h0) (o (o h1 h2) (o (o h3 h4) (o (o h1 h5) (o (ratio_Same.does h6) f))))) (by kernel_rfl) (ih.2 _ _ _ _ _ _ _ _ _ _ _ _ h)
      · rw [if_neg h0] at h
        exact Til.mid Tryd.func14 4 [(0, .b false)] (fun _ f => o (decide_eq_false h0) f) (by kernel_rfl) (ih.1 _ _ _ _ _ _ _ _ h)
theorem report_Same.does {k : Nat} {a0_0 : Int} {a0_1 : Int} {a0_2 : Int} {l0_3 : List (List (Bool × List Int × List Int))} {a1_0 : Int} {a1_1 : Int} {a1_2 : Int} {l1_3 : List (List (Bool × List Int × List Int))} {r : Bool} (h : report_Same.f k a0_0 a0_1 a0_2 l0_3 a1_0 a1_1 a1_2 l1_3 = some r) :
    Does Tryd.prog 14 [.agg [.d (.int .i64 a0_0), .d (.int .i64 a0_1), .d (.int .i64 a0_2), .d (L47 l0_3)], .agg [.d (.int .i64 a1_0), .d (.int .i64 a1_1), .d (.int .i64 a1_2), .d (L47 l1_3)]] [] (.c (.d (.bool r))) none [] := by
  refine does_fn Tryd.func14 (by kernel_rfl) rfl rfl ?_
  unfold report_Same.f at h
  have ih := report_Same.w k
  by_cases h0 : a0_0 ≠ a1_0
  · rw [if_pos h0] at h
    obtain rfl := Option.some.inj h
    exact Til.fin Tryd.func14 [(7, .b true)] (fun _ f => o (bne_iff_ne.2 h0) f) (by kernel_rfl)
  · rw [if_neg h0] at h
    by_cases h1 : a0_1 ≠ a1_1
    · rw [if_pos h1] at h
      obtain rfl := Option.some.inj h
      exact Til.fin Tryd.func14 [(7, .b false), (13, .b true)] (fun _ f => o (ne_f h0) (o (bne_iff_ne.2 h1) f)) (by kernel_rfl)
    · rw [if_neg h1] at h
      by_cases h2 : a0_2 ≠ a1_2
      · rw [if_pos h2] at h
        obtain rfl := Option.some.inj h
        exact Til.fin Tryd.func14 [(7, .b false), (13, .b false), (20, .b true)] (fun _ f => o (ne_f h0) (o (ne_f h1) (o (bne_iff_ne.2 h2) f))) (by kernel_rfl)
      · rw [if_neg h2] at h
        by_cases h3 : (l0_3.length : Int) ≠ (l1_3.length : Int)
        · rw [if_pos h3] at h
          obtain rfl := Option.some.inj h
          exact Til.fin Tryd.func14 [(7, .b false), (13, .b false), (20, .b false), (29, .b true)] (fun _ f => o (ne_f h0) (o (ne_f h1) (o (ne_f h2) (o (bne_iff_ne.2 h3) f)))) (by kernel_rfl)
        · rw [if_neg h3] at h
          exact Til.mid Tryd.func14 4 [(7, .b false), (13, .b false), (20, .b false), (29, .b false)] (fun _ f => o (ne_f h0) (o (ne_f h1) (o (ne_f h2) (o (ne_f h3) f)))) (by kernel_rfl) (ih.1 _ _ _ _ _ _ _ _ h)

def c3 (x : Int) : List Dat := [.int .i64 x]
def L3 (xs : List Int) : Dat := fr 1 c3 0 xs
def Z3 (xs : List Int) : Sup := .r xs.length (enc c3 0 xs)
def O3 (k : RK) (xs : List Int) : Ob := .row k 3 1 xs.length (enc c3 0 xs)

def dendronref01_Order.l0E (x0 : List Int) (x1 : List Int) (x5 : Int) : Env := [(0, .c (.d (L3 x0))), (1, .c (.d (L3 x1))), (5, .c (.d (.int .i64 x5)))]
theorem dendronref01_Order.w (k : Nat) : (∀  (x0 : List Int) (x1 : List Int) (x5 : Int) (r : Int), dendronref01_Order.l0 k x0 x1 x5 = some r → Til Tryd.prog 77 [] (.c (.d (.int .i64 r))) none [] (at_ Tryd.f77 6) (dendronref01_Order.l0E x0 x1 x5) []) := by
  induction k with
  | zero =>
    exact fun _ _ _ _ h => (by cases h)
  | succ k ih =>
    intro x0 x1 x5 r h
    rw [dendronref01_Order.l0] at h
    by_cases h0 : x5 ≥ 0
    · rw [if_pos h0] at h
      obtain ⟨h1, h⟩ := ifp h
      obtain ⟨h2, h⟩ := ifp h
      by_cases h3 : (rd x0 x5) < (rd x1 x5)
      · rw [if_pos h3] at h
        obtain rfl := Option.some.inj h
        exact Til.fin Tryd.func77 [(1, .b true), (10, .b true)] (fun _ f => o (decide_eq_true h0) (o (o h0 h1) (o (o h0 h2) (o (decide_eq_true h3) f)))) (by kernel_rfl)
      · rw [if_neg h3] at h
        by_cases h4 : (rd x0 x5) > (rd x1 x5)
        · rw [if_pos h4] at h
          obtain rfl := Option.some.inj h
          exact Til.fin Tryd.func77 [(1, .b true), (10, .b false), (19, .b true)] (fun _ f => o (decide_eq_true h0) (o (o h0 h1) (o (o h0 h2) (o (decide_eq_false h3) (o (o h0 h1) (o (o h0 h2) (o (decide_eq_true h4) f))))))) (by kernel_rfl)
        · rw [if_neg h4] at h
          exact Til.mid Tryd.func77 6 [(1, .b true), (10, .b false), (19, .b false)] (fun _ f => o (decide_eq_true h0) (o (o h0 h1) (o (o h0 h2) (o (decide_eq_false h3) (o (o h0 h1) (o (o h0 h2) (o (decide_eq_false h4) f))))))) (by kernel_rfl) (ih _ _ _ _ h)
    · rw [if_neg h0] at h
      obtain rfl := Option.some.inj h
      exact Til.fin Tryd.func77 [(1, .b false)] (fun _ f => o (decide_eq_false h0) f) (by kernel_rfl)
theorem dendronref01_Order.does {k : Nat} {l0 : List Int} {l1 : List Int} {r : Int} (h : dendronref01_Order.f k l0 l1 = some r) :
    Does Tryd.prog 77 [.c (.d (L3 l0)), .c (.d (L3 l1))] [] (.c (.d (.int .i64 r))) none [] := by
  refine does_fn Tryd.func77 (by kernel_rfl) rfl rfl ?_
  unfold dendronref01_Order.f at h
  have ih := dendronref01_Order.w k
  by_cases h0 : (l0.length : Int) ≠ (l1.length : Int)
  · rw [if_pos h0] at h
    by_cases h1 : (l0.length : Int) < (l1.length : Int)
    · rw [if_pos h1] at h
      obtain rfl := Option.some.inj h
      exact Til.fin Tryd.func77 [(5, .b true), (10, .b true)] (fun _ f => o (bne_iff_ne.2 h0) (o (decide_eq_true h1) f)) (by kernel_rfl)
    · rw [if_neg h1] at h
      obtain rfl := Option.some.inj h
      exact Til.fin Tryd.func77 [(5, .b true), (10, .b false)] (fun _ f => o (bne_iff_ne.2 h0) (o (decide_eq_false h1) f)) (by kernel_rfl)
  · rw [if_neg h0] at h
    exact Til.mid Tryd.func77 6 [(5, .b false)] (fun _ f => o (ne_f h0) f) (by kernel_rfl) (ih _ _ _ _ h)

theorem dendronref02_Order.does {k : Nat} {a0_0 : Bool} {l0_1 : List Int} {a1_0 : Bool} {l1_1 : List Int} {r : Int} (h : dendronref02_Order.f k a0_0 l0_1 a1_0 l1_1 = some r) :
    Does Tryd.prog 48 [.agg [.d (.bool a0_0), .d (L3 l0_1)], .agg [.d (.bool a1_0), .d (L3 l1_1)]] [] (.c (.d (.int .i64 r))) none [] := by
  refine does_fn Tryd.func48 (by kernel_rfl) rfl rfl ?_
  unfold dendronref02_Order.f at h
  by_cases h0 : a0_0 = true
  · rw [if_pos h0] at h
    by_cases h1 : a1_0 = true
    · rw [if_pos h1] at h
      by_cases h2 : a0_0 = true
      · rw [if_pos h2] at h
        by_cases h3 : a0_0 = true
        · rw [if_pos h3] at h
          obtain ⟨v23, h4, h⟩ := bnd h
          obtain rfl := Option.some.inj h
          exact Til.fin Tryd.func48 [(4, .b true), (7, .b true), (11, .b true), (18, .b true), (23, ca (.c (.d (.int .i64 v23))))] (fun _ f => o h0 (o h1 (o h2 (o h3 (o (dendronref01_Order.does h4) f))))) (by kernel_rfl)
        · rw [if_neg h3] at h
          obtain ⟨v23, h4, h⟩ := bnd h
          obtain rfl := Option.some.inj h
          exact Til.fin Tryd.func48 [(4, .b true), (7, .b true), (11, .b true), (18, .b false), (23, ca (.c (.d (.int .i64 v23))))] (fun _ f => o h0 (o h1 (o h2 (o (Bool.eq_false_iff.2 h3) (o (dendronref01_Order.does h4) f))))) (by kernel_rfl)
      · rw [if_neg h2] at h
        by_cases h3 : a1_0 = true
        · rw [if_pos h3] at h
          obtain rfl := Option.some.inj h
          exact Til.fin Tryd.func48 [(4, .b true), (7, .b true), (11, .b false), (15, .b true)] (fun _ f => o h0 (o h1 (o (Bool.eq_false_iff.2 h2) (o h3 f)))) (by kernel_rfl)
        · rw [if_neg h3] at h
          by_cases h4 : a0_0 = true
          · rw [if_pos h4] at h
            obtain ⟨v23, h5, h⟩ := bnd h
            obtain rfl := Option.some.inj h
            exact Til.fin Tryd.func48 [(4, .b true), (7, .b true), (11, .b false), (15, .b false), (18, .b true), (23, ca (.c (.d (.int .i64 v23))))] (fun _ f => o h0 (o h1 (o (Bool.eq_false_iff.2 h2) (o (Bool.eq_false_iff.2 h3) (o h4 (o (dendronref01_Order.does h5) f)))))) (by kernel_rfl)
          · rw [if_neg h4] at h
            obtain ⟨v23, h5, h⟩ := bnd h
            obtain rfl := Option.some.inj h
            exact Til.fin Tryd.func48 [(4, .b true), (7, .b true), (11, .b false), (15, .b false), (18, .b false), (23, ca (.c (.d (.int .i64 v23))))] (fun _ f => o h0 (o h1 (o (Bool.eq_false_iff.2 h2) (o (Bool.eq_false_iff.2 h3) (o (Bool.eq_false_iff.2 h4) (o (dendronref01_Order.does h5) f)))))) (by kernel_rfl)
    · rw [if_neg h1] at h
      obtain rfl := Option.some.inj h
      exact Til.fin Tryd.func48 [(4, .b true), (7, .b false)] (fun _ f => o h0 (o (Bool.eq_false_iff.2 h1) f)) (by kernel_rfl)
  · rw [if_neg h0] at h
    by_cases h1 : a0_0 = true
    · rw [if_pos h1] at h
      by_cases h2 : a0_0 = true
      · rw [if_pos h2] at h
        obtain ⟨v23, h3, h⟩ := bnd h
        obtain rfl := Option.some.inj h
        exact Til.fin Tryd.func48 [(4, .b false), (11, .b true), (18, .b true), (23, ca (.c (.d (.int .i64 v23))))] (fun _ f => o (Bool.eq_false_iff.2 h0) (o h1 (o h2 (o (dendronref01_Order.does h3) f)))) (by kernel_rfl)
      · rw [if_neg h2] at h
        obtain ⟨v23, h3, h⟩ := bnd h
        obtain rfl := Option.some.inj h
        exact Til.fin Tryd.func48 [(4, .b false), (11, .b true), (18, .b false), (23, ca (.c (.d (.int .i64 v23))))] (fun _ f => o (Bool.eq_false_iff.2 h0) (o h1 (o (Bool.eq_false_iff.2 h2) (o (dendronref01_Order.does h3) f)))) (by kernel_rfl)
    · rw [if_neg h1] at h
      by_cases h2 : a1_0 = true
      · rw [if_pos h2] at h
        obtain rfl := Option.some.inj h
        exact Til.fin Tryd.func48 [(4, .b false), (11, .b false), (15, .b true)] (fun _ f => o (Bool.eq_false_iff.2 h0) (o (Bool.eq_false_iff.2 h1) (o h2 f))) (by kernel_rfl)
      · rw [if_neg h2] at h
        by_cases h3 : a0_0 = true
        · rw [if_pos h3] at h
          obtain ⟨v23, h4, h⟩ := bnd h
          obtain rfl := Option.some.inj h
          exact Til.fin Tryd.func48 [(4, .b false), (11, .b false), (15, .b false), (18, .b true), (23, ca (.c (.d (.int .i64 v23))))] (fun _ f => o (Bool.eq_false_iff.2 h0) (o (Bool.eq_false_iff.2 h1) (o (Bool.eq_false_iff.2 h2) (o h3 (o (dendronref01_Order.does h4) f))))) (by kernel_rfl)
        · rw [if_neg h3] at h
          obtain ⟨v23, h4, h⟩ := bnd h
          obtain rfl := Option.some.inj h
          exact Til.fin Tryd.func48 [(4, .b false), (11, .b false), (15, .b false), (18, .b false), (23, ca (.c (.d (.int .i64 v23))))] (fun _ f => o (Bool.eq_false_iff.2 h0) (o (Bool.eq_false_iff.2 h1) (o (Bool.eq_false_iff.2 h2) (o (Bool.eq_false_iff.2 h3) (o (dendronref01_Order.does h4) f))))) (by kernel_rfl)

theorem dendronref02_Make.does {a0 : Bool} {l1 : List Int} {r : Bool × List Int} (h : dendronref02_Make.f a0 l1 = some r) :
    Does Tryd.prog 78 [.c (.d (.bool a0)), .c (.d (L3 l1))] [] (.agg [.d (.bool r.1), .d (L3 r.2)]) none [] := by
  refine does_fn Tryd.func78 (by kernel_rfl) rfl rfl ?_
  unfold dendronref02_Make.f at h
  by_cases h0 : a0 = true
  · rw [if_pos h0] at h
    obtain rfl := Option.some.inj h
    exact Til.fin Tryd.func78 [(1, .b true)] (fun _ f => o h0 f) (by kernel_rfl)
  · rw [if_neg h0] at h
    obtain rfl := Option.some.inj h
    exact Til.fin Tryd.func78 [(1, .b false)] (fun _ f => o (Bool.eq_false_iff.2 h0) f) (by kernel_rfl)

def dendronref01_Trim.l0E (x0 : List Int) (x3 : Int) : Env := [(0, .c (.d (L3 x0))), (3, .c (.d (.int .i64 x3)))]
theorem dendronref01_Trim.w (k : Nat) : (∀  (x0 : List Int) (x3 : Int) (r : List Int), dendronref01_Trim.l0 k x0 x3 = some r → Til Tryd.prog 87 [] (.c (.d (L3 r))) none [] (at_ Tryd.f87 2) (dendronref01_Trim.l0E x0 x3) []) := by
  induction k with
  | zero =>
    exact fun _ _ _ h => (by cases h)
  | succ k ih =>
    intro x0 x3 r h
    rw [dendronref01_Trim.l0] at h
    by_cases h0 : x3 > 0
    · rw [if_pos h0] at h
      obtain ⟨h1, h⟩ := ifp h
      obtain ⟨h2, h⟩ := ifp h
      by_cases h3 : (rd x0 (wrap64 (x3 - 1))) = 0
      · rw [if_pos h3] at h
        exact Til.mid Tryd.func87 2 [(1, .b true), (8, .b true)] (fun _ f => o (decide_eq_true h0) (o (o h1 h2) (o (beq_iff_eq.2 h3) f))) (by kernel_rfl) (ih _ _ _ h)
      · rw [if_neg h3] at h
        obtain ⟨h4, h⟩ := ifp h
        obtain ⟨h5, h⟩ := ifp h
        obtain rfl := Option.some.inj h
        exact Til.fin Tryd.func87 [(1, .b true), (8, .b false), (12, Z3 (x0.take ((x3 : Int).toNat)))] (fun _ f => o (decide_eq_true h0) (o (o h1 h2) (o (beq_false_of_ne h3) (o (take_ok c3 0 x0 h4 h5) f)))) (by kernel_rfl)
    · rw [if_neg h0] at h
      obtain ⟨h1, h⟩ := ifp h
      obtain ⟨h2, h⟩ := ifp h
      obtain rfl := Option.some.inj h
      exact Til.fin Tryd.func87 [(1, .b false), (12, Z3 (x0.take ((x3 : Int).toNat)))] (fun _ f => o (decide_eq_false h0) (o (take_ok c3 0 x0 h1 h2) f)) (by kernel_rfl)
theorem dendronref01_Trim.does {k : Nat} {l0 : List Int} {r : List Int} (h : dendronref01_Trim.f k l0 = some r) :
    Does Tryd.prog 87 [.c (.d (L3 l0))] [] (.c (.d (L3 r))) none [] := by
  refine does_fn Tryd.func87 (by kernel_rfl) rfl rfl ?_
  unfold dendronref01_Trim.f at h
  have ih := dendronref01_Trim.w k
  exact Til.mid Tryd.func87 2 [] (fun _ f => f) (by kernel_rfl) (ih _ _ _ h)

def dendronref01_Times.l0E (x0 : List Int) (x1 : List Int) (x5 : List Int) (x6 : Int) : Env := [(0, .c (.d (L3 x0))), (1, .c (.d (L3 x1))), (5, .c (.own 5)), (6, .c (.d (.int .i64 x6)))]
def dendronref01_Times.l0B (x0 : List Int) (x1 : List Int) (x5 : List Int) (x6 : Int) : Obs := [(5, some (O3 .own x5))]
def dendronref01_Times.l1E (x0 : List Int) (x1 : List Int) (x5 : List Int) (x6 : Int) (x7 : Int) (x8 : Int) : Env := [(0, .c (.d (L3 x0))), (1, .c (.d (L3 x1))), (5, .c (.own 5)), (6, .c (.d (.int .i64 x6))), (7, .c (.d (.int .i64 x7))), (8, .c (.d (.int .i64 x8)))]
def dendronref01_Times.l1B (x0 : List Int) (x1 : List Int) (x5 : List Int) (x6 : Int) (x7 : Int) (x8 : Int) : Obs := [(5, some (O3 .own x5))]
theorem dendronref01_Times.w (k : Nat) : (∀  (x0 : List Int) (x1 : List Int) (x5 : List Int) (x6 : Int) (r : List Int), dendronref01_Times.l0 k x0 x1 x5 x6 = some r → Til Tryd.prog 79 [] (.c (.d (L3 r))) none [] (at_ Tryd.f79 3) (dendronref01_Times.l0E x0 x1 x5 x6) (dendronref01_Times.l0B x0 x1 x5 x6)) ∧
    (∀  (x0 : List Int) (x1 : List Int) (x5 : List Int) (x6 : Int) (x7 : Int) (x8 : Int) (r : List Int), dendronref01_Times.l1 k x0 x1 x5 x6 x7 x8 = some r → Til Tryd.prog 79 [] (.c (.d (L3 r))) none [] (at_ Tryd.f79 7) (dendronref01_Times.l1E x0 x1 x5 x6 x7 x8) (dendronref01_Times.l1B x0 x1 x5 x6 x7 x8)) := by
  induction k with
  | zero =>
    exact ⟨fun _ _ _ _ _ h => (by cases h), fun _ _ _ _ _ _ _ h => (by cases h)⟩
  | succ k ih =>
    refine ⟨?_, ?_⟩
    · intro x0 x1 x5 x6 r h
      rw [dendronref01_Times.l0] at h
      by_cases h0 : x6 < (x0.length : Int)
      · rw [if_pos h0] at h
        exact Til.mid Tryd.func79 7 [(3, .b true)] (fun _ f => o (decide_eq_true h0) f) (by kernel_rfl) (ih.2 _ _ _ _ _ _ _ h)
      · rw [if_neg h0] at h
        obtain ⟨v5, h1, h⟩ := bnd h
        obtain rfl := Option.some.inj h
        exact Til.fin Tryd.func79 [(3, .b false), (5, ca (.c (.d (L3 v5))))] (fun _ f => o (decide_eq_false h0) (o (dendronref01_Trim.does h1) f)) (by kernel_rfl)
    · intro x0 x1 x5 x6 x7 x8 r h
      rw [dendronref01_Times.l1] at h
      by_cases h0 : x8 < (x1.length : Int)
      · rw [if_pos h0] at h
        obtain ⟨h1, h⟩ := ifp h
        obtain ⟨h2, h⟩ := ifp h
        obtain ⟨h3, h⟩ := ifp h
        obtain ⟨h4, h⟩ := ifp h
        obtain ⟨h5, h⟩ := ifp h
        exact Til.mid Tryd.func79 7 [(3, .b true), (30, Z3 (x5.set (((wrap64 (x6 + x8)) : Int).toNat) (Int.tmod (wrap64 ((wrap64 (x7 + (rd x5 (wrap64 (x6 + x8))))) + (wrap64 ((rd x0 x6) * (rd x1 x8))))) 10000)))] (fun _ f => o (decide_eq_true h0) (o (o h1 h2) (o (o h3 h4) (o (o h5 h0) (o (by decide : ¬ (10000 : Int) = 0) (o (o h1 h2) (o (set_ok c3 0 (fun _ _ => rfl) x5 (((wrap64 (x6 + x8)) : Int).toNat) (Int.tmod (wrap64 ((wrap64 (x7 + (rd x5 (wrap64 (x6 + x8))))) + (wrap64 ((rd x0 x6) * (rd x1 x8))))) 10000) (lt_ok h1 h2)) (o (by decide : ¬ (10000 : Int) = 0) f)))))))) (by kernel_rfl) (ih.2 _ _ _ _ _ _ _ h)
      · rw [if_neg h0] at h
        obtain ⟨h1, h⟩ := ifp h
        obtain ⟨h2, h⟩ := ifp h
        exact Til.mid Tryd.func79 3 [(3, .b false), (11, Z3 (x5.set (((wrap64 (x6 + (x1.length : Int))) : Int).toNat) x7))] (fun _ f => o (decide_eq_false h0) (o (o h1 h2) (o (set_ok c3 0 (fun _ _ => rfl) x5 (((wrap64 (x6 + (x1.length : Int))) : Int).toNat) x7 (lt_ok h1 h2)) f))) (by kernel_rfl) (ih.1 _ _ _ _ _ h)
theorem dendronref01_Times.does {k : Nat} {l0 : List Int} {l1 : List Int} {r : List Int} (h : dendronref01_Times.f k l0 l1 = some r) :
    Does Tryd.prog 79 [.c (.d (L3 l0)), .c (.d (L3 l1))] [] (.c (.d (L3 r))) none [] := by
  refine does_fn Tryd.func79 (by kernel_rfl) rfl rfl ?_
  unfold dendronref01_Times.f at h
  have ih := dendronref01_Times.w k
  obtain ⟨h0, h⟩ := ifp h
  obtain ⟨h1, h⟩ := ifp h
  exact Til.mid Tryd.func79 3 [(6, Z3 (List.replicate (((wrap64 ((l0.length : Int) + (l1.length : Int))) : Int).toNat) 0 : List Int))] (fun _ f => o (make_ok c3 0 [.int .i64 0] ⟨.refl _, trivial⟩ (wrap64 ((l0.length : Int) + (l1.length : Int))) 8 35184372088832 (by decide) h0 h1) f) (by kernel_rfl) (ih.1 _ _ _ _ _ h)

theorem dendronref02_Times.does {k : Nat} {a0_0 : Bool} {l0_1 : List Int} {a1_0 : Bool} {l1_1 : List Int} {r : Bool × List Int} (h : dendronref02_Times.f k a0_0 l0_1 a1_0 l1_1 = some r) :
    Does Tryd.prog 49 [.agg [.d (.bool a0_0), .d (L3 l0_1)], .agg [.d (.bool a1_0), .d (L3 l1_1)]] [] (.agg [.d (.bool r.1), .d (L3 r.2)]) none [] := by
  refine does_fn Tryd.func49 (by kernel_rfl) rfl rfl ?_
  unfold dendronref02_Times.f at h
  obtain ⟨v12, h0, h⟩ := bnd h
  obtain ⟨v13, h1, h⟩ := bnd h
  obtain rfl := Option.some.inj h
  exact Til.fin Tryd.func49 [(12, ca (.c (.d (L3 v12)))), (13, ca (.agg [.d (.bool v13.1), .d (L3 v13.2)]))] (fun _ f => o (dendronref01_Times.does h0) (o (dendronref02_Make.does h1) f)) (by kernel_rfl)

theorem dendronref03_den.does {a0_0 : Bool} {l0_1 : List Int} {l0_2 : List Int} {r : Bool × List Int} (h : dendronref03_den.f a0_0 l0_1 l0_2 = some r) :
    Does Tryd.prog 50 [.agg [.d (.bool a0_0), .d (L3 l0_1), .d (L3 l0_2)]] [] (.agg [.d (.bool r.1), .d (L3 r.2)]) none [] := by
  refine does_fn Tryd.func50 (by kernel_rfl) rfl rfl ?_
  unfold dendronref03_den.f at h
  obtain ⟨v4, h0, h⟩ := bnd h
  obtain rfl := Option.some.inj h
  exact Til.fin Tryd.func50 [(4, ca (.agg [.d (.bool v4.1), .d (L3 v4.2)]))] (fun _ f => o (dendronref02_Make.does h0) f) (by kernel_rfl)

theorem dendronref03_Order.does {k : Nat} {a0_0 : Bool} {l0_1 : List Int} {l0_2 : List Int} {a1_0 : Bool} {l1_1 : List Int} {l1_2 : List Int} {r : Int} (h : dendronref03_Order.f k a0_0 l0_1 l0_2 a1_0 l1_1 l1_2 = some r) :
    Does Tryd.prog 28 [.agg [.d (.bool a0_0), .d (L3 l0_1), .d (L3 l0_2)], .agg [.d (.bool a1_0), .d (L3 l1_1), .d (L3 l1_2)]] [] (.c (.d (.int .i64 r))) none [] := by
  refine does_fn Tryd.func28 (by kernel_rfl) rfl rfl ?_
  unfold dendronref03_Order.f at h
  obtain ⟨v6, h0, h⟩ := bnd h
  obtain ⟨v7, h1, h⟩ := bnd h
  obtain ⟨v11, h2, h⟩ := bnd h
  obtain ⟨v12, h3, h⟩ := bnd h
  obtain ⟨v13, h4, h⟩ := bnd h
  obtain rfl := Option.some.inj h
  exact Til.fin Tryd.func28 [(6, ca (.agg [.d (.bool v6.1), .d (L3 v6.2)])), (7, ca (.agg [.d (.bool v7.1), .d (L3 v7.2)])), (11, ca (.agg [.d (.bool v11.1), .d (L3 v11.2)])), (12, ca (.agg [.d (.bool v12.1), .d (L3 v12.2)])), (13, ca (.c (.d (.int .i64 v13))))] (fun _ f => o (dendronref03_den.does h0) (o (dendronref02_Times.does h1) (o (dendronref03_den.does h2) (o (dendronref02_Times.does h3) (o (dendronref02_Order.does h4) f))))) (by kernel_rfl)

def dendronref01_Small.l0E (x0 : Int) (x3 : List Int) : Env := [(0, .c (.d (.int .i64 x0))), (3, .c (.own 3))]
def dendronref01_Small.l0B (x0 : Int) (x3 : List Int) : Obs := [(3, some (O3 .own x3))]
theorem dendronref01_Small.w (k : Nat) : (∀  (x0 : Int) (x3 : List Int) (r : List Int), dendronref01_Small.l0 k x0 x3 = some r → Til Tryd.prog 80 [] (.c (.d (L3 r))) none [] (at_ Tryd.f80 2) (dendronref01_Small.l0E x0 x3) (dendronref01_Small.l0B x0 x3)) := by
  induction k with
  | zero =>
    exact fun _ _ _ h => (by cases h)
  | succ k ih =>
    intro x0 x3 r h
    rw [dendronref01_Small.l0] at h
    by_cases h0 : x0 > 0
    · rw [if_pos h0] at h
      obtain ⟨h1, h⟩ := ifp h
      exact Til.mid Tryd.func80 2 [(1, .b true), (5, Z3 ([(Int.tmod x0 10000)] : List Int)), (6, Z3 (x3 ++ [(Int.tmod x0 10000)]))] (fun _ f => o (decide_eq_true h0) (o (by decide : ¬ (10000 : Int) = 0) (o (lit_ok c3 0 ([(Int.tmod x0 10000)] : List Int)) (o (app1 c3 0 x3 (Int.tmod x0 10000) 8 17592186044416 (by decide) h1) (o (by decide : ¬ (10000 : Int) = 0) f))))) (by kernel_rfl) (ih _ _ _ h)
    · rw [if_neg h0] at h
      obtain rfl := Option.some.inj h
      exact Til.fin Tryd.func80 [(1, .b false)] (fun _ f => o (decide_eq_false h0) f) (by kernel_rfl)
theorem dendronref01_Small.does {k : Nat} {a0 : Int} {r : List Int} (h : dendronref01_Small.f k a0 = some r) :
    Does Tryd.prog 80 [.c (.d (.int .i64 a0))] [] (.c (.d (L3 r))) none [] := by
  refine does_fn Tryd.func80 (by kernel_rfl) rfl rfl ?_
  unfold dendronref01_Small.f at h
  have ih := dendronref01_Small.w k
  exact Til.mid Tryd.func80 2 [] (fun _ f => f) (by kernel_rfl) (ih _ _ _ h)

theorem dendronref01_digit.does {l0 : List Int} {a1 : Int} {r : Int} (h : dendronref01_digit.f l0 a1 = some r) :
    Does Tryd.prog 88 [.c (.d (L3 l0)), .c (.d (.int .i64 a1))] [] (.c (.d (.int .i64 r))) none [] := by
  refine does_fn Tryd.func88 (by kernel_rfl) rfl rfl ?_
  unfold dendronref01_digit.f at h
  by_cases h0 : a1 < (l0.length : Int)
  · rw [if_pos h0] at h
    obtain ⟨h1, h⟩ := ifp h
    obtain rfl := Option.some.inj h
    exact Til.fin Tryd.func88 [(4, .b true)] (fun _ f => o (decide_eq_true h0) (o (o h1 h0) f)) (by kernel_rfl)
  · rw [if_neg h0] at h
    obtain rfl := Option.some.inj h
    exact Til.fin Tryd.func88 [(4, .b false)] (fun _ f => o (decide_eq_false h0) f) (by kernel_rfl)

def dendronref01_Plus.l0E (x0 : List Int) (x1 : List Int) (x5 : List Int) (x6 : Int) (x7 : Int) : Env := [(0, .c (.d (L3 x0))), (1, .c (.d (L3 x1))), (5, .c (.own 5)), (6, .c (.d (.int .i64 x6))), (7, .c (.d (.int .i64 x7)))]
def dendronref01_Plus.l0B (x0 : List Int) (x1 : List Int) (x5 : List Int) (x6 : Int) (x7 : Int) : Obs := [(5, some (O3 .own x5))]
theorem dendronref01_Plus.w (k : Nat) : (∀  (x0 : List Int) (x1 : List Int) (x5 : List Int) (x6 : Int) (x7 : Int) (r : List Int), dendronref01_Plus.l0 k x0 x1 x5 x6 x7 = some r → Til Tryd.prog 81 [] (.c (.d (L3 r))) none [] (at_ Tryd.f81 4) (dendronref01_Plus.l0E x0 x1 x5 x6 x7) (dendronref01_Plus.l0B x0 x1 x5 x6 x7)) := by
  induction k with
  | zero =>
    exact fun _ _ _ _ _ _ h => (by cases h)
  | succ k ih =>
    intro x0 x1 x5 x6 x7 r h
    rw [dendronref01_Plus.l0] at h
    by_cases h0 : x7 < (x0.length : Int)
    · rw [if_pos h0] at h
      obtain ⟨v17, h1, h⟩ := bnd h
      obtain ⟨v21, h2, h⟩ := bnd h
      obtain ⟨h3, h⟩ := ifp h
      exact Til.mid Tryd.func81 4 [(3, .b true), (17, ca (.c (.d (.int .i64 v17)))), (21, ca (.c (.d (.int .i64 v21)))), (27, Z3 ([(Int.tmod (wrap64 ((wrap64 (x6 + v17)) + v21)) 10000)] : List Int)), (28, Z3 (x5 ++ [(Int.tmod (wrap64 ((wrap64 (x6 + v17)) + v21)) 10000)]))] (fun _ f => o (decide_eq_true h0) (o (dendronref01_digit.does h1) (o (dendronref01_digit.does h2) (o (by decide : ¬ (10000 : Int) = 0) (o (lit_ok c3 0 ([(Int.tmod (wrap64 ((wrap64 (x6 + v17)) + v21)) 10000)] : List Int)) (o (app1 c3 0 x5 (Int.tmod (wrap64 ((wrap64 (x6 + v17)) + v21)) 10000) 8 17592186044416 (by decide) h3) (o (by decide : ¬ (10000 : Int) = 0) f))))))) (by kernel_rfl) (ih _ _ _ _ _ _ h)
    · rw [if_neg h0] at h
      by_cases h1 : x7 < (x1.length : Int)
      · rw [if_pos h1] at h
        obtain ⟨v17, h2, h⟩ := bnd h
        obtain ⟨v21, h3, h⟩ := bnd h
        obtain ⟨h4, h⟩ := ifp h
        exact Til.mid Tryd.func81 4 [(3, .b false), (8, .b true), (17, ca (.c (.d (.int .i64 v17)))), (21, ca (.c (.d (.int .i64 v21)))), (27, Z3 ([(Int.tmod (wrap64 ((wrap64 (x6 + v17)) + v21)) 10000)] : List Int)), (28, Z3 (x5 ++ [(Int.tmod (wrap64 ((wrap64 (x6 + v17)) + v21)) 10000)]))] (fun _ f => o (decide_eq_false h0) (o (decide_eq_true h1) (o (dendronref01_digit.does h2) (o (dendronref01_digit.does h3) (o (by decide : ¬ (10000 : Int) = 0) (o (lit_ok c3 0 ([(Int.tmod (wrap64 ((wrap64 (x6 + v17)) + v21)) 10000)] : List Int)) (o (app1 c3 0 x5 (Int.tmod (wrap64 ((wrap64 (x6 + v17)) + v21)) 10000) 8 17592186044416 (by decide) h4) (o (by decide : ¬ (10000 : Int) = 0) f)))))))) (by kernel_rfl) (ih _ _ _ _ _ _ h)
      · rw [if_neg h1] at h
        by_cases h2 : x6 > 0
        · rw [if_pos h2] at h
          obtain ⟨v17, h3, h⟩ := bnd h
          obtain ⟨v21, h4, h⟩ := bnd h
          obtain ⟨h5, h⟩ := ifp h
          exact Til.mid Tryd.func81 4 [(3, .b false), (8, .b false), (12, .b true), (17, ca (.c (.d (.int .i64 v17)))), (21, ca (.c (.d (.int .i64 v21)))), (27, Z3 ([(Int.tmod (wrap64 ((wrap64 (x6 + v17)) + v21)) 10000)] : List Int)), (28, Z3 (x5 ++ [(Int.tmod (wrap64 ((wrap64 (x6 + v17)) + v21)) 10000)]))] (fun _ f => o (decide_eq_false h0) (o (decide_eq_false h1) (o (decide_eq_true h2) (o (dendronref01_digit.does h3) (o (dendronref01_digit.does h4) (o (by decide : ¬ (10000 : Int) = 0) (o (lit_ok c3 0 ([(Int.tmod (wrap64 ((wrap64 (x6 + v17)) + v21)) 10000)] : List Int)) (o (app1 c3 0 x5 (Int.tmod (wrap64 ((wrap64 (x6 + v17)) + v21)) 10000) 8 17592186044416 (by decide) h5) (o (by decide : ¬ (10000 : Int) = 0) f))))))))) (by kernel_rfl) (ih _ _ _ _ _ _ h)
        · rw [if_neg h2] at h
          obtain rfl := Option.some.inj h
          exact Til.fin Tryd.func81 [(3, .b false), (8, .b false), (12, .b false)] (fun _ f => o (decide_eq_false h0) (o (decide_eq_false h1) (o (decide_eq_false h2) f))) (by kernel_rfl)
theorem dendronref01_Plus.does {k : Nat} {l0 : List Int} {l1 : List Int} {r : List Int} (h : dendronref01_Plus.f k l0 l1 = some r) :
    Does Tryd.prog 81 [.c (.d (L3 l0)), .c (.d (L3 l1))] [] (.c (.d (L3 r))) none [] := by
  refine does_fn Tryd.func81 (by kernel_rfl) rfl rfl ?_
  unfold dendronref01_Plus.f at h
  have ih := dendronref01_Plus.w k
  exact Til.mid Tryd.func81 4 [] (fun _ f => f) (by kernel_rfl) (ih _ _ _ _ _ _ h)

def dendronref01_From.l0E (x0 : List Int) (x3 : List Int) (x4 : List Int) (x5 : Int) : Env := [(0, .c (.d (L90 x0))), (3, .c (.d (L3 x3))), (4, .c (.d (L3 x4))), (5, .c (.d (.int .i64 x5)))]
theorem dendronref01_From.w (k : Nat) : (∀  (x0 : List Int) (x3 : List Int) (x4 : List Int) (x5 : Int) (r : List Int), dendronref01_From.l0 k x0 x3 x4 x5 = some r → Til Tryd.prog 51 [] (.c (.d (L3 r))) none [] (at_ Tryd.f51 4) (dendronref01_From.l0E x0 x3 x4 x5) []) := by
  induction k with
  | zero =>
    exact fun _ _ _ _ _ h => (by cases h)
  | succ k ih =>
    intro x0 x3 x4 x5 r h
    rw [dendronref01_From.l0] at h
    by_cases h0 : x5 ≥ 0
    · rw [if_pos h0] at h
      obtain ⟨v4, h1, h⟩ := bnd h
      obtain ⟨h2, h⟩ := ifp h
      obtain ⟨v11, h3, h⟩ := bnd h
      obtain ⟨v12, h4, h⟩ := bnd h
      exact Til.mid Tryd.func51 4 [(1, .b true), (4, ca (.c (.d (L3 v4)))), (11, ca (.c (.d (L3 v11)))), (12, ca (.c (.d (L3 v12))))] (fun _ f => o (decide_eq_true h0) (o (dendronref01_Times.does h1) (o (o h0 h2) (o (dendronref01_Small.does h3) (o (dendronref01_Plus.does h4) f))))) (by kernel_rfl) (ih _ _ _ _ _ h)
    · rw [if_neg h0] at h
      obtain rfl := Option.some.inj h
      exact Til.fin Tryd.func51 [(1, .b false)] (fun _ f => o (decide_eq_false h0) f) (by kernel_rfl)
theorem dendronref01_From.does {k : Nat} {l0 : List Int} {r : List Int} (h : dendronref01_From.f k l0 = some r) :
    Does Tryd.prog 51 [.c (.d (L90 l0))] [] (.c (.d (L3 r))) none [] := by
  refine does_fn Tryd.func51 (by kernel_rfl) rfl rfl ?_
  unfold dendronref01_From.f at h
  have ih := dendronref01_From.w k
  obtain ⟨v2, h0, h⟩ := bnd h
  exact Til.mid Tryd.func51 4 [(2, ca (.c (.d (L3 v2))))] (fun _ f => o (dendronref01_Small.does h0) f) (by kernel_rfl) (ih _ _ _ _ _ h)

theorem dendronref02_Small.does {k : Nat} {a0 : Int} {r : Bool × List Int} (h : dendronref02_Small.f k a0 = some r) :
    Does Tryd.prog 82 [.c (.d (.int .i64 a0))] [] (.agg [.d (.bool r.1), .d (L3 r.2)]) none [] := by
  refine does_fn Tryd.func82 (by kernel_rfl) rfl rfl ?_
  unfold dendronref02_Small.f at h
  by_cases h0 : a0 < 0
  · rw [if_pos h0] at h
    obtain ⟨v6, h1, h⟩ := bnd h
    obtain ⟨v7, h2, h⟩ := bnd h
    obtain ⟨v8, h3, h⟩ := bnd h
    obtain ⟨v9, h4, h⟩ := bnd h
    obtain rfl := Option.some.inj h
    exact Til.fin Tryd.func82 [(2, .b true), (6, ca (.c (.d (L3 v6)))), (7, ca (.c (.d (L3 v7)))), (8, ca (.c (.d (L3 v8)))), (9, ca (.agg [.d (.bool v9.1), .d (L3 v9.2)]))] (fun _ f => o (decide_eq_true h0) (o (dendronref01_Small.does h1) (o (dendronref01_Small.does h2) (o (dendronref01_Plus.does h3) (o (dendronref02_Make.does h4) f))))) (by kernel_rfl)
  · rw [if_neg h0] at h
    obtain ⟨v4, h1, h⟩ := bnd h
    obtain ⟨v5, h2, h⟩ := bnd h
    obtain rfl := Option.some.inj h
    exact Til.fin Tryd.func82 [(2, .b false), (4, ca (.c (.d (L3 v4)))), (5, ca (.agg [.d (.bool v5.1), .d (L3 v5.2)]))] (fun _ f => o (decide_eq_false h0) (o (dendronref01_Small.does h1) (o (dendronref02_Make.does h2) f))) (by kernel_rfl)

theorem dendronref03_Small.does {k : Nat} {a0 : Int} {a1 : Int} {r : Bool × List Int × List Int} (h : dendronref03_Small.f k a0 a1 = some r) :
    Does Tryd.prog 52 [.c (.d (.int .i64 a0)), .c (.d (.int .i64 a1))] [] (.agg [.d (.bool r.1), .d (L3 r.2.1), .d (L3 r.2.2)]) none [] := by
  refine does_fn Tryd.func52 (by kernel_rfl) rfl rfl ?_
  unfold dendronref03_Small.f at h
  obtain ⟨v2, h0, h⟩ := bnd h
  obtain ⟨v4, h1, h⟩ := bnd h
  obtain rfl := Option.some.inj h
  exact Til.fin Tryd.func52 [(2, ca (.agg [.d (.bool v2.1), .d (L3 v2.2)])), (4, ca (.c (.d (L3 v4))))] (fun _ f => o (dendronref02_Small.does h0) (o (dendronref01_Small.does h1) f)) (by kernel_rfl)

theorem dendronref02_From.does {k : Nat} {a0_0 : Bool} {l0_1 : List Int} {r : Bool × List Int} (h : dendronref02_From.f k a0_0 l0_1 = some r) :
    Does Tryd.prog 53 [.agg [.d (.bool a0_0), .d (L90 l0_1)]] [] (.agg [.d (.bool r.1), .d (L3 r.2)]) none [] := by
  refine does_fn Tryd.func53 (by kernel_rfl) rfl rfl ?_
  unfold dendronref02_From.f at h
  obtain ⟨v6, h0, h⟩ := bnd h
  obtain ⟨v7, h1, h⟩ := bnd h
  obtain rfl := Option.some.inj h
  exact Til.fin Tryd.func53 [(6, ca (.c (.d (L3 v6)))), (7, ca (.agg [.d (.bool v7.1), .d (L3 v7.2)]))] (fun _ f => o (dendronref01_From.does h0) (o (dendronref02_Make.does h1) f)) (by kernel_rfl)

theorem dendronref03_From.does {k : Nat} {a0_0 : Bool} {l0_1 : List Int} {l0_2 : List Int} {r : Bool × List Int × List Int} (h : dendronref03_From.f k a0_0 l0_1 l0_2 = some r) :
    Does Tryd.prog 29 [.agg [.d (.bool a0_0), .d (L90 l0_1), .d (L90 l0_2)]] [] (.agg [.d (.bool r.1), .d (L3 r.2.1), .d (L3 r.2.2)]) none [] := by
  refine does_fn Tryd.func29 (by kernel_rfl) rfl rfl ?_
  unfold dendronref03_From.f at h
  obtain ⟨v4, h0, h⟩ := bnd h
  by_cases h1 : (v4.length : Int) = 0
  · rw [if_pos h1] at h
    obtain ⟨v9, h2, h⟩ := bnd h
    obtain rfl := Option.some.inj h
    exact Til.fin Tryd.func29 [(4, ca (.c (.d (L3 v4)))), (8, .b true), (9, ca (.agg [.d (.bool v9.1), .d (L3 v9.2.1), .d (L3 v9.2.2)]))] (fun _ f => o (dendronref01_From.does h0) (o (beq_iff_eq.2 h1) (o (dendronref03_Small.does h2) f))) (by kernel_rfl)
  · rw [if_neg h1] at h
    obtain ⟨v11, h2, h⟩ := bnd h
    obtain rfl := Option.some.inj h
    exact Til.fin Tryd.func29 [(4, ca (.c (.d (L3 v4)))), (8, .b false), (11, ca (.agg [.d (.bool v11.1), .d (L3 v11.2)]))] (fun _ f => o (dendronref01_From.does h0) (o (beq_false_of_ne h1) (o (dendronref02_From.does h2) f))) (by kernel_rfl)

def dendronref29_Same.l0E (x5 : Int) (b2_0 : Int) (b2_1 : Int) (b2_2 : Int) (b2_3 : List (List (Bool × List Int × List Int))) (b3_0 : Int) (b3_1 : Int) (b3_2 : Int) (b3_3 : List (List (Bool × List Int × List Int))) : Env := [(2, .c (.ptr 2 0)), (3, .c (.ptr 3 0)), (5, .c (.d (.int .i64 x5)))]
def dendronref29_Same.l0B (x5 : Int) (b2_0 : Int) (b2_1 : Int) (b2_2 : Int) (b2_3 : List (List (Bool × List Int × List Int))) (b3_0 : Int) (b3_1 : Int) (b3_2 : Int) (b3_3 : List (List (Bool × List Int × List Int))) : Obs := [(2, some (.box [.d (.int .i64 b2_0), .d (.int .i64 b2_1), .d (.int .i64 b2_2), .d (L47 b2_3)])), (3, some (.box [.d (.int .i64 b3_0), .d (.int .i64 b3_1), .d (.int .i64 b3_2), .d (L47 b3_3)]))]
def dendronref29_Same.l1E (x5 : Int) (x6 : Int) (b2_0 : Int) (b2_1 : Int) (b2_2 : Int) (b2_3 : List (List (Bool × List Int × List Int))) (b3_0 : Int) (b3_1 : Int) (b3_2 : Int) (b3_3 : List (List (Bool × List Int × List Int))) : Env := [(2, .c (.ptr 2 0)), (3, .c (.ptr 3 0)), (5, .c (.d (.int .i64 x5))), (6, .c (.d (.int .i64 x6)))]
def dendronref29_Same.l1B (x5 : Int) (x6 : Int) (b2_0 : Int) (b2_1 : Int) (b2_2 : Int) (b2_3 : List (List (Bool × List Int × List Int))) (b3_0 : Int) (b3_1 : Int) (b3_2 : Int) (b3_3 : List (List (Bool × List Int × List Int))) : Obs := [(2, some (.box [.d (.int .i64 b2_0), .d (.int .i64 b2_1), .d (.int .i64 b2_2), .d (L47 b2_3)])), (3, some (.box [.d (.int .i64 b3_0), .d (.int .i64 b3_1), .d (.int .i64 b3_2), .d (L47 b3_3)]))]
theorem dendronref29_Same.w (k : Nat) : (∀  (x5 : Int) (b2_0 : Int) (b2_1 : Int) (b2_2 : Int) (b2_3 : List (List (Bool × List Int × List Int))) (b3_0 : Int) (b3_1 : Int) (b3_2 : Int) (b3_3 : List (List (Bool × List Int × List Int))) (r : Bool), dendronref29_Same.l0 k x5 b2_0 b2_1 b2_2 b2_3 b3_0 b3_1 b3_2 b3_3 = some r → Til Tryd.prog 15 [] (.c (.d (.bool r))) none [] (at_ Tryd.f15 4) (dendronref29_Same.l0E x5 b2_0 b2_1 b2_2 b2_3 b3_0 b3_1 b3_2 b3_3) (dendronref29_Same.l0B x5 b2_0 b2_1 b2_2 b2_3 b3_0 b3_1 b3_2 b3_3)) ∧
    (∀  (x5 : Int) (x6 : Int) (b2_0 : Int) (b2_1 : Int) (b2_2 : Int) (b2_3 : List (List (Bool × List Int × List Int))) (b3_0 : Int) (b3_1 : Int) (b3_2 : Int) (b3_3 : List (List (Bool × List Int × List Int))) (r : Bool), dendronref29_Same.l1 k x5 x6 b2_0 b2_1 b2_2 b2_3 b3_0 b3_1 b3_2 b3_3 = some r → Til Tryd.prog 15 [] (.c (.d (.bool r))) none [] (at_ Tryd.f15 9) (dendronref29_Same.l1E x5 x6 b2_0 b2_1 b2_2 b2_3 b3_0 b3_1 b3_2 b3_3) (dendronref29_Same.l1B x5 x6 b2_0 b2_1 b2_2 b2_3 b3_0 b3_1 b3_2 b3_3)) := by
  induction k with
  | zero =>
    exact ⟨fun _ _ _ _ _ _ _ _ _ _ h => (by cases h), fun _ _ _ _ _ _ _ _ _ _ _ h => (by cases h)⟩
  | succ k ih =>
    refine ⟨?_, ?_⟩
    · intro x5 b2_0 b2_1 b2_2 b2_3 b3_0 b3_1 b3_2 b3_3 r h
      rw [dendronref29_Same.l0] at h
      by_cases h0 : x5 < (b2_3.length : Int)
      · rw [if_pos h0] at h
        obtain ⟨h1, h⟩ := ifp h
        obtain ⟨h2, h⟩ := ifp h
        by_cases h3 : ((gt [] b2_3 x5).length : Int) ≠ ((gt [] b3_3 x5).length : Int)
        · rw [if_pos h3] at h
          obtain rfl := Option.some.inj h
          exact Til.fin Tryd.func15 [(4, .b true), (17, .b true)] (fun _ f => o (decide_eq_true h0) (o (o h1 h0) (o (o h1 h2) (o (bne_iff_ne.2 h3) f)))) (by kernel_rfl)
        · rw [if_neg h3] at h
          exact Til.mid Tryd.func15 9 [(4, .b true), (17, .b false)] (fun _ f => o (decide_eq_true h0) (o (o h1 h0) (o (o h1 h2) (o (ne_f h3) f)))) (by kernel_rfl) (ih.2 _ _ _ _ _ _ _ _ _ _ _ h)
      · rw [if_neg h0] at h
        obtain rfl := Option.some.inj h
        exact Til.fin Tryd.func15 [(4, .b false)] (fun _ f => o (decide_eq_false h0) f) (by kernel_rfl)
    · intro x5 x6 b2_0 b2_1 b2_2 b2_3 b3_0 b3_1 b3_2 b3_3 r h
      rw [dendronref29_Same.l1] at h
      obtain ⟨h0, h⟩ := ifp h
      obtain ⟨h1, h⟩ := ifp h
      by_cases h2 : x6 < ((gt [] b2_3 x5).length : Int)
      · rw [if_pos h2] at h
        obtain ⟨h3, h⟩ := ifp h
        obtain ⟨v16, h4, h⟩ := bnd h
        obtain ⟨h5, h⟩ := ifp h
        obtain ⟨h6, h⟩ := ifp h
        obtain ⟨v25, h7, h⟩ := bnd h
        obtain ⟨v26, h8, h⟩ := bnd h
        by_cases h9 : v26 ≠ 0
        · rw [if_pos h9] at h
          obtain rfl := Option.some.inj h
          exact Til.fin Tryd.func15 [(7, .b true), (16, ca (.agg [.d (.bool v16.1), .d (L3 v16.2.1), .d (L3 v16.2.2)])), (25, ca (.agg [.d (.bool v25.1), .d (L3 v25.2.1), .d (L3 v25.2.2)])), (26, ca (.c (.d (.int .i64 v26)))), (27, .b true)] (fun _ f => o (o h0 h1) (o (decide_eq_true h2) (o (o h0 h1) (o (o h3 h2) (o (dendronref03_From.does h4) (o (o h0 h5) (o (o h3 h6) (o (dendronref03_From.does h7) (o (dendronref03_Order.does h8) (o (bne_iff_ne.2 h9) f)))))))))) (by kernel_rfl)
        · rw [if_neg h9] at h
          exact Til.mid Tryd.func15 9 [(7, .b true), (16, ca (.agg [.d (.bool v16.1), .d (L3 v16.2.1), .d (L3 v16.2.2)])), (25, ca (.agg [.d (.bool v25.1), .d (L3 v25.2.1), .d (L3 v25.2.2)])), (26, ca (.c (.d (.int .i64 v26)))), (27, .b false)] (fun _ f => o (o h0 h1) (o (decide_eq_true h2) (o (o h0 h1) (o (o h3 h2) (o (dendronref03_From.does h4) (o (o h0 h5) (o (o h3 h6) (o (dendronref03_From.does h7) (o (dendronref03_Order.does h8) (o (ne_f h9) f)))))))))) (by kernel_rfl) (ih.2 _ _ _ _ _ _ _ _ _ _ _ h)
      · rw [if_neg h2] at h
        exact Til.mid Tryd.func15 4 [(7, .b false)] (fun _ f => o (o h0 h1) (o (decide_eq_false h2) f)) (by kernel_rfl) (ih.1 _ _ _ _ _ _ _ _ _ _ h)
theorem dendronref29_Same.does {k : Nat} {a0_0 : Int} {a0_1 : Int} {a0_2 : Int} {l0_3 : List (List (Bool × List Int × List Int))} {a1_0 : Int} {a1_1 : Int} {a1_2 : Int} {l1_3 : List (List (Bool × List Int × List Int))} {r : Bool} (h : dendronref29_Same.f k a0_0 a0_1 a0_2 l0_3 a1_0 a1_1 a1_2 l1_3 = some r) :
    Does Tryd.prog 15 [.agg [.d (.int .i64 a0_0), .d (.int .i64 a0_1), .d (.int .i64 a0_2), .d (L47 l0_3)], .agg [.d (.int .i64 a1_0), .d (.int .i64 a1_1), .d (.int .i64 a1_2), .d (L47 l1_3)]] [] (.c (.d (.bool r))) none [] := by
  refine does_fn Tryd.func15 (by kernel_rfl) rfl rfl ?_
  unfold dendronref29_Same.f at h
  have ih := dendronref29_Same.w k
  by_cases h0 : a0_0 ≠ a1_0
  · rw [if_pos h0] at h
    obtain rfl := Option.some.inj h
    exact Til.fin Tryd.func15 [(7, .b true)] (fun _ f => o (bne_iff_ne.2 h0) f) (by kernel_rfl)
  · rw [if_neg h0] at h
    by_cases h1 : a0_1 ≠ a1_1
    · rw [if_pos h1] at h
      obtain rfl := Option.some.inj h
      exact Til.fin Tryd.func15 [(7, .b false), (13, .b true)] (fun _ f => o (ne_f h0) (o (bne_iff_ne.2 h1) f)) (by kernel_rfl)
    · rw [if_neg h1] at h
      by_cases h2 : a0_2 ≠ a1_2
      · rw [if_pos h2] at h
        obtain rfl := Option.some.inj h
        exact Til.fin Tryd.func15 [(7, .b false), (13, .b false), (20, .b true)] (fun _ f => o (ne_f h0) (o (ne_f h1) (o (bne_iff_ne.2 h2) f))) (by kernel_rfl)
      · rw [if_neg h2] at h
        by_cases h3 : (l0_3.length : Int) ≠ (l1_3.length : Int)
        · rw [if_pos h3] at h
          obtain rfl := Option.some.inj h
          exact Til.fin Tryd.func15 [(7, .b false), (13, .b false), (20, .b false), (29, .b true)] (fun _ f => o (ne_f h0) (o (ne_f h1) (o (ne_f h2) (o (bne_iff_ne.2 h3) f)))) (by kernel_rfl)
        · rw [if_neg h3] at h
          exact Til.mid Tryd.func15 4 [(7, .b false), (13, .b false), (20, .b false), (29, .b false)] (fun _ f => o (ne_f h0) (o (ne_f h1) (o (ne_f h2) (o (ne_f h3) f)))) (by kernel_rfl) (ih.1 _ _ _ _ _ _ _ _ _ _ h)

def report_Faults.l0E (x3 : List Int) (x6 : List (Int × Int × Int × List (List (Bool × List Int × List Int)))) (x7 : Int) (x8 : Int) : Env := [(3, .c (.own 3)), (6, .c (.d (L33 x6))), (7, .c (.d (.int .i64 x7))), (8, .c (.d (.int .i64 x8)))]
def report_Faults.l0B (x3 : List Int) (x6 : List (Int × Int × Int × List (List (Bool × List Int × List Int)))) (x7 : Int) (x8 : Int) : Obs := [(3, some (O3 .own x3))]
theorem report_Faults.w (k : Nat) : (∀  (x3 : List Int) (x6 : List (Int × Int × Int × List (List (Bool × List Int × List Int)))) (x7 : Int) (x8 : Int) (r : List Int), report_Faults.l0 k x3 x6 x7 x8 = some r → Til Tryd.prog 16 [] (.c (.d (L3 r))) none [] (at_ Tryd.f16 3) (report_Faults.l0E x3 x6 x7 x8) (report_Faults.l0B x3 x6 x7 x8)) := by
  induction k with
  | zero =>
    exact fun _ _ _ _ _ h => (by cases h)
  | succ k ih =>
    intro x3 x6 x7 x8 r h
    rw [report_Faults.l0] at h
    by_cases h0 : x8 < x7
    · rw [if_pos h0] at h
      obtain ⟨h1, h⟩ := ifp h
      obtain ⟨h2, h⟩ := ifp h
      by_cases h3 : (gt (0, 0, 0, []) x6 x8).2.2.1 ≠ 0
      · rw [if_pos h3] at h
        obtain ⟨h4, h⟩ := ifp h
        exact Til.mid Tryd.func16 3 [(0, .b true), (7, .b true), (11, Z3 ([(gt (0, 0, 0, []) x6 x8).1] : List Int)), (12, Z3 (x3 ++ [(gt (0, 0, 0, []) x6 x8).1]))] (fun _ f => o (decide_eq_true h0) (o (o h1 h2) (o (bne_iff_ne.2 h3) (o (lit_ok c3 0 ([(gt (0, 0, 0, []) x6 x8).1] : List Int)) (o (app1 c3 0 x3 ((gt (0, 0, 0, []) x6 x8).1) 8 17592186044416 (by decide) h4) f))))) (by kernel_rfl) (ih _ _ _ _ _ h)
      · rw [if_neg h3] at h
        exact Til.mid Tryd.func16 3 [(0, .b true), (7, .b false)] (fun _ f => o (decide_eq_true h0) (o (o h1 h2) (o (ne_f h3) f))) (by kernel_rfl) (ih _ _ _ _ _ h)
    · rw [if_neg h0] at h
      obtain rfl := Option.some.inj h
      exact Til.fin Tryd.func16 [(0, .b false)] (fun _ f => o (decide_eq_false h0) f) (by kernel_rfl)
theorem report_Faults.does {k : Nat} {l0 : List (Int × Int × Int × List (List (Bool × List Int × List Int)))} {r : List Int} (h : report_Faults.f k l0 = some r) :
    Does Tryd.prog 16 [.c (.d (L33 l0))] [] (.c (.d (L3 r))) none [] := by
  refine does_fn Tryd.func16 (by kernel_rfl) rfl rfl ?_
  unfold report_Faults.f at h
  have ih := report_Faults.w k
  exact Til.mid Tryd.func16 3 [] (fun _ f => f) (by kernel_rfl) (ih _ _ _ _ _ h)

def dendronlaw29_ReportFinds.l0E (x0 : List (Int × Int × Int × List (List (Bool × List Int × List Int)))) (x1 : Int) (x6 : Bool) (x7 : List Int) (x8 : Int) (x9 : Int) (b5_0 : Int) (b5_1 : Int) (b5_2 : Int) (b5_3 : List (List (Bool × List Int × List Int))) : Env := [(0, .c (.d (L33 x0))), (1, .c (.d (.int .i64 x1))), (5, .c (.ptr 5 0)), (6, .c (.d (.bool x6))), (7, .c (.own 7)), (8, .c (.d (.int .i64 x8))), (9, .c (.d (.int .i64 x9)))]
def dendronlaw29_ReportFinds.l0B (x0 : List (Int × Int × Int × List (List (Bool × List Int × List Int)))) (x1 : Int) (x6 : Bool) (x7 : List Int) (x8 : Int) (x9 : Int) (b5_0 : Int) (b5_1 : Int) (b5_2 : Int) (b5_3 : List (List (Bool × List Int × List Int))) : Obs := [(5, some (.box [.d (.int .i64 b5_0), .d (.int .i64 b5_1), .d (.int .i64 b5_2), .d (L47 b5_3)])), (7, some (O3 .own x7))]
def dendronlaw29_ReportFinds.l1E (x0 : List (Int × Int × Int × List (List (Bool × List Int × List Int)))) (x6 : Bool) (x7 : List Int) (x8 : Int) (x10 : List Int) (x11 : Int) (b5_0 : Int) (b5_1 : Int) (b5_2 : Int) (b5_3 : List (List (Bool × List Int × List Int))) : Env := [(0, .c (.d (L33 x0))), (5, .c (.ptr 5 0)), (6, .c (.d (.bool x6))), (7, .c (.own 7)), (8, .c (.d (.int .i64 x8))), (10, .c (.d (L3 x10))), (11, .c (.d (.int .i64 x11)))]
def dendronlaw29_ReportFinds.l1B (x0 : List (Int × Int × Int × List (List (Bool × List Int × List Int)))) (x6 : Bool) (x7 : List Int) (x8 : Int) (x10 : List Int) (x11 : Int) (b5_0 : Int) (b5_1 : Int) (b5_2 : Int) (b5_3 : List (List (Bool × List Int × List Int))) : Obs := [(5, some (.box [.d (.int .i64 b5_0), .d (.int .i64 b5_1), .d (.int .i64 b5_2), .d (L47 b5_3)])), (7, some (O3 .own x7))]
theorem dendronlaw29_ReportFinds.w (k : Nat) : (∀  (x0 : List (Int × Int × Int × List (List (Bool × List Int × List Int)))) (x1 : Int) (x6 : Bool) (x7 : List Int) (x8 : Int) (x9 : Int) (b5_0 : Int) (b5_1 : Int) (b5_2 : Int) (b5_3 : List (List (Bool × List Int × List Int))) (r : Bool), dendronlaw29_ReportFinds.l0 k x0 x1 x6 x7 x8 x9 b5_0 b5_1 b5_2 b5_3 = some r → Til Tryd.prog 5 [] (.c (.d (.bool r))) none [] (at_ Tryd.f5 6) (dendronlaw29_ReportFinds.l0E x0 x1 x6 x7 x8 x9 b5_0 b5_1 b5_2 b5_3) (dendronlaw29_ReportFinds.l0B x0 x1 x6 x7 x8 x9 b5_0 b5_1 b5_2 b5_3)) ∧
    (∀  (x0 : List (Int × Int × Int × List (List (Bool × List Int × List Int)))) (x6 : Bool) (x7 : List Int) (x8 : Int) (x10 : List Int) (x11 : Int) (b5_0 : Int) (b5_1 : Int) (b5_2 : Int) (b5_3 : List (List (Bool × List Int × List Int))) (r : Bool), dendronlaw29_ReportFinds.l1 k x0 x6 x7 x8 x10 x11 b5_0 b5_1 b5_2 b5_3 = some r → Til Tryd.prog 5 [] (.c (.d (.bool r))) none [] (at_ Tryd.f5 18) (dendronlaw29_ReportFinds.l1E x0 x6 x7 x8 x10 x11 b5_0 b5_1 b5_2 b5_3) (dendronlaw29_ReportFinds.l1B x0 x6 x7 x8 x10 x11 b5_0 b5_1 b5_2 b5_3)) := by
  induction k with
  | zero =>
    exact ⟨fun _ _ _ _ _ _ _ _ _ _ _ h => (by cases h), fun _ _ _ _ _ _ _ _ _ _ _ h => (by cases h)⟩
  | succ k ih =>
    refine ⟨?_, ?_⟩
    · intro x0 x1 x6 x7 x8 x9 b5_0 b5_1 b5_2 b5_3 r h
      rw [dendronlaw29_ReportFinds.l0] at h
      by_cases h0 : x9 < (x0.length : Int)
      · rw [if_pos h0] at h
        obtain ⟨h1, h⟩ := ifp h
        by_cases h2 : (gt (0, 0, 0, []) x0 x9).2.2.1 ≠ 0
        · rw [if_pos h2] at h
          obtain ⟨h3, h⟩ := ifp h
          by_cases h4 : x8 < 0
          · rw [if_pos h4] at h
            by_cases h5 : (gt (0, 0, 0, []) x0 x9).1 = x1
            · rw [if_pos h5] at h
              obtain ⟨h6, h⟩ := ifp h
              obtain ⟨v39, h7, h⟩ := bnd h
              obtain ⟨v47, h8, h⟩ := bnd h
              by_cases h9 : v39 ≠ v47
              · rw [if_pos h9] at h
                obtain rfl := Option.some.inj h
                exact Til.fin Tryd.func5 [(3, .b true), (9, .b true), (16, Z3 ([(gt (0, 0, 0, []) x0 x9).1] : List Int)), (17, Z3 (x7 ++ [(gt (0, 0, 0, []) x0 x9).1])), (20, .b true), (28, .b true), (39, ca (.c (.d (.bool v39)))), (47, ca (.c (.d (.bool v47)))), (48, .b true)] (fun _ f => o (decide_eq_true h0) (o (o h1 h0) (o (bne_iff_ne.2 h2) (o (o h1 h0) (o (lit_ok c3 0 ([(gt (0, 0, 0, []) x0 x9).1] : List Int)) (o (app1 c3 0 x7 ((gt (0, 0, 0, []) x0 x9).1) 8 17592186044416 (by decide) h3) (o (decide_eq_true h4) (o (o h1 h0) (o (beq_iff_eq.2 h5) (o (o (nn 0) h6) (o (o h1 h0) (o (report_Same.does h7) (o (o (nn 0) h6) (o (o h1 h0) (o (dendronref29_Same.does h8) (o (nb_t h9) f)))))))))))))))) (by kernel_rfl)
              · rw [if_neg h9] at h
                exact Til.mid Tryd.func5 6 [(3, .b true), (9, .b true), (16, Z3 ([(gt (0, 0, 0, []) x0 x9).1] : List Int)), (17, Z3 (x7 ++ [(gt (0, 0, 0, []) x0 x9).1])), (20, .b true), (28, .b true), (39, ca (.c (.d (.bool v39)))), (47, ca (.c (.d (.bool v47)))), (48, .b false)] (fun _ f => o (decide_eq_true h0) (o (o h1 h0) (o (bne_iff_ne.2 h2) (o (o h1 h0) (o (lit_ok c3 0 ([(gt (0, 0, 0, []) x0 x9).1] : List Int)) (o (app1 c3 0 x7 ((gt (0, 0, 0, []) x0 x9).1) 8 17592186044416 (by decide) h3) (o (decide_eq_true h4) (o (o h1 h0) (o (beq_iff_eq.2 h5) (o (o (nn 0) h6) (o (o h1 h0) (o (report_Same.does h7) (o (o (nn 0) h6) (o (o h1 h0) (o (dendronref29_Same.does h8) (o (nb_f h9) f)))))))))))))))) (by kernel_rfl) (ih.1 _ _ _ _ _ _ _ _ _ _ _ h)
            · rw [if_neg h5] at h
              obtain ⟨h6, h⟩ := ifp h
              obtain ⟨v37, h7, h⟩ := bnd h
              obtain ⟨v45, h8, h⟩ := bnd h
              by_cases h9 : v37 ≠ v45
              · rw [if_pos h9] at h
                obtain rfl := Option.some.inj h
                exact Til.fin Tryd.func5 [(3, .b true), (9, .b true), (16, Z3 ([(gt (0, 0, 0, []) x0 x9).1] : List Int)), (17, Z3 (x7 ++ [(gt (0, 0, 0, []) x0 x9).1])), (20, .b true), (28, .b false), (37, ca (.c (.d (.bool v37)))), (45, ca (.c (.d (.bool v45)))), (46, .b true)] (fun _ f => o (decide_eq_true h0) (o (o h1 h0) (o (bne_iff_ne.2 h2) (o (o h1 h0) (o (lit_ok c3 0 ([(gt (0, 0, 0, []) x0 x9).1] : List Int)) (o (app1 c3 0 x7 ((gt (0, 0, 0, []) x0 x9).1) 8 17592186044416 (by decide) h3) (o (decide_eq_true h4) (o (o h1 h0) (o (beq_false_of_ne h5) (o (o (nn 0) h6) (o (o h1 h0) (o (report_Same.does h7) (o (o (nn 0) h6) (o (o h1 h0) (o (dendronref29_Same.does h8) (o (nb_t h9) f)))))))))))))))) (by kernel_rfl)
              · rw [if_neg h9] at h
                exact Til.mid Tryd.func5 6 [(3, .b true), (9, .b true), (16, Z3 ([(gt (0, 0, 0, []) x0 x9).1] : List Int)), (17, Z3 (x7 ++ [(gt (0, 0, 0, []) x0 x9).1])), (20, .b true), (28, .b false), (37, ca (.c (.d (.bool v37)))), (45, ca (.c (.d (.bool v45)))), (46, .b false)] (fun _ f => o (decide_eq_true h0) (o (o h1 h0) (o (bne_iff_ne.2 h2) (o (o h1 h0) (o (lit_ok c3 0 ([(gt (0, 0, 0, []) x0 x9).1] : List Int)) (o (app1 c3 0 x7 ((gt (0, 0, 0, []) x0 x9).1) 8 17592186044416 (by decide) h3) (o (decide_eq_true h4) (o (o h1 h0) (o (beq_false_of_ne h5) (o (o (nn 0) h6) (o (o h1 h0) (o (report_Same.does h7) (o (o (nn 0) h6) (o (o h1 h0) (o (dendronref29_Same.does h8) (o (nb_f h9) f)))))))))))))))) (by kernel_rfl) (ih.1 _ _ _ _ _ _ _ _ _ _ _ h)
          · rw [if_neg h4] at h
            obtain ⟨h5, h⟩ := ifp h
            obtain ⟨v37, h6, h⟩ := bnd h
            obtain ⟨v45, h7, h⟩ := bnd h
            by_cases h8 : v37 ≠ v45
            · rw [if_pos h8] at h
              obtain rfl := Option.some.inj h
              exact Til.fin Tryd.func5 [(3, .b true), (9, .b true), (16, Z3 ([(gt (0, 0, 0, []) x0 x9).1] : List Int)), (17, Z3 (x7 ++ [(gt (0, 0, 0, []) x0 x9).1])), (20, .b false), (37, ca (.c (.d (.bool v37)))), (45, ca (.c (.d (.bool v45)))), (46, .b true)] (fun _ f => o (decide_eq_true h0) (o (o h1 h0) (o (bne_iff_ne.2 h2) (o (o h1 h0) (o (lit_ok c3 0 ([(gt (0, 0, 0, []) x0 x9).1] : List Int)) (o (app1 c3 0 x7 ((gt (0, 0, 0, []) x0 x9).1) 8 17592186044416 (by decide) h3) (o (decide_eq_false h4) (o (o (nn 0) h5) (o (o h1 h0) (o (report_Same.does h6) (o (o (nn 0) h5) (o (o h1 h0) (o (dendronref29_Same.does h7) (o (nb_t h8) f)))))))))))))) (by kernel_rfl)
            · rw [if_neg h8] at h
              exact Til.mid Tryd.func5 6 [(3, .b true), (9, .b true), (16, Z3 ([(gt (0, 0, 0, []) x0 x9).1] : List Int)), (17, Z3 (x7 ++ [(gt (0, 0, 0, []) x0 x9).1])), (20, .b false), (37, ca (.c (.d (.bool v37)))), (45, ca (.c (.d (.bool v45)))), (46, .b false)] (fun _ f => o (decide_eq_true h0) (o (o h1 h0) (o (bne_iff_ne.2 h2) (o (o h1 h0) (o (lit_ok c3 0 ([(gt (0, 0, 0, []) x0 x9).1] : List Int)) (o (app1 c3 0 x7 ((gt (0, 0, 0, []) x0 x9).1) 8 17592186044416 (by decide) h3) (o (decide_eq_false h4) (o (o (nn 0) h5) (o (o h1 h0) (o (report_Same.does h6) (o (o (nn 0) h5) (o (o h1 h0) (o (dendronref29_Same.does h7) (o (nb_f h8) f)))))))))))))) (by kernel_rfl) (ih.1 _ _ _ _ _ _ _ _ _ _ _ h)
        · rw [if_neg h2] at h
          by_cases h3 : x8 < 0
          · rw [if_pos h3] at h
            by_cases h4 : (gt (0, 0, 0, []) x0 x9).1 = x1
            · rw [if_pos h4] at h
              obtain ⟨h5, h⟩ := ifp h
              obtain ⟨v30, h6, h⟩ := bnd h
              obtain ⟨v38, h7, h⟩ := bnd h
              by_cases h8 : v30 ≠ v38
              · rw [if_pos h8] at h
                obtain rfl := Option.some.inj h
                exact Til.fin Tryd.func5 [(3, .b true), (9, .b false), (11, .b true), (19, .b true), (30, ca (.c (.d (.bool v30)))), (38, ca (.c (.d (.bool v38)))), (39, .b true)] (fun _ f => o (decide_eq_true h0) (o (o h1 h0) (o (ne_f h2) (o (decide_eq_true h3) (o (o h1 h0) (o (beq_iff_eq.2 h4) (o (o (nn 0) h5) (o (o h1 h0) (o (report_Same.does h6) (o (o (nn 0) h5) (o (o h1 h0) (o (dendronref29_Same.does h7) (o (nb_t h8) f))))))))))))) (by kernel_rfl)
              · rw [if_neg h8] at h
                exact Til.mid Tryd.func5 6 [(3, .b true), (9, .b false), (11, .b true), (19, .b true), (30, ca (.c (.d (.bool v30)))), (38, ca (.c (.d (.bool v38)))), (39, .b false)] (fun _ f => o (decide_eq_true h0) (o (o h1 h0) (o (ne_f h2) (o (decide_eq_true h3) (o (o h1 h0) (o (beq_iff_eq.2 h4) (o (o (nn 0) h5) (o (o h1 h0) (o (report_Same.does h6) (o (o (nn 0) h5) (o (o h1 h0) (o (dendronref29_Same.does h7) (o (nb_f h8) f))))))))))))) (by kernel_rfl) (ih.1 _ _ _ _ _ _ _ _ _ _ _ h)
            · rw [if_neg h4] at h
              obtain ⟨h5, h⟩ := ifp h
              obtain ⟨v28, h6, h⟩ := bnd h
              obtain ⟨v36, h7, h⟩ := bnd h
              by_cases h8 : v28 ≠ v36
              · rw [if_pos h8] at h
                obtain rfl := Option.some.inj h
                exact Til.fin Tryd.func5 [(3, .b true), (9, .b false), (11, .b true), (19, .b false), (28, ca (.c (.d (.bool v28)))), (36, ca (.c (.d (.bool v36)))), (37, .b true)] (fun _ f => o (decide_eq_true h0) (o (o h1 h0) (o (ne_f h2) (o (decide_eq_true h3) (o (o h1 h0) (o (beq_false_of_ne h4) (o (o (nn 0) h5) (o (o h1 h0) (o (report_Same.does h6) (o (o (nn 0) h5) (o (o h1 h0) (o (dendronref29_Same.does h7) (o (nb_t h8) f))))))))))))) (by kernel_rfl)
              · rw [if_neg h8] at h
                exact Til.mid Tryd.func5 6 [(3, .b true), (9, .b false), (11, .b true), (19, .b false), (28, ca (.c (.d (.bool v28)))), (36, ca (.c (.d (.bool v36)))), (37, .b false)] (fun _ f => o (decide_eq_true h0) (o (o h1 h0) (o (ne_f h2) (o (decide_eq_true h3) (o (o h1 h0) (o (beq_false_of_ne h4) (o (o (nn 0) h5) (o (o h1 h0) (o (report_Same.does h6) (o (o (nn 0) h5) (o (o h1 h0) (o (dendronref29_Same.does h7) (o (nb_f h8) f))))))))))))) (by kernel_rfl) (ih.1 _ _ _ _ _ _ _ _ _ _ _ h)
          · rw [if_neg h3] at h
            obtain ⟨h4, h⟩ := ifp h
            obtain ⟨v28, h5, h⟩ := bnd h
            obtain ⟨v36, h6, h⟩ := bnd h
            by_cases h7 : v28 ≠ v36
            · rw [if_pos h7] at h
              obtain rfl := Option.some.inj h
              exact Til.fin Tryd.func5 [(3, .b true), (9, .b false), (11, .b false), (28, ca (.c (.d (.bool v28)))), (36, ca (.c (.d (.bool v36)))), (37, .b true)] (fun _ f => o (decide_eq_true h0) (o (o h1 h0) (o (ne_f h2) (o (decide_eq_false h3) (o (o (nn 0) h4) (o (o h1 h0) (o (report_Same.does h5) (o (o (nn 0) h4) (o (o h1 h0) (o (dendronref29_Same.does h6) (o (nb_t h7) f))))))))))) (by kernel_rfl)
            · rw [if_neg h7] at h
              exact Til.mid Tryd.func5 6 [(3, .b true), (9, .b false), (11, .b false), (28, ca (.c (.d (.bool v28)))), (36, ca (.c (.d (.bool v36)))), (37, .b false)] (fun _ f => o (decide_eq_true h0) (o (o h1 h0) (o (ne_f h2) (o (decide_eq_false h3) (o (o (nn 0) h4) (o (o h1 h0) (o (report_Same.does h5) (o (o (nn 0) h4) (o (o h1 h0) (o (dendronref29_Same.does h6) (o (nb_f h7) f))))))))))) (by kernel_rfl) (ih.1 _ _ _ _ _ _ _ _ _ _ _ h)
      · rw [if_neg h0] at h
        obtain ⟨v5, h1, h⟩ := bnd h
        by_cases h2 : (v5.length : Int) ≠ (x7.length : Int)
        · rw [if_pos h2] at h
          obtain rfl := Option.some.inj h
          exact Til.fin Tryd.func5 [(3, .b false), (5, ca (.c (.d (L3 v5)))), (11, .b true)] (fun _ f => o (decide_eq_false h0) (o (report_Faults.does h1) (o (bne_iff_ne.2 h2) f))) (by kernel_rfl)
        · rw [if_neg h2] at h
          exact Til.mid Tryd.func5 18 [(3, .b false), (5, ca (.c (.d (L3 v5)))), (11, .b false)] (fun _ f => o (decide_eq_false h0) (o (report_Faults.does h1) (o (ne_f h2) f))) (by kernel_rfl) (ih.2 _ _ _ _ _ _ _ _ _ _ _ h)
    · intro x0 x6 x7 x8 x10 x11 b5_0 b5_1 b5_2 b5_3 r h
      rw [dendronlaw29_ReportFinds.l1] at h
      by_cases h0 : x11 < (x10.length : Int)
      · rw [if_pos h0] at h
        obtain ⟨h1, h⟩ := ifp h
        obtain ⟨h2, h⟩ := ifp h
        by_cases h3 : (rd x10 x11) ≠ (rd x7 x11)
        · rw [if_pos h3] at h
          obtain rfl := Option.some.inj h
          exact Til.fin Tryd.func5 [(3, .b true), (12, .b true)] (fun _ f => o (decide_eq_true h0) (o (o h1 h0) (o (o h1 h2) (o (bne_iff_ne.2 h3) f)))) (by kernel_rfl)
        · rw [if_neg h3] at h
          exact Til.mid Tryd.func5 18 [(3, .b true), (12, .b false)] (fun _ f => o (decide_eq_true h0) (o (o h1 h0) (o (o h1 h2) (o (ne_f h3) f)))) (by kernel_rfl) (ih.2 _ _ _ _ _ _ _ _ _ _ _ h)
      · rw [if_neg h0] at h
        by_cases h1 : x8 < 0
        · rw [if_pos h1] at h
          by_cases h2 : x6 = true
          · rw [if_pos h2] at h
            obtain rfl := Option.some.inj h
            exact Til.fin Tryd.func5 [(3, .b false), (5, .b true), (6, .b true)] (fun _ f => o (decide_eq_false h0) (o (decide_eq_true h1) (o h2 f))) (by kernel_rfl)
          · rw [if_neg h2] at h
            obtain ⟨v11, h3, h⟩ := bnd h
            cases v11
            · rw [if_neg (by decide)] at h
              obtain rfl := Option.some.inj h
              exact Til.fin Tryd.func5 [(3, .b false), (5, .b true), (6, .b false), (11, .call [(1, .agg [.d (.int .i64 0), .d (.int .i64 0), .d (.int .i64 0), .d (L47 ([] : List (List (Bool × List Int × List Int))))])] [] (.c (.d (.bool false))) none [] [])] (fun _ f => o (decide_eq_false h0) (o (decide_eq_true h1) (o (Bool.eq_false_iff.2 h2) (o (dendronref29_Same.does h3) f)))) (by kernel_rfl)
            · rw [if_pos rfl] at h
              obtain ⟨v14, h5, h⟩ := bnd h
              obtain rfl := Option.some.inj h
              exact Til.fin Tryd.func5 [(3, .b false), (5, .b true), (6, .b false), (11, .call [(1, .agg [.d (.int .i64 0), .d (.int .i64 0), .d (.int .i64 0), .d (L47 ([] : List (List (Bool × List Int × List Int))))])] [] (.c (.d (.bool true))) none [] []), (14, ca (.c (.d (.bool v14))))] (fun _ f => o (decide_eq_false h0) (o (decide_eq_true h1) (o (Bool.eq_false_iff.2 h2) (o (dendronref29_Same.does h3) (o (dendronlaw29_awake.does h5) f))))) (by kernel_rfl)
        · rw [if_neg h1] at h
          by_cases h2 : x6 = true
          · rw [if_pos h2] at h
            obtain ⟨h3, h⟩ := ifp h
            obtain ⟨h4, h⟩ := ifp h
            obtain ⟨v13, h5, h⟩ := bnd h
            cases v13
            · rw [if_neg (by decide)] at h
              obtain rfl := Option.some.inj h
              exact Til.fin Tryd.func5 [(3, .b false), (5, .b false), (6, .b true), (13, ca (.c (.d (.bool false))))] (fun _ f => o (decide_eq_false h0) (o (decide_eq_false h1) (o h2 (o (o h3 h4) (o (dendronref29_Same.does h5) f))))) (by kernel_rfl)
            · rw [if_pos rfl] at h
              obtain ⟨v16, h7, h⟩ := bnd h
              obtain rfl := Option.some.inj h
              exact Til.fin Tryd.func5 [(3, .b false), (5, .b false), (6, .b true), (13, ca (.c (.d (.bool true)))), (16, ca (.c (.d (.bool v16))))] (fun _ f => o (decide_eq_false h0) (o (decide_eq_false h1) (o h2 (o (o h3 h4) (o (dendronref29_Same.does h5) (o (dendronlaw29_awake.does h7) f)))))) (by kernel_rfl)
          · rw [if_neg h2] at h
            obtain rfl := Option.some.inj h
            exact Til.fin Tryd.func5 [(3, .b false), (5, .b false), (6, .b false)] (fun _ f => o (decide_eq_false h0) (o (decide_eq_false h1) (o (Bool.eq_false_iff.2 h2) f))) (by kernel_rfl)
theorem dendronlaw29_ReportFinds.does {k : Nat} {l0 : List (Int × Int × Int × List (List (Bool × List Int × List Int)))} {a1 : Int} {r : Bool} (h : dendronlaw29_ReportFinds.f k l0 a1 = some r) :
    Does Tryd.prog 5 [.c (.d (L33 l0)), .c (.d (.int .i64 a1))] [] (.c (.d (.bool r))) none [] := by
  refine does_fn Tryd.func5 (by kernel_rfl) rfl rfl ?_
  unfold dendronlaw29_ReportFinds.f at h
  have ih := dendronlaw29_ReportFinds.w k
  obtain ⟨v2, h0, h⟩ := bnd h
  obtain ⟨v6, h1, h⟩ := bnd h
  exact Til.mid Tryd.func5 6 [(2, ca (.c (.d (L33 v2)))), (6, ca (.tup [.agg [.d (.int .i64 v6.1), .d (.int .i64 v6.2.1), .d (.int .i64 v6.2.2.1), .d (L47 v6.2.2.2.1)], .c (.d (.bool v6.2.2.2.2))]))] (fun _ f => o (dendronlaw29_Few.does h0) (o (report_Find.does h1) f)) (by kernel_rfl) (ih.1 _ _ _ _ _ _ _ _ _ _ _ h)

def c22 (x : List (Int × Int × Int × List (List (Bool × List Int × List Int)))) : List Dat := [L33 x]
def L22 (xs : List (List (Int × Int × Int × List (List (Bool × List Int × List Int))))) : Dat := fr 1 c22 [] xs
def Z22 (xs : List (List (Int × Int × Int × List (List (Bool × List Int × List Int))))) : Sup := .r xs.length (enc c22 [] xs)
def O22 (k : RK) (xs : List (List (Int × Int × Int × List (List (Bool × List Int × List Int))))) : Ob := .row k 22 1 xs.length (enc c22 [] xs)

def c24 (x : Int) : List Dat := [.int .i64 x]
def L24 (xs : List Int) : Dat := fr 1 c24 0 xs
def Z24 (xs : List Int) : Sup := .r xs.length (enc c24 0 xs)
def O24 (k : RK) (xs : List Int) : Ob := .row k 24 1 xs.length (enc c24 0 xs)

def c31 (x : List (List (Bool × List Int × List Int))) : List Dat := [L47 x]
def L31 (xs : List (List (List (Bool × List Int × List Int)))) : Dat := fr 1 c31 [] xs
def Z31 (xs : List (List (List (Bool × List Int × List Int)))) : Sup := .r xs.length (enc c31 [] xs)
def O31 (k : RK) (xs : List (List (List (Bool × List Int × List Int)))) : Ob := .row k 31 1 xs.length (enc c31 [] xs)

def c53 (x : Bool × List Int) : List Dat := [.bool x.1, L90 x.2]
def L53 (xs : List (Bool × List Int)) : Dat := fr 2 c53 (false, []) xs
def Z53 (xs : List (Bool × List Int)) : Sup := .r xs.length (enc c53 (false, []) xs)
def O53 (k : RK) (xs : List (Bool × List Int)) : Ob := .row k 53 2 xs.length (enc c53 (false, []) xs)

def c4 (x : Bool) : List Dat := [.bool x]
def L4 (xs : List Bool) : Dat := fr 1 c4 false xs
def Z4 (xs : List Bool) : Sup := .r xs.length (enc c4 false xs)
def O4 (k : RK) (xs : List Bool) : Ob := .row k 4 1 xs.length (enc c4 false xs)

def c51 (x : List Int) : List Dat := [L90 x]
def L51 (xs : List (List Int)) : Dat := fr 1 c51 [] xs
def Z51 (xs : List (List Int)) : Sup := .r xs.length (enc c51 [] xs)
def O51 (k : RK) (xs : List (List Int)) : Ob := .row k 51 1 xs.length (enc c51 [] xs)

end Go.DI
