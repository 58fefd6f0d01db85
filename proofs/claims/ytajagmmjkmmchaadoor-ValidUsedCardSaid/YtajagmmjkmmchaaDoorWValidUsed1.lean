/- The code of the functions does what is told of it, part 1. No condition. -/
import Derived.Test.YtajagmmjkmmchaaDoorBValidUsed
set_option linter.all false
namespace Go.DI
open Go Go.RowKit Go.Proofs
set_option linter.unusedVariables false
set_option maxRecDepth 20000
def c59 (x : Int) : List Dat := [.int .u64 x]
def L59 (xs : List Int) : Dat := fr 1 c59 0 xs
def Z59 (xs : List Int) : Sup := .r xs.length (enc c59 0 xs)
def O59 (k : RK) (xs : List Int) : Ob := .row k 59 1 xs.length (enc c59 0 xs)

theorem dendronlaw07_number.does {a0_0 : Bool} {l0_1 : List Int} {l0_2 : List Int} {r : Bool × List Int × List Int} (h : dendronlaw07_number.f a0_0 l0_1 l0_2 = some r) :
    Does Tryd.prog 21 [.agg [.d (.bool a0_0), .d (L59 l0_1), .d (L59 l0_2)]] [] (.agg [.d (.bool r.1), .d (L59 r.2.1), .d (L59 r.2.2)]) none [] := by
  refine does_fn Tryd.func21 (by kernel_rfl) rfl rfl ?_
  unfold dendronlaw07_number.f at h
  by_cases h0 : (l0_1.length : Int) > 4
  · rw [if_pos h0] at h
    obtain ⟨h1, h⟩ := ifp h
    by_cases h2 : (l0_2.length : Int) > 4
    · rw [if_pos h2] at h
      obtain ⟨h3, h⟩ := ifp h
      obtain rfl := Option.some.inj h
      exact Til.fin Tryd.func21 [(6, .b true), (10, Z59 (l0_1.take 4)), (17, .b true), (20, Z59 (l0_2.take 4))] (fun _ f => o (decide_eq_true h0) (o (take_ok c59 0 l0_1 (nn 4) h1) (o (decide_eq_true h2) (o (take_ok c59 0 l0_2 (nn 4) h3) f)))) (by kernel_rfl)
    · rw [if_neg h2] at h
      obtain rfl := Option.some.inj h
      exact Til.fin Tryd.func21 [(6, .b true), (10, Z59 (l0_1.take 4)), (17, .b false)] (fun _ f => o (decide_eq_true h0) (o (take_ok c59 0 l0_1 (nn 4) h1) (o (decide_eq_false h2) f))) (by kernel_rfl)
  · rw [if_neg h0] at h
    by_cases h1 : (l0_2.length : Int) > 4
    · rw [if_pos h1] at h
      obtain ⟨h2, h⟩ := ifp h
      obtain rfl := Option.some.inj h
      exact Til.fin Tryd.func21 [(6, .b false), (10, .b true), (13, Z59 (l0_2.take 4))] (fun _ f => o (decide_eq_false h0) (o (decide_eq_true h1) (o (take_ok c59 0 l0_2 (nn 4) h2) f))) (by kernel_rfl)
    · rw [if_neg h1] at h
      obtain rfl := Option.some.inj h
      exact Til.fin Tryd.func21 [(6, .b false), (10, .b false)] (fun _ f => o (decide_eq_false h0) (o (decide_eq_false h1) f)) (by kernel_rfl)

def c43 (x : Bool × Int × Bool × List Int × List Int × Int × Int × Bool × Bool × List Int × List Int × Bool × List Int × List Int) : List Dat := [.bool x.1, .int .i64 x.2.1, .bool x.2.2.1, L59 x.2.2.2.1, L59 x.2.2.2.2.1, .int .i64 x.2.2.2.2.2.1, .int .i64 x.2.2.2.2.2.2.1, .bool x.2.2.2.2.2.2.2.1, .bool x.2.2.2.2.2.2.2.2.1, L59 x.2.2.2.2.2.2.2.2.2.1, L59 x.2.2.2.2.2.2.2.2.2.2.1, .bool x.2.2.2.2.2.2.2.2.2.2.2.1, L59 x.2.2.2.2.2.2.2.2.2.2.2.2.1, L59 x.2.2.2.2.2.2.2.2.2.2.2.2.2]
def L43 (xs : List (Bool × Int × Bool × List Int × List Int × Int × Int × Bool × Bool × List Int × List Int × Bool × List Int × List Int)) : Dat := fr 14 c43 (false, 0, false, [], [], 0, 0, false, false, [], [], false, [], []) xs
def Z43 (xs : List (Bool × Int × Bool × List Int × List Int × Int × Int × Bool × Bool × List Int × List Int × Bool × List Int × List Int)) : Sup := .r xs.length (enc c43 (false, 0, false, [], [], 0, 0, false, false, [], [], false, [], []) xs)
def O43 (k : RK) (xs : List (Bool × Int × Bool × List Int × List Int × Int × Int × Bool × Bool × List Int × List Int × Bool × List Int × List Int)) : Ob := .row k 43 14 xs.length (enc c43 (false, 0, false, [], [], 0, 0, false, false, [], [], false, [], []) xs)

def c32 (x : List (Bool × Int × Bool × List Int × List Int × Int × Int × Bool × Bool × List Int × List Int × Bool × List Int × List Int)) : List Dat := [L43 x]
def L32 (xs : List (List (Bool × Int × Bool × List Int × List Int × Int × Int × Bool × Bool × List Int × List Int × Bool × List Int × List Int))) : Dat := fr 1 c32 [] xs
def Z32 (xs : List (List (Bool × Int × Bool × List Int × List Int × Int × Int × Bool × Bool × List Int × List Int × Bool × List Int × List Int))) : Sup := .r xs.length (enc c32 [] xs)
def O32 (k : RK) (xs : List (List (Bool × Int × Bool × List Int × List Int × Int × Int × Bool × Bool × List Int × List Int × Bool × List Int × List Int))) : Ob := .row k 32 1 xs.length (enc c32 [] xs)

def dendronlaw07_Few.l0E (x4 : Int) (b1_0 : Int) (b1_1 : List (List (Bool × Int × Bool × List Int × List Int × Int × Int × Bool × Bool × List Int × List Int × Bool × List Int × List Int))) (b2_0 : Int) (b3_0 : Int) (b3_1 : List (List (Bool × Int × Bool × List Int × List Int × Int × Int × Bool × Bool × List Int × List Int × Bool × List Int × List Int))) : Env := [(1, .c (.ptr 1 0)), (2, .c (.ptr 2 0)), (3, .c (.ptr 3 0)), (4, .c (.d (.int .i64 x4)))]
def dendronlaw07_Few.l0B (x4 : Int) (b1_0 : Int) (b1_1 : List (List (Bool × Int × Bool × List Int × List Int × Int × Int × Bool × Bool × List Int × List Int × Bool × List Int × List Int))) (b2_0 : Int) (b3_0 : Int) (b3_1 : List (List (Bool × Int × Bool × List Int × List Int × Int × Int × Bool × Bool × List Int × List Int × Bool × List Int × List Int))) : Obs := [(1, some (.box [.d (.int .i64 b1_0), .d (L32 b1_1)])), (2, some (.box [.d (.int .i64 b2_0), .nils])), (3, some (.box [.d (.int .i64 b3_0), .own 1004001])), (1004001, some (O32 .own b3_1))]
def dendronlaw07_Few.l1E (x4 : Int) (x5 : List (Bool × Int × Bool × List Int × List Int × Int × Int × Bool × Bool × List Int × List Int × Bool × List Int × List Int)) (x6 : Int) (x17 : Int) (x18 : Bool) (b1_0 : Int) (b1_1 : List (List (Bool × Int × Bool × List Int × List Int × Int × Int × Bool × Bool × List Int × List Int × Bool × List Int × List Int))) (b2_0 : Int) (b3_0 : Int) (b3_1 : List (List (Bool × Int × Bool × List Int × List Int × Int × Int × Bool × Bool × List Int × List Int × Bool × List Int × List Int))) : Env := [(1, .c (.ptr 1 0)), (2, .c (.ptr 2 0)), (3, .c (.ptr 3 0)), (4, .c (.d (.int .i64 x4))), (5, .c (.own 5)), (6, .c (.d (.int .i64 x6))), (17, .c (.d (.int .i64 x17))), (18, .c (.d (.bool x18)))]
def dendronlaw07_Few.l1B (x4 : Int) (x5 : List (Bool × Int × Bool × List Int × List Int × Int × Int × Bool × Bool × List Int × List Int × Bool × List Int × List Int)) (x6 : Int) (x17 : Int) (x18 : Bool) (b1_0 : Int) (b1_1 : List (List (Bool × Int × Bool × List Int × List Int × Int × Int × Bool × Bool × List Int × List Int × Bool × List Int × List Int))) (b2_0 : Int) (b3_0 : Int) (b3_1 : List (List (Bool × Int × Bool × List Int × List Int × Int × Int × Bool × Bool × List Int × List Int × Bool × List Int × List Int))) : Obs := [(1, some (.box [.d (.int .i64 b1_0), .d (L32 b1_1)])), (2, some (.box [.d (.int .i64 b2_0), .nils])), (3, some (.box [.d (.int .i64 b3_0), .own 1004001])), (5, some (O43 .own x5)), (1004001, some (O32 .own b3_1))]
theorem dendronlaw07_Few.w (k : Nat) : (∀  (x4 : Int) (b1_0 : Int) (b1_1 : List (List (Bool × Int × Bool × List Int × List Int × Int × Int × Bool × Bool × List Int × List Int × Bool × List Int × List Int))) (b2_0 : Int) (b3_0 : Int) (b3_1 : List (List (Bool × Int × Bool × List Int × List Int × Int × Int × Bool × Bool × List Int × List Int × Bool × List Int × List Int))) (r : Int × List (List (Bool × Int × Bool × List Int × List Int × Int × Int × Bool × Bool × List Int × List Int × Bool × List Int × List Int))), dendronlaw07_Few.l0 k x4 b1_0 b1_1 b2_0 b3_0 b3_1 = some r → Til Tryd.prog 7 [] (.agg [.d (.int .i64 r.1), .d (L32 r.2)]) none [] (at_ Tryd.f7 3) (dendronlaw07_Few.l0E x4 b1_0 b1_1 b2_0 b3_0 b3_1) (dendronlaw07_Few.l0B x4 b1_0 b1_1 b2_0 b3_0 b3_1)) ∧
    (∀  (x4 : Int) (x5 : List (Bool × Int × Bool × List Int × List Int × Int × Int × Bool × Bool × List Int × List Int × Bool × List Int × List Int)) (x6 : Int) (x17 : Int) (x18 : Bool) (b1_0 : Int) (b1_1 : List (List (Bool × Int × Bool × List Int × List Int × Int × Int × Bool × Bool × List Int × List Int × Bool × List Int × List Int))) (b2_0 : Int) (b3_0 : Int) (b3_1 : List (List (Bool × Int × Bool × List Int × List Int × Int × Int × Bool × Bool × List Int × List Int × Bool × List Int × List Int))) (r : Int × List (List (Bool × Int × Bool × List Int × List Int × Int × Int × Bool × Bool × List Int × List Int × Bool × List Int × List Int))), dendronlaw07_Few.l1 k x4 x5 x6 x17 x18 b1_0 b1_1 b2_0 b3_0 b3_1 = some r → Til Tryd.prog 7 [] (.agg [.d (.int .i64 r.1), .d (L32 r.2)]) none [] (at_ Tryd.f7 7) (dendronlaw07_Few.l1E x4 x5 x6 x17 x18 b1_0 b1_1 b2_0 b3_0 b3_1) (dendronlaw07_Few.l1B x4 x5 x6 x17 x18 b1_0 b1_1 b2_0 b3_0 b3_1)) := by
  induction k with
  | zero =>
    exact ⟨fun _ _ _ _ _ _ _ h => (by cases h), fun _ _ _ _ _ _ _ _ _ _ _ h => (by cases h)⟩
  | succ k ih =>
    refine ⟨?_, ?_⟩
    · intro x4 b1_0 b1_1 b2_0 b3_0 b3_1 r h
      rw [dendronlaw07_Few.l0] at h
      by_cases h0 : x4 < (b1_1.length : Int)
      · rw [if_pos h0] at h
        by_cases h1 : x4 < 6
        · rw [if_pos h1] at h
          exact Til.mid Tryd.func7 7 [(4, .b true), (7, .b true)] (fun _ f => o (decide_eq_true h0) (o (decide_eq_true h1) f)) (by kernel_rfl) (ih.2 _ _ _ _ _ _ _ _ _ _ _ h)
        · rw [if_neg h1] at h
          obtain rfl := Option.some.inj h
          exact Til.fin Tryd.func7 [(4, .b true), (7, .b false)] (fun _ f => o (decide_eq_true h0) (o (decide_eq_false h1) f)) (by kernel_rfl)
      · rw [if_neg h0] at h
        obtain rfl := Option.some.inj h
        exact Til.fin Tryd.func7 [(4, .b false)] (fun _ f => o (decide_eq_false h0) f) (by kernel_rfl)
    · intro x4 x5 x6 x17 x18 b1_0 b1_1 b2_0 b3_0 b3_1 r h
      rw [dendronlaw07_Few.l1] at h
      obtain ⟨h0, h⟩ := ifp h
      obtain ⟨h1, h⟩ := ifp h
      by_cases h2 : x6 < ((gt [] b1_1 x4).length : Int)
      · rw [if_pos h2] at h
        by_cases h3 : x6 < 15
        · rw [if_pos h3] at h
          obtain ⟨h4, h⟩ := ifp h
          obtain ⟨v24, h5, h⟩ := bnd h
          obtain ⟨v29, h6, h⟩ := bnd h
          obtain ⟨v34, h7, h⟩ := bnd h
          obtain ⟨h8, h⟩ := ifp h
          exact Til.mid Tryd.func7 7 [(7, .b true), (10, .b true), (24, ca (.agg [.d (.bool v24.1), .d (L59 v24.2.1), .d (L59 v24.2.2)])), (29, ca (.agg [.d (.bool v29.1), .d (L59 v29.2.1), .d (L59 v29.2.2)])), (34, ca (.agg [.d (.bool v34.1), .d (L59 v34.2.1), .d (L59 v34.2.2)])), (39, Z43 ([((gt (false, 0, false, [], [], 0, 0, false, false, [], [], false, [], []) (gt [] b1_1 x4) x6).1, (gt (false, 0, false, [], [], 0, 0, false, false, [], [], false, [], []) (gt [] b1_1 x4) x6).2.1, v24.1, v24.2.1, v24.2.2, (gt (false, 0, false, [], [], 0, 0, false, false, [], [], false, [], []) (gt [] b1_1 x4) x6).2.2.2.2.2.1, (gt (false, 0, false, [], [], 0, 0, false, false, [], [], false, [], []) (gt [] b1_1 x4) x6).2.2.2.2.2.2.1, (gt (false, 0, false, [], [], 0, 0, false, false, [], [], false, [], []) (gt [] b1_1 x4) x6).2.2.2.2.2.2.2.1, v29.1, v29.2.1, v29.2.2, v34.1, v34.2.1, v34.2.2)] : List (Bool × Int × Bool × List Int × List Int × Int × Int × Bool × Bool × List Int × List Int × Bool × List Int × List Int))), (40, Z43 (x5 ++ [((gt (false, 0, false, [], [], 0, 0, false, false, [], [], false, [], []) (gt [] b1_1 x4) x6).1, (gt (false, 0, false, [], [], 0, 0, false, false, [], [], false, [], []) (gt [] b1_1 x4) x6).2.1, v24.1, v24.2.1, v24.2.2, (gt (false, 0, false, [], [], 0, 0, false, false, [], [], false, [], []) (gt [] b1_1 x4) x6).2.2.2.2.2.1, (gt (false, 0, false, [], [], 0, 0, false, false, [], [], false, [], []) (gt [] b1_1 x4) x6).2.2.2.2.2.2.1, (gt (false, 0, false, [], [], 0, 0, false, false, [], [], false, [], []) (gt [] b1_1 x4) x6).2.2.2.2.2.2.2.1, v29.1, v29.2.1, v29.2.2, v34.1, v34.2.1, v34.2.2)]))] (fun _ f => o (o h0 h1) (o (decide_eq_true h2) (o (decide_eq_true h3) (o (o h0 h1) (o (o h4 h2) (o (dendronlaw07_number.does h5) (o (dendronlaw07_number.does h6) (o (dendronlaw07_number.does h7) (o (lit_ok c43 (false, 0, false, [], [], 0, 0, false, false, [], [], false, [], []) ([((gt (false, 0, false, [], [], 0, 0, false, false, [], [], false, [], []) (gt [] b1_1 x4) x6).1, (gt (false, 0, false, [], [], 0, 0, false, false, [], [], false, [], []) (gt [] b1_1 x4) x6).2.1, v24.1, v24.2.1, v24.2.2, (gt (false, 0, false, [], [], 0, 0, false, false, [], [], false, [], []) (gt [] b1_1 x4) x6).2.2.2.2.2.1, (gt (false, 0, false, [], [], 0, 0, false, false, [], [], false, [], []) (gt [] b1_1 x4) x6).2.2.2.2.2.2.1, (gt (false, 0, false, [], [], 0, 0, false, false, [], [], false, [], []) (gt [] b1_1 x4) x6).2.2.2.2.2.2.2.1, v29.1, v29.2.1, v29.2.2, v34.1, v34.2.1, v34.2.2)] : List (Bool × Int × Bool × List Int × List Int × Int × Int × Bool × Bool × List Int × List Int × Bool × List Int × List Int))) (o (app1 c43 (false, 0, false, [], [], 0, 0, false, false, [], [], false, [], []) x5 ((gt (false, 0, false, [], [], 0, 0, false, false, [], [], false, [], []) (gt [] b1_1 x4) x6).1, (gt (false, 0, false, [], [], 0, 0, false, false, [], [], false, [], []) (gt [] b1_1 x4) x6).2.1, v24.1, v24.2.1, v24.2.2, (gt (false, 0, false, [], [], 0, 0, false, false, [], [], false, [], []) (gt [] b1_1 x4) x6).2.2.2.2.2.1, (gt (false, 0, false, [], [], 0, 0, false, false, [], [], false, [], []) (gt [] b1_1 x4) x6).2.2.2.2.2.2.1, (gt (false, 0, false, [], [], 0, 0, false, false, [], [], false, [], []) (gt [] b1_1 x4) x6).2.2.2.2.2.2.2.1, v29.1, v29.2.1, v29.2.2, v34.1, v34.2.1, v34.2.2) 208 676622540169 (by decide) h8) f)))))))))) (by kernel_rfl) (ih.2 _ _ _ _ _ _ _ _ _ _ _ h)
        · rw [if_neg h3] at h
          obtain ⟨h4, h⟩ := ifp h
          exact Til.mid Tryd.func7 3 [(7, .b true), (10, .b false), (15, Z32 ([x5] : List (List (Bool × Int × Bool × List Int × List Int × Int × Int × Bool × Bool × List Int × List Int × Bool × List Int × List Int)))), (16, Z32 (b3_1 ++ [x5]))] (fun _ f => o (o h0 h1) (o (decide_eq_true h2) (o (decide_eq_false h3) (o (lit_ok c32 [] ([x5] : List (List (Bool × Int × Bool × List Int × List Int × Int × Int × Bool × Bool × List Int × List Int × Bool × List Int × List Int)))) (o (app1 c32 [] b3_1 x5 24 5864062014805 (by decide) h4) f))))) (by kernel_rfl) (ih.1 _ _ _ _ _ _ _ h)
      · rw [if_neg h2] at h
        obtain ⟨h3, h⟩ := ifp h
        exact Til.mid Tryd.func7 3 [(7, .b false), (15, Z32 ([x5] : List (List (Bool × Int × Bool × List Int × List Int × Int × Int × Bool × Bool × List Int × List Int × Bool × List Int × List Int)))), (16, Z32 (b3_1 ++ [x5]))] (fun _ f => o (o h0 h1) (o (decide_eq_false h2) (o (lit_ok c32 [] ([x5] : List (List (Bool × Int × Bool × List Int × List Int × Int × Int × Bool × Bool × List Int × List Int × Bool × List Int × List Int)))) (o (app1 c32 [] b3_1 x5 24 5864062014805 (by decide) h3) f)))) (by kernel_rfl) (ih.1 _ _ _ _ _ _ _ h)
theorem dendronlaw07_Few.does {k : Nat} {a0_0 : Int} {l0_1 : List (List (Bool × Int × Bool × List Int × List Int × Int × Int × Bool × Bool × List Int × List Int × Bool × List Int × List Int))} {r : Int × List (List (Bool × Int × Bool × List Int × List Int × Int × Int × Bool × Bool × List Int × List Int × Bool × List Int × List Int))} (h : dendronlaw07_Few.f k a0_0 l0_1 = some r) :
    Does Tryd.prog 7 [.agg [.d (.int .i64 a0_0), .d (L32 l0_1)]] [] (.agg [.d (.int .i64 r.1), .d (L32 r.2)]) none [] := by
  refine does_fn Tryd.func7 (by kernel_rfl) rfl rfl ?_
  unfold dendronlaw07_Few.f at h
  have ih := dendronlaw07_Few.w k
  exact Til.mid Tryd.func7 3 [] (fun _ f => f) (by kernel_rfl) (ih.1 _ _ _ _ _ _ _ h)

def model_Fits.l0E (x22 : List (List (Bool × Int × Bool × List Int × List Int × Int × Int × Bool × Bool × List Int × List Int × Bool × List Int × List Int))) (x23 : Int) (x24 : Int) : Env := [(22, .c (.d (L32 x22))), (23, .c (.d (.int .i64 x23))), (24, .c (.d (.int .i64 x24)))]
def model_Fits.l1E (x22 : List (List (Bool × Int × Bool × List Int × List Int × Int × Int × Bool × Bool × List Int × List Int × Bool × List Int × List Int))) (x23 : Int) (x24 : Int) (x32 : List (Bool × Int × Bool × List Int × List Int × Int × Int × Bool × Bool × List Int × List Int × Bool × List Int × List Int)) (x33 : Int) (x34 : Bool) (x36 : List (Bool × Int × Bool × List Int × List Int × Int × Int × Bool × Bool × List Int × List Int × Bool × List Int × List Int)) (x37 : Int) (x38 : Int) : Env := [(22, .c (.d (L32 x22))), (23, .c (.d (.int .i64 x23))), (24, .c (.d (.int .i64 x24))), (32, .c (.d (L43 x32))), (33, .c (.d (.int .i64 x33))), (34, .c (.d (.bool x34))), (36, .c (.d (L43 x36))), (37, .c (.d (.int .i64 x37))), (38, .c (.d (.int .i64 x38)))]
theorem model_Fits.w (k : Nat) : (∀  (x22 : List (List (Bool × Int × Bool × List Int × List Int × Int × Int × Bool × Bool × List Int × List Int × Bool × List Int × List Int))) (x23 : Int) (x24 : Int) (r : Bool), model_Fits.l0 k x22 x23 x24 = some r → Til Tryd.prog 22 [] (.c (.d (.bool r))) none [] (at_ Tryd.f22 4) (model_Fits.l0E x22 x23 x24) []) ∧
    (∀  (x22 : List (List (Bool × Int × Bool × List Int × List Int × Int × Int × Bool × Bool × List Int × List Int × Bool × List Int × List Int))) (x23 : Int) (x24 : Int) (x32 : List (Bool × Int × Bool × List Int × List Int × Int × Int × Bool × Bool × List Int × List Int × Bool × List Int × List Int)) (x33 : Int) (x34 : Bool) (x36 : List (Bool × Int × Bool × List Int × List Int × Int × Int × Bool × Bool × List Int × List Int × Bool × List Int × List Int)) (x37 : Int) (x38 : Int) (r : Bool), model_Fits.l1 k x22 x23 x24 x32 x33 x34 x36 x37 x38 = some r → Til Tryd.prog 22 [] (.c (.d (.bool r))) none [] (at_ Tryd.f22 9) (model_Fits.l1E x22 x23 x24 x32 x33 x34 x36 x37 x38) []) := by
  induction k with
  | zero =>
    exact ⟨fun _ _ _ _ h => (by cases h), fun _ _ _ _ _ _ _ _ _ _ h => (by cases h)⟩
  | succ k ih =>
    refine ⟨?_, ?_⟩
    · intro x22 x23 x24 r h
      rw [model_Fits.l0] at h
      by_cases h0 : x24 < x23
      · rw [if_pos h0] at h
        obtain ⟨h1, h⟩ := ifp h
        obtain ⟨h2, h⟩ := ifp h
        by_cases h3 : ((gt [] x22 x24).length : Int) < 1
        · rw [if_pos h3] at h
          obtain rfl := Option.some.inj h
          exact Til.fin Tryd.func22 [(0, .b true), (6, .b true)] (fun _ f => o (decide_eq_true h0) (o (o h1 h2) (o (decide_eq_true h3) f))) (by kernel_rfl)
        · rw [if_neg h3] at h
          by_cases h4 : ((gt [] x22 x24).length : Int) > 255
          · rw [if_pos h4] at h
            obtain rfl := Option.some.inj h
            exact Til.fin Tryd.func22 [(0, .b true), (6, .b false), (10, .b true)] (fun _ f => o (decide_eq_true h0) (o (o h1 h2) (o (decide_eq_false h3) (o (decide_eq_true h4) f)))) (by kernel_rfl)
          · rw [if_neg h4] at h
            exact Til.mid Tryd.func22 9 [(0, .b true), (6, .b false), (10, .b false)] (fun _ f => o (decide_eq_true h0) (o (o h1 h2) (o (decide_eq_false h3) (o (decide_eq_false h4) f)))) (by kernel_rfl) (ih.2 _ _ _ _ _ _ _ _ _ _ h)
      · rw [if_neg h0] at h
        obtain rfl := Option.some.inj h
        exact Til.fin Tryd.func22 [(0, .b false)] (fun _ f => o (decide_eq_false h0) f) (by kernel_rfl)
    · intro x22 x23 x24 x32 x33 x34 x36 x37 x38 r h
      rw [model_Fits.l1] at h
      by_cases h0 : x38 < x37
      · rw [if_pos h0] at h
        obtain ⟨h1, h⟩ := ifp h
        obtain ⟨h2, h⟩ := ifp h
        by_cases h3 : (gt (false, 0, false, [], [], 0, 0, false, false, [], [], false, [], []) x36 x38).2.1 < 0
        · rw [if_pos h3] at h
          obtain rfl := Option.some.inj h
          exact Til.fin Tryd.func22 [(0, .b true), (7, .b true)] (fun _ f => o (decide_eq_true h0) (o (o h1 h2) (o (decide_eq_true h3) f))) (by kernel_rfl)
        · rw [if_neg h3] at h
          by_cases h4 : (gt (false, 0, false, [], [], 0, 0, false, false, [], [], false, [], []) x36 x38).2.1 > 64
          · rw [if_pos h4] at h
            obtain rfl := Option.some.inj h
            exact Til.fin Tryd.func22 [(0, .b true), (7, .b false), (11, .b true)] (fun _ f => o (decide_eq_true h0) (o (o h1 h2) (o (decide_eq_false h3) (o (decide_eq_true h4) f)))) (by kernel_rfl)
          · rw [if_neg h4] at h
            by_cases h5 : (gt (false, 0, false, [], [], 0, 0, false, false, [], [], false, [], []) x36 x38).2.2.2.2.2.1 < 0
            · rw [if_pos h5] at h
              obtain rfl := Option.some.inj h
              exact Til.fin Tryd.func22 [(0, .b true), (7, .b false), (11, .b false), (16, .b true)] (fun _ f => o (decide_eq_true h0) (o (o h1 h2) (o (decide_eq_false h3) (o (decide_eq_false h4) (o (decide_eq_true h5) f))))) (by kernel_rfl)
            · rw [if_neg h5] at h
              by_cases h6 : (gt (false, 0, false, [], [], 0, 0, false, false, [], [], false, [], []) x36 x38).2.2.2.2.2.1 > 255
              · rw [if_pos h6] at h
                obtain rfl := Option.some.inj h
                exact Til.fin Tryd.func22 [(0, .b true), (7, .b false), (11, .b false), (16, .b false), (21, .b true)] (fun _ f => o (decide_eq_true h0) (o (o h1 h2) (o (decide_eq_false h3) (o (decide_eq_false h4) (o (decide_eq_false h5) (o (decide_eq_true h6) f)))))) (by kernel_rfl)
              · rw [if_neg h6] at h
                by_cases h7 : (gt (false, 0, false, [], [], 0, 0, false, false, [], [], false, [], []) x36 x38).2.2.2.2.2.2.1 < 0
                · rw [if_pos h7] at h
                  obtain rfl := Option.some.inj h
                  exact Til.fin Tryd.func22 [(0, .b true), (7, .b false), (11, .b false), (16, .b false), (21, .b false), (26, .b true)] (fun _ f => o (decide_eq_true h0) (o (o h1 h2) (o (decide_eq_false h3) (o (decide_eq_false h4) (o (decide_eq_false h5) (o (decide_eq_false h6) (o (decide_eq_true h7) f))))))) (by kernel_rfl)
                · rw [if_neg h7] at h
                  by_cases h8 : (gt (false, 0, false, [], [], 0, 0, false, false, [], [], false, [], []) x36 x38).2.2.2.2.2.2.1 > 255
                  · rw [if_pos h8] at h
                    obtain rfl := Option.some.inj h
                    exact Til.fin Tryd.func22 [(0, .b true), (7, .b false), (11, .b false), (16, .b false), (21, .b false), (26, .b false), (31, .b true)] (fun _ f => o (decide_eq_true h0) (o (o h1 h2) (o (decide_eq_false h3) (o (decide_eq_false h4) (o (decide_eq_false h5) (o (decide_eq_false h6) (o (decide_eq_false h7) (o (decide_eq_true h8) f)))))))) (by kernel_rfl)
                  · rw [if_neg h8] at h
                    exact Til.mid Tryd.func22 9 [(0, .b true), (7, .b false), (11, .b false), (16, .b false), (21, .b false), (26, .b false), (31, .b false)] (fun _ f => o (decide_eq_true h0) (o (o h1 h2) (o (decide_eq_false h3) (o (decide_eq_false h4) (o (decide_eq_false h5) (o (decide_eq_false h6) (o (decide_eq_false h7) (o (decide_eq_false h8) f)))))))) (by kernel_rfl) (ih.2 _ _ _ _ _ _ _ _ _ _ h)
      · rw [if_neg h0] at h
        exact Til.mid Tryd.func22 4 [(0, .b false)] (fun _ f => o (decide_eq_false h0) f) (by kernel_rfl) (ih.1 _ _ _ _ h)
theorem model_Fits.does {k : Nat} {a0_0 : Int} {l0_1 : List (List (Bool × Int × Bool × List Int × List Int × Int × Int × Bool × Bool × List Int × List Int × Bool × List Int × List Int))} {r : Bool} (h : model_Fits.f k a0_0 l0_1 = some r) :
    Does Tryd.prog 22 [.agg [.d (.int .i64 a0_0), .d (L32 l0_1)]] [] (.c (.d (.bool r))) none [] := by
  refine does_fn Tryd.func22 (by kernel_rfl) rfl rfl ?_
  unfold model_Fits.f at h
  have ih := model_Fits.w k
  by_cases h0 : a0_0 < 0
  · rw [if_pos h0] at h
    obtain rfl := Option.some.inj h
    exact Til.fin Tryd.func22 [(4, .b true)] (fun _ f => o (decide_eq_true h0) f) (by kernel_rfl)
  · rw [if_neg h0] at h
    by_cases h1 : a0_0 > 64
    · rw [if_pos h1] at h
      obtain rfl := Option.some.inj h
      exact Til.fin Tryd.func22 [(4, .b false), (8, .b true)] (fun _ f => o (decide_eq_false h0) (o (decide_eq_true h1) f)) (by kernel_rfl)
    · rw [if_neg h1] at h
      by_cases h2 : (l0_1.length : Int) > 64
      · rw [if_pos h2] at h
        obtain rfl := Option.some.inj h
        exact Til.fin Tryd.func22 [(4, .b false), (8, .b false), (14, .b true)] (fun _ f => o (decide_eq_false h0) (o (decide_eq_false h1) (o (decide_eq_true h2) f))) (by kernel_rfl)
      · rw [if_neg h2] at h
        exact Til.mid Tryd.func22 4 [(4, .b false), (8, .b false), (14, .b false)] (fun _ f => o (decide_eq_false h0) (o (decide_eq_false h1) (o (decide_eq_false h2) f))) (by kernel_rfl) (ih.1 _ _ _ _ h)

def nat_trim.l0E (x0 : List Int) (x3 : Int) : Env := [(0, .c (.d (L59 x0))), (3, .c (.d (.int .i64 x3)))]
theorem nat_trim.w (k : Nat) : (∀  (x0 : List Int) (x3 : Int) (r : List Int), nat_trim.l0 k x0 x3 = some r → Til Tryd.prog 42 [] (.c (.d (L59 r))) none [] (at_ Tryd.f42 2) (nat_trim.l0E x0 x3) []) := by
  induction k with
  | zero =>
    exact fun _ _ _ h => (by cases h)
  | succ k ih =>
    intro x0 x3 r h
    rw [nat_trim.l0] at h
    by_cases h0 : x3 > 0
    · rw [if_pos h0] at h
      obtain ⟨h1, h⟩ := ifp h
      obtain ⟨h2, h⟩ := ifp h
      by_cases h3 : (rd x0 (wrap64 (x3 - 1))) = 0
      · rw [if_pos h3] at h
        exact Til.mid Tryd.func42 2 [(1, .b true), (8, .b true)] (fun _ f => o (decide_eq_true h0) (o (o h1 h2) (o (beq_iff_eq.2 h3) f))) (by kernel_rfl) (ih _ _ _ h)
      · rw [if_neg h3] at h
        by_cases h4 : x3 = 0
        · rw [if_pos h4] at h
          obtain rfl := Option.some.inj h
          exact Til.fin Tryd.func42 [(1, .b true), (8, .b false), (11, .b true)] (fun _ f => o (decide_eq_true h0) (o (o h1 h2) (o (beq_false_of_ne h3) (o (beq_iff_eq.2 h4) f)))) (by kernel_rfl)
        · rw [if_neg h4] at h
          obtain ⟨h5, h⟩ := ifp h
          obtain ⟨h6, h⟩ := ifp h
          obtain rfl := Option.some.inj h
          exact Til.fin Tryd.func42 [(1, .b true), (8, .b false), (11, .b false), (14, Z59 (x0.take ((x3 : Int).toNat)))] (fun _ f => o (decide_eq_true h0) (o (o h1 h2) (o (beq_false_of_ne h3) (o (beq_false_of_ne h4) (o (take_ok c59 0 x0 h5 h6) f))))) (by kernel_rfl)
    · rw [if_neg h0] at h
      by_cases h1 : x3 = 0
      · rw [if_pos h1] at h
        obtain rfl := Option.some.inj h
        exact Til.fin Tryd.func42 [(1, .b false), (11, .b true)] (fun _ f => o (decide_eq_false h0) (o (beq_iff_eq.2 h1) f)) (by kernel_rfl)
      · rw [if_neg h1] at h
        obtain ⟨h2, h⟩ := ifp h
        obtain ⟨h3, h⟩ := ifp h
        obtain rfl := Option.some.inj h
        exact Til.fin Tryd.func42 [(1, .b false), (11, .b false), (14, Z59 (x0.take ((x3 : Int).toNat)))] (fun _ f => o (decide_eq_false h0) (o (beq_false_of_ne h1) (o (take_ok c59 0 x0 h2 h3) f))) (by kernel_rfl)
theorem nat_trim.does {k : Nat} {l0 : List Int} {r : List Int} (h : nat_trim.f k l0 = some r) :
    Does Tryd.prog 42 [.c (.d (L59 l0))] [] (.c (.d (L59 r))) none [] := by
  refine does_fn Tryd.func42 (by kernel_rfl) rfl rfl ?_
  unfold nat_trim.f at h
  have ih := nat_trim.w k
  exact Til.mid Tryd.func42 2 [] (fun _ f => f) (by kernel_rfl) (ih _ _ _ h)

theorem nat_Of.does {k : Nat} {a0 : Int} {r : List Int} (h : nat_Of.f k a0 = some r) :
    Does Tryd.prog 30 [.c (.d (.int .u64 a0))] [] (.c (.d (L59 r))) none [] := by
  refine does_fn Tryd.func30 (by kernel_rfl) rfl rfl ?_
  unfold nat_Of.f at h
  obtain ⟨v6, h0, h⟩ := bnd h
  obtain rfl := Option.some.inj h
  exact Til.fin Tryd.func30 [(5, Z59 ([(Go.bits .and .u64 a0 4294967295), (a0 / 4294967296)] : List Int)), (6, ca (.c (.d (L59 v6))))] (fun _ f => o (nn 32) (o (lit_ok c59 0 ([(Go.bits .and .u64 a0 4294967295), (a0 / 4294967296)] : List Int)) (o (nat_trim.does h0) f))) (by kernel_rfl)

theorem ratio_Zero.does {k : Nat}  {r : Bool × List Int × List Int} (h : ratio_Zero.f k = some r) :
    Does Tryd.prog 17 [] [] (.agg [.d (.bool r.1), .d (L59 r.2.1), .d (L59 r.2.2)]) none [] := by
  refine does_fn Tryd.func17 (by kernel_rfl) rfl rfl ?_
  unfold ratio_Zero.f at h
  obtain ⟨v1, h0, h⟩ := bnd h
  obtain rfl := Option.some.inj h
  exact Til.fin Tryd.func17 [(1, ca (.c (.d (L59 v1))))] (fun _ f => o (nat_Of.does h0) f) (by kernel_rfl)

def nat_Clean.l0E (x3 : List Int) (x9 : List Int) (x10 : Int) (x11 : Int) : Env := [(3, .c (.own 3)), (9, .c (.d (L59 x9))), (10, .c (.d (.int .i64 x10))), (11, .c (.d (.int .i64 x11)))]
def nat_Clean.l0B (x3 : List Int) (x9 : List Int) (x10 : Int) (x11 : Int) : Obs := [(3, some (O59 .own x3))]
theorem nat_Clean.w (k : Nat) : (∀  (x3 : List Int) (x9 : List Int) (x10 : Int) (x11 : Int) (r : List Int), nat_Clean.l0 k x3 x9 x10 x11 = some r → Til Tryd.prog 43 [] (.c (.d (L59 r))) none [] (at_ Tryd.f43 3) (nat_Clean.l0E x3 x9 x10 x11) (nat_Clean.l0B x3 x9 x10 x11)) := by
  induction k with
  | zero =>
    exact fun _ _ _ _ _ h => (by cases h)
  | succ k ih =>
    intro x3 x9 x10 x11 r h
    rw [nat_Clean.l0] at h
    by_cases h0 : x11 < x10
    · rw [if_pos h0] at h
      obtain ⟨h1, h⟩ := ifp h
      obtain ⟨h2, h⟩ := ifp h
      obtain ⟨h3, h⟩ := ifp h
      exact Til.mid Tryd.func43 3 [(0, .b true), (11, Z59 (x3.set ((x11 : Int).toNat) (Go.bits .and .u64 (rd x9 x11) 4294967295)))] (fun _ f => o (decide_eq_true h0) (o (o h1 h2) (o (o h1 h3) (o (set_ok c59 0 (fun _ _ => rfl) x3 ((x11 : Int).toNat) (Go.bits .and .u64 (rd x9 x11) 4294967295) (lt_ok h1 h3)) f)))) (by kernel_rfl) (ih _ _ _ _ _ h)
    · rw [if_neg h0] at h
      obtain ⟨v2, h1, h⟩ := bnd h
      obtain rfl := Option.some.inj h
      exact Til.fin Tryd.func43 [(0, .b false), (2, ca (.c (.d (L59 v2))))] (fun _ f => o (decide_eq_false h0) (o (nat_trim.does h1) f)) (by kernel_rfl)
theorem nat_Clean.does {k : Nat} {l0 : List Int} {r : List Int} (h : nat_Clean.f k l0 = some r) :
    Does Tryd.prog 43 [.c (.d (L59 l0))] [] (.c (.d (L59 r))) none [] := by
  refine does_fn Tryd.func43 (by kernel_rfl) rfl rfl ?_
  unfold nat_Clean.f at h
  have ih := nat_Clean.w k
  obtain ⟨h0, h⟩ := ifp h
  exact Til.mid Tryd.func43 3 [(3, Z59 (List.replicate (((l0.length : Int) : Int).toNat) 0 : List Int))] (fun _ f => o (make_ok c59 0 [.int .u64 0] ⟨.refl _, trivial⟩ (l0.length : Int) 8 35184372088832 (by decide) (Int.natCast_nonneg l0.length) h0) f) (by kernel_rfl) (ih _ _ _ _ _ h)

theorem nat_To.does {k : Nat} {l0 : List Int} {r : Int × Bool} (h : nat_To.f k l0 = some r) :
    Does Tryd.prog 64 [.c (.d (L59 l0))] [] (.tup [.c (.d (.int .u64 r.1)), .c (.d (.bool r.2))]) none [] := by
  refine does_fn Tryd.func64 (by kernel_rfl) rfl rfl ?_
  unfold nat_To.f at h
  obtain ⟨v3, h0, h⟩ := bnd h
  by_cases h1 : (v3.length : Int) = 0
  · rw [if_pos h1] at h
    obtain rfl := Option.some.inj h
    exact Til.fin Tryd.func64 [(3, ca (.c (.d (L59 v3)))), (7, .b true)] (fun _ f => o (nat_Clean.does h0) (o (beq_iff_eq.2 h1) f)) (by kernel_rfl)
  · rw [if_neg h1] at h
    by_cases h2 : (v3.length : Int) = 1
    · rw [if_pos h2] at h
      obtain ⟨h3, h⟩ := ifp h
      obtain rfl := Option.some.inj h
      exact Til.fin Tryd.func64 [(3, ca (.c (.d (L59 v3)))), (7, .b false), (9, .b true)] (fun _ f => o (nat_Clean.does h0) (o (beq_false_of_ne h1) (o (beq_iff_eq.2 h2) (o (o (nn 0) h3) f)))) (by kernel_rfl)
    · rw [if_neg h2] at h
      by_cases h3 : (v3.length : Int) = 2
      · rw [if_pos h3] at h
        obtain ⟨h4, h⟩ := ifp h
        obtain ⟨h5, h⟩ := ifp h
        obtain rfl := Option.some.inj h
        exact Til.fin Tryd.func64 [(3, ca (.c (.d (L59 v3)))), (7, .b false), (9, .b false), (11, .b true)] (fun _ f => o (nat_Clean.does h0) (o (beq_false_of_ne h1) (o (beq_false_of_ne h2) (o (beq_iff_eq.2 h3) (o (o (nn 1) h4) (o (nn 32) (o (o (nn 0) h5) f))))))) (by kernel_rfl)
      · rw [if_neg h3] at h
        obtain rfl := Option.some.inj h
        exact Til.fin Tryd.func64 [(3, ca (.c (.d (L59 v3)))), (7, .b false), (9, .b false), (11, .b false)] (fun _ f => o (nat_Clean.does h0) (o (beq_false_of_ne h1) (o (beq_false_of_ne h2) (o (beq_false_of_ne h3) f)))) (by kernel_rfl)

def nat_euclid.l0E (x5 : Int) (x7 : Int) : Env := [(5, .c (.d (.int .u64 x5))), (7, .c (.d (.int .u64 x7)))]
theorem nat_euclid.w (k : Nat) : (∀  (x5 : Int) (x7 : Int) (r : List Int), nat_euclid.l0 k x5 x7 = some r → Til Tryd.prog 54 [] (.c (.d (L59 r))) none [] (at_ Tryd.f54 3) (nat_euclid.l0E x5 x7) []) := by
  induction k with
  | zero =>
    exact fun _ _ _ h => (by cases h)
  | succ k ih =>
    intro x5 x7 r h
    rw [nat_euclid.l0] at h
    by_cases h0 : x7 ≠ 0
    · rw [if_pos h0] at h
      obtain ⟨h1, h⟩ := ifn h
      exact Til.mid Tryd.func54 3 [(1, .b true)] (fun _ f => o (bne_iff_ne.2 h0) (o h1 f)) (by kernel_rfl) (ih _ _ _ h)
    · rw [if_neg h0] at h
      obtain ⟨v3, h1, h⟩ := bnd h
      obtain rfl := Option.some.inj h
      exact Til.fin Tryd.func54 [(1, .b false), (3, ca (.c (.d (L59 v3))))] (fun _ f => o (ne_f h0) (o (nat_Of.does h1) f)) (by kernel_rfl)
theorem nat_euclid.does {k : Nat} {l0 : List Int} {l1 : List Int} {r : List Int} (h : nat_euclid.f k l0 l1 = some r) :
    Does Tryd.prog 54 [.c (.d (L59 l0)), .c (.d (L59 l1))] [] (.c (.d (L59 r))) none [] := by
  refine does_fn Tryd.func54 (by kernel_rfl) rfl rfl ?_
  unfold nat_euclid.f at h
  have ih := nat_euclid.w k
  obtain ⟨v2, h0, h⟩ := bnd h
  obtain ⟨v9, h1, h⟩ := bnd h
  exact Til.mid Tryd.func54 3 [(2, ca (.tup [.c (.d (.int .u64 v2.1)), .c (.d (.bool v2.2))])), (9, ca (.tup [.c (.d (.int .u64 v9.1)), .c (.d (.bool v9.2))]))] (fun _ f => o (nat_To.does h0) (o (nat_To.does h1) f)) (by kernel_rfl) (ih _ _ _ h)

theorem bits_TrailingZeros64.does {a0 : Int} {r : Int} (h : bits_TrailingZeros64.f a0 = some r) :
    Does Tryd.prog 65 [.c (.d (.int .u64 a0))] [] (.c (.d (.int .i64 r))) none [] := by
  refine does_fn Tryd.func65 (by kernel_rfl) rfl rfl ?_
  unfold bits_TrailingZeros64.f at h
  by_cases h0 : a0 = 0
  · rw [if_pos h0] at h
    obtain rfl := Option.some.inj h
    exact Til.fin Tryd.func65 [(2, .b true)] (fun _ f => o (beq_iff_eq.2 h0) f) (by kernel_rfl)
  · rw [if_neg h0] at h
    obtain ⟨h1, h⟩ := ifp h
    obtain ⟨h2, h⟩ := ifp h
    obtain rfl := Option.some.inj h
    exact Til.fin Tryd.func65 [(2, .b false), (10, .v (.c (.d (.int .u8 (rd tab_deBruijn64tab ((IntKind.u64.wrap ((Go.bits .and .u64 a0 (IntKind.u64.wrap (0 - a0))) * 285870213051353865)) / 288230376151711744))))))] (fun _ f => o (beq_false_of_ne h0) (o (nn 58) (o (o h1 h2) (o (tab_ok .u8 tab_deBruijn64tab h1 h2 rfl) f)))) (by kernel_rfl)

def nat_zeros.l0E (x3 : Int) (x6 : List Int) (x7 : Int) (x8 : Int) : Env := [(3, .c (.d (.int .i64 x3))), (6, .c (.d (L59 x6))), (7, .c (.d (.int .i64 x7))), (8, .c (.d (.int .i64 x8)))]
theorem nat_zeros.w (k : Nat) : (∀  (x3 : Int) (x6 : List Int) (x7 : Int) (x8 : Int) (r : Int), nat_zeros.l0 k x3 x6 x7 x8 = some r → Til Tryd.prog 55 [] (.c (.d (.int .i64 r))) none [] (at_ Tryd.f55 3) (nat_zeros.l0E x3 x6 x7 x8) []) := by
  induction k with
  | zero =>
    exact fun _ _ _ _ _ h => (by cases h)
  | succ k ih =>
    intro x3 x6 x7 x8 r h
    rw [nat_zeros.l0] at h
    by_cases h0 : x8 < x7
    · rw [if_pos h0] at h
      obtain ⟨h1, h⟩ := ifp h
      obtain ⟨h2, h⟩ := ifp h
      by_cases h3 : (rd x6 x8) ≠ 0
      · rw [if_pos h3] at h
        obtain ⟨v11, h4, h⟩ := bnd h
        obtain rfl := Option.some.inj h
        exact Til.fin Tryd.func55 [(0, .b true), (7, .b true), (11, ca (.c (.d (.int .i64 v11))))] (fun _ f => o (decide_eq_true h0) (o (o h1 h2) (o (bne_iff_ne.2 h3) (o (bits_TrailingZeros64.does h4) f)))) (by kernel_rfl)
      · rw [if_neg h3] at h
        exact Til.mid Tryd.func55 3 [(0, .b true), (7, .b false)] (fun _ f => o (decide_eq_true h0) (o (o h1 h2) (o (ne_f h3) f))) (by kernel_rfl) (ih _ _ _ _ _ h)
    · rw [if_neg h0] at h
      obtain rfl := Option.some.inj h
      exact Til.fin Tryd.func55 [(0, .b false)] (fun _ f => o (decide_eq_false h0) f) (by kernel_rfl)
theorem nat_zeros.does {k : Nat} {l0 : List Int} {r : Int} (h : nat_zeros.f k l0 = some r) :
    Does Tryd.prog 55 [.c (.d (L59 l0))] [] (.c (.d (.int .i64 r))) none [] := by
  refine does_fn Tryd.func55 (by kernel_rfl) rfl rfl ?_
  unfold nat_zeros.f at h
  have ih := nat_zeros.w k
  exact Til.mid Tryd.func55 3 [] (fun _ f => f) (by kernel_rfl) (ih _ _ _ _ _ h)

theorem nat_limb.does {l0 : List Int} {a1 : Int} {r : Int} (h : nat_limb.f l0 a1 = some r) :
    Does Tryd.prog 63 [.c (.d (L59 l0)), .c (.d (.int .i64 a1))] [] (.c (.d (.int .u64 r))) none [] := by
  refine does_fn Tryd.func63 (by kernel_rfl) rfl rfl ?_
  unfold nat_limb.f at h
  by_cases h0 : a1 < (l0.length : Int)
  · rw [if_pos h0] at h
    obtain ⟨h1, h⟩ := ifp h
    obtain rfl := Option.some.inj h
    exact Til.fin Tryd.func63 [(4, .b true)] (fun _ f => o (decide_eq_true h0) (o (o h1 h0) f)) (by kernel_rfl)
  · rw [if_neg h0] at h
    obtain rfl := Option.some.inj h
    exact Til.fin Tryd.func63 [(4, .b false)] (fun _ f => o (decide_eq_false h0) f) (by kernel_rfl)

def nat_shr.l0E (x0 : List Int) (x5 : Int) (x6 : Int) (x7 : List Int) (x23 : Int) (x24 : Int) : Env := [(0, .c (.d (L59 x0))), (5, .c (.d (.int .i64 x5))), (6, .c (.d (.int .i64 x6))), (7, .c (.own 7)), (23, .c (.d (.int .i64 x23))), (24, .c (.d (.int .i64 x24)))]
def nat_shr.l0B (x0 : List Int) (x5 : Int) (x6 : Int) (x7 : List Int) (x23 : Int) (x24 : Int) : Obs := [(7, some (O59 .own x7))]
theorem nat_shr.w (k : Nat) : (∀  (x0 : List Int) (x5 : Int) (x6 : Int) (x7 : List Int) (x23 : Int) (x24 : Int) (r : List Int), nat_shr.l0 k x0 x5 x6 x7 x23 x24 = some r → Til Tryd.prog 56 [] (.c (.d (L59 r))) none [] (at_ Tryd.f56 6) (nat_shr.l0E x0 x5 x6 x7 x23 x24) (nat_shr.l0B x0 x5 x6 x7 x23 x24)) := by
  induction k with
  | zero =>
    exact fun _ _ _ _ _ _ _ h => (by cases h)
  | succ k ih =>
    intro x0 x5 x6 x7 x23 x24 r h
    rw [nat_shr.l0] at h
    by_cases h0 : x24 < x23
    · rw [if_pos h0] at h
      obtain ⟨v10, h1, h⟩ := bnd h
      obtain ⟨h2, h⟩ := ifp h
      obtain ⟨h3, h⟩ := ifp h
      obtain ⟨h4, h⟩ := ifp h
      obtain ⟨h5, h⟩ := ifp h
      obtain ⟨h6, h⟩ := ifp h
      exact Til.mid Tryd.func56 6 [(0, .b true), (10, ca (.c (.d (.int .u64 v10)))), (23, Z59 (x7.set ((x24 : Int).toNat) (Go.bits .and .u64 (shr .u64 (Go.bits .or .u64 (IntKind.u64.wrap (v10 * 4294967296)) (rd x0 (wrap64 (x24 + x5)))) x6) 4294967295)))] (fun _ f => o (decide_eq_true h0) (o (nat_limb.does h1) (o (nn 32) (o (o h2 h3) (o h4 (o (o h5 h6) (o (set_ok c59 0 (fun _ _ => rfl) x7 ((x24 : Int).toNat) (Go.bits .and .u64 (shr .u64 (Go.bits .or .u64 (IntKind.u64.wrap (v10 * 4294967296)) (rd x0 (wrap64 (x24 + x5)))) x6) 4294967295) (lt_ok h5 h6)) f))))))) (by kernel_rfl) (ih _ _ _ _ _ _ _ h)
    · rw [if_neg h0] at h
      obtain ⟨v2, h1, h⟩ := bnd h
      obtain rfl := Option.some.inj h
      exact Til.fin Tryd.func56 [(0, .b false), (2, ca (.c (.d (L59 v2))))] (fun _ f => o (decide_eq_false h0) (o (nat_trim.does h1) f)) (by kernel_rfl)
theorem nat_shr.does {k : Nat} {l0 : List Int} {a1 : Int} {r : List Int} (h : nat_shr.f k l0 a1 = some r) :
    Does Tryd.prog 56 [.c (.d (L59 l0)), .c (.d (.int .i64 a1))] [] (.c (.d (L59 r))) none [] := by
  refine does_fn Tryd.func56 (by kernel_rfl) rfl rfl ?_
  unfold nat_shr.f at h
  have ih := nat_shr.w k
  by_cases h0 : (wrap64 (Int.tdiv a1 32)) ≥ (l0.length : Int)
  · rw [if_pos h0] at h
    obtain rfl := Option.some.inj h
    exact Til.fin Tryd.func56 [(10, .b true)] (fun _ f => o (by decide : ¬ (32 : Int) = 0) (o (by decide : ¬ (32 : Int) = 0) (o (decide_eq_true h0) f))) (by kernel_rfl)
  · rw [if_neg h0] at h
    obtain ⟨h1, h⟩ := ifp h
    obtain ⟨h2, h⟩ := ifp h
    exact Til.mid Tryd.func56 6 [(10, .b false), (15, Z59 (List.replicate (((wrap64 ((l0.length : Int) - (wrap64 (Int.tdiv a1 32)))) : Int).toNat) 0 : List Int))] (fun _ f => o (by decide : ¬ (32 : Int) = 0) (o (by decide : ¬ (32 : Int) = 0) (o (decide_eq_false h0) (o (make_ok c59 0 [.int .u64 0] ⟨.refl _, trivial⟩ (wrap64 ((l0.length : Int) - (wrap64 (Int.tdiv a1 32)))) 8 35184372088832 (by decide) h1 h2) f)))) (by kernel_rfl) (ih _ _ _ _ _ _ _ h)

def nat_order.l0E (x0 : List Int) (x1 : List Int) (x5 : Int) : Env := [(0, .c (.d (L59 x0))), (1, .c (.d (L59 x1))), (5, .c (.d (.int .i64 x5)))]
theorem nat_order.w (k : Nat) : (∀  (x0 : List Int) (x1 : List Int) (x5 : Int) (r : Int), nat_order.l0 k x0 x1 x5 = some r → Til Tryd.prog 57 [] (.c (.d (.int .i64 r))) none [] (at_ Tryd.f57 6) (nat_order.l0E x0 x1 x5) []) := by
  induction k with
  | zero =>
    exact fun _ _ _ _ h => (by cases h)
  | succ k ih =>
    intro x0 x1 x5 r h
    rw [nat_order.l0] at h
    by_cases h0 : x5 ≥ 0
    · rw [if_pos h0] at h
      obtain ⟨h1, h⟩ := ifp h
      obtain ⟨h2, h⟩ := ifp h
      by_cases h3 : (rd x0 x5) < (rd x1 x5)
      · rw [if_pos h3] at h
        obtain rfl := Option.some.inj h
        exact Til.fin Tryd.func57 [(1, .b true), (10, .b true)] (fun _ f => o (decide_eq_true h0) (o (o h0 h1) (o (o h0 h2) (o (decide_eq_true h3) f)))) (by kernel_rfl)
      · rw [if_neg h3] at h
        by_cases h4 : (rd x0 x5) > (rd x1 x5)
        · rw [if_pos h4] at h
          obtain rfl := Option.some.inj h
          exact Til.fin Tryd.func57 [(1, .b true), (10, .b false), (20, .b true)] (fun _ f => o (decide_eq_true h0) (o (o h0 h1) (o (o h0 h2) (o (decide_eq_false h3) (o (o h0 h1) (o (o h0 h2) (o (decide_eq_true h4) f))))))) (by kernel_rfl)
        · rw [if_neg h4] at h
          exact Til.mid Tryd.func57 6 [(1, .b true), (10, .b false), (20, .b false)] (fun _ f => o (decide_eq_true h0) (o (o h0 h1) (o (o h0 h2) (o (decide_eq_false h3) (o (o h0 h1) (o (o h0 h2) (o (decide_eq_false h4) f))))))) (by kernel_rfl) (ih _ _ _ _ h)
    · rw [if_neg h0] at h
      obtain rfl := Option.some.inj h
      exact Til.fin Tryd.func57 [(1, .b false)] (fun _ f => o (decide_eq_false h0) f) (by kernel_rfl)
theorem nat_order.does {k : Nat} {l0 : List Int} {l1 : List Int} {r : Int} (h : nat_order.f k l0 l1 = some r) :
    Does Tryd.prog 57 [.c (.d (L59 l0)), .c (.d (L59 l1))] [] (.c (.d (.int .i64 r))) none [] := by
  refine does_fn Tryd.func57 (by kernel_rfl) rfl rfl ?_
  unfold nat_order.f at h
  have ih := nat_order.w k
  by_cases h0 : (l0.length : Int) < (l1.length : Int)
  · rw [if_pos h0] at h
    obtain rfl := Option.some.inj h
    exact Til.fin Tryd.func57 [(5, .b true)] (fun _ f => o (decide_eq_true h0) f) (by kernel_rfl)
  · rw [if_neg h0] at h
    by_cases h1 : (l0.length : Int) > (l1.length : Int)
    · rw [if_pos h1] at h
      obtain rfl := Option.some.inj h
      exact Til.fin Tryd.func57 [(5, .b false), (11, .b true)] (fun _ f => o (decide_eq_false h0) (o (decide_eq_true h1) f)) (by kernel_rfl)
    · rw [if_neg h1] at h
      exact Til.mid Tryd.func57 6 [(5, .b false), (11, .b false)] (fun _ f => o (decide_eq_false h0) (o (decide_eq_false h1) f)) (by kernel_rfl) (ih _ _ _ _ h)

def nat_trimM.l0E (x0 : List Int) (x3 : Int) : Env := [(0, .c (.own 0)), (3, .c (.d (.int .i64 x3)))]
def nat_trimM.l0B (x0 : List Int) (x3 : Int) : Obs := [(0, some (O59 .own x0))]
theorem nat_trimM.w (k : Nat) : (∀ (l0 : List Int) (x0 : List Int) (x3 : Int) (r : List Int), nat_trimM.l0 k x0 x3 = some r → Til Tryd.prog 42 [(0, some (O59 .own l0))] (.c (.own newName)) (some (O59 .own r)) [] (at_ Tryd.f42 2) (nat_trimM.l0E x0 x3) (nat_trimM.l0B x0 x3)) := by
  induction k with
  | zero =>
    exact fun _ _ _ _ h => (by cases h)
  | succ k ih =>
    intro l0 x0 x3 r h
    rw [nat_trimM.l0] at h
    by_cases h0 : x3 > 0
    · rw [if_pos h0] at h
      obtain ⟨h1, h⟩ := ifp h
      obtain ⟨h2, h⟩ := ifp h
      by_cases h3 : (rd x0 (wrap64 (x3 - 1))) = 0
      · rw [if_pos h3] at h
        exact Til.mid Tryd.func42 2 [(1, .b true), (8, .b true)] (fun _ f => o (decide_eq_true h0) (o (o h1 h2) (o (beq_iff_eq.2 h3) f))) (by kernel_rfl) (ih _ _ _ _ h)
      · rw [if_neg h3] at h
        by_cases h4 : x3 = 0
        · rw [if_pos h4] at h
          obtain rfl := Option.some.inj h
          exact Til.fin Tryd.func42 [(1, .b true), (8, .b false), (11, .b true)] (fun _ f => o (decide_eq_true h0) (o (o h1 h2) (o (beq_false_of_ne h3) (o (beq_iff_eq.2 h4) f)))) (by kernel_rfl)
        · rw [if_neg h4] at h
          obtain ⟨h5, h⟩ := ifp h
          obtain ⟨h6, h⟩ := ifp h
          obtain rfl := Option.some.inj h
          exact Til.fin Tryd.func42 [(1, .b true), (8, .b false), (11, .b false), (14, Z59 (x0.take ((x3 : Int).toNat)))] (fun _ f => o (decide_eq_true h0) (o (o h1 h2) (o (beq_false_of_ne h3) (o (beq_false_of_ne h4) (o (take_ok c59 0 x0 h5 h6) f))))) (by kernel_rfl)
    · rw [if_neg h0] at h
      by_cases h1 : x3 = 0
      · rw [if_pos h1] at h
        obtain rfl := Option.some.inj h
        exact Til.fin Tryd.func42 [(1, .b false), (11, .b true)] (fun _ f => o (decide_eq_false h0) (o (beq_iff_eq.2 h1) f)) (by kernel_rfl)
      · rw [if_neg h1] at h
        obtain ⟨h2, h⟩ := ifp h
        obtain ⟨h3, h⟩ := ifp h
        obtain rfl := Option.some.inj h
        exact Til.fin Tryd.func42 [(1, .b false), (11, .b false), (14, Z59 (x0.take ((x3 : Int).toNat)))] (fun _ f => o (decide_eq_false h0) (o (beq_false_of_ne h1) (o (take_ok c59 0 x0 h2 h3) f))) (by kernel_rfl)
theorem nat_trimM.does {k : Nat} {l0 : List Int} {r : List Int} (h : nat_trimM.f k l0 = some r) :
    Does Tryd.prog 42 [.c (.own 0)] [(0, some (O59 .own l0))] (.c (.own newName)) (some (O59 .own r)) [] := by
  refine does_fn Tryd.func42 (by kernel_rfl) rfl rfl ?_
  unfold nat_trimM.f at h
  have ih := nat_trimM.w k
  exact Til.mid Tryd.func42 2 [] (fun _ f => f) (by kernel_rfl) (ih _ _ _ _ h)

def nat_shl.l0E (x5 : Int) (x6 : Int) (x7 : List Int) (x20 : List Int) (x21 : Int) (x22 : Int) : Env := [(5, .c (.d (.int .i64 x5))), (6, .c (.d (.int .i64 x6))), (7, .c (.own 7)), (20, .c (.d (L59 x20))), (21, .c (.d (.int .i64 x21))), (22, .c (.d (.int .i64 x22)))]
def nat_shl.l0B (x5 : Int) (x6 : Int) (x7 : List Int) (x20 : List Int) (x21 : Int) (x22 : Int) : Obs := [(7, some (O59 .own x7))]
theorem nat_shl.w (k : Nat) : (∀  (x5 : Int) (x6 : Int) (x7 : List Int) (x20 : List Int) (x21 : Int) (x22 : Int) (r : List Int), nat_shl.l0 k x5 x6 x7 x20 x21 x22 = some r → Til Tryd.prog 58 [] (.c (.own newName)) (some (O59 .own r)) [] (at_ Tryd.f58 4) (nat_shl.l0E x5 x6 x7 x20 x21 x22) (nat_shl.l0B x5 x6 x7 x20 x21 x22)) := by
  induction k with
  | zero =>
    exact fun _ _ _ _ _ _ _ h => (by cases h)
  | succ k ih =>
    intro x5 x6 x7 x20 x21 x22 r h
    rw [nat_shl.l0] at h
    by_cases h0 : x22 < x21
    · rw [if_pos h0] at h
      obtain ⟨h1, h⟩ := ifp h
      obtain ⟨h2, h⟩ := ifp h
      obtain ⟨h3, h⟩ := ifp h
      obtain ⟨h4, h⟩ := ifp h
      obtain ⟨h5, h⟩ := ifp h
      obtain ⟨h6, h⟩ := ifp h
      obtain ⟨h7, h⟩ := ifp h
      exact Til.mid Tryd.func58 4 [(0, .b true), (20, Z59 (x7.set (((wrap64 (x22 + x5)) : Int).toNat) (Go.bits .or .u64 (rd x7 (wrap64 (x22 + x5))) (Go.bits .and .u64 (shl .u64 (rd x20 x22) x6) 4294967295)))), (29, Z59 ((x7.set (((wrap64 (x22 + x5)) : Int).toNat) (Go.bits .or .u64 (rd x7 (wrap64 (x22 + x5))) (Go.bits .and .u64 (shl .u64 (rd x20 x22) x6) 4294967295))).set (((wrap64 ((wrap64 (x22 + x5)) + 1)) : Int).toNat) ((shl .u64 (rd x20 x22) x6) / 4294967296)))] (fun _ f => o (decide_eq_true h0) (o (o h1 h2) (o h3 (o (o h4 h5) (o (o h4 h5) (o (set_ok c59 0 (fun _ _ => rfl) x7 (((wrap64 (x22 + x5)) : Int).toNat) (Go.bits .or .u64 (rd x7 (wrap64 (x22 + x5))) (Go.bits .and .u64 (shl .u64 (rd x20 x22) x6) 4294967295)) (lt_ok h4 h5)) (o (nn 32) (o (o h6 h7) (o (set_ok c59 0 (fun _ _ => rfl) (x7.set (((wrap64 (x22 + x5)) : Int).toNat) (Go.bits .or .u64 (rd x7 (wrap64 (x22 + x5))) (Go.bits .and .u64 (shl .u64 (rd x20 x22) x6) 4294967295))) (((wrap64 ((wrap64 (x22 + x5)) + 1)) : Int).toNat) ((shl .u64 (rd x20 x22) x6) / 4294967296) (lt_ok h6 h7)) f))))))))) (by kernel_rfl) (ih _ _ _ _ _ _ _ h)
    · rw [if_neg h0] at h
      obtain ⟨v2, h1, h⟩ := bnd h
      obtain rfl := Option.some.inj h
      exact Til.fin Tryd.func58 [(0, .b false), (2, .call [] [0] (.c (.own 0)) (some (O59 .own v2)) [] [])] (fun _ f => o (decide_eq_false h0) (o (nat_trimM.does h1) f)) (by kernel_rfl)
theorem nat_shl.does {k : Nat} {l0 : List Int} {a1 : Int} {r : List Int} (h : nat_shl.f k l0 a1 = some r) :
    Does Tryd.prog 58 [.c (.d (L59 l0)), .c (.d (.int .i64 a1))] [] (.c (.own newName)) (some (O59 .own r)) [] := by
  refine does_fn Tryd.func58 (by kernel_rfl) rfl rfl ?_
  unfold nat_shl.f at h
  have ih := nat_shl.w k
  obtain ⟨h0, h⟩ := ifp h
  obtain ⟨h1, h⟩ := ifp h
  exact Til.mid Tryd.func58 4 [(12, Z59 (List.replicate (((wrap64 ((wrap64 ((l0.length : Int) + (wrap64 (Int.tdiv a1 32)))) + 1)) : Int).toNat) 0 : List Int))] (fun _ f => o (by decide : ¬ (32 : Int) = 0) (o (by decide : ¬ (32 : Int) = 0) (o (make_ok c59 0 [.int .u64 0] ⟨.refl _, trivial⟩ (wrap64 ((wrap64 ((l0.length : Int) + (wrap64 (Int.tdiv a1 32)))) + 1)) 8 35184372088832 (by decide) h0 h1) f))) (by kernel_rfl) (ih _ _ _ _ _ _ _ h)

def nat_small.l0E (x0 : List Int) (x1 : Int) (x6 : List Int) (x7 : Int) (x8 : Int) : Env := [(0, .c (.d (L59 x0))), (1, .c (.d (.int .u64 x1))), (6, .c (.own 6)), (7, .c (.d (.int .u64 x7))), (8, .c (.d (.int .i64 x8)))]
def nat_small.l0B (x0 : List Int) (x1 : Int) (x6 : List Int) (x7 : Int) (x8 : Int) : Obs := [(6, some (O59 .own x6))]
theorem nat_small.w (k : Nat) : (∀  (x0 : List Int) (x1 : Int) (x6 : List Int) (x7 : Int) (x8 : Int) (r : List Int × Int), nat_small.l0 k x0 x1 x6 x7 x8 = some r → Til Tryd.prog 61 [] (.tup [.c (.d (L59 r.1)), .c (.d (.int .u64 r.2))]) none [] (at_ Tryd.f61 4) (nat_small.l0E x0 x1 x6 x7 x8) (nat_small.l0B x0 x1 x6 x7 x8)) := by
  induction k with
  | zero =>
    exact fun _ _ _ _ _ _ h => (by cases h)
  | succ k ih =>
    intro x0 x1 x6 x7 x8 r h
    rw [nat_small.l0] at h
    by_cases h0 : x8 ≥ 0
    · rw [if_pos h0] at h
      obtain ⟨h1, h⟩ := ifp h
      obtain ⟨h2, h⟩ := ifn h
      obtain ⟨h3, h⟩ := ifp h
      exact Til.mid Tryd.func61 4 [(1, .b true), (16, Z59 (x6.set ((x8 : Int).toNat) (IntKind.u64.wrap (Int.tdiv (Go.bits .or .u64 (IntKind.u64.wrap (x7 * 4294967296)) (rd x0 x8)) x1))))] (fun _ f => o (decide_eq_true h0) (o (nn 32) (o (o h0 h1) (o h2 (o (o h0 h3) (o (set_ok c59 0 (fun _ _ => rfl) x6 ((x8 : Int).toNat) (IntKind.u64.wrap (Int.tdiv (Go.bits .or .u64 (IntKind.u64.wrap (x7 * 4294967296)) (rd x0 x8)) x1)) (lt_ok h0 h3)) (o h2 f))))))) (by kernel_rfl) (ih _ _ _ _ _ _ h)
    · rw [if_neg h0] at h
      obtain ⟨v3, h1, h⟩ := bnd h
      obtain rfl := Option.some.inj h
      exact Til.fin Tryd.func61 [(1, .b false), (3, ca (.c (.d (L59 v3))))] (fun _ f => o (decide_eq_false h0) (o (nat_trim.does h1) f)) (by kernel_rfl)
theorem nat_small.does {k : Nat} {l0 : List Int} {a1 : Int} {r : List Int × Int} (h : nat_small.f k l0 a1 = some r) :
    Does Tryd.prog 61 [.c (.d (L59 l0)), .c (.d (.int .u64 a1))] [] (.tup [.c (.d (L59 r.1)), .c (.d (.int .u64 r.2))]) none [] := by
  refine does_fn Tryd.func61 (by kernel_rfl) rfl rfl ?_
  unfold nat_small.f at h
  have ih := nat_small.w k
  obtain ⟨h0, h⟩ := ifp h
  exact Til.mid Tryd.func61 4 [(4, Z59 (List.replicate (((l0.length : Int) : Int).toNat) 0 : List Int))] (fun _ f => o (make_ok c59 0 [.int .u64 0] ⟨.refl _, trivial⟩ (l0.length : Int) 8 35184372088832 (by decide) (Int.natCast_nonneg l0.length) h0) f) (by kernel_rfl) (ih _ _ _ _ _ _ h)

theorem bits_Len32.does {a0 : Int} {r : Int} (h : bits_Len32.f a0 = some r) :
    Does Tryd.prog 68 [.c (.d (.int .u32 a0))] [] (.c (.d (.int .i64 r))) none [] := by
  refine does_fn Tryd.func68 (by kernel_rfl) rfl rfl ?_
  unfold bits_Len32.f at h
  by_cases h0 : a0 ≥ 65536
  · rw [if_pos h0] at h
    by_cases h1 : (a0 / 65536) ≥ 256
    · rw [if_pos h1] at h
      obtain ⟨h2, h⟩ := ifp h
      obtain ⟨h3, h⟩ := ifp h
      obtain rfl := Option.some.inj h
      exact Til.fin Tryd.func68 [(2, .b true), (8, .b true)] (fun _ f => o (decide_eq_true h0) (o (nn 16) (o (decide_eq_true h1) (o (nn 8) (o (o h2 h3) f))))) (by kernel_rfl)
    · rw [if_neg h1] at h
      obtain ⟨h2, h⟩ := ifp h
      obtain ⟨h3, h⟩ := ifp h
      obtain rfl := Option.some.inj h
      exact Til.fin Tryd.func68 [(2, .b true), (8, .b false)] (fun _ f => o (decide_eq_true h0) (o (nn 16) (o (decide_eq_false h1) (o (o h2 h3) f)))) (by kernel_rfl)
  · rw [if_neg h0] at h
    by_cases h1 : a0 ≥ 256
    · rw [if_pos h1] at h
      obtain ⟨h2, h⟩ := ifp h
      obtain ⟨h3, h⟩ := ifp h
      obtain rfl := Option.some.inj h
      exact Til.fin Tryd.func68 [(2, .b false), (4, .b true)] (fun _ f => o (decide_eq_false h0) (o (decide_eq_true h1) (o (nn 8) (o (o h2 h3) f)))) (by kernel_rfl)
    · rw [if_neg h1] at h
      obtain ⟨h2, h⟩ := ifp h
      obtain ⟨h3, h⟩ := ifp h
      obtain rfl := Option.some.inj h
      exact Til.fin Tryd.func68 [(2, .b false), (4, .b false)] (fun _ f => o (decide_eq_false h0) (o (decide_eq_false h1) (o (o h2 h3) f))) (by kernel_rfl)

theorem bits_LeadingZeros32.does {a0 : Int} {r : Int} (h : bits_LeadingZeros32.f a0 = some r) :
    Does Tryd.prog 66 [.c (.d (.int .u32 a0))] [] (.c (.d (.int .i64 r))) none [] := by
  refine does_fn Tryd.func66 (by kernel_rfl) rfl rfl ?_
  unfold bits_LeadingZeros32.f at h
  obtain ⟨v2, h0, h⟩ := bnd h
  obtain rfl := Option.some.inj h
  exact Til.fin Tryd.func66 [(2, ca (.c (.d (.int .i64 v2))))] (fun _ f => o (bits_Len32.does h0) f) (by kernel_rfl)

def nat_take.l0E (x0 : List Int) (x1 : List Int) (x2 : Int) (x7 : Int) (x8 : Int) (x12 : Int) (x13 : Int) : Env := [(0, .c (.own 0)), (1, .c (.d (L59 x1))), (2, .c (.d (.int .u64 x2))), (7, .c (.d (.int .u64 x7))), (8, .c (.d (.int .u64 x8))), (12, .c (.d (.int .i64 x12))), (13, .c (.d (.int .i64 x13)))]
def nat_take.l0B (x0 : List Int) (x1 : List Int) (x2 : Int) (x7 : Int) (x8 : Int) (x12 : Int) (x13 : Int) : Obs := [(0, some (O59 .win x0))]
theorem nat_take.w (k : Nat) : (∀ (l0 : List Int) (x0 : List Int) (x1 : List Int) (x2 : Int) (x7 : Int) (x8 : Int) (x12 : Int) (x13 : Int) (r : Bool × List Int), nat_take.l0 k x0 x1 x2 x7 x8 x12 x13 = some r → Til Tryd.prog 69 [(0, some (O59 .win l0))] (.c (.d (.bool r.1))) none [(0, some (O59 .win r.2))] (at_ Tryd.f69 3) (nat_take.l0E x0 x1 x2 x7 x8 x12 x13) (nat_take.l0B x0 x1 x2 x7 x8 x12 x13)) := by
  induction k with
  | zero =>
    exact fun _ _ _ _ _ _ _ _ _ h => (by cases h)
  | succ k ih =>
    intro l0 x0 x1 x2 x7 x8 x12 x13 r h
    rw [nat_take.l0] at h
    by_cases h0 : x13 < x12
    · rw [if_pos h0] at h
      obtain ⟨v7, h1, h⟩ := bnd h
      obtain ⟨h2, h⟩ := ifp h
      obtain ⟨h3, h⟩ := ifp h
      exact Til.mid Tryd.func69 3 [(0, .b true), (7, ca (.c (.d (.int .u64 v7)))), (27, Z59 (x0.set ((x13 : Int).toNat) (Go.bits .and .u64 (IntKind.u64.wrap ((IntKind.u64.wrap ((IntKind.u64.wrap (4294967296 + (rd x0 x13))) - (Go.bits .and .u64 (IntKind.u64.wrap (x7 + (IntKind.u64.wrap (x2 * v7)))) 4294967295))) - x8)) 4294967295)))] (fun _ f => o (decide_eq_true h0) (o (nat_limb.does h1) (o (o h2 h3) (o (o h2 h3) (o (set_ok c59 0 (fun _ _ => rfl) x0 ((x13 : Int).toNat) (Go.bits .and .u64 (IntKind.u64.wrap ((IntKind.u64.wrap ((IntKind.u64.wrap (4294967296 + (rd x0 x13))) - (Go.bits .and .u64 (IntKind.u64.wrap (x7 + (IntKind.u64.wrap (x2 * v7)))) 4294967295))) - x8)) 4294967295) (lt_ok h2 h3)) (o (nn 32) (o (nn 32) f))))))) (by kernel_rfl) (ih _ _ _ _ _ _ _ _ _ h)
    · rw [if_neg h0] at h
      obtain rfl := Option.some.inj h
      exact Til.fin Tryd.func69 [(0, .b false)] (fun _ f => o (decide_eq_false h0) f) (by kernel_rfl)
theorem nat_take.does {k : Nat} {l0 : List Int} {l1 : List Int} {a2 : Int} {r : Bool × List Int} (h : nat_take.f k l0 l1 a2 = some r) :
    Does Tryd.prog 69 [.c (.own 0), .c (.d (L59 l1)), .c (.d (.int .u64 a2))] [(0, some (O59 .win l0))] (.c (.d (.bool r.1))) none [(0, some (O59 .win r.2))] := by
  refine does_fn Tryd.func69 (by kernel_rfl) rfl rfl ?_
  unfold nat_take.f at h
  have ih := nat_take.w k
  exact Til.mid Tryd.func69 3 [] (fun _ f => f) (by kernel_rfl) (ih _ _ _ _ _ _ _ _ _ h)

def nat_give.l0E (x0 : List Int) (x1 : List Int) (x4 : Int) (x7 : Int) (x8 : Int) : Env := [(0, .c (.own 0)), (1, .c (.d (L59 x1))), (4, .c (.d (.int .u64 x4))), (7, .c (.d (.int .i64 x7))), (8, .c (.d (.int .i64 x8)))]
def nat_give.l0B (x0 : List Int) (x1 : List Int) (x4 : Int) (x7 : Int) (x8 : Int) : Obs := [(0, some (O59 .win x0))]
theorem nat_give.w (k : Nat) : (∀ (l0 : List Int) (x0 : List Int) (x1 : List Int) (x4 : Int) (x7 : Int) (x8 : Int) (r : List Int), nat_give.l0 k x0 x1 x4 x7 x8 = some r → Til Tryd.prog 70 [(0, some (O59 .win l0))] (.tup []) none [(0, some (O59 .win r))] (at_ Tryd.f70 2) (nat_give.l0E x0 x1 x4 x7 x8) (nat_give.l0B x0 x1 x4 x7 x8)) := by
  induction k with
  | zero =>
    exact fun _ _ _ _ _ _ _ h => (by cases h)
  | succ k ih =>
    intro l0 x0 x1 x4 x7 x8 r h
    rw [nat_give.l0] at h
    by_cases h0 : x8 < x7
    · rw [if_pos h0] at h
      obtain ⟨h1, h⟩ := ifp h
      obtain ⟨h2, h⟩ := ifp h
      obtain ⟨v10, h3, h⟩ := bnd h
      exact Til.mid Tryd.func70 2 [(0, .b true), (10, ca (.c (.d (.int .u64 v10)))), (19, Z59 (x0.set ((x8 : Int).toNat) (Go.bits .and .u64 (IntKind.u64.wrap (x4 + (IntKind.u64.wrap ((rd x0 x8) + v10)))) 4294967295)))] (fun _ f => o (decide_eq_true h0) (o (o h1 h2) (o (nat_limb.does h3) (o (o h1 h2) (o (set_ok c59 0 (fun _ _ => rfl) x0 ((x8 : Int).toNat) (Go.bits .and .u64 (IntKind.u64.wrap (x4 + (IntKind.u64.wrap ((rd x0 x8) + v10)))) 4294967295) (lt_ok h1 h2)) (o (nn 32) f)))))) (by kernel_rfl) (ih _ _ _ _ _ _ _ h)
    · rw [if_neg h0] at h
      obtain rfl := Option.some.inj h
      exact Til.fin Tryd.func70 [(0, .b false)] (fun _ f => o (decide_eq_false h0) f) (by kernel_rfl)
theorem nat_give.does {k : Nat} {l0 : List Int} {l1 : List Int} {r : List Int} (h : nat_give.f k l0 l1 = some r) :
    Does Tryd.prog 70 [.c (.own 0), .c (.d (L59 l1))] [(0, some (O59 .win l0))] (.tup []) none [(0, some (O59 .win r))] := by
  refine does_fn Tryd.func70 (by kernel_rfl) rfl rfl ?_
  unfold nat_give.f at h
  have ih := nat_give.w k
  exact Til.mid Tryd.func70 2 [] (fun _ f => f) (by kernel_rfl) (ih _ _ _ _ _ _ _ h)

def nat_digit.l0E (x0 : List Int) (x1 : List Int) (x5 : Int) (x7 : Int) (x8 : Int) : Env := [(0, .c (.own 0)), (1, .c (.d (L59 x1))), (5, .c (.d (.int .i64 x5))), (7, .c (.d (.int .u64 x7))), (8, .c (.d (.int .u64 x8)))]
def nat_digit.l0B (x0 : List Int) (x1 : List Int) (x5 : Int) (x7 : Int) (x8 : Int) : Obs := [(0, some (O59 .win x0))]
theorem nat_digit.w (k : Nat) : (∀ (l0 : List Int) (x0 : List Int) (x1 : List Int) (x5 : Int) (x7 : Int) (x8 : Int) (r : Int × List Int), nat_digit.l0 k x0 x1 x5 x7 x8 = some r → Til Tryd.prog 67 [(0, some (O59 .win l0))] (.c (.d (.int .u64 r.1))) none [(0, some (O59 .win r.2))] (at_ Tryd.f67 4) (nat_digit.l0E x0 x1 x5 x7 x8) (nat_digit.l0B x0 x1 x5 x7 x8)) := by
  induction k with
  | zero =>
    exact fun _ _ _ _ _ _ _ h => (by cases h)
  | succ k ih =>
    intro l0 x0 x1 x5 x7 x8 r h
    rw [nat_digit.l0] at h
    by_cases h0 : x7 ≥ 4294967296
    · rw [if_pos h0] at h
      obtain ⟨h1, h⟩ := ifp h
      obtain ⟨h2, h⟩ := ifp h
      by_cases h3 : (IntKind.u64.wrap (x8 + (rd x1 (wrap64 (x5 - 1))))) ≥ 4294967296
      · rw [if_pos h3] at h
        obtain ⟨⟨v36_0, v36_1⟩, h4, h⟩ := bnd h
        dsimp only at h
        obtain ⟨h5, h⟩ := ifp h
        cases v36_0
        · rw [if_neg (by decide)] at h
          obtain ⟨h6, h⟩ := ifp h
          obtain rfl := Option.some.inj h
          exact Til.fin Tryd.func67 [(1, .b true), (32, .b true), (36, .call [] [0] (.c (.d (.bool false))) none [(0, some (O59 .win v36_1))] [])] (fun _ f => o (decide_eq_true h0) (o (o h1 h2) (o (decide_eq_true h3) (o (nat_take.does h4) (o (o (rfl : (1 : Nat) = 1) h6) f))))) (by kernel_rfl)
        · rw [if_pos rfl] at h
          obtain ⟨h6, h⟩ := ifp h
          obtain ⟨v42, h7, h⟩ := bnd h
          obtain ⟨h8, h⟩ := ifp h
          obtain rfl := Option.some.inj h
          exact Til.fin Tryd.func67 [(1, .b true), (32, .b true), (36, .call [] [0] (.c (.d (.bool true))) none [(0, some (O59 .win v36_1))] []), (42, .call [] [0] (.tup []) none [(0, some (O59 .win v42))] [])] (fun _ f => o (decide_eq_true h0) (o (o h1 h2) (o (decide_eq_true h3) (o (nat_take.does h4) (o (o (rfl : (1 : Nat) = 1) h6) (o (nat_give.does h7) (o (o (rfl : (1 : Nat) = 1) h8) f))))))) (by kernel_rfl)
      · rw [if_neg h3] at h
        exact Til.mid Tryd.func67 4 [(1, .b true), (32, .b false)] (fun _ f => o (decide_eq_true h0) (o (o h1 h2) (o (decide_eq_false h3) f))) (by kernel_rfl) (ih _ _ _ _ _ _ _ h)
    · rw [if_neg h0] at h
      obtain ⟨h1, h⟩ := ifp h
      obtain ⟨h2, h⟩ := ifp h
      obtain ⟨h3, h⟩ := ifp h
      by_cases h4 : (IntKind.u64.wrap (x7 * (rd x1 (wrap64 (x5 - 2))))) > (Go.bits .or .u64 (IntKind.u64.wrap (x8 * 4294967296)) (rd x0 (wrap64 (x5 - 2))))
      · rw [if_pos h4] at h
        obtain ⟨h5, h⟩ := ifp h
        obtain ⟨h6, h⟩ := ifp h
        by_cases h7 : (IntKind.u64.wrap (x8 + (rd x1 (wrap64 (x5 - 1))))) ≥ 4294967296
        · rw [if_pos h7] at h
          obtain ⟨⟨v36_0, v36_1⟩, h8, h⟩ := bnd h
          dsimp only at h
          obtain ⟨h9, h⟩ := ifp h
          cases v36_0
          · rw [if_neg (by decide)] at h
            obtain ⟨h10, h⟩ := ifp h
            obtain rfl := Option.some.inj h
            exact Til.fin Tryd.func67 [(1, .b false), (18, .b true), (32, .b true), (36, .call [] [0] (.c (.d (.bool false))) none [(0, some (O59 .win v36_1))] [])] (fun _ f => o (decide_eq_false h0) (o (o h1 h2) (o (nn 32) (o (o h1 h3) (o (decide_eq_true h4) (o (o h5 h6) (o (decide_eq_true h7) (o (nat_take.does h8) (o (o (rfl : (1 : Nat) = 1) h10) f))))))))) (by kernel_rfl)
          · rw [if_pos rfl] at h
            obtain ⟨h10, h⟩ := ifp h
            obtain ⟨v42, h11, h⟩ := bnd h
            obtain ⟨h12, h⟩ := ifp h
            obtain rfl := Option.some.inj h
            exact Til.fin Tryd.func67 [(1, .b false), (18, .b true), (32, .b true), (36, .call [] [0] (.c (.d (.bool true))) none [(0, some (O59 .win v36_1))] []), (42, .call [] [0] (.tup []) none [(0, some (O59 .win v42))] [])] (fun _ f => o (decide_eq_false h0) (o (o h1 h2) (o (nn 32) (o (o h1 h3) (o (decide_eq_true h4) (o (o h5 h6) (o (decide_eq_true h7) (o (nat_take.does h8) (o (o (rfl : (1 : Nat) = 1) h10) (o (nat_give.does h11) (o (o (rfl : (1 : Nat) = 1) h12) f))))))))))) (by kernel_rfl)
        · rw [if_neg h7] at h
          exact Til.mid Tryd.func67 4 [(1, .b false), (18, .b true), (32, .b false)] (fun _ f => o (decide_eq_false h0) (o (o h1 h2) (o (nn 32) (o (o h1 h3) (o (decide_eq_true h4) (o (o h5 h6) (o (decide_eq_false h7) f))))))) (by kernel_rfl) (ih _ _ _ _ _ _ _ h)
      · rw [if_neg h4] at h
        obtain ⟨⟨v23_0, v23_1⟩, h5, h⟩ := bnd h
        dsimp only at h
        obtain ⟨h6, h⟩ := ifp h
        cases v23_0
        · rw [if_neg (by decide)] at h
          obtain ⟨h7, h⟩ := ifp h
          obtain rfl := Option.some.inj h
          exact Til.fin Tryd.func67 [(1, .b false), (18, .b false), (23, .call [] [0] (.c (.d (.bool false))) none [(0, some (O59 .win v23_1))] [])] (fun _ f => o (decide_eq_false h0) (o (o h1 h2) (o (nn 32) (o (o h1 h3) (o (decide_eq_false h4) (o (nat_take.does h5) (o (o (rfl : (1 : Nat) = 1) h7) f))))))) (by kernel_rfl)
        · rw [if_pos rfl] at h
          obtain ⟨h7, h⟩ := ifp h
          obtain ⟨v29, h8, h⟩ := bnd h
          obtain ⟨h9, h⟩ := ifp h
          obtain rfl := Option.some.inj h
          exact Til.fin Tryd.func67 [(1, .b false), (18, .b false), (23, .call [] [0] (.c (.d (.bool true))) none [(0, some (O59 .win v23_1))] []), (29, .call [] [0] (.tup []) none [(0, some (O59 .win v29))] [])] (fun _ f => o (decide_eq_false h0) (o (o h1 h2) (o (nn 32) (o (o h1 h3) (o (decide_eq_false h4) (o (nat_take.does h5) (o (o (rfl : (1 : Nat) = 1) h7) (o (nat_give.does h8) (o (o (rfl : (1 : Nat) = 1) h9) f))))))))) (by kernel_rfl)
theorem nat_digit.does {k : Nat} {l0 : List Int} {l1 : List Int} {r : Int × List Int} (h : nat_digit.f k l0 l1 = some r) :
    Does Tryd.prog 67 [.c (.own 0), .c (.d (L59 l1))] [(0, some (O59 .win l0))] (.c (.d (.int .u64 r.1))) none [(0, some (O59 .win r.2))] := by
  refine does_fn Tryd.func67 (by kernel_rfl) rfl rfl ?_
  unfold nat_digit.f at h
  have ih := nat_digit.w k
  obtain ⟨h0, h⟩ := ifp h
  obtain ⟨h1, h⟩ := ifp h
  obtain ⟨h2, h⟩ := ifp h
  obtain ⟨h3, h⟩ := ifp h
  obtain ⟨h4, h⟩ := ifn h
  exact Til.mid Tryd.func67 4 [] (fun _ f => o (o (Int.natCast_nonneg l1.length) h0) (o (nn 32) (o (o h1 h2) (o (o h1 h3) (o h4 (o (o h1 h3) (o h4 f))))))) (by kernel_rfl) (ih _ _ _ _ _ _ _ h)

def nat_long.l0E (x6 : Int) (x7 : List Int) (x8 : List Int) (x9 : Int) (x10 : List Int) (x11 : Int) : Env := [(6, .c (.d (.int .i64 x6))), (7, .c (.d (L59 x7))), (8, .c (.own 8)), (9, .c (.d (.int .i64 x9))), (10, .c (.own 10)), (11, .c (.d (.int .i64 x11)))]
def nat_long.l0B (x6 : Int) (x7 : List Int) (x8 : List Int) (x9 : Int) (x10 : List Int) (x11 : Int) : Obs := [(8, some (O59 .own x8)), (10, some (O59 .own x10))]
theorem nat_long.w (k : Nat) : (∀  (x6 : Int) (x7 : List Int) (x8 : List Int) (x9 : Int) (x10 : List Int) (x11 : Int) (r : List Int × List Int), nat_long.l0 k x6 x7 x8 x9 x10 x11 = some r → Til Tryd.prog 62 [] (.tup [.c (.d (L59 r.1)), .c (.d (L59 r.2))]) none [] (at_ Tryd.f62 7) (nat_long.l0E x6 x7 x8 x9 x10 x11) (nat_long.l0B x6 x7 x8 x9 x10 x11)) := by
  induction k with
  | zero =>
    exact fun _ _ _ _ _ _ _ h => (by cases h)
  | succ k ih =>
    intro x6 x7 x8 x9 x10 x11 r h
    rw [nat_long.l0] at h
    by_cases h0 : x11 ≥ 0
    · rw [if_pos h0] at h
      obtain ⟨h1, h⟩ := ifp h
      obtain ⟨h2, h⟩ := ifp h
      obtain ⟨v12, h3, h⟩ := bnd h
      obtain ⟨h4, h⟩ := ifp h
      obtain ⟨h5, h⟩ := ifp h
      exact Til.mid Tryd.func62 7 [(1, .b true), (12, .call [] [0] (.c (.d (.int .u64 v12.1))) none [(0, some (O59 .win v12.2))] [(0, (x8.take ((x11 : Int).toNat) ++ v12.2 ++ x8.drop (((wrap64 ((wrap64 (x11 + x9)) + 1)) : Int).toNat)).length, enc c59 0 (x8.take ((x11 : Int).toNat) ++ v12.2 ++ x8.drop (((wrap64 ((wrap64 (x11 + x9)) + 1)) : Int).toNat))), (1000000, ((x8.drop ((x11 : Int).toNat)).take (((wrap64 ((wrap64 (x11 + x9)) + 1)) : Int).toNat - (x11 : Int).toNat)).length, enc c59 0 ((x8.drop ((x11 : Int).toNat)).take (((wrap64 ((wrap64 (x11 + x9)) + 1)) : Int).toNat - (x11 : Int).toNat)))]), (14, Z59 (x10.set ((x11 : Int).toNat) v12.1))] (fun _ f => o (decide_eq_true h0) (o (o h0 (o h1 h2)) (o (nat_digit.does h3) (o (backw_ok c59 0 1 x8 v12.2 h0 (Int.le_of_lt h1) h2 h4) (o (part_ok c59 0 x8 h0 (Int.le_of_lt h1) h2).2.2.2 (o (o h0 h5) (o (set_ok c59 0 (fun _ _ => rfl) x10 ((x11 : Int).toNat) v12.1 (lt_ok h0 h5)) f))))))) (by kernel_rfl) (ih _ _ _ _ _ _ _ h)
    · rw [if_neg h0] at h
      obtain ⟨v3, h1, h⟩ := bnd h
      obtain ⟨v5, h2, h⟩ := bnd h
      obtain ⟨v7, h3, h⟩ := bnd h
      obtain rfl := Option.some.inj h
      exact Til.fin Tryd.func62 [(1, .b false), (3, ca (.c (.d (L59 v3)))), (5, ca (.c (.d (L59 v5)))), (7, ca (.c (.d (L59 v7))))] (fun _ f => o (decide_eq_false h0) (o (nat_trim.does h1) (o (nat_trim.does h2) (o (nat_shr.does h3) f)))) (by kernel_rfl)
theorem nat_long.does {k : Nat} {l0 : List Int} {l1 : List Int} {r : List Int × List Int} (h : nat_long.f k l0 l1 = some r) :
    Does Tryd.prog 62 [.c (.d (L59 l0)), .c (.d (L59 l1))] [] (.tup [.c (.d (L59 r.1)), .c (.d (L59 r.2))]) none [] := by
  refine does_fn Tryd.func62 (by kernel_rfl) rfl rfl ?_
  unfold nat_long.f at h
  have ih := nat_long.w k
  obtain ⟨h0, h⟩ := ifp h
  obtain ⟨h1, h⟩ := ifp h
  obtain ⟨v9, h2, h⟩ := bnd h
  obtain ⟨v13, h3, h⟩ := bnd h
  obtain ⟨v17, h4, h⟩ := bnd h
  obtain ⟨h5, h⟩ := ifp h
  obtain ⟨h6, h⟩ := ifp h
  obtain ⟨h7, h⟩ := ifp h
  obtain ⟨h8, h⟩ := ifp h
  obtain ⟨h9, h⟩ := ifp h
  exact Til.mid Tryd.func62 7 [(9, ca (.c (.d (.int .i64 v9)))), (13, .call [] [] (.c (.own 0)) (some (O59 .own v13)) [] []), (17, .call [] [] (.c (.own 0)) (some (O59 .own v17)) [] []), (18, Z59 ([0, 0] : List Int)), (19, Z59 (v17 ++ ([0, 0] : List Int))), (23, Z59 ((v17 ++ ([0, 0] : List Int)).take (((wrap64 ((l0.length : Int) + 1)) : Int).toNat))), (32, Z59 (List.replicate (((wrap64 ((((v17 ++ ([0, 0] : List Int)).take (((wrap64 ((l0.length : Int) + 1)) : Int).toNat)).length : Int) - (v13.length : Int))) : Int).toNat) 0 : List Int))] (fun _ f => o (o h0 h1) (o (bits_LeadingZeros32.does h2) (o (nat_shl.does h3) (o (nat_shl.does h4) (o (lit_ok c59 0 ([0, 0] : List Int)) (o (app c59 0 v17 ([0, 0] : List Int) 8 17592186044416 (by decide) h5) (o (take_ok c59 0 (v17 ++ ([0, 0] : List Int)) h6 h7) (o (make_ok c59 0 [.int .u64 0] ⟨.refl _, trivial⟩ (wrap64 ((((v17 ++ ([0, 0] : List Int)).take (((wrap64 ((l0.length : Int) + 1)) : Int).toNat)).length : Int) - (v13.length : Int))) 8 35184372088832 (by decide) h8 h9) f)))))))) (by kernel_rfl) (ih _ _ _ _ _ _ _ h)

theorem nat_DivMod.does {k : Nat} {l0 : List Int} {l1 : List Int} {r : List Int × List Int × Int} (h : nat_DivMod.f k l0 l1 = some r) :
    Does Tryd.prog 46 [.c (.d (L59 l0)), .c (.d (L59 l1))] [] (.tup [.c (.d (L59 r.1)), .c (.d (L59 r.2.1)), .c (.d (.int .i64 r.2.2))]) none [] := by
  refine does_fn Tryd.func46 (by kernel_rfl) rfl rfl ?_
  unfold nat_DivMod.f at h
  obtain ⟨v4, h0, h⟩ := bnd h
  obtain ⟨v6, h1, h⟩ := bnd h
  by_cases h2 : (v6.length : Int) = 0
  · rw [if_pos h2] at h
    obtain rfl := Option.some.inj h
    exact Til.fin Tryd.func46 [(4, ca (.c (.d (L59 v4)))), (6, ca (.c (.d (L59 v6)))), (11, .b true)] (fun _ f => o (nat_Clean.does h0) (o (nat_Clean.does h1) (o (beq_iff_eq.2 h2) f))) (by kernel_rfl)
  · rw [if_neg h2] at h
    obtain ⟨v15, h3, h⟩ := bnd h
    by_cases h4 : v15 < 0
    · rw [if_pos h4] at h
      obtain rfl := Option.some.inj h
      exact Til.fin Tryd.func46 [(4, ca (.c (.d (L59 v4)))), (6, ca (.c (.d (L59 v6)))), (11, .b false), (15, ca (.c (.d (.int .i64 v15)))), (16, .b true)] (fun _ f => o (nat_Clean.does h0) (o (nat_Clean.does h1) (o (beq_false_of_ne h2) (o (nat_order.does h3) (o (decide_eq_true h4) f))))) (by kernel_rfl)
    · rw [if_neg h4] at h
      by_cases h5 : (v6.length : Int) = 1
      · rw [if_pos h5] at h
        obtain ⟨h6, h⟩ := ifp h
        obtain ⟨v26, h7, h⟩ := bnd h
        obtain ⟨v34, h8, h⟩ := bnd h
        obtain rfl := Option.some.inj h
        exact Til.fin Tryd.func46 [(4, ca (.c (.d (L59 v4)))), (6, ca (.c (.d (L59 v6)))), (11, .b false), (15, ca (.c (.d (.int .i64 v15)))), (16, .b false), (20, .b true), (26, ca (.tup [.c (.d (L59 v26.1)), .c (.d (.int .u64 v26.2))])), (34, ca (.c (.d (L59 v34))))] (fun _ f => o (nat_Clean.does h0) (o (nat_Clean.does h1) (o (beq_false_of_ne h2) (o (nat_order.does h3) (o (decide_eq_false h4) (o (beq_iff_eq.2 h5) (o (o (nn 0) h6) (o (nat_small.does h7) (o (nat_Of.does h8) f))))))))) (by kernel_rfl)
      · rw [if_neg h5] at h
        obtain ⟨v24, h6, h⟩ := bnd h
        obtain rfl := Option.some.inj h
        exact Til.fin Tryd.func46 [(4, ca (.c (.d (L59 v4)))), (6, ca (.c (.d (L59 v6)))), (11, .b false), (15, ca (.c (.d (.int .i64 v15)))), (16, .b false), (20, .b false), (24, ca (.tup [.c (.d (L59 v24.1)), .c (.d (L59 v24.2))]))] (fun _ f => o (nat_Clean.does h0) (o (nat_Clean.does h1) (o (beq_false_of_ne h2) (o (nat_order.does h3) (o (decide_eq_false h4) (o (beq_false_of_ne h5) (o (nat_long.does h6) f))))))) (by kernel_rfl)

theorem nat_rest.does {k : Nat} {l0 : List Int} {l1 : List Int} {r : List Int × List Int} (h : nat_rest.f k l0 l1 = some r) :
    Does Tryd.prog 59 [.c (.d (L59 l0)), .c (.d (L59 l1))] [] (.tup [.c (.d (L59 r.1)), .c (.d (L59 r.2))]) none [] := by
  refine does_fn Tryd.func59 (by kernel_rfl) rfl rfl ?_
  unfold nat_rest.f at h
  obtain ⟨v4, h0, h⟩ := bnd h
  obtain rfl := Option.some.inj h
  exact Til.fin Tryd.func59 [(4, ca (.tup [.c (.d (L59 v4.1)), .c (.d (L59 v4.2.1)), .c (.d (.int .i64 v4.2.2))]))] (fun _ f => o (nat_DivMod.does h0) f) (by kernel_rfl)

def nat_minus.l0E (x0 : List Int) (x1 : List Int) (x5 : List Int) (x6 : Int) (x13 : Int) (x14 : Int) : Env := [(0, .c (.d (L59 x0))), (1, .c (.d (L59 x1))), (5, .c (.own 5)), (6, .c (.d (.int .u64 x6))), (13, .c (.d (.int .i64 x13))), (14, .c (.d (.int .i64 x14)))]
def nat_minus.l0B (x0 : List Int) (x1 : List Int) (x5 : List Int) (x6 : Int) (x13 : Int) (x14 : Int) : Obs := [(5, some (O59 .own x5))]
theorem nat_minus.w (k : Nat) : (∀  (x0 : List Int) (x1 : List Int) (x5 : List Int) (x6 : Int) (x13 : Int) (x14 : Int) (r : List Int), nat_minus.l0 k x0 x1 x5 x6 x13 x14 = some r → Til Tryd.prog 60 [] (.c (.d (L59 r))) none [] (at_ Tryd.f60 4) (nat_minus.l0E x0 x1 x5 x6 x13 x14) (nat_minus.l0B x0 x1 x5 x6 x13 x14)) := by
  induction k with
  | zero =>
    exact fun _ _ _ _ _ _ _ h => (by cases h)
  | succ k ih =>
    intro x0 x1 x5 x6 x13 x14 r h
    rw [nat_minus.l0] at h
    by_cases h0 : x14 < x13
    · rw [if_pos h0] at h
      obtain ⟨h1, h⟩ := ifp h
      obtain ⟨h2, h⟩ := ifp h
      obtain ⟨v10, h3, h⟩ := bnd h
      obtain ⟨h4, h⟩ := ifp h
      exact Til.mid Tryd.func60 4 [(0, .b true), (10, ca (.c (.d (.int .u64 v10)))), (20, Z59 (x5.set ((x14 : Int).toNat) (Go.bits .and .u64 (IntKind.u64.wrap ((IntKind.u64.wrap ((IntKind.u64.wrap (4294967296 + (rd x0 x14))) - v10)) - x6)) 4294967295)))] (fun _ f => o (decide_eq_true h0) (o (o h1 h2) (o (nat_limb.does h3) (o (o h1 h4) (o (set_ok c59 0 (fun _ _ => rfl) x5 ((x14 : Int).toNat) (Go.bits .and .u64 (IntKind.u64.wrap ((IntKind.u64.wrap ((IntKind.u64.wrap (4294967296 + (rd x0 x14))) - v10)) - x6)) 4294967295) (lt_ok h1 h4)) (o (nn 32) f)))))) (by kernel_rfl) (ih _ _ _ _ _ _ _ h)
    · rw [if_neg h0] at h
      obtain ⟨v2, h1, h⟩ := bnd h
      obtain rfl := Option.some.inj h
      exact Til.fin Tryd.func60 [(0, .b false), (2, ca (.c (.d (L59 v2))))] (fun _ f => o (decide_eq_false h0) (o (nat_trim.does h1) f)) (by kernel_rfl)
theorem nat_minus.does {k : Nat} {l0 : List Int} {l1 : List Int} {r : List Int} (h : nat_minus.f k l0 l1 = some r) :
    Does Tryd.prog 60 [.c (.d (L59 l0)), .c (.d (L59 l1))] [] (.c (.d (L59 r))) none [] := by
  refine does_fn Tryd.func60 (by kernel_rfl) rfl rfl ?_
  unfold nat_minus.f at h
  have ih := nat_minus.w k
  obtain ⟨h0, h⟩ := ifp h
  exact Til.mid Tryd.func60 4 [(3, Z59 (List.replicate (((l0.length : Int) : Int).toNat) 0 : List Int))] (fun _ f => o (make_ok c59 0 [.int .u64 0] ⟨.refl _, trivial⟩ (l0.length : Int) 8 35184372088832 (by decide) (Int.natCast_nonneg l0.length) h0) f) (by kernel_rfl) (ih _ _ _ _ _ _ _ h)

def nat_Gcd.l0E (x0 : List Int) (x1 : List Int) (x5 : Int) (x6 : Int) : Env := [(0, .c (.d (L59 x0))), (1, .c (.d (L59 x1))), (5, .c (.d (.int .i64 x5))), (6, .c (.d (.int .i64 x6)))]
theorem nat_Gcd.w (k : Nat) : (∀  (x0 : List Int) (x1 : List Int) (x5 : Int) (x6 : Int) (r : List Int), nat_Gcd.l0 k x0 x1 x5 x6 = some r → Til Tryd.prog 45 [] (.c (.d (L59 r))) none [] (at_ Tryd.f45 10) (nat_Gcd.l0E x0 x1 x5 x6) []) := by
  induction k with
  | zero =>
    exact fun _ _ _ _ _ h => (by cases h)
  | succ k ih =>
    intro x0 x1 x5 x6 r h
    rw [nat_Gcd.l0] at h
    obtain ⟨v2, h0, h⟩ := bnd h
    by_cases h1 : v2 = 0
    · rw [if_pos h1] at h
      obtain ⟨v11, h2, h⟩ := bnd h
      obtain rfl := Option.some.inj h
      exact Til.fin Tryd.func45 [(2, ca (.c (.d (.int .i64 v2)))), (5, .b true), (11, .call [] [] (.c (.own 0)) (some (O59 .own v11)) [] [])] (fun _ f => o (nat_order.does h0) (o (beq_iff_eq.2 h1) (o (nat_shl.does h2) f))) (by kernel_rfl)
    · rw [if_neg h1] at h
      by_cases h2 : v2 < 0
      · rw [if_pos h2] at h
        by_cases h3 : (x1.length : Int) > (wrap64 ((x0.length : Int) + 1))
        · rw [if_pos h3] at h
          obtain ⟨v22, h4, h⟩ := bnd h
          by_cases h5 : (v22.2.length : Int) = 0
          · rw [if_pos h5] at h
            obtain ⟨v34, h6, h⟩ := bnd h
            obtain rfl := Option.some.inj h
            exact Til.fin Tryd.func45 [(2, ca (.c (.d (.int .i64 v2)))), (5, .b false), (8, .b true), (19, .b true), (22, ca (.tup [.c (.d (L59 v22.1)), .c (.d (L59 v22.2))])), (29, .b true), (34, .call [] [] (.c (.own 0)) (some (O59 .own v34)) [] [])] (fun _ f => o (nat_order.does h0) (o (beq_false_of_ne h1) (o (decide_eq_true h2) (o (decide_eq_true h3) (o (nat_rest.does h4) (o (beq_iff_eq.2 h5) (o (nat_shl.does h6) f))))))) (by kernel_rfl)
          · rw [if_neg h5] at h
            obtain ⟨v32, h6, h⟩ := bnd h
            obtain ⟨v33, h7, h⟩ := bnd h
            exact Til.mid Tryd.func45 10 [(2, ca (.c (.d (.int .i64 v2)))), (5, .b false), (8, .b true), (19, .b true), (22, ca (.tup [.c (.d (L59 v22.1)), .c (.d (L59 v22.2))])), (29, .b false), (32, ca (.c (.d (.int .i64 v32)))), (33, ca (.c (.d (L59 v33))))] (fun _ f => o (nat_order.does h0) (o (beq_false_of_ne h1) (o (decide_eq_true h2) (o (decide_eq_true h3) (o (nat_rest.does h4) (o (beq_false_of_ne h5) (o (nat_zeros.does h6) (o (nat_shr.does h7) f)))))))) (by kernel_rfl) (ih _ _ _ _ _ h)
        · rw [if_neg h3] at h
          obtain ⟨v22, h4, h⟩ := bnd h
          obtain ⟨v26, h5, h⟩ := bnd h
          obtain ⟨v27, h6, h⟩ := bnd h
          exact Til.mid Tryd.func45 10 [(2, ca (.c (.d (.int .i64 v2)))), (5, .b false), (8, .b true), (19, .b false), (22, ca (.c (.d (L59 v22)))), (26, ca (.c (.d (.int .i64 v26)))), (27, ca (.c (.d (L59 v27))))] (fun _ f => o (nat_order.does h0) (o (beq_false_of_ne h1) (o (decide_eq_true h2) (o (decide_eq_false h3) (o (nat_minus.does h4) (o (nat_zeros.does h5) (o (nat_shr.does h6) f))))))) (by kernel_rfl) (ih _ _ _ _ _ h)
      · rw [if_neg h2] at h
        by_cases h3 : (x0.length : Int) > (wrap64 ((x1.length : Int) + 1))
        · rw [if_pos h3] at h
          obtain ⟨v18, h4, h⟩ := bnd h
          by_cases h5 : (v18.2.length : Int) = 0
          · rw [if_pos h5] at h
            obtain ⟨v30, h6, h⟩ := bnd h
            obtain rfl := Option.some.inj h
            exact Til.fin Tryd.func45 [(2, ca (.c (.d (.int .i64 v2)))), (5, .b false), (8, .b false), (15, .b true), (18, ca (.tup [.c (.d (L59 v18.1)), .c (.d (L59 v18.2))])), (25, .b true), (30, .call [] [] (.c (.own 0)) (some (O59 .own v30)) [] [])] (fun _ f => o (nat_order.does h0) (o (beq_false_of_ne h1) (o (decide_eq_false h2) (o (decide_eq_true h3) (o (nat_rest.does h4) (o (beq_iff_eq.2 h5) (o (nat_shl.does h6) f))))))) (by kernel_rfl)
          · rw [if_neg h5] at h
            obtain ⟨v28, h6, h⟩ := bnd h
            obtain ⟨v29, h7, h⟩ := bnd h
            exact Til.mid Tryd.func45 10 [(2, ca (.c (.d (.int .i64 v2)))), (5, .b false), (8, .b false), (15, .b true), (18, ca (.tup [.c (.d (L59 v18.1)), .c (.d (L59 v18.2))])), (25, .b false), (28, ca (.c (.d (.int .i64 v28)))), (29, ca (.c (.d (L59 v29))))] (fun _ f => o (nat_order.does h0) (o (beq_false_of_ne h1) (o (decide_eq_false h2) (o (decide_eq_true h3) (o (nat_rest.does h4) (o (beq_false_of_ne h5) (o (nat_zeros.does h6) (o (nat_shr.does h7) f)))))))) (by kernel_rfl) (ih _ _ _ _ _ h)
        · rw [if_neg h3] at h
          obtain ⟨v18, h4, h⟩ := bnd h
          obtain ⟨v22, h5, h⟩ := bnd h
          obtain ⟨v23, h6, h⟩ := bnd h
          exact Til.mid Tryd.func45 10 [(2, ca (.c (.d (.int .i64 v2)))), (5, .b false), (8, .b false), (15, .b false), (18, ca (.c (.d (L59 v18)))), (22, ca (.c (.d (.int .i64 v22)))), (23, ca (.c (.d (L59 v23))))] (fun _ f => o (nat_order.does h0) (o (beq_false_of_ne h1) (o (decide_eq_false h2) (o (decide_eq_false h3) (o (nat_minus.does h4) (o (nat_zeros.does h5) (o (nat_shr.does h6) f))))))) (by kernel_rfl) (ih _ _ _ _ _ h)
theorem nat_Gcd.does {k : Nat} {l0 : List Int} {l1 : List Int} {r : List Int} (h : nat_Gcd.f k l0 l1 = some r) :
    Does Tryd.prog 45 [.c (.d (L59 l0)), .c (.d (L59 l1))] [] (.c (.d (L59 r))) none [] := by
  refine does_fn Tryd.func45 (by kernel_rfl) rfl rfl ?_
  unfold nat_Gcd.f at h
  have ih := nat_Gcd.w k
  obtain ⟨v2, h0, h⟩ := bnd h
  obtain ⟨v4, h1, h⟩ := bnd h
  by_cases h2 : (v2.length : Int) = 0
  · rw [if_pos h2] at h
    obtain rfl := Option.some.inj h
    exact Til.fin Tryd.func45 [(2, ca (.c (.d (L59 v2)))), (4, ca (.c (.d (L59 v4)))), (9, .b true)] (fun _ f => o (nat_Clean.does h0) (o (nat_Clean.does h1) (o (beq_iff_eq.2 h2) f))) (by kernel_rfl)
  · rw [if_neg h2] at h
    by_cases h3 : (v4.length : Int) = 0
    · rw [if_pos h3] at h
      obtain rfl := Option.some.inj h
      exact Til.fin Tryd.func45 [(2, ca (.c (.d (L59 v2)))), (4, ca (.c (.d (L59 v4)))), (9, .b false), (13, .b true)] (fun _ f => o (nat_Clean.does h0) (o (nat_Clean.does h1) (o (beq_false_of_ne h2) (o (beq_iff_eq.2 h3) f)))) (by kernel_rfl)
    · rw [if_neg h3] at h
      by_cases h4 : (v2.length : Int) ≤ 2
      · rw [if_pos h4] at h
        by_cases h5 : (v4.length : Int) ≤ 2
        · rw [if_pos h5] at h
          obtain ⟨v25, h6, h⟩ := bnd h
          obtain rfl := Option.some.inj h
          exact Til.fin Tryd.func45 [(2, ca (.c (.d (L59 v2)))), (4, ca (.c (.d (L59 v4)))), (9, .b false), (13, .b false), (17, .b true), (21, .b true), (25, ca (.c (.d (L59 v25))))] (fun _ f => o (nat_Clean.does h0) (o (nat_Clean.does h1) (o (beq_false_of_ne h2) (o (beq_false_of_ne h3) (o (decide_eq_true h4) (o (decide_eq_true h5) (o (nat_euclid.does h6) f))))))) (by kernel_rfl)
        · rw [if_neg h5] at h
          obtain ⟨v24, h6, h⟩ := bnd h
          obtain ⟨v26, h7, h⟩ := bnd h
          obtain ⟨v31, h8, h⟩ := bnd h
          obtain ⟨v34, h9, h⟩ := bnd h
          exact Til.mid Tryd.func45 10 [(2, ca (.c (.d (L59 v2)))), (4, ca (.c (.d (L59 v4)))), (9, .b false), (13, .b false), (17, .b true), (21, .b false), (24, ca (.c (.d (.int .i64 v24)))), (26, ca (.c (.d (.int .i64 v26)))), (31, ca (.c (.d (L59 v31)))), (34, ca (.c (.d (L59 v34))))] (fun _ f => o (nat_Clean.does h0) (o (nat_Clean.does h1) (o (beq_false_of_ne h2) (o (beq_false_of_ne h3) (o (decide_eq_true h4) (o (decide_eq_false h5) (o (nat_zeros.does h6) (o (nat_zeros.does h7) (o (nat_shr.does h8) (o (nat_shr.does h9) f)))))))))) (by kernel_rfl) (ih _ _ _ _ _ h)
      · rw [if_neg h4] at h
        obtain ⟨v24, h5, h⟩ := bnd h
        obtain ⟨v26, h6, h⟩ := bnd h
        obtain ⟨v31, h7, h⟩ := bnd h
        obtain ⟨v34, h8, h⟩ := bnd h
        exact Til.mid Tryd.func45 10 [(2, ca (.c (.d (L59 v2)))), (4, ca (.c (.d (L59 v4)))), (9, .b false), (13, .b false), (17, .b false), (24, ca (.c (.d (.int .i64 v24)))), (26, ca (.c (.d (.int .i64 v26)))), (31, ca (.c (.d (L59 v31)))), (34, ca (.c (.d (L59 v34))))] (fun _ f => o (nat_Clean.does h0) (o (nat_Clean.does h1) (o (beq_false_of_ne h2) (o (beq_false_of_ne h3) (o (decide_eq_false h4) (o (nat_zeros.does h5) (o (nat_zeros.does h6) (o (nat_shr.does h7) (o (nat_shr.does h8) f))))))))) (by kernel_rfl) (ih _ _ _ _ _ h)

theorem ratio_form.does {k : Nat} {a0_0 : Bool} {l0_1 : List Int} {l1 : List Int} {r : Bool × List Int × List Int} (h : ratio_form.f k a0_0 l0_1 l1 = some r) :
    Does Tryd.prog 32 [.agg [.d (.bool a0_0), .d (L59 l0_1)], .c (.d (L59 l1))] [] (.agg [.d (.bool r.1), .d (L59 r.2.1), .d (L59 r.2.2)]) none [] := by
  refine does_fn Tryd.func32 (by kernel_rfl) rfl rfl ?_
  unfold ratio_form.f at h
  by_cases h0 : (l0_1.length : Int) = 0
  · rw [if_pos h0] at h
    obtain ⟨v6, h1, h⟩ := bnd h
    obtain rfl := Option.some.inj h
    exact Til.fin Tryd.func32 [(5, .b true), (6, ca (.c (.d (L59 v6))))] (fun _ f => o (beq_iff_eq.2 h0) (o (nat_Of.does h1) f)) (by kernel_rfl)
  · rw [if_neg h0] at h
    obtain ⟨v9, h1, h⟩ := bnd h
    by_cases h2 : (v9.length : Int) = 1
    · rw [if_pos h2] at h
      obtain ⟨h3, h⟩ := ifp h
      by_cases h4 : (rd v9 0) = 1
      · rw [if_pos h4] at h
        obtain rfl := Option.some.inj h
        exact Til.fin Tryd.func32 [(5, .b false), (9, ca (.c (.d (L59 v9)))), (13, .b true), (18, .b true)] (fun _ f => o (beq_false_of_ne h0) (o (nat_Gcd.does h1) (o (beq_iff_eq.2 h2) (o (o (nn 0) h3) (o (beq_iff_eq.2 h4) f))))) (by kernel_rfl)
      · rw [if_neg h4] at h
        obtain ⟨v23, h5, h⟩ := bnd h
        obtain ⟨v33, h6, h⟩ := bnd h
        obtain rfl := Option.some.inj h
        exact Til.fin Tryd.func32 [(5, .b false), (9, ca (.c (.d (L59 v9)))), (13, .b true), (18, .b false), (23, ca (.tup [.c (.d (L59 v23.1)), .c (.d (L59 v23.2.1)), .c (.d (.int .i64 v23.2.2))])), (33, ca (.tup [.c (.d (L59 v33.1)), .c (.d (L59 v33.2.1)), .c (.d (.int .i64 v33.2.2))]))] (fun _ f => o (beq_false_of_ne h0) (o (nat_Gcd.does h1) (o (beq_iff_eq.2 h2) (o (o (nn 0) h3) (o (beq_false_of_ne h4) (o (nat_DivMod.does h5) (o (nat_DivMod.does h6) f))))))) (by kernel_rfl)
    · rw [if_neg h2] at h
      obtain ⟨v23, h3, h⟩ := bnd h
      obtain ⟨v33, h4, h⟩ := bnd h
      obtain rfl := Option.some.inj h
      exact Til.fin Tryd.func32 [(5, .b false), (9, ca (.c (.d (L59 v9)))), (13, .b false), (23, ca (.tup [.c (.d (L59 v23.1)), .c (.d (L59 v23.2.1)), .c (.d (.int .i64 v23.2.2))])), (33, ca (.tup [.c (.d (L59 v33.1)), .c (.d (L59 v33.2.1)), .c (.d (.int .i64 v33.2.2))]))] (fun _ f => o (beq_false_of_ne h0) (o (nat_Gcd.does h1) (o (beq_false_of_ne h2) (o (nat_DivMod.does h3) (o (nat_DivMod.does h4) f))))) (by kernel_rfl)

theorem whole_sign.does {a0 : Bool} {l1 : List Int} {r : Bool × List Int} (h : whole_sign.f a0 l1 = some r) :
    Does Tryd.prog 47 [.c (.d (.bool a0)), .c (.d (L59 l1))] [] (.agg [.d (.bool r.1), .d (L59 r.2)]) none [] := by
  refine does_fn Tryd.func47 (by kernel_rfl) rfl rfl ?_
  unfold whole_sign.f at h
  by_cases h0 : a0 = true
  · rw [if_pos h0] at h
    obtain rfl := Option.some.inj h
    exact Til.fin Tryd.func47 [(1, .b true)] (fun _ f => o h0 f) (by kernel_rfl)
  · rw [if_neg h0] at h
    obtain rfl := Option.some.inj h
    exact Til.fin Tryd.func47 [(1, .b false)] (fun _ f => o (Bool.eq_false_iff.2 h0) f) (by kernel_rfl)

theorem whole_Clean.does {k : Nat} {a0_0 : Bool} {l0_1 : List Int} {r : Bool × List Int} (h : whole_Clean.f k a0_0 l0_1 = some r) :
    Does Tryd.prog 44 [.agg [.d (.bool a0_0), .d (L59 l0_1)]] [] (.agg [.d (.bool r.1), .d (L59 r.2)]) none [] := by
  refine does_fn Tryd.func44 (by kernel_rfl) rfl rfl ?_
  unfold whole_Clean.f at h
  obtain ⟨v6, h0, h⟩ := bnd h
  obtain ⟨v7, h1, h⟩ := bnd h
  obtain rfl := Option.some.inj h
  exact Til.fin Tryd.func44 [(6, ca (.c (.d (L59 v6)))), (7, ca (.agg [.d (.bool v7.1), .d (L59 v7.2)]))] (fun _ f => o (nat_Clean.does h0) (o (whole_sign.does h1) f)) (by kernel_rfl)

theorem ratio_Clean.does {k : Nat} {a0_0 : Bool} {l0_1 : List Int} {l0_2 : List Int} {r : Bool × List Int × List Int} (h : ratio_Clean.f k a0_0 l0_1 l0_2 = some r) :
    Does Tryd.prog 31 [.agg [.d (.bool a0_0), .d (L59 l0_1), .d (L59 l0_2)]] [] (.agg [.d (.bool r.1), .d (L59 r.2.1), .d (L59 r.2.2)]) none [] := by
  refine does_fn Tryd.func31 (by kernel_rfl) rfl rfl ?_
  unfold ratio_Clean.f at h
  obtain ⟨v4, h0, h⟩ := bnd h
  by_cases h1 : (v4.length : Int) = 0
  · rw [if_pos h1] at h
    obtain ⟨v9, h2, h⟩ := bnd h
    obtain rfl := Option.some.inj h
    exact Til.fin Tryd.func31 [(4, ca (.c (.d (L59 v4)))), (8, .b true), (9, ca (.agg [.d (.bool v9.1), .d (L59 v9.2.1), .d (L59 v9.2.2)]))] (fun _ f => o (nat_Clean.does h0) (o (beq_iff_eq.2 h1) (o (ratio_Zero.does h2) f))) (by kernel_rfl)
  · rw [if_neg h1] at h
    obtain ⟨v11, h2, h⟩ := bnd h
    obtain ⟨v13, h3, h⟩ := bnd h
    obtain rfl := Option.some.inj h
    exact Til.fin Tryd.func31 [(4, ca (.c (.d (L59 v4)))), (8, .b false), (11, ca (.agg [.d (.bool v11.1), .d (L59 v11.2)])), (13, ca (.agg [.d (.bool v13.1), .d (L59 v13.2.1), .d (L59 v13.2.2)]))] (fun _ f => o (nat_Clean.does h0) (o (beq_false_of_ne h1) (o (whole_Clean.does h2) (o (ratio_form.does h3) f)))) (by kernel_rfl)

def nat_Add.l0E (x0 : List Int) (x1 : List Int) (x5 : List Int) (x6 : Int) (x20 : Int) (x21 : Int) : Env := [(0, .c (.d (L59 x0))), (1, .c (.d (L59 x1))), (5, .c (.own 5)), (6, .c (.d (.int .u64 x6))), (20, .c (.d (.int .i64 x20))), (21, .c (.d (.int .i64 x21)))]
def nat_Add.l0B (x0 : List Int) (x1 : List Int) (x5 : List Int) (x6 : Int) (x20 : Int) (x21 : Int) : Obs := [(5, some (O59 .own x5))]
theorem nat_Add.w (k : Nat) : (∀  (x0 : List Int) (x1 : List Int) (x5 : List Int) (x6 : Int) (x20 : Int) (x21 : Int) (r : List Int), nat_Add.l0 k x0 x1 x5 x6 x20 x21 = some r → Til Tryd.prog 48 [] (.c (.d (L59 r))) none [] (at_ Tryd.f48 5) (nat_Add.l0E x0 x1 x5 x6 x20 x21) (nat_Add.l0B x0 x1 x5 x6 x20 x21)) := by
  induction k with
  | zero =>
    exact fun _ _ _ _ _ _ _ h => (by cases h)
  | succ k ih =>
    intro x0 x1 x5 x6 x20 x21 r h
    rw [nat_Add.l0] at h
    by_cases h0 : x21 < x20
    · rw [if_pos h0] at h
      obtain ⟨v6, h1, h⟩ := bnd h
      obtain ⟨v9, h2, h⟩ := bnd h
      obtain ⟨h3, h⟩ := ifp h
      obtain ⟨h4, h⟩ := ifp h
      exact Til.mid Tryd.func48 5 [(0, .b true), (6, ca (.c (.d (.int .u64 v6)))), (9, ca (.c (.d (.int .u64 v9)))), (18, Z59 (x5.set ((x21 : Int).toNat) (Go.bits .and .u64 (IntKind.u64.wrap (x6 + (IntKind.u64.wrap (v6 + v9)))) 4294967295)))] (fun _ f => o (decide_eq_true h0) (o (nat_limb.does h1) (o (nat_limb.does h2) (o (o h3 h4) (o (set_ok c59 0 (fun _ _ => rfl) x5 ((x21 : Int).toNat) (Go.bits .and .u64 (IntKind.u64.wrap (x6 + (IntKind.u64.wrap (v6 + v9)))) 4294967295) (lt_ok h3 h4)) (o (nn 32) f)))))) (by kernel_rfl) (ih _ _ _ _ _ _ _ h)
    · rw [if_neg h0] at h
      obtain ⟨v2, h1, h⟩ := bnd h
      obtain rfl := Option.some.inj h
      exact Til.fin Tryd.func48 [(0, .b false), (2, ca (.c (.d (L59 v2))))] (fun _ f => o (decide_eq_false h0) (o (nat_trim.does h1) f)) (by kernel_rfl)
theorem nat_Add.does {k : Nat} {l0 : List Int} {l1 : List Int} {r : List Int} (h : nat_Add.f k l0 l1 = some r) :
    Does Tryd.prog 48 [.c (.d (L59 l0)), .c (.d (L59 l1))] [] (.c (.d (L59 r))) none [] := by
  refine does_fn Tryd.func48 (by kernel_rfl) rfl rfl ?_
  unfold nat_Add.f at h
  have ih := nat_Add.w k
  obtain ⟨v2, h0, h⟩ := bnd h
  obtain ⟨v4, h1, h⟩ := bnd h
  obtain ⟨h2, h⟩ := ifp h
  obtain ⟨h3, h⟩ := ifp h
  exact Til.mid Tryd.func48 5 [(2, ca (.c (.d (L59 v2)))), (4, ca (.c (.d (L59 v4)))), (13, Z59 (List.replicate (((wrap64 ((mx (v2.length : Int) (v4.length : Int)) + 1)) : Int).toNat) 0 : List Int))] (fun _ f => o (nat_Clean.does h0) (o (nat_Clean.does h1) (o (make_ok c59 0 [.int .u64 0] ⟨.refl _, trivial⟩ (wrap64 ((mx (v2.length : Int) (v4.length : Int)) + 1)) 8 35184372088832 (by decide) h2 h3) f))) (by kernel_rfl) (ih _ _ _ _ _ _ _ h)

theorem nat_Cmp.does {k : Nat} {l0 : List Int} {l1 : List Int} {r : Int} (h : nat_Cmp.f k l0 l1 = some r) :
    Does Tryd.prog 49 [.c (.d (L59 l0)), .c (.d (L59 l1))] [] (.c (.d (.int .i64 r))) none [] := by
  refine does_fn Tryd.func49 (by kernel_rfl) rfl rfl ?_
  unfold nat_Cmp.f at h
  obtain ⟨v2, h0, h⟩ := bnd h
  obtain ⟨v4, h1, h⟩ := bnd h
  obtain ⟨v5, h2, h⟩ := bnd h
  obtain rfl := Option.some.inj h
  exact Til.fin Tryd.func49 [(2, ca (.c (.d (L59 v2)))), (4, ca (.c (.d (L59 v4)))), (5, ca (.c (.d (.int .i64 v5))))] (fun _ f => o (nat_Clean.does h0) (o (nat_Clean.does h1) (o (nat_order.does h2) f))) (by kernel_rfl)

theorem nat_Sub.does {k : Nat} {l0 : List Int} {l1 : List Int} {r : List Int × Int} (h : nat_Sub.f k l0 l1 = some r) :
    Does Tryd.prog 50 [.c (.d (L59 l0)), .c (.d (L59 l1))] [] (.tup [.c (.d (L59 r.1)), .c (.d (.int .i64 r.2))]) none [] := by
  refine does_fn Tryd.func50 (by kernel_rfl) rfl rfl ?_
  unfold nat_Sub.f at h
  obtain ⟨v3, h0, h⟩ := bnd h
  obtain ⟨v5, h1, h⟩ := bnd h
  obtain ⟨v10, h2, h⟩ := bnd h
  by_cases h3 : v10 < 0
  · rw [if_pos h3] at h
    obtain rfl := Option.some.inj h
    exact Til.fin Tryd.func50 [(3, ca (.c (.d (L59 v3)))), (5, ca (.c (.d (L59 v5)))), (10, ca (.c (.d (.int .i64 v10)))), (11, .b true)] (fun _ f => o (nat_Clean.does h0) (o (nat_Clean.does h1) (o (nat_order.does h2) (o (decide_eq_true h3) f)))) (by kernel_rfl)
  · rw [if_neg h3] at h
    obtain ⟨v14, h4, h⟩ := bnd h
    obtain rfl := Option.some.inj h
    exact Til.fin Tryd.func50 [(3, ca (.c (.d (L59 v3)))), (5, ca (.c (.d (L59 v5)))), (10, ca (.c (.d (.int .i64 v10)))), (11, .b false), (14, ca (.c (.d (L59 v14))))] (fun _ f => o (nat_Clean.does h0) (o (nat_Clean.does h1) (o (nat_order.does h2) (o (decide_eq_false h3) (o (nat_minus.does h4) f))))) (by kernel_rfl)

theorem whole_Add.does {k : Nat} {a0_0 : Bool} {l0_1 : List Int} {a1_0 : Bool} {l1_1 : List Int} {r : Bool × List Int} (h : whole_Add.f k a0_0 l0_1 a1_0 l1_1 = some r) :
    Does Tryd.prog 33 [.agg [.d (.bool a0_0), .d (L59 l0_1)], .agg [.d (.bool a1_0), .d (L59 l1_1)]] [] (.agg [.d (.bool r.1), .d (L59 r.2)]) none [] := by
  refine does_fn Tryd.func33 (by kernel_rfl) rfl rfl ?_
  unfold whole_Add.f at h
  obtain ⟨v4, h0, h⟩ := bnd h
  obtain ⟨v6, h1, h⟩ := bnd h
  by_cases h2 : v4.1 = v6.1
  · rw [if_pos h2] at h
    obtain ⟨v20, h3, h⟩ := bnd h
    obtain ⟨v21, h4, h⟩ := bnd h
    obtain rfl := Option.some.inj h
    exact Til.fin Tryd.func33 [(4, ca (.agg [.d (.bool v4.1), .d (L59 v4.2)])), (6, ca (.agg [.d (.bool v6.1), .d (L59 v6.2)])), (13, .b true), (20, ca (.c (.d (L59 v20)))), (21, ca (.agg [.d (.bool v21.1), .d (L59 v21.2)]))] (fun _ f => o (whole_Clean.does h0) (o (whole_Clean.does h1) (o (beq_iff_eq.2 h2) (o (nat_Add.does h3) (o (whole_sign.does h4) f))))) (by kernel_rfl)
  · rw [if_neg h2] at h
    obtain ⟨v18, h3, h⟩ := bnd h
    by_cases h4 : v18 < 0
    · rw [if_pos h4] at h
      obtain ⟨v28, h5, h⟩ := bnd h
      obtain ⟨v37, h6, h⟩ := bnd h
      obtain rfl := Option.some.inj h
      exact Til.fin Tryd.func33 [(4, ca (.agg [.d (.bool v4.1), .d (L59 v4.2)])), (6, ca (.agg [.d (.bool v6.1), .d (L59 v6.2)])), (13, .b false), (18, ca (.c (.d (.int .i64 v18)))), (19, .b true), (28, ca (.tup [.c (.d (L59 v28.1)), .c (.d (.int .i64 v28.2))])), (37, ca (.agg [.d (.bool v37.1), .d (L59 v37.2)]))] (fun _ f => o (whole_Clean.does h0) (o (whole_Clean.does h1) (o (beq_false_of_ne h2) (o (nat_Cmp.does h3) (o (decide_eq_true h4) (o (nat_Sub.does h5) (o (whole_sign.does h6) f))))))) (by kernel_rfl)
    · rw [if_neg h4] at h
      obtain ⟨v24, h5, h⟩ := bnd h
      obtain ⟨v33, h6, h⟩ := bnd h
      obtain rfl := Option.some.inj h
      exact Til.fin Tryd.func33 [(4, ca (.agg [.d (.bool v4.1), .d (L59 v4.2)])), (6, ca (.agg [.d (.bool v6.1), .d (L59 v6.2)])), (13, .b false), (18, ca (.c (.d (.int .i64 v18)))), (19, .b false), (24, ca (.tup [.c (.d (L59 v24.1)), .c (.d (.int .i64 v24.2))])), (33, ca (.agg [.d (.bool v33.1), .d (L59 v33.2)]))] (fun _ f => o (whole_Clean.does h0) (o (whole_Clean.does h1) (o (beq_false_of_ne h2) (o (nat_Cmp.does h3) (o (decide_eq_false h4) (o (nat_Sub.does h5) (o (whole_sign.does h6) f))))))) (by kernel_rfl)

def nat_Mul.l0E (x1 : List Int) (x5 : List Int) (x21 : List Int) (x22 : Int) (x23 : Int) : Env := [(1, .c (.d (L59 x1))), (5, .c (.own 5)), (21, .c (.d (L59 x21))), (22, .c (.d (.int .i64 x22))), (23, .c (.d (.int .i64 x23)))]
def nat_Mul.l0B (x1 : List Int) (x5 : List Int) (x21 : List Int) (x22 : Int) (x23 : Int) : Obs := [(5, some (O59 .own x5))]
def nat_Mul.l1E (x1 : List Int) (x5 : List Int) (x6 : Int) (x7 : Int) (x8 : Int) (x21 : List Int) (x22 : Int) (x23 : Int) (x28 : List Int) (x29 : Int) (x30 : Int) : Env := [(1, .c (.d (L59 x1))), (5, .c (.own 5)), (6, .c (.d (.int .i64 x6))), (7, .c (.d (.int .u64 x7))), (8, .c (.d (.int .u64 x8))), (21, .c (.d (L59 x21))), (22, .c (.d (.int .i64 x22))), (23, .c (.d (.int .i64 x23))), (28, .c (.d (L59 x28))), (29, .c (.d (.int .i64 x29))), (30, .c (.d (.int .i64 x30)))]
def nat_Mul.l1B (x1 : List Int) (x5 : List Int) (x6 : Int) (x7 : Int) (x8 : Int) (x21 : List Int) (x22 : Int) (x23 : Int) (x28 : List Int) (x29 : Int) (x30 : Int) : Obs := [(5, some (O59 .own x5))]
theorem nat_Mul.w (k : Nat) : (∀  (x1 : List Int) (x5 : List Int) (x21 : List Int) (x22 : Int) (x23 : Int) (r : List Int), nat_Mul.l0 k x1 x5 x21 x22 x23 = some r → Til Tryd.prog 36 [] (.c (.d (L59 r))) none [] (at_ Tryd.f36 4) (nat_Mul.l0E x1 x5 x21 x22 x23) (nat_Mul.l0B x1 x5 x21 x22 x23)) ∧
    (∀  (x1 : List Int) (x5 : List Int) (x6 : Int) (x7 : Int) (x8 : Int) (x21 : List Int) (x22 : Int) (x23 : Int) (x28 : List Int) (x29 : Int) (x30 : Int) (r : List Int), nat_Mul.l1 k x1 x5 x6 x7 x8 x21 x22 x23 x28 x29 x30 = some r → Til Tryd.prog 36 [] (.c (.d (L59 r))) none [] (at_ Tryd.f36 8) (nat_Mul.l1E x1 x5 x6 x7 x8 x21 x22 x23 x28 x29 x30) (nat_Mul.l1B x1 x5 x6 x7 x8 x21 x22 x23 x28 x29 x30)) := by
  induction k with
  | zero =>
    exact ⟨fun _ _ _ _ _ _ h => (by cases h), fun _ _ _ _ _ _ _ _ _ _ _ _ h => (by cases h)⟩
  | succ k ih =>
    refine ⟨?_, ?_⟩
    · intro x1 x5 x21 x22 x23 r h
      rw [nat_Mul.l0] at h
      by_cases h0 : x23 < x22
      · rw [if_pos h0] at h
        obtain ⟨h1, h⟩ := ifp h
        obtain ⟨h2, h⟩ := ifp h
        exact Til.mid Tryd.func36 8 [(0, .b true)] (fun _ f => o (decide_eq_true h0) (o (o h1 h2) f)) (by kernel_rfl) (ih.2 _ _ _ _ _ _ _ _ _ _ _ _ h)
      · rw [if_neg h0] at h
        obtain ⟨v2, h1, h⟩ := bnd h
        obtain rfl := Option.some.inj h
        exact Til.fin Tryd.func36 [(0, .b false), (2, ca (.c (.d (L59 v2))))] (fun _ f => o (decide_eq_false h0) (o (nat_trim.does h1) f)) (by kernel_rfl)
    · intro x1 x5 x6 x7 x8 x21 x22 x23 x28 x29 x30 r h
      rw [nat_Mul.l1] at h
      by_cases h0 : x30 < x29
      · rw [if_pos h0] at h
        obtain ⟨h1, h⟩ := ifp h
        obtain ⟨h2, h⟩ := ifp h
        obtain ⟨h3, h⟩ := ifp h
        obtain ⟨h4, h⟩ := ifp h
        exact Til.mid Tryd.func36 8 [(0, .b true), (26, Z59 (x5.set (((wrap64 (x6 + x30)) : Int).toNat) (Go.bits .and .u64 (IntKind.u64.wrap (x8 + (IntKind.u64.wrap ((rd x5 (wrap64 (x6 + x30))) + (IntKind.u64.wrap (x7 * (rd x28 x30))))))) 4294967295)))] (fun _ f => o (decide_eq_true h0) (o (o h1 h2) (o (o h3 h4) (o (o h3 h4) (o (set_ok c59 0 (fun _ _ => rfl) x5 (((wrap64 (x6 + x30)) : Int).toNat) (Go.bits .and .u64 (IntKind.u64.wrap (x8 + (IntKind.u64.wrap ((rd x5 (wrap64 (x6 + x30))) + (IntKind.u64.wrap (x7 * (rd x28 x30))))))) 4294967295) (lt_ok h3 h4)) (o (nn 32) f)))))) (by kernel_rfl) (ih.2 _ _ _ _ _ _ _ _ _ _ _ _ h)
      · rw [if_neg h0] at h
        obtain ⟨h1, h⟩ := ifp h
        obtain ⟨h2, h⟩ := ifp h
        exact Til.mid Tryd.func36 4 [(0, .b false), (8, Z59 (x5.set (((wrap64 (x6 + (x1.length : Int))) : Int).toNat) x8))] (fun _ f => o (decide_eq_false h0) (o (o h1 h2) (o (set_ok c59 0 (fun _ _ => rfl) x5 (((wrap64 (x6 + (x1.length : Int))) : Int).toNat) x8 (lt_ok h1 h2)) f))) (by kernel_rfl) (ih.1 _ _ _ _ _ _ h)
theorem nat_Mul.does {k : Nat} {l0 : List Int} {l1 : List Int} {r : List Int} (h : nat_Mul.f k l0 l1 = some r) :
    Does Tryd.prog 36 [.c (.d (L59 l0)), .c (.d (L59 l1))] [] (.c (.d (L59 r))) none [] := by
  refine does_fn Tryd.func36 (by kernel_rfl) rfl rfl ?_
  unfold nat_Mul.f at h
  have ih := nat_Mul.w k
  obtain ⟨v2, h0, h⟩ := bnd h
  obtain ⟨v4, h1, h⟩ := bnd h
  obtain ⟨h2, h⟩ := ifp h
  obtain ⟨h3, h⟩ := ifp h
  exact Til.mid Tryd.func36 4 [(2, ca (.c (.d (L59 v2)))), (4, ca (.c (.d (L59 v4)))), (12, Z59 (List.replicate (((wrap64 ((v2.length : Int) + (v4.length : Int))) : Int).toNat) 0 : List Int))] (fun _ f => o (nat_Clean.does h0) (o (nat_Clean.does h1) (o (make_ok c59 0 [.int .u64 0] ⟨.refl _, trivial⟩ (wrap64 ((v2.length : Int) + (v4.length : Int))) 8 35184372088832 (by decide) h2 h3) f))) (by kernel_rfl) (ih.1 _ _ _ _ _ _ h)

theorem whole_Mul.does {k : Nat} {a0_0 : Bool} {l0_1 : List Int} {a1_0 : Bool} {l1_1 : List Int} {r : Bool × List Int} (h : whole_Mul.f k a0_0 l0_1 a1_0 l1_1 = some r) :
    Does Tryd.prog 34 [.agg [.d (.bool a0_0), .d (L59 l0_1)], .agg [.d (.bool a1_0), .d (L59 l1_1)]] [] (.agg [.d (.bool r.1), .d (L59 r.2)]) none [] := by
  refine does_fn Tryd.func34 (by kernel_rfl) rfl rfl ?_
  unfold whole_Mul.f at h
  obtain ⟨v4, h0, h⟩ := bnd h
  obtain ⟨v6, h1, h⟩ := bnd h
  obtain ⟨v18, h2, h⟩ := bnd h
  obtain ⟨v19, h3, h⟩ := bnd h
  obtain rfl := Option.some.inj h
  exact Til.fin Tryd.func34 [(4, ca (.agg [.d (.bool v4.1), .d (L59 v4.2)])), (6, ca (.agg [.d (.bool v6.1), .d (L59 v6.2)])), (18, ca (.c (.d (L59 v18)))), (19, ca (.agg [.d (.bool v19.1), .d (L59 v19.2)]))] (fun _ f => o (whole_Clean.does h0) (o (whole_Clean.does h1) (o (nat_Mul.does h2) (o (whole_sign.does h3) f)))) (by kernel_rfl)

theorem ratio_den.does {a0_0 : Bool} {l0_1 : List Int} {l0_2 : List Int} {r : Bool × List Int} (h : ratio_den.f a0_0 l0_1 l0_2 = some r) :
    Does Tryd.prog 35 [.agg [.d (.bool a0_0), .d (L59 l0_1), .d (L59 l0_2)]] [] (.agg [.d (.bool r.1), .d (L59 r.2)]) none [] := by
  refine does_fn Tryd.func35 (by kernel_rfl) rfl rfl ?_
  unfold ratio_den.f at h
  obtain rfl := Option.some.inj h
  exact Til.fin Tryd.func35 [] (fun _ f => f) (by kernel_rfl)

theorem ratio_Add.does {k : Nat} {a0_0 : Bool} {l0_1 : List Int} {l0_2 : List Int} {a1_0 : Bool} {l1_1 : List Int} {l1_2 : List Int} {r : Bool × List Int × List Int} (h : ratio_Add.f k a0_0 l0_1 l0_2 a1_0 l1_1 l1_2 = some r) :
    Does Tryd.prog 19 [.agg [.d (.bool a0_0), .d (L59 l0_1), .d (L59 l0_2)], .agg [.d (.bool a1_0), .d (L59 l1_1), .d (L59 l1_2)]] [] (.agg [.d (.bool r.1), .d (L59 r.2.1), .d (L59 r.2.2)]) none [] := by
  refine does_fn Tryd.func19 (by kernel_rfl) rfl rfl ?_
  unfold ratio_Add.f at h
  obtain ⟨v4, h0, h⟩ := bnd h
  obtain ⟨v6, h1, h⟩ := bnd h
  obtain ⟨v12, h2, h⟩ := bnd h
  obtain ⟨v13, h3, h⟩ := bnd h
  obtain ⟨v17, h4, h⟩ := bnd h
  obtain ⟨v18, h5, h⟩ := bnd h
  obtain ⟨v19, h6, h⟩ := bnd h
  obtain ⟨v24, h7, h⟩ := bnd h
  obtain ⟨v25, h8, h⟩ := bnd h
  obtain rfl := Option.some.inj h
  exact Til.fin Tryd.func19 [(4, ca (.agg [.d (.bool v4.1), .d (L59 v4.2.1), .d (L59 v4.2.2)])), (6, ca (.agg [.d (.bool v6.1), .d (L59 v6.2.1), .d (L59 v6.2.2)])), (12, ca (.agg [.d (.bool v12.1), .d (L59 v12.2)])), (13, ca (.agg [.d (.bool v13.1), .d (L59 v13.2)])), (17, ca (.agg [.d (.bool v17.1), .d (L59 v17.2)])), (18, ca (.agg [.d (.bool v18.1), .d (L59 v18.2)])), (19, ca (.agg [.d (.bool v19.1), .d (L59 v19.2)])), (24, ca (.c (.d (L59 v24)))), (25, ca (.agg [.d (.bool v25.1), .d (L59 v25.2.1), .d (L59 v25.2.2)]))] (fun _ f => o (ratio_Clean.does h0) (o (ratio_Clean.does h1) (o (ratio_den.does h2) (o (whole_Mul.does h3) (o (ratio_den.does h4) (o (whole_Mul.does h5) (o (whole_Add.does h6) (o (nat_Mul.does h7) (o (ratio_form.does h8) f))))))))) (by kernel_rfl)

theorem whole_Cmp.does {k : Nat} {a0_0 : Bool} {l0_1 : List Int} {a1_0 : Bool} {l1_1 : List Int} {r : Int} (h : whole_Cmp.f k a0_0 l0_1 a1_0 l1_1 = some r) :
    Does Tryd.prog 51 [.agg [.d (.bool a0_0), .d (L59 l0_1)], .agg [.d (.bool a1_0), .d (L59 l1_1)]] [] (.c (.d (.int .i64 r))) none [] := by
  refine does_fn Tryd.func51 (by kernel_rfl) rfl rfl ?_
  unfold whole_Cmp.f at h
  obtain ⟨v4, h0, h⟩ := bnd h
  obtain ⟨v6, h1, h⟩ := bnd h
  by_cases h2 : v4.1 ≠ v6.1
  · rw [if_pos h2] at h
    by_cases h3 : v4.1 = true
    · rw [if_pos h3] at h
      obtain rfl := Option.some.inj h
      exact Til.fin Tryd.func51 [(4, ca (.agg [.d (.bool v4.1), .d (L59 v4.2)])), (6, ca (.agg [.d (.bool v6.1), .d (L59 v6.2)])), (13, .b true), (16, .b true)] (fun _ f => o (whole_Clean.does h0) (o (whole_Clean.does h1) (o (nb_t h2) (o h3 f)))) (by kernel_rfl)
    · rw [if_neg h3] at h
      by_cases h4 : v4.1 ≠ v6.1
      · rw [if_pos h4] at h
        obtain rfl := Option.some.inj h
        exact Til.fin Tryd.func51 [(4, ca (.agg [.d (.bool v4.1), .d (L59 v4.2)])), (6, ca (.agg [.d (.bool v6.1), .d (L59 v6.2)])), (13, .b true), (16, .b false), (23, .b true)] (fun _ f => o (whole_Clean.does h0) (o (whole_Clean.does h1) (o (nb_t h2) (o (Bool.eq_false_iff.2 h3) (o (nb_t h4) f))))) (by kernel_rfl)
      · rw [if_neg h4] at h
        by_cases h5 : v4.1 = true
        · rw [if_pos h5] at h
          obtain ⟨v32, h6, h⟩ := bnd h
          obtain rfl := Option.some.inj h
          exact Til.fin Tryd.func51 [(4, ca (.agg [.d (.bool v4.1), .d (L59 v4.2)])), (6, ca (.agg [.d (.bool v6.1), .d (L59 v6.2)])), (13, .b true), (16, .b false), (23, .b false), (26, .b true), (32, ca (.c (.d (.int .i64 v32))))] (fun _ f => o (whole_Clean.does h0) (o (whole_Clean.does h1) (o (nb_t h2) (o (Bool.eq_false_iff.2 h3) (o (nb_f h4) (o h5 (o (nat_Cmp.does h6) f))))))) (by kernel_rfl)
        · rw [if_neg h5] at h
          obtain ⟨v32, h6, h⟩ := bnd h
          obtain rfl := Option.some.inj h
          exact Til.fin Tryd.func51 [(4, ca (.agg [.d (.bool v4.1), .d (L59 v4.2)])), (6, ca (.agg [.d (.bool v6.1), .d (L59 v6.2)])), (13, .b true), (16, .b false), (23, .b false), (26, .b false), (32, ca (.c (.d (.int .i64 v32))))] (fun _ f => o (whole_Clean.does h0) (o (whole_Clean.does h1) (o (nb_t h2) (o (Bool.eq_false_iff.2 h3) (o (nb_f h4) (o (Bool.eq_false_iff.2 h5) (o (nat_Cmp.does h6) f))))))) (by kernel_rfl)
  · rw [if_neg h2] at h
    by_cases h3 : v4.1 ≠ v6.1
    · rw [if_pos h3] at h
      obtain rfl := Option.some.inj h
      exact Til.fin Tryd.func51 [(4, ca (.agg [.d (.bool v4.1), .d (L59 v4.2)])), (6, ca (.agg [.d (.bool v6.1), .d (L59 v6.2)])), (13, .b false), (23, .b true)] (fun _ f => o (whole_Clean.does h0) (o (whole_Clean.does h1) (o (nb_f h2) (o (nb_t h3) f)))) (by kernel_rfl)
    · rw [if_neg h3] at h
      by_cases h4 : v4.1 = true
      · rw [if_pos h4] at h
        obtain ⟨v32, h5, h⟩ := bnd h
        obtain rfl := Option.some.inj h
        exact Til.fin Tryd.func51 [(4, ca (.agg [.d (.bool v4.1), .d (L59 v4.2)])), (6, ca (.agg [.d (.bool v6.1), .d (L59 v6.2)])), (13, .b false), (23, .b false), (26, .b true), (32, ca (.c (.d (.int .i64 v32))))] (fun _ f => o (whole_Clean.does h0) (o (whole_Clean.does h1) (o (nb_f h2) (o (nb_f h3) (o h4 (o (nat_Cmp.does h5) f)))))) (by kernel_rfl)
      · rw [if_neg h4] at h
        obtain ⟨v32, h5, h⟩ := bnd h
        obtain rfl := Option.some.inj h
        exact Til.fin Tryd.func51 [(4, ca (.agg [.d (.bool v4.1), .d (L59 v4.2)])), (6, ca (.agg [.d (.bool v6.1), .d (L59 v6.2)])), (13, .b false), (23, .b false), (26, .b false), (32, ca (.c (.d (.int .i64 v32))))] (fun _ f => o (whole_Clean.does h0) (o (whole_Clean.does h1) (o (nb_f h2) (o (nb_f h3) (o (Bool.eq_false_iff.2 h4) (o (nat_Cmp.does h5) f)))))) (by kernel_rfl)

theorem ratio_Cmp.does {k : Nat} {a0_0 : Bool} {l0_1 : List Int} {l0_2 : List Int} {a1_0 : Bool} {l1_1 : List Int} {l1_2 : List Int} {r : Int} (h : ratio_Cmp.f k a0_0 l0_1 l0_2 a1_0 l1_1 l1_2 = some r) :
    Does Tryd.prog 37 [.agg [.d (.bool a0_0), .d (L59 l0_1), .d (L59 l0_2)], .agg [.d (.bool a1_0), .d (L59 l1_1), .d (L59 l1_2)]] [] (.c (.d (.int .i64 r))) none [] := by
  refine does_fn Tryd.func37 (by kernel_rfl) rfl rfl ?_
  unfold ratio_Cmp.f at h
  obtain ⟨v4, h0, h⟩ := bnd h
  obtain ⟨v6, h1, h⟩ := bnd h
  obtain ⟨v12, h2, h⟩ := bnd h
  obtain ⟨v13, h3, h⟩ := bnd h
  obtain ⟨v17, h4, h⟩ := bnd h
  obtain ⟨v18, h5, h⟩ := bnd h
  obtain ⟨v19, h6, h⟩ := bnd h
  obtain rfl := Option.some.inj h
  exact Til.fin Tryd.func37 [(4, ca (.agg [.d (.bool v4.1), .d (L59 v4.2.1), .d (L59 v4.2.2)])), (6, ca (.agg [.d (.bool v6.1), .d (L59 v6.2.1), .d (L59 v6.2.2)])), (12, ca (.agg [.d (.bool v12.1), .d (L59 v12.2)])), (13, ca (.agg [.d (.bool v13.1), .d (L59 v13.2)])), (17, ca (.agg [.d (.bool v17.1), .d (L59 v17.2)])), (18, ca (.agg [.d (.bool v18.1), .d (L59 v18.2)])), (19, ca (.c (.d (.int .i64 v19))))] (fun _ f => o (ratio_Clean.does h0) (o (ratio_Clean.does h1) (o (ratio_den.does h2) (o (whole_Mul.does h3) (o (ratio_den.does h4) (o (whole_Mul.does h5) (o (whole_Cmp.does h6) f))))))) (by kernel_rfl)

theorem ratio_Same.does {k : Nat} {a0_0 : Bool} {l0_1 : List Int} {l0_2 : List Int} {a1_0 : Bool} {l1_1 : List Int} {l1_2 : List Int} {r : Bool} (h : ratio_Same.f k a0_0 l0_1 l0_2 a1_0 l1_1 l1_2 = some r) :
    Does Tryd.prog 20 [.agg [.d (.bool a0_0), .d (L59 l0_1), .d (L59 l0_2)], .agg [.d (.bool a1_0), .d (L59 l1_1), .d (L59 l1_2)]] [] (.c (.d (.bool r))) none [] := by
  refine does_fn Tryd.func20 (by kernel_rfl) rfl rfl ?_
  unfold ratio_Same.f at h
  obtain ⟨v5, h0, h⟩ := bnd h
  obtain rfl := Option.some.inj h
  exact Til.fin Tryd.func20 [(5, ca (.c (.d (.int .i64 v5))))] (fun _ f => o (ratio_Cmp.does h0) f) (by kernel_rfl)

theorem whole_Sign.does {k : Nat} {a0_0 : Bool} {l0_1 : List Int} {r : Int} (h : whole_Sign.f k a0_0 l0_1 = some r) :
    Does Tryd.prog 52 [.agg [.d (.bool a0_0), .d (L59 l0_1)]] [] (.c (.d (.int .i64 r))) none [] := by
  refine does_fn Tryd.func52 (by kernel_rfl) rfl rfl ?_
  unfold whole_Sign.f at h
  obtain ⟨v3, h0, h⟩ := bnd h
  by_cases h1 : v3.1 = true
  · rw [if_pos h1] at h
    obtain rfl := Option.some.inj h
    exact Til.fin Tryd.func52 [(3, ca (.agg [.d (.bool v3.1), .d (L59 v3.2)])), (6, .b true)] (fun _ f => o (whole_Clean.does h0) (o h1 f)) (by kernel_rfl)
  · rw [if_neg h1] at h
    by_cases h2 : (v3.2.length : Int) = 0
    · rw [if_pos h2] at h
      obtain rfl := Option.some.inj h
      exact Til.fin Tryd.func52 [(3, ca (.agg [.d (.bool v3.1), .d (L59 v3.2)])), (6, .b false), (11, .b true)] (fun _ f => o (whole_Clean.does h0) (o (Bool.eq_false_iff.2 h1) (o (beq_iff_eq.2 h2) f))) (by kernel_rfl)
    · rw [if_neg h2] at h
      obtain rfl := Option.some.inj h
      exact Til.fin Tryd.func52 [(3, ca (.agg [.d (.bool v3.1), .d (L59 v3.2)])), (6, .b false), (11, .b false)] (fun _ f => o (whole_Clean.does h0) (o (Bool.eq_false_iff.2 h1) (o (beq_false_of_ne h2) f))) (by kernel_rfl)

theorem ratio_Sign.does {k : Nat} {a0_0 : Bool} {l0_1 : List Int} {l0_2 : List Int} {r : Int} (h : ratio_Sign.f k a0_0 l0_1 l0_2 = some r) :
    Does Tryd.prog 38 [.agg [.d (.bool a0_0), .d (L59 l0_1), .d (L59 l0_2)]] [] (.c (.d (.int .i64 r))) none [] := by
  refine does_fn Tryd.func38 (by kernel_rfl) rfl rfl ?_
  unfold ratio_Sign.f at h
  obtain ⟨v3, h0, h⟩ := bnd h
  obtain ⟨v5, h1, h⟩ := bnd h
  obtain rfl := Option.some.inj h
  exact Til.fin Tryd.func38 [(3, ca (.agg [.d (.bool v3.1), .d (L59 v3.2.1), .d (L59 v3.2.2)])), (5, ca (.c (.d (.int .i64 v5))))] (fun _ f => o (ratio_Clean.does h0) (o (whole_Sign.does h1) f)) (by kernel_rfl)

def dendronlaw08_parents.l0E (x0 : List (Bool × Int × Bool × List Int × List Int × Int × Int × Bool × Bool × List Int × List Int × Bool × List Int × List Int)) (x1 : Int) (x5 : Int) (x6 : Int) : Env := [(0, .c (.d (L43 x0))), (1, .c (.d (.int .i64 x1))), (5, .c (.d (.int .i64 x5))), (6, .c (.d (.int .i64 x6)))]
theorem dendronlaw08_parents.w (k : Nat) : (∀  (x0 : List (Bool × Int × Bool × List Int × List Int × Int × Int × Bool × Bool × List Int × List Int × Bool × List Int × List Int)) (x1 : Int) (x5 : Int) (x6 : Int) (r : Int), dendronlaw08_parents.l0 k x0 x1 x5 x6 = some r → Til Tryd.prog 39 [] (.c (.d (.int .i64 r))) none [] (at_ Tryd.f39 3) (dendronlaw08_parents.l0E x0 x1 x5 x6) []) := by
  induction k with
  | zero =>
    exact fun _ _ _ _ _ h => (by cases h)
  | succ k ih =>
    intro x0 x1 x5 x6 r h
    rw [dendronlaw08_parents.l0] at h
    by_cases h0 : x6 < (x0.length : Int)
    · rw [if_pos h0] at h
      obtain ⟨h1, h⟩ := ifp h
      by_cases h2 : ((gt (false, 0, false, [], [], 0, 0, false, false, [], [], false, [], []) x0 x6).1) = true
      · rw [if_pos h2] at h
        by_cases h3 : ((gt (false, 0, false, [], [], 0, 0, false, false, [], [], false, [], []) x0 x6).1) = true
        · rw [if_pos h3] at h
          exact Til.mid Tryd.func39 3 [(3, .b true), (8, .b true), (23, .b true)] (fun _ f => o (decide_eq_true h0) (o (o h1 h0) (o h2 (o (o h1 h0) (o h3 f))))) (by kernel_rfl) (ih _ _ _ _ _ h)
        · rw [if_neg h3] at h
          by_cases h4 : (gt (false, 0, false, [], [], 0, 0, false, false, [], [], false, [], []) x0 x6).2.2.2.2.2.2.1 = x1
          · rw [if_pos h4] at h
            exact Til.mid Tryd.func39 3 [(3, .b true), (8, .b true), (23, .b false), (32, .b true)] (fun _ f => o (decide_eq_true h0) (o (o h1 h0) (o h2 (o (o h1 h0) (o (Bool.eq_false_iff.2 h3) (o (o h1 h0) (o (beq_iff_eq.2 h4) f))))))) (by kernel_rfl) (ih _ _ _ _ _ h)
          · rw [if_neg h4] at h
            exact Til.mid Tryd.func39 3 [(3, .b true), (8, .b true), (23, .b false), (32, .b false)] (fun _ f => o (decide_eq_true h0) (o (o h1 h0) (o h2 (o (o h1 h0) (o (Bool.eq_false_iff.2 h3) (o (o h1 h0) (o (beq_false_of_ne h4) f))))))) (by kernel_rfl) (ih _ _ _ _ _ h)
      · rw [if_neg h2] at h
        by_cases h3 : (gt (false, 0, false, [], [], 0, 0, false, false, [], [], false, [], []) x0 x6).2.2.2.2.2.1 = x1
        · rw [if_pos h3] at h
          by_cases h4 : ((gt (false, 0, false, [], [], 0, 0, false, false, [], [], false, [], []) x0 x6).1) = true
          · rw [if_pos h4] at h
            exact Til.mid Tryd.func39 3 [(3, .b true), (8, .b false), (17, .b true), (26, .b true)] (fun _ f => o (decide_eq_true h0) (o (o h1 h0) (o (Bool.eq_false_iff.2 h2) (o (o h1 h0) (o (beq_iff_eq.2 h3) (o (o h1 h0) (o h4 f))))))) (by kernel_rfl) (ih _ _ _ _ _ h)
          · rw [if_neg h4] at h
            by_cases h5 : (gt (false, 0, false, [], [], 0, 0, false, false, [], [], false, [], []) x0 x6).2.2.2.2.2.2.1 = x1
            · rw [if_pos h5] at h
              exact Til.mid Tryd.func39 3 [(3, .b true), (8, .b false), (17, .b true), (26, .b false), (35, .b true)] (fun _ f => o (decide_eq_true h0) (o (o h1 h0) (o (Bool.eq_false_iff.2 h2) (o (o h1 h0) (o (beq_iff_eq.2 h3) (o (o h1 h0) (o (Bool.eq_false_iff.2 h4) (o (o h1 h0) (o (beq_iff_eq.2 h5) f))))))))) (by kernel_rfl) (ih _ _ _ _ _ h)
            · rw [if_neg h5] at h
              exact Til.mid Tryd.func39 3 [(3, .b true), (8, .b false), (17, .b true), (26, .b false), (35, .b false)] (fun _ f => o (decide_eq_true h0) (o (o h1 h0) (o (Bool.eq_false_iff.2 h2) (o (o h1 h0) (o (beq_iff_eq.2 h3) (o (o h1 h0) (o (Bool.eq_false_iff.2 h4) (o (o h1 h0) (o (beq_false_of_ne h5) f))))))))) (by kernel_rfl) (ih _ _ _ _ _ h)
        · rw [if_neg h3] at h
          by_cases h4 : ((gt (false, 0, false, [], [], 0, 0, false, false, [], [], false, [], []) x0 x6).1) = true
          · rw [if_pos h4] at h
            exact Til.mid Tryd.func39 3 [(3, .b true), (8, .b false), (17, .b false), (23, .b true)] (fun _ f => o (decide_eq_true h0) (o (o h1 h0) (o (Bool.eq_false_iff.2 h2) (o (o h1 h0) (o (beq_false_of_ne h3) (o (o h1 h0) (o h4 f))))))) (by kernel_rfl) (ih _ _ _ _ _ h)
          · rw [if_neg h4] at h
            by_cases h5 : (gt (false, 0, false, [], [], 0, 0, false, false, [], [], false, [], []) x0 x6).2.2.2.2.2.2.1 = x1
            · rw [if_pos h5] at h
              exact Til.mid Tryd.func39 3 [(3, .b true), (8, .b false), (17, .b false), (23, .b false), (32, .b true)] (fun _ f => o (decide_eq_true h0) (o (o h1 h0) (o (Bool.eq_false_iff.2 h2) (o (o h1 h0) (o (beq_false_of_ne h3) (o (o h1 h0) (o (Bool.eq_false_iff.2 h4) (o (o h1 h0) (o (beq_iff_eq.2 h5) f))))))))) (by kernel_rfl) (ih _ _ _ _ _ h)
            · rw [if_neg h5] at h
              exact Til.mid Tryd.func39 3 [(3, .b true), (8, .b false), (17, .b false), (23, .b false), (32, .b false)] (fun _ f => o (decide_eq_true h0) (o (o h1 h0) (o (Bool.eq_false_iff.2 h2) (o (o h1 h0) (o (beq_false_of_ne h3) (o (o h1 h0) (o (Bool.eq_false_iff.2 h4) (o (o h1 h0) (o (beq_false_of_ne h5) f))))))))) (by kernel_rfl) (ih _ _ _ _ _ h)
    · rw [if_neg h0] at h
      obtain rfl := Option.some.inj h
      exact Til.fin Tryd.func39 [(3, .b false)] (fun _ f => o (decide_eq_false h0) f) (by kernel_rfl)
theorem dendronlaw08_parents.does {k : Nat} {l0 : List (Bool × Int × Bool × List Int × List Int × Int × Int × Bool × Bool × List Int × List Int × Bool × List Int × List Int)} {a1 : Int} {r : Int} (h : dendronlaw08_parents.f k l0 a1 = some r) :
    Does Tryd.prog 39 [.c (.d (L43 l0)), .c (.d (.int .i64 a1))] [] (.c (.d (.int .i64 r))) none [] := by
  refine does_fn Tryd.func39 (by kernel_rfl) rfl rfl ?_
  unfold dendronlaw08_parents.f at h
  have ih := dendronlaw08_parents.w k
  exact Til.mid Tryd.func39 3 [] (fun _ f => f) (by kernel_rfl) (ih _ _ _ _ _ h)

def dendronlaw08_reached.l0E (x0 : List (Bool × Int × Bool × List Int × List Int × Int × Int × Bool × Bool × List Int × List Int × Bool × List Int × List Int)) (x1 : Int) (x5 : Int) : Env := [(0, .c (.d (L43 x0))), (1, .c (.d (.int .i64 x1))), (5, .c (.d (.int .i64 x5)))]
def dendronlaw08_reached.l1E (x0 : List (Bool × Int × Bool × List Int × List Int × Int × Int × Bool × Bool × List Int × List Int × Bool × List Int × List Int)) (x1 : Int) (x5 : Int) (x6 : Int) (x7 : Int) : Env := [(0, .c (.d (L43 x0))), (1, .c (.d (.int .i64 x1))), (5, .c (.d (.int .i64 x5))), (6, .c (.d (.int .i64 x6))), (7, .c (.d (.int .i64 x7)))]
theorem dendronlaw08_reached.w (k : Nat) : (∀  (x0 : List (Bool × Int × Bool × List Int × List Int × Int × Int × Bool × Bool × List Int × List Int × Bool × List Int × List Int)) (x1 : Int) (x5 : Int) (r : Bool), dendronlaw08_reached.l0 k x0 x1 x5 = some r → Til Tryd.prog 40 [] (.c (.d (.bool r))) none [] (at_ Tryd.f40 2) (dendronlaw08_reached.l0E x0 x1 x5) []) ∧
    (∀  (x0 : List (Bool × Int × Bool × List Int × List Int × Int × Int × Bool × Bool × List Int × List Int × Bool × List Int × List Int)) (x1 : Int) (x5 : Int) (x6 : Int) (x7 : Int) (r : Bool), dendronlaw08_reached.l1 k x0 x1 x5 x6 x7 = some r → Til Tryd.prog 40 [] (.c (.d (.bool r))) none [] (at_ Tryd.f40 8) (dendronlaw08_reached.l1E x0 x1 x5 x6 x7) []) := by
  induction k with
  | zero =>
    exact ⟨fun _ _ _ _ h => (by cases h), fun _ _ _ _ _ _ h => (by cases h)⟩
  | succ k ih =>
    refine ⟨?_, ?_⟩
    · intro x0 x1 x5 r h
      rw [dendronlaw08_reached.l0] at h
      by_cases h0 : x5 ≤ (x0.length : Int)
      · rw [if_pos h0] at h
        by_cases h1 : x1 = 0
        · rw [if_pos h1] at h
          obtain rfl := Option.some.inj h
          exact Til.fin Tryd.func40 [(3, .b true), (5, .b true)] (fun _ f => o (decide_eq_true h0) (o (beq_iff_eq.2 h1) f)) (by kernel_rfl)
        · rw [if_neg h1] at h
          exact Til.mid Tryd.func40 8 [(3, .b true), (5, .b false)] (fun _ f => o (decide_eq_true h0) (o (beq_false_of_ne h1) f)) (by kernel_rfl) (ih.2 _ _ _ _ _ _ h)
      · rw [if_neg h0] at h
        obtain rfl := Option.some.inj h
        exact Til.fin Tryd.func40 [(3, .b false)] (fun _ f => o (decide_eq_false h0) f) (by kernel_rfl)
    · intro x0 x1 x5 x6 x7 r h
      rw [dendronlaw08_reached.l1] at h
      by_cases h0 : x7 < (x0.length : Int)
      · rw [if_pos h0] at h
        obtain ⟨h1, h⟩ := ifp h
        by_cases h2 : ((gt (false, 0, false, [], [], 0, 0, false, false, [], [], false, [], []) x0 x7).1) = true
        · rw [if_pos h2] at h
          exact Til.mid Tryd.func40 8 [(3, .b true), (8, .b true)] (fun _ f => o (decide_eq_true h0) (o (o h1 h0) (o h2 f))) (by kernel_rfl) (ih.2 _ _ _ _ _ _ h)
        · rw [if_neg h2] at h
          by_cases h3 : (gt (false, 0, false, [], [], 0, 0, false, false, [], [], false, [], []) x0 x7).2.2.2.2.2.1 = x1
          · rw [if_pos h3] at h
            exact Til.mid Tryd.func40 8 [(3, .b true), (8, .b false), (17, .b true)] (fun _ f => o (decide_eq_true h0) (o (o h1 h0) (o (Bool.eq_false_iff.2 h2) (o (o h1 h0) (o (beq_iff_eq.2 h3) f))))) (by kernel_rfl) (ih.2 _ _ _ _ _ _ h)
          · rw [if_neg h3] at h
            by_cases h4 : (gt (false, 0, false, [], [], 0, 0, false, false, [], [], false, [], []) x0 x7).2.2.2.2.2.2.1 = x1
            · rw [if_pos h4] at h
              exact Til.mid Tryd.func40 8 [(3, .b true), (8, .b false), (17, .b false), (25, .b true)] (fun _ f => o (decide_eq_true h0) (o (o h1 h0) (o (Bool.eq_false_iff.2 h2) (o (o h1 h0) (o (beq_false_of_ne h3) (o (o h1 h0) (o (beq_iff_eq.2 h4) f))))))) (by kernel_rfl) (ih.2 _ _ _ _ _ _ h)
            · rw [if_neg h4] at h
              exact Til.mid Tryd.func40 8 [(3, .b true), (8, .b false), (17, .b false), (25, .b false)] (fun _ f => o (decide_eq_true h0) (o (o h1 h0) (o (Bool.eq_false_iff.2 h2) (o (o h1 h0) (o (beq_false_of_ne h3) (o (o h1 h0) (o (beq_false_of_ne h4) f))))))) (by kernel_rfl) (ih.2 _ _ _ _ _ _ h)
      · rw [if_neg h0] at h
        by_cases h1 : x6 < 0
        · rw [if_pos h1] at h
          obtain rfl := Option.some.inj h
          exact Til.fin Tryd.func40 [(3, .b false), (5, .b true)] (fun _ f => o (decide_eq_false h0) (o (decide_eq_true h1) f)) (by kernel_rfl)
        · rw [if_neg h1] at h
          exact Til.mid Tryd.func40 2 [(3, .b false), (5, .b false)] (fun _ f => o (decide_eq_false h0) (o (decide_eq_false h1) f)) (by kernel_rfl) (ih.1 _ _ _ _ h)
theorem dendronlaw08_reached.does {k : Nat} {l0 : List (Bool × Int × Bool × List Int × List Int × Int × Int × Bool × Bool × List Int × List Int × Bool × List Int × List Int)} {a1 : Int} {r : Bool} (h : dendronlaw08_reached.f k l0 a1 = some r) :
    Does Tryd.prog 40 [.c (.d (L43 l0)), .c (.d (.int .i64 a1))] [] (.c (.d (.bool r))) none [] := by
  refine does_fn Tryd.func40 (by kernel_rfl) rfl rfl ?_
  unfold dendronlaw08_reached.f at h
  have ih := dendronlaw08_reached.w k
  exact Til.mid Tryd.func40 2 [] (fun _ f => f) (by kernel_rfl) (ih.1 _ _ _ _ h)

def dendronlaw08_rule.l0E (x0 : List (Bool × Int × Bool × List Int × List Int × Int × Int × Bool × Bool × List Int × List Int × Bool × List Int × List Int)) (x1 : Int) (x2 : Int) (x8 : Int) : Env := [(0, .c (.d (L43 x0))), (1, .c (.d (.int .i64 x1))), (2, .c (.d (.int .i64 x2))), (8, .c (.d (.int .i64 x8)))]
theorem dendronlaw08_rule.w (k : Nat) : (∀  (x0 : List (Bool × Int × Bool × List Int × List Int × Int × Int × Bool × Bool × List Int × List Int × Bool × List Int × List Int)) (x1 : Int) (x2 : Int) (x8 : Int) (r : Int × Int), dendronlaw08_rule.l0 k x0 x1 x2 x8 = some r → Til Tryd.prog 28 [] (.tup [.c (.d (.int .i64 r.1)), .c (.d (.int .i64 r.2))]) none [] (at_ Tryd.f28 2) (dendronlaw08_rule.l0E x0 x1 x2 x8) []) := by
  induction k with
  | zero =>
    exact fun _ _ _ _ _ h => (by cases h)
  | succ k ih =>
    intro x0 x1 x2 x8 r h
    rw [dendronlaw08_rule.l0] at h
    by_cases h0 : x8 < (x0.length : Int)
    · rw [if_pos h0] at h
      obtain ⟨h1, h⟩ := ifp h
      by_cases h2 : x2 = 0
      · rw [if_pos h2] at h
        by_cases h3 : ((gt (false, 0, false, [], [], 0, 0, false, false, [], [], false, [], []) x0 x8).1) = true
        · rw [if_pos h3] at h
          exact Til.mid Tryd.func28 2 [(3, .b true), (11, .b true), (14, .b true)] (fun _ f => o (decide_eq_true h0) (o (o h1 h0) (o (beq_iff_eq.2 h2) (o h3 f)))) (by kernel_rfl) (ih _ _ _ _ _ h)
        · rw [if_neg h3] at h
          by_cases h4 : (gt (false, 0, false, [], [], 0, 0, false, false, [], [], false, [], []) x0 x8).2.1 ≥ x1
          · rw [if_pos h4] at h
            obtain rfl := Option.some.inj h
            exact Til.fin Tryd.func28 [(3, .b true), (11, .b true), (14, .b false), (20, .b true)] (fun _ f => o (decide_eq_true h0) (o (o h1 h0) (o (beq_iff_eq.2 h2) (o (Bool.eq_false_iff.2 h3) (o (decide_eq_true h4) f))))) (by kernel_rfl)
          · rw [if_neg h4] at h
            by_cases h5 : (gt (false, 0, false, [], [], 0, 0, false, false, [], [], false, [], []) x0 x8).2.2.2.2.2.1 < 1
            · rw [if_pos h5] at h
              obtain rfl := Option.some.inj h
              exact Til.fin Tryd.func28 [(3, .b true), (11, .b true), (14, .b false), (20, .b false), (24, .b true)] (fun _ f => o (decide_eq_true h0) (o (o h1 h0) (o (beq_iff_eq.2 h2) (o (Bool.eq_false_iff.2 h3) (o (decide_eq_false h4) (o (decide_eq_true h5) f)))))) (by kernel_rfl)
            · rw [if_neg h5] at h
              by_cases h6 : (gt (false, 0, false, [], [], 0, 0, false, false, [], [], false, [], []) x0 x8).2.2.2.2.2.1 ≥ (x0.length : Int)
              · rw [if_pos h6] at h
                obtain rfl := Option.some.inj h
                exact Til.fin Tryd.func28 [(3, .b true), (11, .b true), (14, .b false), (20, .b false), (24, .b false), (31, .b true)] (fun _ f => o (decide_eq_true h0) (o (o h1 h0) (o (beq_iff_eq.2 h2) (o (Bool.eq_false_iff.2 h3) (o (decide_eq_false h4) (o (decide_eq_false h5) (o (decide_eq_true h6) f))))))) (by kernel_rfl)
              · rw [if_neg h6] at h
                by_cases h7 : (gt (false, 0, false, [], [], 0, 0, false, false, [], [], false, [], []) x0 x8).2.2.2.2.2.2.1 < 1
                · rw [if_pos h7] at h
                  obtain rfl := Option.some.inj h
                  exact Til.fin Tryd.func28 [(3, .b true), (11, .b true), (14, .b false), (20, .b false), (24, .b false), (31, .b false), (36, .b true)] (fun _ f => o (decide_eq_true h0) (o (o h1 h0) (o (beq_iff_eq.2 h2) (o (Bool.eq_false_iff.2 h3) (o (decide_eq_false h4) (o (decide_eq_false h5) (o (decide_eq_false h6) (o (decide_eq_true h7) f)))))))) (by kernel_rfl)
                · rw [if_neg h7] at h
                  by_cases h8 : (gt (false, 0, false, [], [], 0, 0, false, false, [], [], false, [], []) x0 x8).2.2.2.2.2.2.1 ≥ (x0.length : Int)
                  · rw [if_pos h8] at h
                    obtain rfl := Option.some.inj h
                    exact Til.fin Tryd.func28 [(3, .b true), (11, .b true), (14, .b false), (20, .b false), (24, .b false), (31, .b false), (36, .b false), (43, .b true)] (fun _ f => o (decide_eq_true h0) (o (o h1 h0) (o (beq_iff_eq.2 h2) (o (Bool.eq_false_iff.2 h3) (o (decide_eq_false h4) (o (decide_eq_false h5) (o (decide_eq_false h6) (o (decide_eq_false h7) (o (decide_eq_true h8) f))))))))) (by kernel_rfl)
                  · rw [if_neg h8] at h
                    exact Til.mid Tryd.func28 2 [(3, .b true), (11, .b true), (14, .b false), (20, .b false), (24, .b false), (31, .b false), (36, .b false), (43, .b false)] (fun _ f => o (decide_eq_true h0) (o (o h1 h0) (o (beq_iff_eq.2 h2) (o (Bool.eq_false_iff.2 h3) (o (decide_eq_false h4) (o (decide_eq_false h5) (o (decide_eq_false h6) (o (decide_eq_false h7) (o (decide_eq_false h8) f))))))))) (by kernel_rfl) (ih _ _ _ _ _ h)
      · rw [if_neg h2] at h
        by_cases h3 : x2 = 1
        · rw [if_pos h3] at h
          by_cases h4 : x8 > 0
          · rw [if_pos h4] at h
            obtain ⟨v20, h5, h⟩ := bnd h
            by_cases h6 : v20 ≠ 1
            · rw [if_pos h6] at h
              obtain rfl := Option.some.inj h
              exact Til.fin Tryd.func28 [(3, .b true), (11, .b false), (13, .b true), (16, .b true), (20, ca (.c (.d (.int .i64 v20)))), (21, .b true)] (fun _ f => o (decide_eq_true h0) (o (o h1 h0) (o (beq_false_of_ne h2) (o (beq_iff_eq.2 h3) (o (decide_eq_true h4) (o (dendronlaw08_parents.does h5) (o (bne_iff_ne.2 h6) f))))))) (by kernel_rfl)
            · rw [if_neg h6] at h
              exact Til.mid Tryd.func28 2 [(3, .b true), (11, .b false), (13, .b true), (16, .b true), (20, ca (.c (.d (.int .i64 v20)))), (21, .b false)] (fun _ f => o (decide_eq_true h0) (o (o h1 h0) (o (beq_false_of_ne h2) (o (beq_iff_eq.2 h3) (o (decide_eq_true h4) (o (dendronlaw08_parents.does h5) (o (ne_f h6) f))))))) (by kernel_rfl) (ih _ _ _ _ _ h)
          · rw [if_neg h4] at h
            exact Til.mid Tryd.func28 2 [(3, .b true), (11, .b false), (13, .b true), (16, .b false)] (fun _ f => o (decide_eq_true h0) (o (o h1 h0) (o (beq_false_of_ne h2) (o (beq_iff_eq.2 h3) (o (decide_eq_false h4) f))))) (by kernel_rfl) (ih _ _ _ _ _ h)
        · rw [if_neg h3] at h
          by_cases h4 : x2 = 2
          · rw [if_pos h4] at h
            obtain ⟨v19, h5, h⟩ := bnd h
            cases v19
            · rw [if_neg (by decide)] at h
              obtain rfl := Option.some.inj h
              exact Til.fin Tryd.func28 [(3, .b true), (11, .b false), (13, .b false), (15, .b true), (19, ca (.c (.d (.bool false))))] (fun _ f => o (decide_eq_true h0) (o (o h1 h0) (o (beq_false_of_ne h2) (o (beq_false_of_ne h3) (o (beq_iff_eq.2 h4) (o (dendronlaw08_reached.does h5) f)))))) (by kernel_rfl)
            · rw [if_pos rfl] at h
              exact Til.mid Tryd.func28 2 [(3, .b true), (11, .b false), (13, .b false), (15, .b true), (19, ca (.c (.d (.bool true))))] (fun _ f => o (decide_eq_true h0) (o (o h1 h0) (o (beq_false_of_ne h2) (o (beq_false_of_ne h3) (o (beq_iff_eq.2 h4) (o (dendronlaw08_reached.does h5) f)))))) (by kernel_rfl) (ih _ _ _ _ _ h)
          · rw [if_neg h4] at h
            by_cases h5 : x2 = 3
            · rw [if_pos h5] at h
              obtain ⟨v21, h6, h⟩ := bnd h
              by_cases h7 : v21 ≤ 0
              · rw [if_pos h7] at h
                obtain rfl := Option.some.inj h
                exact Til.fin Tryd.func28 [(3, .b true), (11, .b false), (13, .b false), (15, .b false), (17, .b true), (21, ca (.c (.d (.int .i64 v21)))), (22, .b true)] (fun _ f => o (decide_eq_true h0) (o (o h1 h0) (o (beq_false_of_ne h2) (o (beq_false_of_ne h3) (o (beq_false_of_ne h4) (o (beq_iff_eq.2 h5) (o (ratio_Sign.does h6) (o (decide_eq_true h7) f)))))))) (by kernel_rfl)
              · rw [if_neg h7] at h
                exact Til.mid Tryd.func28 2 [(3, .b true), (11, .b false), (13, .b false), (15, .b false), (17, .b true), (21, ca (.c (.d (.int .i64 v21)))), (22, .b false)] (fun _ f => o (decide_eq_true h0) (o (o h1 h0) (o (beq_false_of_ne h2) (o (beq_false_of_ne h3) (o (beq_false_of_ne h4) (o (beq_iff_eq.2 h5) (o (ratio_Sign.does h6) (o (decide_eq_false h7) f)))))))) (by kernel_rfl) (ih _ _ _ _ _ h)
            · rw [if_neg h5] at h
              by_cases h6 : ((gt (false, 0, false, [], [], 0, 0, false, false, [], [], false, [], []) x0 x8).1) = true
              · rw [if_pos h6] at h
                exact Til.mid Tryd.func28 2 [(3, .b true), (11, .b false), (13, .b false), (15, .b false), (17, .b false), (20, .b true)] (fun _ f => o (decide_eq_true h0) (o (o h1 h0) (o (beq_false_of_ne h2) (o (beq_false_of_ne h3) (o (beq_false_of_ne h4) (o (beq_false_of_ne h5) (o h6 f))))))) (by kernel_rfl) (ih _ _ _ _ _ h)
              · rw [if_neg h6] at h
                obtain ⟨h7, h⟩ := ifp h
                obtain ⟨h8, h⟩ := ifp h
                obtain ⟨h9, h⟩ := ifp h
                obtain ⟨h10, h⟩ := ifp h
                obtain ⟨v37, h11, h⟩ := bnd h
                obtain ⟨v38, h12, h⟩ := bnd h
                cases v38
                · rw [if_neg (by decide)] at h
                  obtain rfl := Option.some.inj h
                  exact Til.fin Tryd.func28 [(3, .b true), (11, .b false), (13, .b false), (15, .b false), (17, .b false), (20, .b false), (37, ca (.agg [.d (.bool v37.1), .d (L59 v37.2.1), .d (L59 v37.2.2)])), (38, ca (.c (.d (.bool false))))] (fun _ f => o (decide_eq_true h0) (o (o h1 h0) (o (beq_false_of_ne h2) (o (beq_false_of_ne h3) (o (beq_false_of_ne h4) (o (beq_false_of_ne h5) (o (Bool.eq_false_iff.2 h6) (o (o h7 h8) (o (o h9 h10) (o (ratio_Add.does h11) (o (ratio_Same.does h12) f))))))))))) (by kernel_rfl)
                · rw [if_pos rfl] at h
                  exact Til.mid Tryd.func28 2 [(3, .b true), (11, .b false), (13, .b false), (15, .b false), (17, .b false), (20, .b false), (37, ca (.agg [.d (.bool v37.1), .d (L59 v37.2.1), .d (L59 v37.2.2)])), (38, ca (.c (.d (.bool true))))] (fun _ f => o (decide_eq_true h0) (o (o h1 h0) (o (beq_false_of_ne h2) (o (beq_false_of_ne h3) (o (beq_false_of_ne h4) (o (beq_false_of_ne h5) (o (Bool.eq_false_iff.2 h6) (o (o h7 h8) (o (o h9 h10) (o (ratio_Add.does h11) (o (ratio_Same.does h12) f))))))))))) (by kernel_rfl) (ih _ _ _ _ _ h)
    · rw [if_neg h0] at h
      obtain rfl := Option.some.inj h
      exact Til.fin Tryd.func28 [(3, .b false)] (fun _ f => o (decide_eq_false h0) f) (by kernel_rfl)
theorem dendronlaw08_rule.does {k : Nat} {l0 : List (Bool × Int × Bool × List Int × List Int × Int × Int × Bool × Bool × List Int × List Int × Bool × List Int × List Int)} {a1 : Int} {a2 : Int} {r : Int × Int} (h : dendronlaw08_rule.f k l0 a1 a2 = some r) :
    Does Tryd.prog 28 [.c (.d (L43 l0)), .c (.d (.int .i64 a1)), .c (.d (.int .i64 a2))] [] (.tup [.c (.d (.int .i64 r.1)), .c (.d (.int .i64 r.2))]) none [] := by
  refine does_fn Tryd.func28 (by kernel_rfl) rfl rfl ?_
  unfold dendronlaw08_rule.f at h
  have ih := dendronlaw08_rule.w k
  exact Til.mid Tryd.func28 2 [] (fun _ f => f) (by kernel_rfl) (ih _ _ _ _ _ h)

def c3 (x : Int) : List Dat := [.int .i64 x]
def L3 (xs : List Int) : Dat := fr 1 c3 0 xs
def Z3 (xs : List Int) : Sup := .r xs.length (enc c3 0 xs)
def O3 (k : RK) (xs : List Int) : Ob := .row k 3 1 xs.length (enc c3 0 xs)

def c44 (x : List Int) : List Dat := [L3 x]
def L44 (xs : List (List Int)) : Dat := fr 1 c44 [] xs
def Z44 (xs : List (List Int)) : Sup := .r xs.length (enc c44 [] xs)
def O44 (k : RK) (xs : List (List Int)) : Ob := .row k 44 1 xs.length (enc c44 [] xs)

def dendronlaw08_check.l0E (x3 : List (List Int)) (x4 : Int) (b1_0 : Int) (b1_1 : List (List (Bool × Int × Bool × List Int × List Int × Int × Int × Bool × Bool × List Int × List Int × Bool × List Int × List Int))) (b2_0 : Int) (b2_1 : Int) (b2_2 : Int) (b2_3 : Int) : Env := [(1, .c (.ptr 1 0)), (2, .c (.ptr 2 0)), (3, .c (.own 3)), (4, .c (.d (.int .i64 x4)))]
def dendronlaw08_check.l0B (x3 : List (List Int)) (x4 : Int) (b1_0 : Int) (b1_1 : List (List (Bool × Int × Bool × List Int × List Int × Int × Int × Bool × Bool × List Int × List Int × Bool × List Int × List Int))) (b2_0 : Int) (b2_1 : Int) (b2_2 : Int) (b2_3 : Int) : Obs := [(1, some (.box [.d (.int .i64 b1_0), .d (L32 b1_1)])), (2, some (.box [.d (.int .i64 b2_0), .d (.int .i64 b2_1), .d (.int .i64 b2_2), .d (.int .i64 b2_3)])), (3, some (O44 .own x3))]
def dendronlaw08_check.l1E (x3 : List (List Int)) (x4 : Int) (x5 : Int) (b1_0 : Int) (b1_1 : List (List (Bool × Int × Bool × List Int × List Int × Int × Int × Bool × Bool × List Int × List Int × Bool × List Int × List Int))) (b2_0 : Int) (b2_1 : Int) (b2_2 : Int) (b2_3 : Int) : Env := [(1, .c (.ptr 1 0)), (2, .c (.ptr 2 0)), (3, .c (.own 3)), (4, .c (.d (.int .i64 x4))), (5, .c (.d (.int .i64 x5)))]
def dendronlaw08_check.l1B (x3 : List (List Int)) (x4 : Int) (x5 : Int) (b1_0 : Int) (b1_1 : List (List (Bool × Int × Bool × List Int × List Int × Int × Int × Bool × Bool × List Int × List Int × Bool × List Int × List Int))) (b2_0 : Int) (b2_1 : Int) (b2_2 : Int) (b2_3 : Int) : Obs := [(1, some (.box [.d (.int .i64 b1_0), .d (L32 b1_1)])), (2, some (.box [.d (.int .i64 b2_0), .d (.int .i64 b2_1), .d (.int .i64 b2_2), .d (.int .i64 b2_3)])), (3, some (O44 .own x3))]
def dendronlaw08_check.l2E (x3 : List (List Int)) (x4 : Int) (x5 : Int) (x6 : Int) (b1_0 : Int) (b1_1 : List (List (Bool × Int × Bool × List Int × List Int × Int × Int × Bool × Bool × List Int × List Int × Bool × List Int × List Int))) (b2_0 : Int) (b2_1 : Int) (b2_2 : Int) (b2_3 : Int) : Env := [(1, .c (.ptr 1 0)), (2, .c (.ptr 2 0)), (3, .c (.own 3)), (4, .c (.d (.int .i64 x4))), (5, .c (.d (.int .i64 x5))), (6, .c (.d (.int .i64 x6)))]
def dendronlaw08_check.l2B (x3 : List (List Int)) (x4 : Int) (x5 : Int) (x6 : Int) (b1_0 : Int) (b1_1 : List (List (Bool × Int × Bool × List Int × List Int × Int × Int × Bool × Bool × List Int × List Int × Bool × List Int × List Int))) (b2_0 : Int) (b2_1 : Int) (b2_2 : Int) (b2_3 : Int) : Obs := [(1, some (.box [.d (.int .i64 b1_0), .d (L32 b1_1)])), (2, some (.box [.d (.int .i64 b2_0), .d (.int .i64 b2_1), .d (.int .i64 b2_2), .d (.int .i64 b2_3)])), (3, some (O44 .own x3))]
theorem dendronlaw08_check.w (k : Nat) : (∀  (x3 : List (List Int)) (x4 : Int) (b1_0 : Int) (b1_1 : List (List (Bool × Int × Bool × List Int × List Int × Int × Int × Bool × Bool × List Int × List Int × Bool × List Int × List Int))) (b2_0 : Int) (b2_1 : Int) (b2_2 : Int) (b2_3 : Int) (r : Int × Int × Int × Int), dendronlaw08_check.l0 k x3 x4 b1_0 b1_1 b2_0 b2_1 b2_2 b2_3 = some r → Til Tryd.prog 9 [] (.agg [.d (.int .i64 r.1), .d (.int .i64 r.2.1), .d (.int .i64 r.2.2.1), .d (.int .i64 r.2.2.2)]) none [] (at_ Tryd.f9 5) (dendronlaw08_check.l0E x3 x4 b1_0 b1_1 b2_0 b2_1 b2_2 b2_3) (dendronlaw08_check.l0B x3 x4 b1_0 b1_1 b2_0 b2_1 b2_2 b2_3)) ∧
    (∀  (x3 : List (List Int)) (x4 : Int) (x5 : Int) (b1_0 : Int) (b1_1 : List (List (Bool × Int × Bool × List Int × List Int × Int × Int × Bool × Bool × List Int × List Int × Bool × List Int × List Int))) (b2_0 : Int) (b2_1 : Int) (b2_2 : Int) (b2_3 : Int) (r : Int × Int × Int × Int), dendronlaw08_check.l1 k x3 x4 x5 b1_0 b1_1 b2_0 b2_1 b2_2 b2_3 = some r → Til Tryd.prog 9 [] (.agg [.d (.int .i64 r.1), .d (.int .i64 r.2.1), .d (.int .i64 r.2.2.1), .d (.int .i64 r.2.2.2)]) none [] (at_ Tryd.f9 8) (dendronlaw08_check.l1E x3 x4 x5 b1_0 b1_1 b2_0 b2_1 b2_2 b2_3) (dendronlaw08_check.l1B x3 x4 x5 b1_0 b1_1 b2_0 b2_1 b2_2 b2_3)) ∧
    (∀  (x3 : List (List Int)) (x4 : Int) (x5 : Int) (x6 : Int) (b1_0 : Int) (b1_1 : List (List (Bool × Int × Bool × List Int × List Int × Int × Int × Bool × Bool × List Int × List Int × Bool × List Int × List Int))) (b2_0 : Int) (b2_1 : Int) (b2_2 : Int) (b2_3 : Int) (r : Int × Int × Int × Int), dendronlaw08_check.l2 k x3 x4 x5 x6 b1_0 b1_1 b2_0 b2_1 b2_2 b2_3 = some r → Til Tryd.prog 9 [] (.agg [.d (.int .i64 r.1), .d (.int .i64 r.2.1), .d (.int .i64 r.2.2.1), .d (.int .i64 r.2.2.2)]) none [] (at_ Tryd.f9 11) (dendronlaw08_check.l2E x3 x4 x5 x6 b1_0 b1_1 b2_0 b2_1 b2_2 b2_3) (dendronlaw08_check.l2B x3 x4 x5 x6 b1_0 b1_1 b2_0 b2_1 b2_2 b2_3)) := by
  induction k with
  | zero =>
    exact ⟨fun _ _ _ _ _ _ _ _ _ h => (by cases h), fun _ _ _ _ _ _ _ _ _ _ h => (by cases h), fun _ _ _ _ _ _ _ _ _ _ _ h => (by cases h)⟩
  | succ k ih =>
    refine ⟨?_, ?_, ?_⟩
    · intro x3 x4 b1_0 b1_1 b2_0 b2_1 b2_2 b2_3 r h
      rw [dendronlaw08_check.l0] at h
      by_cases h0 : x4 < (x3.length : Int)
      · rw [if_pos h0] at h
        exact Til.mid Tryd.func9 8 [(3, .b true)] (fun _ f => o (decide_eq_true h0) f) (by kernel_rfl) (ih.2.1 _ _ _ _ _ _ _ _ _ _ h)
      · rw [if_neg h0] at h
        obtain rfl := Option.some.inj h
        exact Til.fin Tryd.func9 [(3, .b false)] (fun _ f => o (decide_eq_false h0) f) (by kernel_rfl)
    · intro x3 x4 x5 b1_0 b1_1 b2_0 b2_1 b2_2 b2_3 r h
      rw [dendronlaw08_check.l1] at h
      by_cases h0 : x5 < (b1_1.length : Int)
      · rw [if_pos h0] at h
        exact Til.mid Tryd.func9 11 [(4, .b true)] (fun _ f => o (decide_eq_true h0) f) (by kernel_rfl) (ih.2.2 _ _ _ _ _ _ _ _ _ _ _ h)
      · rw [if_neg h0] at h
        exact Til.mid Tryd.func9 5 [(4, .b false)] (fun _ f => o (decide_eq_false h0) f) (by kernel_rfl) (ih.1 _ _ _ _ _ _ _ _ _ h)
    · intro x3 x4 x5 x6 b1_0 b1_1 b2_0 b2_1 b2_2 b2_3 r h
      rw [dendronlaw08_check.l2] at h
      obtain ⟨h0, h⟩ := ifp h
      obtain ⟨h1, h⟩ := ifp h
      by_cases h2 : x6 < ((x3.getD ((x4 : Int).toNat) []).length : Int)
      · rw [if_pos h2] at h
        obtain ⟨h3, h⟩ := ifp h
        obtain ⟨h4, h⟩ := ifp h
        obtain ⟨h5, h⟩ := ifp h
        obtain ⟨v21, h6, h⟩ := bnd h
        by_cases h7 : v21.2 ≠ 0
        · rw [if_pos h7] at h
          obtain rfl := Option.some.inj h
          exact Til.fin Tryd.func9 [(6, .b true), (21, ca (.tup [.c (.d (.int .i64 v21.1)), .c (.d (.int .i64 v21.2))])), (28, .b true)] (fun _ f => o (o h0 h1) (o (decide_eq_true h2) (o (o h3 h4) (o (o h0 h1) (o (o h5 h2) (o (dendronlaw08_rule.does h6) (o (bne_iff_ne.2 h7) f))))))) (by kernel_rfl)
        · rw [if_neg h7] at h
          exact Til.mid Tryd.func9 11 [(6, .b true), (21, ca (.tup [.c (.d (.int .i64 v21.1)), .c (.d (.int .i64 v21.2))])), (28, .b false)] (fun _ f => o (o h0 h1) (o (decide_eq_true h2) (o (o h3 h4) (o (o h0 h1) (o (o h5 h2) (o (dendronlaw08_rule.does h6) (o (ne_f h7) f))))))) (by kernel_rfl) (ih.2.2 _ _ _ _ _ _ _ _ _ _ _ h)
      · rw [if_neg h2] at h
        exact Til.mid Tryd.func9 8 [(6, .b false)] (fun _ f => o (o h0 h1) (o (decide_eq_false h2) f)) (by kernel_rfl) (ih.2.1 _ _ _ _ _ _ _ _ _ _ h)
theorem dendronlaw08_check.does {k : Nat} {a0_0 : Int} {l0_1 : List (List (Bool × Int × Bool × List Int × List Int × Int × Int × Bool × Bool × List Int × List Int × Bool × List Int × List Int))} {r : Int × Int × Int × Int} (h : dendronlaw08_check.f k a0_0 l0_1 = some r) :
    Does Tryd.prog 9 [.agg [.d (.int .i64 a0_0), .d (L32 l0_1)]] [] (.agg [.d (.int .i64 r.1), .d (.int .i64 r.2.1), .d (.int .i64 r.2.2.1), .d (.int .i64 r.2.2.2)]) none [] := by
  refine does_fn Tryd.func9 (by kernel_rfl) rfl rfl ?_
  unfold dendronlaw08_check.f at h
  have ih := dendronlaw08_check.w k
  obtain ⟨v3, h0, h⟩ := bnd h
  cases v3
  · rw [if_neg (by decide)] at h
    obtain rfl := Option.some.inj h
    exact Til.fin Tryd.func9 [(3, ca (.c (.d (.bool false))))] (fun _ f => o (model_Fits.does h0) f) (by kernel_rfl)
  · rw [if_pos rfl] at h
    exact Til.mid Tryd.func9 5 [(3, ca (.c (.d (.bool true)))), (5, Z3 ([0] : List Int)), (6, Z3 ([1, 2] : List Int)), (7, Z3 ([3] : List Int)), (8, Z3 ([4] : List Int)), (9, Z44 ([([0] : List Int), ([1, 2] : List Int), ([3] : List Int), ([4] : List Int)] : List (List Int)))] (fun _ f => o (model_Fits.does h0) (o (lit_ok c3 0 ([0] : List Int)) (o (lit_ok c3 0 ([1, 2] : List Int)) (o (lit_ok c3 0 ([3] : List Int)) (o (lit_ok c3 0 ([4] : List Int)) (o (lit_ok c44 [] ([([0] : List Int), ([1, 2] : List Int), ([3] : List Int), ([4] : List Int)] : List (List Int))) f)))))) (by kernel_rfl) (ih.1 _ _ _ _ _ _ _ _ _ h)

def valid_ranges.l0E (x0 : List (Bool × Int × Bool × List Int × List Int × Int × Int × Bool × Bool × List Int × List Int × Bool × List Int × List Int)) (x1 : Int) (x8 : List (Bool × Int × Bool × List Int × List Int × Int × Int × Bool × Bool × List Int × List Int × Bool × List Int × List Int)) (x9 : Int) (x10 : Int) : Env := [(0, .c (.d (L43 x0))), (1, .c (.d (.int .i64 x1))), (8, .c (.d (L43 x8))), (9, .c (.d (.int .i64 x9))), (10, .c (.d (.int .i64 x10)))]
theorem valid_ranges.w (k : Nat) : (∀  (x0 : List (Bool × Int × Bool × List Int × List Int × Int × Int × Bool × Bool × List Int × List Int × Bool × List Int × List Int)) (x1 : Int) (x8 : List (Bool × Int × Bool × List Int × List Int × Int × Int × Bool × Bool × List Int × List Int × Bool × List Int × List Int)) (x9 : Int) (x10 : Int) (r : Int × Int), valid_ranges.l0 k x0 x1 x8 x9 x10 = some r → Til Tryd.prog 23 [] (.tup [.c (.d (.int .i64 r.1)), .c (.d (.int .i64 r.2))]) none [] (at_ Tryd.f23 2) (valid_ranges.l0E x0 x1 x8 x9 x10) []) := by
  induction k with
  | zero =>
    exact fun _ _ _ _ _ _ h => (by cases h)
  | succ k ih =>
    intro x0 x1 x8 x9 x10 r h
    rw [valid_ranges.l0] at h
    by_cases h0 : x10 < x9
    · rw [if_pos h0] at h
      obtain ⟨h1, h⟩ := ifp h
      obtain ⟨h2, h⟩ := ifp h
      by_cases h3 : ((gt (false, 0, false, [], [], 0, 0, false, false, [], [], false, [], []) x8 x10).1) = true
      · rw [if_pos h3] at h
        exact Til.mid Tryd.func23 2 [(0, .b true), (8, .b true)] (fun _ f => o (decide_eq_true h0) (o (o h1 h2) (o h3 f))) (by kernel_rfl) (ih _ _ _ _ _ _ h)
      · rw [if_neg h3] at h
        by_cases h4 : (gt (false, 0, false, [], [], 0, 0, false, false, [], [], false, [], []) x8 x10).2.1 < 0
        · rw [if_pos h4] at h
          obtain rfl := Option.some.inj h
          exact Til.fin Tryd.func23 [(0, .b true), (8, .b false), (11, .b true)] (fun _ f => o (decide_eq_true h0) (o (o h1 h2) (o (Bool.eq_false_iff.2 h3) (o (decide_eq_true h4) f)))) (by kernel_rfl)
        · rw [if_neg h4] at h
          by_cases h5 : (gt (false, 0, false, [], [], 0, 0, false, false, [], [], false, [], []) x8 x10).2.1 ≥ x1
          · rw [if_pos h5] at h
            obtain rfl := Option.some.inj h
            exact Til.fin Tryd.func23 [(0, .b true), (8, .b false), (11, .b false), (16, .b true)] (fun _ f => o (decide_eq_true h0) (o (o h1 h2) (o (Bool.eq_false_iff.2 h3) (o (decide_eq_false h4) (o (decide_eq_true h5) f))))) (by kernel_rfl)
          · rw [if_neg h5] at h
            by_cases h6 : (gt (false, 0, false, [], [], 0, 0, false, false, [], [], false, [], []) x8 x10).2.2.2.2.2.1 < 1
            · rw [if_pos h6] at h
              obtain rfl := Option.some.inj h
              exact Til.fin Tryd.func23 [(0, .b true), (8, .b false), (11, .b false), (16, .b false), (21, .b true)] (fun _ f => o (decide_eq_true h0) (o (o h1 h2) (o (Bool.eq_false_iff.2 h3) (o (decide_eq_false h4) (o (decide_eq_false h5) (o (decide_eq_true h6) f)))))) (by kernel_rfl)
            · rw [if_neg h6] at h
              by_cases h7 : (gt (false, 0, false, [], [], 0, 0, false, false, [], [], false, [], []) x8 x10).2.2.2.2.2.1 ≥ (x0.length : Int)
              · rw [if_pos h7] at h
                obtain rfl := Option.some.inj h
                exact Til.fin Tryd.func23 [(0, .b true), (8, .b false), (11, .b false), (16, .b false), (21, .b false), (28, .b true)] (fun _ f => o (decide_eq_true h0) (o (o h1 h2) (o (Bool.eq_false_iff.2 h3) (o (decide_eq_false h4) (o (decide_eq_false h5) (o (decide_eq_false h6) (o (decide_eq_true h7) f))))))) (by kernel_rfl)
              · rw [if_neg h7] at h
                by_cases h8 : (gt (false, 0, false, [], [], 0, 0, false, false, [], [], false, [], []) x8 x10).2.2.2.2.2.2.1 < 1
                · rw [if_pos h8] at h
                  obtain rfl := Option.some.inj h
                  exact Til.fin Tryd.func23 [(0, .b true), (8, .b false), (11, .b false), (16, .b false), (21, .b false), (28, .b false), (33, .b true)] (fun _ f => o (decide_eq_true h0) (o (o h1 h2) (o (Bool.eq_false_iff.2 h3) (o (decide_eq_false h4) (o (decide_eq_false h5) (o (decide_eq_false h6) (o (decide_eq_false h7) (o (decide_eq_true h8) f)))))))) (by kernel_rfl)
                · rw [if_neg h8] at h
                  by_cases h9 : (gt (false, 0, false, [], [], 0, 0, false, false, [], [], false, [], []) x8 x10).2.2.2.2.2.2.1 ≥ (x0.length : Int)
                  · rw [if_pos h9] at h
                    obtain rfl := Option.some.inj h
                    exact Til.fin Tryd.func23 [(0, .b true), (8, .b false), (11, .b false), (16, .b false), (21, .b false), (28, .b false), (33, .b false), (40, .b true)] (fun _ f => o (decide_eq_true h0) (o (o h1 h2) (o (Bool.eq_false_iff.2 h3) (o (decide_eq_false h4) (o (decide_eq_false h5) (o (decide_eq_false h6) (o (decide_eq_false h7) (o (decide_eq_false h8) (o (decide_eq_true h9) f))))))))) (by kernel_rfl)
                  · rw [if_neg h9] at h
                    exact Til.mid Tryd.func23 2 [(0, .b true), (8, .b false), (11, .b false), (16, .b false), (21, .b false), (28, .b false), (33, .b false), (40, .b false)] (fun _ f => o (decide_eq_true h0) (o (o h1 h2) (o (Bool.eq_false_iff.2 h3) (o (decide_eq_false h4) (o (decide_eq_false h5) (o (decide_eq_false h6) (o (decide_eq_false h7) (o (decide_eq_false h8) (o (decide_eq_false h9) f))))))))) (by kernel_rfl) (ih _ _ _ _ _ _ h)
    · rw [if_neg h0] at h
      obtain rfl := Option.some.inj h
      exact Til.fin Tryd.func23 [(0, .b false)] (fun _ f => o (decide_eq_false h0) f) (by kernel_rfl)
theorem valid_ranges.does {k : Nat} {l0 : List (Bool × Int × Bool × List Int × List Int × Int × Int × Bool × Bool × List Int × List Int × Bool × List Int × List Int)} {a1 : Int} {r : Int × Int} (h : valid_ranges.f k l0 a1 = some r) :
    Does Tryd.prog 23 [.c (.d (L43 l0)), .c (.d (.int .i64 a1))] [] (.tup [.c (.d (.int .i64 r.1)), .c (.d (.int .i64 r.2))]) none [] := by
  refine does_fn Tryd.func23 (by kernel_rfl) rfl rfl ?_
  unfold valid_ranges.f at h
  have ih := valid_ranges.w k
  exact Til.mid Tryd.func23 2 [] (fun _ f => f) (by kernel_rfl) (ih _ _ _ _ _ _ h)

def c4 (x : Bool) : List Dat := [.bool x]
def L4 (xs : List Bool) : Dat := fr 1 c4 false xs
def Z4 (xs : List Bool) : Sup := .r xs.length (enc c4 false xs)
def O4 (k : RK) (xs : List Bool) : Ob := .row k 4 1 xs.length (enc c4 false xs)

def valid_shape.l0E (x0 : List (Bool × Int × Bool × List Int × List Int × Int × Int × Bool × Bool × List Int × List Int × Bool × List Int × List Int)) (x4 : List Int) (x18 : List (Bool × Int × Bool × List Int × List Int × Int × Int × Bool × Bool × List Int × List Int × Bool × List Int × List Int)) (x19 : Int) (x20 : Int) : Env := [(0, .c (.d (L43 x0))), (4, .c (.own 4)), (18, .c (.d (L43 x18))), (19, .c (.d (.int .i64 x19))), (20, .c (.d (.int .i64 x20)))]
def valid_shape.l0B (x0 : List (Bool × Int × Bool × List Int × List Int × Int × Int × Bool × Bool × List Int × List Int × Bool × List Int × List Int)) (x4 : List Int) (x18 : List (Bool × Int × Bool × List Int × List Int × Int × Int × Bool × Bool × List Int × List Int × Bool × List Int × List Int)) (x19 : Int) (x20 : Int) : Obs := [(4, some (O3 .own x4))]
def valid_shape.l1E (x0 : List (Bool × Int × Bool × List Int × List Int × Int × Int × Bool × Bool × List Int × List Int × Bool × List Int × List Int)) (x42 : List Int) (x43 : Int) (x44 : Int) : Env := [(0, .c (.d (L43 x0))), (42, .c (.own 42)), (43, .c (.d (.int .i64 x43))), (44, .c (.d (.int .i64 x44)))]
def valid_shape.l1B (x0 : List (Bool × Int × Bool × List Int × List Int × Int × Int × Bool × Bool × List Int × List Int × Bool × List Int × List Int)) (x42 : List Int) (x43 : Int) (x44 : Int) : Obs := [(42, some (O3 .own x42))]
def valid_shape.l2E (x0 : List (Bool × Int × Bool × List Int × List Int × Int × Int × Bool × Bool × List Int × List Int × Bool × List Int × List Int)) (x9 : List Bool) (x10 : List Int) : Env := [(0, .c (.d (L43 x0))), (9, .c (.own 9)), (10, .c (.own 10))]
def valid_shape.l2B (x0 : List (Bool × Int × Bool × List Int × List Int × Int × Int × Bool × Bool × List Int × List Int × Bool × List Int × List Int)) (x9 : List Bool) (x10 : List Int) : Obs := [(9, some (O4 .own x9)), (10, some (O3 .own x10))]
def valid_shape.l3E (x92 : List Bool) (x93 : Int) (x94 : Int) : Env := [(92, .c (.own 92)), (93, .c (.d (.int .i64 x93))), (94, .c (.d (.int .i64 x94)))]
def valid_shape.l3B (x92 : List Bool) (x93 : Int) (x94 : Int) : Obs := [(92, some (O4 .own x92))]
theorem valid_shape.w (k : Nat) : (∀  (x0 : List (Bool × Int × Bool × List Int × List Int × Int × Int × Bool × Bool × List Int × List Int × Bool × List Int × List Int)) (x4 : List Int) (x18 : List (Bool × Int × Bool × List Int × List Int × Int × Int × Bool × Bool × List Int × List Int × Bool × List Int × List Int)) (x19 : Int) (x20 : Int) (r : Int × Int), valid_shape.l0 k x0 x4 x18 x19 x20 = some r → Til Tryd.prog 24 [] (.tup [.c (.d (.int .i64 r.1)), .c (.d (.int .i64 r.2))]) none [] (at_ Tryd.f24 3) (valid_shape.l0E x0 x4 x18 x19 x20) (valid_shape.l0B x0 x4 x18 x19 x20)) ∧
    (∀  (x0 : List (Bool × Int × Bool × List Int × List Int × Int × Int × Bool × Bool × List Int × List Int × Bool × List Int × List Int)) (x42 : List Int) (x43 : Int) (x44 : Int) (r : Int × Int), valid_shape.l1 k x0 x42 x43 x44 = some r → Til Tryd.prog 24 [] (.tup [.c (.d (.int .i64 r.1)), .c (.d (.int .i64 r.2))]) none [] (at_ Tryd.f24 10) (valid_shape.l1E x0 x42 x43 x44) (valid_shape.l1B x0 x42 x43 x44)) ∧
    (∀  (x0 : List (Bool × Int × Bool × List Int × List Int × Int × Int × Bool × Bool × List Int × List Int × Bool × List Int × List Int)) (x9 : List Bool) (x10 : List Int) (r : Int × Int), valid_shape.l2 k x0 x9 x10 = some r → Til Tryd.prog 24 [] (.tup [.c (.d (.int .i64 r.1)), .c (.d (.int .i64 r.2))]) none [] (at_ Tryd.f24 17) (valid_shape.l2E x0 x9 x10) (valid_shape.l2B x0 x9 x10)) ∧
    (∀  (x92 : List Bool) (x93 : Int) (x94 : Int) (r : Int × Int), valid_shape.l3 k x92 x93 x94 = some r → Til Tryd.prog 24 [] (.tup [.c (.d (.int .i64 r.1)), .c (.d (.int .i64 r.2))]) none [] (at_ Tryd.f24 25) (valid_shape.l3E x92 x93 x94) (valid_shape.l3B x92 x93 x94)) := by
  induction k with
  | zero =>
    exact ⟨fun _ _ _ _ _ _ h => (by cases h), fun _ _ _ _ _ h => (by cases h), fun _ _ _ _ h => (by cases h), fun _ _ _ _ h => (by cases h)⟩
  | succ k ih =>
    refine ⟨?_, ?_, ?_, ?_⟩
    · intro x0 x4 x18 x19 x20 r h
      rw [valid_shape.l0] at h
      by_cases h0 : x20 < x19
      · rw [if_pos h0] at h
        obtain ⟨h1, h⟩ := ifp h
        obtain ⟨h2, h⟩ := ifp h
        by_cases h3 : ((gt (false, 0, false, [], [], 0, 0, false, false, [], [], false, [], []) x18 x20).1) = true
        · rw [if_pos h3] at h
          exact Til.mid Tryd.func24 3 [(0, .b true), (6, .b true)] (fun _ f => o (decide_eq_true h0) (o (o h1 h2) (o h3 f))) (by kernel_rfl) (ih.1 _ _ _ _ _ _ h)
        · rw [if_neg h3] at h
          obtain ⟨h4, h⟩ := ifp h
          obtain ⟨h5, h⟩ := ifp h
          obtain ⟨h6, h⟩ := ifp h
          obtain ⟨h7, h⟩ := ifp h
          exact Til.mid Tryd.func24 3 [(0, .b true), (6, .b false), (15, Z3 (x4.set (((gt (false, 0, false, [], [], 0, 0, false, false, [], [], false, [], []) x18 x20).2.2.2.2.2.1 : Int).toNat) (wrap64 ((rd x4 ((gt (false, 0, false, [], [], 0, 0, false, false, [], [], false, [], []) x18 x20).2.2.2.2.2.1)) + 1)))), (23, Z3 ((x4.set (((gt (false, 0, false, [], [], 0, 0, false, false, [], [], false, [], []) x18 x20).2.2.2.2.2.1 : Int).toNat) (wrap64 ((rd x4 ((gt (false, 0, false, [], [], 0, 0, false, false, [], [], false, [], []) x18 x20).2.2.2.2.2.1)) + 1))).set (((gt (false, 0, false, [], [], 0, 0, false, false, [], [], false, [], []) x18 x20).2.2.2.2.2.2.1 : Int).toNat) (wrap64 ((rd (x4.set (((gt (false, 0, false, [], [], 0, 0, false, false, [], [], false, [], []) x18 x20).2.2.2.2.2.1 : Int).toNat) (wrap64 ((rd x4 ((gt (false, 0, false, [], [], 0, 0, false, false, [], [], false, [], []) x18 x20).2.2.2.2.2.1)) + 1))) ((gt (false, 0, false, [], [], 0, 0, false, false, [], [], false, [], []) x18 x20).2.2.2.2.2.2.1)) + 1))))] (fun _ f => o (decide_eq_true h0) (o (o h1 h2) (o (Bool.eq_false_iff.2 h3) (o (o h4 h5) (o (o h4 h5) (o (set_ok c3 0 (fun _ _ => rfl) x4 (((gt (false, 0, false, [], [], 0, 0, false, false, [], [], false, [], []) x18 x20).2.2.2.2.2.1 : Int).toNat) (wrap64 ((rd x4 ((gt (false, 0, false, [], [], 0, 0, false, false, [], [], false, [], []) x18 x20).2.2.2.2.2.1)) + 1)) (lt_ok h4 h5)) (o (o h6 h7) (o (o h6 h7) (o (set_ok c3 0 (fun _ _ => rfl) (x4.set (((gt (false, 0, false, [], [], 0, 0, false, false, [], [], false, [], []) x18 x20).2.2.2.2.2.1 : Int).toNat) (wrap64 ((rd x4 ((gt (false, 0, false, [], [], 0, 0, false, false, [], [], false, [], []) x18 x20).2.2.2.2.2.1)) + 1))) (((gt (false, 0, false, [], [], 0, 0, false, false, [], [], false, [], []) x18 x20).2.2.2.2.2.2.1 : Int).toNat) (wrap64 ((rd (x4.set (((gt (false, 0, false, [], [], 0, 0, false, false, [], [], false, [], []) x18 x20).2.2.2.2.2.1 : Int).toNat) (wrap64 ((rd x4 ((gt (false, 0, false, [], [], 0, 0, false, false, [], [], false, [], []) x18 x20).2.2.2.2.2.1)) + 1))) ((gt (false, 0, false, [], [], 0, 0, false, false, [], [], false, [], []) x18 x20).2.2.2.2.2.2.1)) + 1)) (lt_ok h6 h7)) f))))))))) (by kernel_rfl) (ih.1 _ _ _ _ _ _ h)
      · rw [if_neg h0] at h
        exact Til.mid Tryd.func24 10 [(0, .b false)] (fun _ f => o (decide_eq_false h0) f) (by kernel_rfl) (ih.2.1 _ _ _ _ _ h)
    · intro x0 x42 x43 x44 r h
      rw [valid_shape.l1] at h
      by_cases h0 : x44 < x43
      · rw [if_pos h0] at h
        obtain ⟨h1, h⟩ := ifp h
        obtain ⟨h2, h⟩ := ifp h
        by_cases h3 : x44 > 0
        · rw [if_pos h3] at h
          by_cases h4 : (rd x42 x44) ≠ 1
          · rw [if_pos h4] at h
            obtain rfl := Option.some.inj h
            exact Til.fin Tryd.func24 [(0, .b true), (7, .b true), (10, .b true)] (fun _ f => o (decide_eq_true h0) (o (o h1 h2) (o (decide_eq_true h3) (o (bne_iff_ne.2 h4) f)))) (by kernel_rfl)
          · rw [if_neg h4] at h
            exact Til.mid Tryd.func24 10 [(0, .b true), (7, .b true), (10, .b false)] (fun _ f => o (decide_eq_true h0) (o (o h1 h2) (o (decide_eq_true h3) (o (ne_f h4) f)))) (by kernel_rfl) (ih.2.1 _ _ _ _ _ h)
        · rw [if_neg h3] at h
          exact Til.mid Tryd.func24 10 [(0, .b true), (7, .b false)] (fun _ f => o (decide_eq_true h0) (o (o h1 h2) (o (decide_eq_false h3) f))) (by kernel_rfl) (ih.2.1 _ _ _ _ _ h)
      · rw [if_neg h0] at h
        obtain ⟨h1, h⟩ := ifp h
        exact Til.mid Tryd.func24 17 [(0, .b false), (3, Z4 (List.replicate (((x0.length : Int) : Int).toNat) false : List Bool)), (5, Z3 ([0] : List Int))] (fun _ f => o (decide_eq_false h0) (o (make_ok c4 false [.bool false] ⟨.refl _, trivial⟩ (x0.length : Int) 1 281474976710656 (by decide) (Int.natCast_nonneg x0.length) h1) (o (lit_ok c3 0 ([0] : List Int)) f))) (by kernel_rfl) (ih.2.2.1 _ _ _ _ h)
    · intro x0 x9 x10 r h
      rw [valid_shape.l2] at h
      by_cases h0 : (x10.length : Int) > 0
      · rw [if_pos h0] at h
        obtain ⟨h1, h⟩ := ifp h
        obtain ⟨h2, h⟩ := ifp h
        obtain ⟨h3, h⟩ := ifp h
        obtain ⟨h4, h⟩ := ifp h
        obtain ⟨h5, h⟩ := ifp h
        obtain ⟨h6, h⟩ := ifp h
        by_cases h7 : ((gt (false, 0, false, [], [], 0, 0, false, false, [], [], false, [], []) x0 (rd x10 (wrap64 ((x10.length : Int) - 1)))).1) = true
        · rw [if_pos h7] at h
          exact Til.mid Tryd.func24 17 [(2, .b true), (14, Z3 (x10.take (((wrap64 ((x10.length : Int) - 1)) : Int).toNat))), (19, Z4 (x9.set (((rd x10 (wrap64 ((x10.length : Int) - 1))) : Int).toNat) true)), (27, .b true)] (fun _ f => o (decide_eq_true h0) (o (o h1 h2) (o (take_ok c3 0 x10 h1 h3) (o (o h4 h5) (o (set_ok c4 false (fun _ _ => rfl) x9 (((rd x10 (wrap64 ((x10.length : Int) - 1))) : Int).toNat) true (lt_ok h4 h5)) (o (o h4 h6) (o h7 f))))))) (by kernel_rfl) (ih.2.2.1 _ _ _ _ h)
        · rw [if_neg h7] at h
          obtain ⟨h8, h⟩ := ifp h
          exact Til.mid Tryd.func24 17 [(2, .b true), (14, Z3 (x10.take (((wrap64 ((x10.length : Int) - 1)) : Int).toNat))), (19, Z4 (x9.set (((rd x10 (wrap64 ((x10.length : Int) - 1))) : Int).toNat) true)), (27, .b false), (34, Z3 ([(gt (false, 0, false, [], [], 0, 0, false, false, [], [], false, [], []) x0 (rd x10 (wrap64 ((x10.length : Int) - 1)))).2.2.2.2.2.1, (gt (false, 0, false, [], [], 0, 0, false, false, [], [], false, [], []) x0 (rd x10 (wrap64 ((x10.length : Int) - 1)))).2.2.2.2.2.2.1] : List Int)), (35, Z3 ((x10.take (((wrap64 ((x10.length : Int) - 1)) : Int).toNat)) ++ ([(gt (false, 0, false, [], [], 0, 0, false, false, [], [], false, [], []) x0 (rd x10 (wrap64 ((x10.length : Int) - 1)))).2.2.2.2.2.1, (gt (false, 0, false, [], [], 0, 0, false, false, [], [], false, [], []) x0 (rd x10 (wrap64 ((x10.length : Int) - 1)))).2.2.2.2.2.2.1] : List Int)))] (fun _ f => o (decide_eq_true h0) (o (o h1 h2) (o (take_ok c3 0 x10 h1 h3) (o (o h4 h5) (o (set_ok c4 false (fun _ _ => rfl) x9 (((rd x10 (wrap64 ((x10.length : Int) - 1))) : Int).toNat) true (lt_ok h4 h5)) (o (o h4 h6) (o (Bool.eq_false_iff.2 h7) (o (lit_ok c3 0 ([(gt (false, 0, false, [], [], 0, 0, false, false, [], [], false, [], []) x0 (rd x10 (wrap64 ((x10.length : Int) - 1)))).2.2.2.2.2.1, (gt (false, 0, false, [], [], 0, 0, false, false, [], [], false, [], []) x0 (rd x10 (wrap64 ((x10.length : Int) - 1)))).2.2.2.2.2.2.1] : List Int)) (o (app c3 0 (x10.take (((wrap64 ((x10.length : Int) - 1)) : Int).toNat)) ([(gt (false, 0, false, [], [], 0, 0, false, false, [], [], false, [], []) x0 (rd x10 (wrap64 ((x10.length : Int) - 1)))).2.2.2.2.2.1, (gt (false, 0, false, [], [], 0, 0, false, false, [], [], false, [], []) x0 (rd x10 (wrap64 ((x10.length : Int) - 1)))).2.2.2.2.2.2.1] : List Int) 8 17592186044416 (by decide) h8) f))))))))) (by kernel_rfl) (ih.2.2.1 _ _ _ _ h)
      · rw [if_neg h0] at h
        exact Til.mid Tryd.func24 25 [(2, .b false)] (fun _ f => o (decide_eq_false h0) f) (by kernel_rfl) (ih.2.2.2 _ _ _ _ h)
    · intro x92 x93 x94 r h
      rw [valid_shape.l3] at h
      by_cases h0 : x94 < x93
      · rw [if_pos h0] at h
        obtain ⟨h1, h⟩ := ifp h
        obtain ⟨h2, h⟩ := ifp h
        by_cases h3 : (x92.getD ((x94 : Int).toNat) false) = true
        · rw [if_pos h3] at h
          exact Til.mid Tryd.func24 25 [(0, .b true), (3, .b true)] (fun _ f => o (decide_eq_true h0) (o (o h1 h2) (o h3 f))) (by kernel_rfl) (ih.2.2.2 _ _ _ _ h)
        · rw [if_neg h3] at h
          obtain rfl := Option.some.inj h
          exact Til.fin Tryd.func24 [(0, .b true), (3, .b false)] (fun _ f => o (decide_eq_true h0) (o (o h1 h2) (o (Bool.eq_false_iff.2 h3) f))) (by kernel_rfl)
      · rw [if_neg h0] at h
        obtain rfl := Option.some.inj h
        exact Til.fin Tryd.func24 [(0, .b false)] (fun _ f => o (decide_eq_false h0) f) (by kernel_rfl)
theorem valid_shape.does {k : Nat} {l0 : List (Bool × Int × Bool × List Int × List Int × Int × Int × Bool × Bool × List Int × List Int × Bool × List Int × List Int)} {r : Int × Int} (h : valid_shape.f k l0 = some r) :
    Does Tryd.prog 24 [.c (.d (L43 l0))] [] (.tup [.c (.d (.int .i64 r.1)), .c (.d (.int .i64 r.2))]) none [] := by
  refine does_fn Tryd.func24 (by kernel_rfl) rfl rfl ?_
  unfold valid_shape.f at h
  have ih := valid_shape.w k
  obtain ⟨h0, h⟩ := ifp h
  exact Til.mid Tryd.func24 3 [(4, Z3 (List.replicate (((l0.length : Int) : Int).toNat) 0 : List Int))] (fun _ f => o (make_ok c3 0 [.int .i64 0] ⟨.refl _, trivial⟩ (l0.length : Int) 8 35184372088832 (by decide) (Int.natCast_nonneg l0.length) h0) f) (by kernel_rfl) (ih.1 _ _ _ _ _ _ h)

def valid_covers.l0E (x6 : List (Bool × Int × Bool × List Int × List Int × Int × Int × Bool × Bool × List Int × List Int × Bool × List Int × List Int)) (x7 : Int) (x8 : Int) : Env := [(6, .c (.d (L43 x6))), (7, .c (.d (.int .i64 x7))), (8, .c (.d (.int .i64 x8)))]
theorem valid_covers.w (k : Nat) : (∀  (x6 : List (Bool × Int × Bool × List Int × List Int × Int × Int × Bool × Bool × List Int × List Int × Bool × List Int × List Int)) (x7 : Int) (x8 : Int) (r : Int × Int), valid_covers.l0 k x6 x7 x8 = some r → Til Tryd.prog 25 [] (.tup [.c (.d (.int .i64 r.1)), .c (.d (.int .i64 r.2))]) none [] (at_ Tryd.f25 2) (valid_covers.l0E x6 x7 x8) []) := by
  induction k with
  | zero =>
    exact fun _ _ _ _ h => (by cases h)
  | succ k ih =>
    intro x6 x7 x8 r h
    rw [valid_covers.l0] at h
    by_cases h0 : x8 < x7
    · rw [if_pos h0] at h
      obtain ⟨h1, h⟩ := ifp h
      obtain ⟨h2, h⟩ := ifp h
      obtain ⟨v9, h3, h⟩ := bnd h
      by_cases h4 : v9 ≤ 0
      · rw [if_pos h4] at h
        obtain rfl := Option.some.inj h
        exact Til.fin Tryd.func25 [(0, .b true), (9, ca (.c (.d (.int .i64 v9)))), (10, .b true)] (fun _ f => o (decide_eq_true h0) (o (o h1 h2) (o (ratio_Sign.does h3) (o (decide_eq_true h4) f)))) (by kernel_rfl)
      · rw [if_neg h4] at h
        exact Til.mid Tryd.func25 2 [(0, .b true), (9, ca (.c (.d (.int .i64 v9)))), (10, .b false)] (fun _ f => o (decide_eq_true h0) (o (o h1 h2) (o (ratio_Sign.does h3) (o (decide_eq_false h4) f)))) (by kernel_rfl) (ih _ _ _ _ h)
    · rw [if_neg h0] at h
      obtain rfl := Option.some.inj h
      exact Til.fin Tryd.func25 [(0, .b false)] (fun _ f => o (decide_eq_false h0) f) (by kernel_rfl)
theorem valid_covers.does {k : Nat} {l0 : List (Bool × Int × Bool × List Int × List Int × Int × Int × Bool × Bool × List Int × List Int × Bool × List Int × List Int)} {r : Int × Int} (h : valid_covers.f k l0 = some r) :
    Does Tryd.prog 25 [.c (.d (L43 l0))] [] (.tup [.c (.d (.int .i64 r.1)), .c (.d (.int .i64 r.2))]) none [] := by
  refine does_fn Tryd.func25 (by kernel_rfl) rfl rfl ?_
  unfold valid_covers.f at h
  have ih := valid_covers.w k
  exact Til.mid Tryd.func25 2 [] (fun _ f => f) (by kernel_rfl) (ih _ _ _ _ h)

def valid_sums.l0E (x0 : List (Bool × Int × Bool × List Int × List Int × Int × Int × Bool × Bool × List Int × List Int × Bool × List Int × List Int)) (x6 : List (Bool × Int × Bool × List Int × List Int × Int × Int × Bool × Bool × List Int × List Int × Bool × List Int × List Int)) (x7 : Int) (x8 : Int) : Env := [(0, .c (.d (L43 x0))), (6, .c (.d (L43 x6))), (7, .c (.d (.int .i64 x7))), (8, .c (.d (.int .i64 x8)))]
theorem valid_sums.w (k : Nat) : (∀  (x0 : List (Bool × Int × Bool × List Int × List Int × Int × Int × Bool × Bool × List Int × List Int × Bool × List Int × List Int)) (x6 : List (Bool × Int × Bool × List Int × List Int × Int × Int × Bool × Bool × List Int × List Int × Bool × List Int × List Int)) (x7 : Int) (x8 : Int) (r : Int × Int), valid_sums.l0 k x0 x6 x7 x8 = some r → Til Tryd.prog 26 [] (.tup [.c (.d (.int .i64 r.1)), .c (.d (.int .i64 r.2))]) none [] (at_ Tryd.f26 2) (valid_sums.l0E x0 x6 x7 x8) []) := by
  induction k with
  | zero =>
    exact fun _ _ _ _ _ h => (by cases h)
  | succ k ih =>
    intro x0 x6 x7 x8 r h
    rw [valid_sums.l0] at h
    by_cases h0 : x8 < x7
    · rw [if_pos h0] at h
      obtain ⟨h1, h⟩ := ifp h
      obtain ⟨h2, h⟩ := ifp h
      by_cases h3 : ((gt (false, 0, false, [], [], 0, 0, false, false, [], [], false, [], []) x6 x8).1) = true
      · rw [if_pos h3] at h
        exact Til.mid Tryd.func26 2 [(0, .b true), (8, .b true)] (fun _ f => o (decide_eq_true h0) (o (o h1 h2) (o h3 f))) (by kernel_rfl) (ih _ _ _ _ _ h)
      · rw [if_neg h3] at h
        obtain ⟨h4, h⟩ := ifp h
        obtain ⟨h5, h⟩ := ifp h
        obtain ⟨h6, h⟩ := ifp h
        obtain ⟨h7, h⟩ := ifp h
        obtain ⟨v25, h8, h⟩ := bnd h
        obtain ⟨v26, h9, h⟩ := bnd h
        cases v26
        · rw [if_neg (by decide)] at h
          obtain rfl := Option.some.inj h
          exact Til.fin Tryd.func26 [(0, .b true), (8, .b false), (25, ca (.agg [.d (.bool v25.1), .d (L59 v25.2.1), .d (L59 v25.2.2)])), (26, ca (.c (.d (.bool false))))] (fun _ f => o (decide_eq_true h0) (o (o h1 h2) (o (Bool.eq_false_iff.2 h3) (o (o h4 h5) (o (o h6 h7) (o (ratio_Add.does h8) (o (ratio_Same.does h9) f))))))) (by kernel_rfl)
        · rw [if_pos rfl] at h
          exact Til.mid Tryd.func26 2 [(0, .b true), (8, .b false), (25, ca (.agg [.d (.bool v25.1), .d (L59 v25.2.1), .d (L59 v25.2.2)])), (26, ca (.c (.d (.bool true))))] (fun _ f => o (decide_eq_true h0) (o (o h1 h2) (o (Bool.eq_false_iff.2 h3) (o (o h4 h5) (o (o h6 h7) (o (ratio_Add.does h8) (o (ratio_Same.does h9) f))))))) (by kernel_rfl) (ih _ _ _ _ _ h)
    · rw [if_neg h0] at h
      obtain rfl := Option.some.inj h
      exact Til.fin Tryd.func26 [(0, .b false)] (fun _ f => o (decide_eq_false h0) f) (by kernel_rfl)
theorem valid_sums.does {k : Nat} {l0 : List (Bool × Int × Bool × List Int × List Int × Int × Int × Bool × Bool × List Int × List Int × Bool × List Int × List Int)} {r : Int × Int} (h : valid_sums.f k l0 = some r) :
    Does Tryd.prog 26 [.c (.d (L43 l0))] [] (.tup [.c (.d (.int .i64 r.1)), .c (.d (.int .i64 r.2))]) none [] := by
  refine does_fn Tryd.func26 (by kernel_rfl) rfl rfl ?_
  unfold valid_sums.f at h
  have ih := valid_sums.w k
  exact Til.mid Tryd.func26 2 [] (fun _ f => f) (by kernel_rfl) (ih _ _ _ _ _ h)

theorem valid_fault.does {a0 : Int} {a1 : Int} {a2 : Int} {r : Int × Int × Int × Int} (h : valid_fault.f a0 a1 a2 = some r) :
    Does Tryd.prog 27 [.c (.d (.int .i64 a0)), .c (.d (.int .i64 a1)), .c (.d (.int .i64 a2))] [] (.agg [.d (.int .i64 r.1), .d (.int .i64 r.2.1), .d (.int .i64 r.2.2.1), .d (.int .i64 r.2.2.2)]) none [] := by
  refine does_fn Tryd.func27 (by kernel_rfl) rfl rfl ?_
  unfold valid_fault.f at h
  obtain rfl := Option.some.inj h
  exact Til.fin Tryd.func27 [] (fun _ f => f) (by kernel_rfl)

def valid_Check.l0E (x12 : Int) (b1_0 : Int) (b1_1 : List (List (Bool × Int × Bool × List Int × List Int × Int × Int × Bool × Bool × List Int × List Int × Bool × List Int × List Int))) (b2_0 : Int) (b2_1 : Int) (b2_2 : Int) (b2_3 : Int) : Env := [(1, .c (.ptr 1 0)), (2, .c (.ptr 2 0)), (12, .c (.d (.int .i64 x12)))]
def valid_Check.l0B (x12 : Int) (b1_0 : Int) (b1_1 : List (List (Bool × Int × Bool × List Int × List Int × Int × Int × Bool × Bool × List Int × List Int × Bool × List Int × List Int))) (b2_0 : Int) (b2_1 : Int) (b2_2 : Int) (b2_3 : Int) : Obs := [(1, some (.box [.d (.int .i64 b1_0), .d (L32 b1_1)])), (2, some (.box [.d (.int .i64 b2_0), .d (.int .i64 b2_1), .d (.int .i64 b2_2), .d (.int .i64 b2_3)]))]
def valid_Check.l1E (x3 : Int) (x12 : Int) (x16 : List (List (Bool × Int × Bool × List Int × List Int × Int × Int × Bool × Bool × List Int × List Int × Bool × List Int × List Int))) (x17 : Int) (x18 : Int) (b1_0 : Int) (b1_1 : List (List (Bool × Int × Bool × List Int × List Int × Int × Int × Bool × Bool × List Int × List Int × Bool × List Int × List Int))) (b2_0 : Int) (b2_1 : Int) (b2_2 : Int) (b2_3 : Int) : Env := [(1, .c (.ptr 1 0)), (2, .c (.ptr 2 0)), (3, .c (.d (.int .i64 x3))), (12, .c (.d (.int .i64 x12))), (16, .c (.d (L32 x16))), (17, .c (.d (.int .i64 x17))), (18, .c (.d (.int .i64 x18)))]
def valid_Check.l1B (x3 : Int) (x12 : Int) (x16 : List (List (Bool × Int × Bool × List Int × List Int × Int × Int × Bool × Bool × List Int × List Int × Bool × List Int × List Int))) (x17 : Int) (x18 : Int) (b1_0 : Int) (b1_1 : List (List (Bool × Int × Bool × List Int × List Int × Int × Int × Bool × Bool × List Int × List Int × Bool × List Int × List Int))) (b2_0 : Int) (b2_1 : Int) (b2_2 : Int) (b2_3 : Int) : Obs := [(1, some (.box [.d (.int .i64 b1_0), .d (L32 b1_1)])), (2, some (.box [.d (.int .i64 b2_0), .d (.int .i64 b2_1), .d (.int .i64 b2_2), .d (.int .i64 b2_3)]))]
theorem valid_Check.w (k : Nat) : (∀  (x12 : Int) (b1_0 : Int) (b1_1 : List (List (Bool × Int × Bool × List Int × List Int × Int × Int × Bool × Bool × List Int × List Int × Bool × List Int × List Int))) (b2_0 : Int) (b2_1 : Int) (b2_2 : Int) (b2_3 : Int) (r : Int × Int × Int × Int), valid_Check.l0 k x12 b1_0 b1_1 b2_0 b2_1 b2_2 b2_3 = some r → Til Tryd.prog 8 [] (.agg [.d (.int .i64 r.1), .d (.int .i64 r.2.1), .d (.int .i64 r.2.2.1), .d (.int .i64 r.2.2.2)]) none [] (at_ Tryd.f8 4) (valid_Check.l0E x12 b1_0 b1_1 b2_0 b2_1 b2_2 b2_3) (valid_Check.l0B x12 b1_0 b1_1 b2_0 b2_1 b2_2 b2_3)) ∧
    (∀  (x3 : Int) (x12 : Int) (x16 : List (List (Bool × Int × Bool × List Int × List Int × Int × Int × Bool × Bool × List Int × List Int × Bool × List Int × List Int))) (x17 : Int) (x18 : Int) (b1_0 : Int) (b1_1 : List (List (Bool × Int × Bool × List Int × List Int × Int × Int × Bool × Bool × List Int × List Int × Bool × List Int × List Int))) (b2_0 : Int) (b2_1 : Int) (b2_2 : Int) (b2_3 : Int) (r : Int × Int × Int × Int), valid_Check.l1 k x3 x12 x16 x17 x18 b1_0 b1_1 b2_0 b2_1 b2_2 b2_3 = some r → Til Tryd.prog 8 [] (.agg [.d (.int .i64 r.1), .d (.int .i64 r.2.1), .d (.int .i64 r.2.2.1), .d (.int .i64 r.2.2.2)]) none [] (at_ Tryd.f8 7) (valid_Check.l1E x3 x12 x16 x17 x18 b1_0 b1_1 b2_0 b2_1 b2_2 b2_3) (valid_Check.l1B x3 x12 x16 x17 x18 b1_0 b1_1 b2_0 b2_1 b2_2 b2_3)) := by
  induction k with
  | zero =>
    exact ⟨fun _ _ _ _ _ _ _ _ h => (by cases h), fun _ _ _ _ _ _ _ _ _ _ _ _ h => (by cases h)⟩
  | succ k ih =>
    refine ⟨?_, ?_⟩
    · intro x12 b1_0 b1_1 b2_0 b2_1 b2_2 b2_3 r h
      rw [valid_Check.l0] at h
      by_cases h0 : x12 < 4
      · rw [if_pos h0] at h
        exact Til.mid Tryd.func8 7 [(0, .b true)] (fun _ f => o (decide_eq_true h0) f) (by kernel_rfl) (ih.2 _ _ _ _ _ _ _ _ _ _ _ _ h)
      · rw [if_neg h0] at h
        obtain rfl := Option.some.inj h
        exact Til.fin Tryd.func8 [(0, .b false)] (fun _ f => o (decide_eq_false h0) f) (by kernel_rfl)
    · intro x3 x12 x16 x17 x18 b1_0 b1_1 b2_0 b2_1 b2_2 b2_3 r h
      rw [valid_Check.l1] at h
      by_cases h0 : x18 < x17
      · rw [if_pos h0] at h
        obtain ⟨h1, h⟩ := ifp h
        obtain ⟨h2, h⟩ := ifp h
        by_cases h3 : x3 = 0
        · rw [if_pos h3] at h
          obtain ⟨v14, h4, h⟩ := bnd h
          by_cases h5 : v14.2 ≠ 0
          · rw [if_pos h5] at h
            obtain ⟨v25, h6, h⟩ := bnd h
            obtain rfl := Option.some.inj h
            exact Til.fin Tryd.func8 [(0, .b true), (9, .b true), (14, ca (.tup [.c (.d (.int .i64 v14.1)), .c (.d (.int .i64 v14.2))])), (21, .b true), (25, ca (.agg [.d (.int .i64 v25.1), .d (.int .i64 v25.2.1), .d (.int .i64 v25.2.2.1), .d (.int .i64 v25.2.2.2)]))] (fun _ f => o (decide_eq_true h0) (o (o h1 h2) (o (beq_iff_eq.2 h3) (o (valid_ranges.does h4) (o (bne_iff_ne.2 h5) (o (valid_fault.does h6) f)))))) (by kernel_rfl)
          · rw [if_neg h5] at h
            exact Til.mid Tryd.func8 7 [(0, .b true), (9, .b true), (14, ca (.tup [.c (.d (.int .i64 v14.1)), .c (.d (.int .i64 v14.2))])), (21, .b false)] (fun _ f => o (decide_eq_true h0) (o (o h1 h2) (o (beq_iff_eq.2 h3) (o (valid_ranges.does h4) (o (ne_f h5) f))))) (by kernel_rfl) (ih.2 _ _ _ _ _ _ _ _ _ _ _ _ h)
        · rw [if_neg h3] at h
          by_cases h4 : x3 = 1
          · rw [if_pos h4] at h
            obtain ⟨v14, h5, h⟩ := bnd h
            by_cases h6 : v14.2 ≠ 0
            · rw [if_pos h6] at h
              obtain ⟨v25, h7, h⟩ := bnd h
              obtain rfl := Option.some.inj h
              exact Til.fin Tryd.func8 [(0, .b true), (9, .b false), (11, .b true), (14, ca (.tup [.c (.d (.int .i64 v14.1)), .c (.d (.int .i64 v14.2))])), (21, .b true), (25, ca (.agg [.d (.int .i64 v25.1), .d (.int .i64 v25.2.1), .d (.int .i64 v25.2.2.1), .d (.int .i64 v25.2.2.2)]))] (fun _ f => o (decide_eq_true h0) (o (o h1 h2) (o (beq_false_of_ne h3) (o (beq_iff_eq.2 h4) (o (valid_shape.does h5) (o (bne_iff_ne.2 h6) (o (valid_fault.does h7) f))))))) (by kernel_rfl)
            · rw [if_neg h6] at h
              exact Til.mid Tryd.func8 7 [(0, .b true), (9, .b false), (11, .b true), (14, ca (.tup [.c (.d (.int .i64 v14.1)), .c (.d (.int .i64 v14.2))])), (21, .b false)] (fun _ f => o (decide_eq_true h0) (o (o h1 h2) (o (beq_false_of_ne h3) (o (beq_iff_eq.2 h4) (o (valid_shape.does h5) (o (ne_f h6) f)))))) (by kernel_rfl) (ih.2 _ _ _ _ _ _ _ _ _ _ _ _ h)
          · rw [if_neg h4] at h
            by_cases h5 : x3 = 2
            · rw [if_pos h5] at h
              obtain ⟨v16, h6, h⟩ := bnd h
              by_cases h7 : v16.2 ≠ 0
              · rw [if_pos h7] at h
                obtain ⟨v27, h8, h⟩ := bnd h
                obtain rfl := Option.some.inj h
                exact Til.fin Tryd.func8 [(0, .b true), (9, .b false), (11, .b false), (13, .b true), (16, ca (.tup [.c (.d (.int .i64 v16.1)), .c (.d (.int .i64 v16.2))])), (23, .b true), (27, ca (.agg [.d (.int .i64 v27.1), .d (.int .i64 v27.2.1), .d (.int .i64 v27.2.2.1), .d (.int .i64 v27.2.2.2)]))] (fun _ f => o (decide_eq_true h0) (o (o h1 h2) (o (beq_false_of_ne h3) (o (beq_false_of_ne h4) (o (beq_iff_eq.2 h5) (o (valid_covers.does h6) (o (bne_iff_ne.2 h7) (o (valid_fault.does h8) f)))))))) (by kernel_rfl)
              · rw [if_neg h7] at h
                exact Til.mid Tryd.func8 7 [(0, .b true), (9, .b false), (11, .b false), (13, .b true), (16, ca (.tup [.c (.d (.int .i64 v16.1)), .c (.d (.int .i64 v16.2))])), (23, .b false)] (fun _ f => o (decide_eq_true h0) (o (o h1 h2) (o (beq_false_of_ne h3) (o (beq_false_of_ne h4) (o (beq_iff_eq.2 h5) (o (valid_covers.does h6) (o (ne_f h7) f))))))) (by kernel_rfl) (ih.2 _ _ _ _ _ _ _ _ _ _ _ _ h)
            · rw [if_neg h5] at h
              by_cases h6 : x3 = 3
              · rw [if_pos h6] at h
                obtain ⟨v18, h7, h⟩ := bnd h
                by_cases h8 : v18.2 ≠ 0
                · rw [if_pos h8] at h
                  obtain ⟨v29, h9, h⟩ := bnd h
                  obtain rfl := Option.some.inj h
                  exact Til.fin Tryd.func8 [(0, .b true), (9, .b false), (11, .b false), (13, .b false), (15, .b true), (18, ca (.tup [.c (.d (.int .i64 v18.1)), .c (.d (.int .i64 v18.2))])), (25, .b true), (29, ca (.agg [.d (.int .i64 v29.1), .d (.int .i64 v29.2.1), .d (.int .i64 v29.2.2.1), .d (.int .i64 v29.2.2.2)]))] (fun _ f => o (decide_eq_true h0) (o (o h1 h2) (o (beq_false_of_ne h3) (o (beq_false_of_ne h4) (o (beq_false_of_ne h5) (o (beq_iff_eq.2 h6) (o (valid_sums.does h7) (o (bne_iff_ne.2 h8) (o (valid_fault.does h9) f))))))))) (by kernel_rfl)
                · rw [if_neg h8] at h
                  exact Til.mid Tryd.func8 7 [(0, .b true), (9, .b false), (11, .b false), (13, .b false), (15, .b true), (18, ca (.tup [.c (.d (.int .i64 v18.1)), .c (.d (.int .i64 v18.2))])), (25, .b false)] (fun _ f => o (decide_eq_true h0) (o (o h1 h2) (o (beq_false_of_ne h3) (o (beq_false_of_ne h4) (o (beq_false_of_ne h5) (o (beq_iff_eq.2 h6) (o (valid_sums.does h7) (o (ne_f h8) f)))))))) (by kernel_rfl) (ih.2 _ _ _ _ _ _ _ _ _ _ _ _ h)
              · rw [if_neg h6] at h
                exact Til.mid Tryd.func8 7 [(0, .b true), (9, .b false), (11, .b false), (13, .b false), (15, .b false)] (fun _ f => o (decide_eq_true h0) (o (o h1 h2) (o (beq_false_of_ne h3) (o (beq_false_of_ne h4) (o (beq_false_of_ne h5) (o (beq_false_of_ne h6) f)))))) (by kernel_rfl) (ih.2 _ _ _ _ _ _ _ _ _ _ _ _ h)
      · rw [if_neg h0] at h
        exact Til.mid Tryd.func8 4 [(0, .b false)] (fun _ f => o (decide_eq_false h0) f) (by kernel_rfl) (ih.1 _ _ _ _ _ _ _ _ h)
theorem valid_Check.does {k : Nat} {a0_0 : Int} {l0_1 : List (List (Bool × Int × Bool × List Int × List Int × Int × Int × Bool × Bool × List Int × List Int × Bool × List Int × List Int))} {r : Int × Int × Int × Int} (h : valid_Check.f k a0_0 l0_1 = some r) :
    Does Tryd.prog 8 [.agg [.d (.int .i64 a0_0), .d (L32 l0_1)]] [] (.agg [.d (.int .i64 r.1), .d (.int .i64 r.2.1), .d (.int .i64 r.2.2.1), .d (.int .i64 r.2.2.2)]) none [] := by
  refine does_fn Tryd.func8 (by kernel_rfl) rfl rfl ?_
  unfold valid_Check.f at h
  have ih := valid_Check.w k
  obtain ⟨v3, h0, h⟩ := bnd h
  cases v3
  · rw [if_neg (by decide)] at h
    obtain rfl := Option.some.inj h
    exact Til.fin Tryd.func8 [(3, ca (.c (.d (.bool false))))] (fun _ f => o (model_Fits.does h0) f) (by kernel_rfl)
  · rw [if_pos rfl] at h
    exact Til.mid Tryd.func8 4 [(3, ca (.c (.d (.bool true))))] (fun _ f => o (model_Fits.does h0) f) (by kernel_rfl) (ih.1 _ _ _ _ _ _ _ _ h)

theorem valid_Ok.does {k : Nat} {a0_0 : Int} {l0_1 : List (List (Bool × Int × Bool × List Int × List Int × Int × Int × Bool × Bool × List Int × List Int × Bool × List Int × List Int))} {r : Bool} (h : valid_Ok.f k a0_0 l0_1 = some r) :
    Does Tryd.prog 10 [.agg [.d (.int .i64 a0_0), .d (L32 l0_1)]] [] (.c (.d (.bool r))) none [] := by
  refine does_fn Tryd.func10 (by kernel_rfl) rfl rfl ?_
  unfold valid_Ok.f at h
  obtain ⟨v3, h0, h⟩ := bnd h
  obtain rfl := Option.some.inj h
  exact Til.fin Tryd.func10 [(3, ca (.agg [.d (.int .i64 v3.1), .d (.int .i64 v3.2.1), .d (.int .i64 v3.2.2.1), .d (.int .i64 v3.2.2.2)]))] (fun _ f => o (valid_Check.does h0) f) (by kernel_rfl)

theorem whole_Of.does {k : Nat} {a0 : Int} {r : Bool × List Int} (h : whole_Of.f k a0 = some r) :
    Does Tryd.prog 53 [.c (.d (.int .i64 a0))] [] (.agg [.d (.bool r.1), .d (L59 r.2)]) none [] := by
  refine does_fn Tryd.func53 (by kernel_rfl) rfl rfl ?_
  unfold whole_Of.f at h
  by_cases h0 : a0 < 0
  · rw [if_pos h0] at h
    obtain ⟨v6, h1, h⟩ := bnd h
    obtain ⟨v7, h2, h⟩ := bnd h
    obtain rfl := Option.some.inj h
    exact Til.fin Tryd.func53 [(2, .b true), (6, ca (.c (.d (L59 v6)))), (7, ca (.agg [.d (.bool v7.1), .d (L59 v7.2)]))] (fun _ f => o (decide_eq_true h0) (o (nat_Of.does h1) (o (whole_sign.does h2) f))) (by kernel_rfl)
  · rw [if_neg h0] at h
    obtain ⟨v5, h1, h⟩ := bnd h
    obtain ⟨v6, h2, h⟩ := bnd h
    obtain rfl := Option.some.inj h
    exact Til.fin Tryd.func53 [(2, .b false), (5, ca (.c (.d (L59 v5)))), (6, ca (.agg [.d (.bool v6.1), .d (L59 v6.2)]))] (fun _ f => o (decide_eq_false h0) (o (nat_Of.does h1) (o (whole_sign.does h2) f))) (by kernel_rfl)

theorem ratio_Of.does {k : Nat} {a0 : Int} {r : Bool × List Int × List Int} (h : ratio_Of.f k a0 = some r) :
    Does Tryd.prog 41 [.c (.d (.int .i64 a0))] [] (.agg [.d (.bool r.1), .d (L59 r.2.1), .d (L59 r.2.2)]) none [] := by
  refine does_fn Tryd.func41 (by kernel_rfl) rfl rfl ?_
  unfold ratio_Of.f at h
  obtain ⟨v2, h0, h⟩ := bnd h
  obtain ⟨v3, h1, h⟩ := bnd h
  obtain rfl := Option.some.inj h
  exact Til.fin Tryd.func41 [(2, ca (.agg [.d (.bool v2.1), .d (L59 v2.2)])), (3, ca (.c (.d (L59 v3))))] (fun _ f => o (whole_Of.does h0) (o (nat_Of.does h1) f)) (by kernel_rfl)

theorem ratio_One.does {k : Nat}  {r : Bool × List Int × List Int} (h : ratio_One.f k = some r) :
    Does Tryd.prog 29 [] [] (.agg [.d (.bool r.1), .d (L59 r.2.1), .d (L59 r.2.2)]) none [] := by
  refine does_fn Tryd.func29 (by kernel_rfl) rfl rfl ?_
  unfold ratio_One.f at h
  obtain ⟨v1, h0, h⟩ := bnd h
  obtain rfl := Option.some.inj h
  exact Til.fin Tryd.func29 [(1, ca (.agg [.d (.bool v1.1), .d (L59 v1.2.1), .d (L59 v1.2.2)]))] (fun _ f => o (ratio_Of.does h0) f) (by kernel_rfl)

theorem dendronlaw08_awake.does {k : Nat}  {r : Bool} (h : dendronlaw08_awake.f k = some r) :
    Does Tryd.prog 11 [] [] (.c (.d (.bool r))) none [] := by
  refine does_fn Tryd.func11 (by kernel_rfl) rfl rfl ?_
  unfold dendronlaw08_awake.f at h
  obtain ⟨v1, h0, h⟩ := bnd h
  obtain ⟨v14, h1, h⟩ := bnd h
  by_cases h2 : ((v14.1 == 11) && ((v14.2.1 == 0) && ((v14.2.2.1 == 0) && ((v14.2.2.2 == 1) && true)))) = true
  · rw [if_pos h2] at h
    obtain ⟨v19, h3, h⟩ := bnd h
    obtain rfl := Option.some.inj h
    exact Til.fin Tryd.func11 [(1, ca (.agg [.d (.bool v1.1), .d (L59 v1.2.1), .d (L59 v1.2.2)])), (8, Z43 ([(false, 0, false, ([] : List Int), ([] : List Int), 1, 1, false, false, ([] : List Int), ([] : List Int), v1.1, v1.2.1, v1.2.2), (true, 0, false, ([] : List Int), ([] : List Int), 0, 0, false, false, ([] : List Int), ([] : List Int), v1.1, v1.2.1, v1.2.2)] : List (Bool × Int × Bool × List Int × List Int × Int × Int × Bool × Bool × List Int × List Int × Bool × List Int × List Int))), (9, Z32 ([([(false, 0, false, ([] : List Int), ([] : List Int), 1, 1, false, false, ([] : List Int), ([] : List Int), v1.1, v1.2.1, v1.2.2), (true, 0, false, ([] : List Int), ([] : List Int), 0, 0, false, false, ([] : List Int), ([] : List Int), v1.1, v1.2.1, v1.2.2)] : List (Bool × Int × Bool × List Int × List Int × Int × Int × Bool × Bool × List Int × List Int × Bool × List Int × List Int))] : List (List (Bool × Int × Bool × List Int × List Int × Int × Int × Bool × Bool × List Int × List Int × Bool × List Int × List Int)))), (14, ca (.agg [.d (.int .i64 v14.1), .d (.int .i64 v14.2.1), .d (.int .i64 v14.2.2.1), .d (.int .i64 v14.2.2.2)])), (16, .b true), (19, .call [(0, .agg [.u, .d (L32 ([] : List (List (Bool × Int × Bool × List Int × List Int × Int × Int × Bool × Bool × List Int × List Int × Bool × List Int × List Int))))])] [] (.c (.d (.bool v19))) none [] [])] (fun _ f => o (ratio_One.does h0) (o (lit_sim c43 (false, 0, false, [], [], 0, 0, false, false, [], [], false, [], []) ([(false, 0, false, ([] : List Int), ([] : List Int), 1, 1, false, false, ([] : List Int), ([] : List Int), v1.1, v1.2.1, v1.2.2), (true, 0, false, ([] : List Int), ([] : List Int), 0, 0, false, false, ([] : List Int), ([] : List Int), v1.1, v1.2.1, v1.2.2)] : List (Bool × Int × Bool × List Int × List Int × Int × Int × Bool × Bool × List Int × List Int × Bool × List Int × List Int)) [[.bool false, .int .i64 0, .bool false, .fro 0 0 fun _ => [], .fro 0 0 fun _ => [], .int .i64 1, .int .i64 1, .bool false, .bool false, .fro 0 0 fun _ => [], .fro 0 0 fun _ => [], .bool v1.1, L59 v1.2.1, L59 v1.2.2], [.bool true, .int .i64 0, .bool false, .fro 0 0 fun _ => [], .fro 0 0 fun _ => [], .int .i64 0, .int .i64 0, .bool false, .bool false, .fro 0 0 fun _ => [], .fro 0 0 fun _ => [], .bool v1.1, L59 v1.2.1, L59 v1.2.2]] ⟨⟨.refl _, ⟨.refl _, ⟨.refl _, ⟨.nil _ _ _ _, ⟨.nil _ _ _ _, ⟨.refl _, ⟨.refl _, ⟨.refl _, ⟨.refl _, ⟨.nil _ _ _ _, ⟨.nil _ _ _ _, ⟨.refl _, ⟨.refl _, ⟨.refl _, trivial⟩⟩⟩⟩⟩⟩⟩⟩⟩⟩⟩⟩⟩⟩, ⟨⟨.refl _, ⟨.refl _, ⟨.refl _, ⟨.nil _ _ _ _, ⟨.nil _ _ _ _, ⟨.refl _, ⟨.refl _, ⟨.refl _, ⟨.refl _, ⟨.nil _ _ _ _, ⟨.nil _ _ _ _, ⟨.refl _, ⟨.refl _, ⟨.refl _, trivial⟩⟩⟩⟩⟩⟩⟩⟩⟩⟩⟩⟩⟩⟩, trivial⟩⟩) (o (lit_ok c32 [] ([([(false, 0, false, ([] : List Int), ([] : List Int), 1, 1, false, false, ([] : List Int), ([] : List Int), v1.1, v1.2.1, v1.2.2), (true, 0, false, ([] : List Int), ([] : List Int), 0, 0, false, false, ([] : List Int), ([] : List Int), v1.1, v1.2.1, v1.2.2)] : List (Bool × Int × Bool × List Int × List Int × Int × Int × Bool × Bool × List Int × List Int × Bool × List Int × List Int))] : List (List (Bool × Int × Bool × List Int × List Int × Int × Int × Bool × Bool × List Int × List Int × Bool × List Int × List Int)))) (o (valid_Check.does h1) (o h2 (o (valid_Ok.does h3) f)))))) (by kernel_rfl)
  · rw [if_neg h2] at h
    obtain rfl := Option.some.inj h
    exact Til.fin Tryd.func11 [(1, ca (.agg [.d (.bool v1.1), .d (L59 v1.2.1), .d (L59 v1.2.2)])), (8, Z43 ([(false, 0, false, ([] : List Int), ([] : List Int), 1, 1, false, false, ([] : List Int), ([] : List Int), v1.1, v1.2.1, v1.2.2), (true, 0, false, ([] : List Int), ([] : List Int), 0, 0, false, false, ([] : List Int), ([] : List Int), v1.1, v1.2.1, v1.2.2)] : List (Bool × Int × Bool × List Int × List Int × Int × Int × Bool × Bool × List Int × List Int × Bool × List Int × List Int))), (9, Z32 ([([(false, 0, false, ([] : List Int), ([] : List Int), 1, 1, false, false, ([] : List Int), ([] : List Int), v1.1, v1.2.1, v1.2.2), (true, 0, false, ([] : List Int), ([] : List Int), 0, 0, false, false, ([] : List Int), ([] : List Int), v1.1, v1.2.1, v1.2.2)] : List (Bool × Int × Bool × List Int × List Int × Int × Int × Bool × Bool × List Int × List Int × Bool × List Int × List Int))] : List (List (Bool × Int × Bool × List Int × List Int × Int × Int × Bool × Bool × List Int × List Int × Bool × List Int × List Int)))), (14, ca (.agg [.d (.int .i64 v14.1), .d (.int .i64 v14.2.1), .d (.int .i64 v14.2.2.1), .d (.int .i64 v14.2.2.2)])), (16, .b false)] (fun _ f => o (ratio_One.does h0) (o (lit_sim c43 (false, 0, false, [], [], 0, 0, false, false, [], [], false, [], []) ([(false, 0, false, ([] : List Int), ([] : List Int), 1, 1, false, false, ([] : List Int), ([] : List Int), v1.1, v1.2.1, v1.2.2), (true, 0, false, ([] : List Int), ([] : List Int), 0, 0, false, false, ([] : List Int), ([] : List Int), v1.1, v1.2.1, v1.2.2)] : List (Bool × Int × Bool × List Int × List Int × Int × Int × Bool × Bool × List Int × List Int × Bool × List Int × List Int)) [[.bool false, .int .i64 0, .bool false, .fro 0 0 fun _ => [], .fro 0 0 fun _ => [], .int .i64 1, .int .i64 1, .bool false, .bool false, .fro 0 0 fun _ => [], .fro 0 0 fun _ => [], .bool v1.1, L59 v1.2.1, L59 v1.2.2], [.bool true, .int .i64 0, .bool false, .fro 0 0 fun _ => [], .fro 0 0 fun _ => [], .int .i64 0, .int .i64 0, .bool false, .bool false, .fro 0 0 fun _ => [], .fro 0 0 fun _ => [], .bool v1.1, L59 v1.2.1, L59 v1.2.2]] ⟨⟨.refl _, ⟨.refl _, ⟨.refl _, ⟨.nil _ _ _ _, ⟨.nil _ _ _ _, ⟨.refl _, ⟨.refl _, ⟨.refl _, ⟨.refl _, ⟨.nil _ _ _ _, ⟨.nil _ _ _ _, ⟨.refl _, ⟨.refl _, ⟨.refl _, trivial⟩⟩⟩⟩⟩⟩⟩⟩⟩⟩⟩⟩⟩⟩, ⟨⟨.refl _, ⟨.refl _, ⟨.refl _, ⟨.nil _ _ _ _, ⟨.nil _ _ _ _, ⟨.refl _, ⟨.refl _, ⟨.refl _, ⟨.refl _, ⟨.nil _ _ _ _, ⟨.nil _ _ _ _, ⟨.refl _, ⟨.refl _, ⟨.refl _, trivial⟩⟩⟩⟩⟩⟩⟩⟩⟩⟩⟩⟩⟩⟩, trivial⟩⟩) (o (lit_ok c32 [] ([([(false, 0, false, ([] : List Int), ([] : List Int), 1, 1, false, false, ([] : List Int), ([] : List Int), v1.1, v1.2.1, v1.2.2), (true, 0, false, ([] : List Int), ([] : List Int), 0, 0, false, false, ([] : List Int), ([] : List Int), v1.1, v1.2.1, v1.2.2)] : List (Bool × Int × Bool × List Int × List Int × Int × Int × Bool × Bool × List Int × List Int × Bool × List Int × List Int))] : List (List (Bool × Int × Bool × List Int × List Int × Int × Int × Bool × Bool × List Int × List Int × Bool × List Int × List Int)))) (o (valid_Check.does h1) (o (Bool.eq_false_iff.2 h2) f))))) (by kernel_rfl)

theorem valid_Used.does {k : Nat} {a0_0 : Int} {l0_1 : List (List (Bool × Int × Bool × List Int × List Int × Int × Int × Bool × Bool × List Int × List Int × Bool × List Int × List Int))} {r : List Bool} (h : valid_Used.f k a0_0 l0_1 = some r) :
    Does Tryd.prog 13 [.agg [.d (.int .i64 a0_0), .d (L32 l0_1)]] [] (.c (.d (L4 r))) none [] := by
  obtain ⟨ok, hok, h⟩ := bnd h
  cases ok with
  | false =>
    rw [if_neg (fun e => by cases e)] at h
    obtain rfl := Option.some.inj h
    exact used_of (valid_Ok.does hok) (fun e => by cases e)
  | true =>
    rw [if_pos rfl] at h
    obtain ⟨hu, h⟩ := ifp h
    obtain rfl := Option.some.inj h
    exact used_of (valid_Ok.does hok) (fun _ => hu)

def dendronlaw08_ValidUsed.l0E (x3 : List Bool) (x5 : Int) (b1_0 : Int) (b1_1 : List (List (Bool × Int × Bool × List Int × List Int × Int × Int × Bool × Bool × List Int × List Int × Bool × List Int × List Int))) : Env := [(1, .c (.ptr 1 0)), (3, .c (.d (L4 x3))), (5, .c (.d (.int .i64 x5)))]
def dendronlaw08_ValidUsed.l0B (x3 : List Bool) (x5 : Int) (b1_0 : Int) (b1_1 : List (List (Bool × Int × Bool × List Int × List Int × Int × Int × Bool × Bool × List Int × List Int × Bool × List Int × List Int))) : Obs := [(1, some (.box [.d (.int .i64 b1_0), .d (L32 b1_1)]))]
def dendronlaw08_ValidUsed.l1E (x3 : List Bool) (x5 : Int) (x6 : Bool) (x7 : Int) (b1_0 : Int) (b1_1 : List (List (Bool × Int × Bool × List Int × List Int × Int × Int × Bool × Bool × List Int × List Int × Bool × List Int × List Int))) : Env := [(1, .c (.ptr 1 0)), (3, .c (.d (L4 x3))), (5, .c (.d (.int .i64 x5))), (6, .c (.d (.bool x6))), (7, .c (.d (.int .i64 x7)))]
def dendronlaw08_ValidUsed.l1B (x3 : List Bool) (x5 : Int) (x6 : Bool) (x7 : Int) (b1_0 : Int) (b1_1 : List (List (Bool × Int × Bool × List Int × List Int × Int × Int × Bool × Bool × List Int × List Int × Bool × List Int × List Int))) : Obs := [(1, some (.box [.d (.int .i64 b1_0), .d (L32 b1_1)]))]
def dendronlaw08_ValidUsed.l2E (x3 : List Bool) (x5 : Int) (x6 : Bool) (x7 : Int) (x8 : Int) (b1_0 : Int) (b1_1 : List (List (Bool × Int × Bool × List Int × List Int × Int × Int × Bool × Bool × List Int × List Int × Bool × List Int × List Int))) : Env := [(1, .c (.ptr 1 0)), (3, .c (.d (L4 x3))), (5, .c (.d (.int .i64 x5))), (6, .c (.d (.bool x6))), (7, .c (.d (.int .i64 x7))), (8, .c (.d (.int .i64 x8)))]
def dendronlaw08_ValidUsed.l2B (x3 : List Bool) (x5 : Int) (x6 : Bool) (x7 : Int) (x8 : Int) (b1_0 : Int) (b1_1 : List (List (Bool × Int × Bool × List Int × List Int × Int × Int × Bool × Bool × List Int × List Int × Bool × List Int × List Int))) : Obs := [(1, some (.box [.d (.int .i64 b1_0), .d (L32 b1_1)]))]
theorem dendronlaw08_ValidUsed.w (k : Nat) : (∀  (x3 : List Bool) (x5 : Int) (b1_0 : Int) (b1_1 : List (List (Bool × Int × Bool × List Int × List Int × Int × Int × Bool × Bool × List Int × List Int × Bool × List Int × List Int))) (r : Bool), dendronlaw08_ValidUsed.l0 k x3 x5 b1_0 b1_1 = some r → Til Tryd.prog 5 [] (.c (.d (.bool r))) none [] (at_ Tryd.f5 9) (dendronlaw08_ValidUsed.l0E x3 x5 b1_0 b1_1) (dendronlaw08_ValidUsed.l0B x3 x5 b1_0 b1_1)) ∧
    (∀  (x3 : List Bool) (x5 : Int) (x6 : Bool) (x7 : Int) (b1_0 : Int) (b1_1 : List (List (Bool × Int × Bool × List Int × List Int × Int × Int × Bool × Bool × List Int × List Int × Bool × List Int × List Int))) (r : Bool), dendronlaw08_ValidUsed.l1 k x3 x5 x6 x7 b1_0 b1_1 = some r → Til Tryd.prog 5 [] (.c (.d (.bool r))) none [] (at_ Tryd.f5 13) (dendronlaw08_ValidUsed.l1E x3 x5 x6 x7 b1_0 b1_1) (dendronlaw08_ValidUsed.l1B x3 x5 x6 x7 b1_0 b1_1)) ∧
    (∀  (x3 : List Bool) (x5 : Int) (x6 : Bool) (x7 : Int) (x8 : Int) (b1_0 : Int) (b1_1 : List (List (Bool × Int × Bool × List Int × List Int × Int × Int × Bool × Bool × List Int × List Int × Bool × List Int × List Int))) (r : Bool), dendronlaw08_ValidUsed.l2 k x3 x5 x6 x7 x8 b1_0 b1_1 = some r → Til Tryd.prog 5 [] (.c (.d (.bool r))) none [] (at_ Tryd.f5 16) (dendronlaw08_ValidUsed.l2E x3 x5 x6 x7 x8 b1_0 b1_1) (dendronlaw08_ValidUsed.l2B x3 x5 x6 x7 x8 b1_0 b1_1)) := by
  induction k with
  | zero =>
    exact ⟨fun _ _ _ _ _ h => (by cases h), fun _ _ _ _ _ _ _ h => (by cases h), fun _ _ _ _ _ _ _ _ h => (by cases h)⟩
  | succ k ih =>
    refine ⟨?_, ?_, ?_⟩
    · intro x3 x5 b1_0 b1_1 r h
      rw [dendronlaw08_ValidUsed.l0] at h
      by_cases h0 : x5 < b1_0
      · rw [if_pos h0] at h
        exact Til.mid Tryd.func5 13 [(3, .b true)] (fun _ f => o (decide_eq_true h0) f) (by kernel_rfl) (ih.2.1 _ _ _ _ _ _ _ h)
      · rw [if_neg h0] at h
        obtain ⟨v4, h1, h⟩ := bnd h
        obtain rfl := Option.some.inj h
        exact Til.fin Tryd.func5 [(3, .b false), (4, ca (.c (.d (.bool v4))))] (fun _ f => o (decide_eq_false h0) (o (dendronlaw08_awake.does h1) f)) (by kernel_rfl)
    · intro x3 x5 x6 x7 b1_0 b1_1 r h
      rw [dendronlaw08_ValidUsed.l1] at h
      by_cases h0 : x7 < (b1_1.length : Int)
      · rw [if_pos h0] at h
        exact Til.mid Tryd.func5 16 [(4, .b true)] (fun _ f => o (decide_eq_true h0) f) (by kernel_rfl) (ih.2.2 _ _ _ _ _ _ _ _ h)
      · rw [if_neg h0] at h
        obtain ⟨h1, h⟩ := ifp h
        obtain ⟨h2, h⟩ := ifp h
        by_cases h3 : (gt false x3 x5) ≠ x6
        · rw [if_pos h3] at h
          obtain rfl := Option.some.inj h
          exact Til.fin Tryd.func5 [(4, .b false), (10, .b true)] (fun _ f => o (decide_eq_false h0) (o (o h1 h2) (o (nb_t h3) f))) (by kernel_rfl)
        · rw [if_neg h3] at h
          exact Til.mid Tryd.func5 9 [(4, .b false), (10, .b false)] (fun _ f => o (decide_eq_false h0) (o (o h1 h2) (o (nb_f h3) f))) (by kernel_rfl) (ih.1 _ _ _ _ _ h)
    · intro x3 x5 x6 x7 x8 b1_0 b1_1 r h
      rw [dendronlaw08_ValidUsed.l2] at h
      obtain ⟨h0, h⟩ := ifp h
      obtain ⟨h1, h⟩ := ifp h
      by_cases h2 : x8 < ((gt [] b1_1 x7).length : Int)
      · rw [if_pos h2] at h
        by_cases h3 : x6 = true
        · rw [if_pos h3] at h
          exact Til.mid Tryd.func5 16 [(7, .b true), (8, .b true)] (fun _ f => o (o h0 h1) (o (decide_eq_true h2) (o h3 f))) (by kernel_rfl) (ih.2.2 _ _ _ _ _ _ _ _ h)
        · rw [if_neg h3] at h
          obtain ⟨h4, h⟩ := ifp h
          by_cases h5 : ((gt (false, 0, false, [], [], 0, 0, false, false, [], [], false, [], []) (gt [] b1_1 x7) x8).1) = true
          · rw [if_pos h5] at h
            exact Til.mid Tryd.func5 16 [(7, .b true), (8, .b false), (18, .b true)] (fun _ f => o (o h0 h1) (o (decide_eq_true h2) (o (Bool.eq_false_iff.2 h3) (o (o h0 h1) (o (o h4 h2) (o h5 f)))))) (by kernel_rfl) (ih.2.2 _ _ _ _ _ _ _ _ h)
          · rw [if_neg h5] at h
            exact Til.mid Tryd.func5 16 [(7, .b true), (8, .b false), (18, .b false)] (fun _ f => o (o h0 h1) (o (decide_eq_true h2) (o (Bool.eq_false_iff.2 h3) (o (o h0 h1) (o (o h4 h2) (o (Bool.eq_false_iff.2 h5) (o (o h0 h1) (o (o h4 h2) f)))))))) (by kernel_rfl) (ih.2.2 _ _ _ _ _ _ _ _ h)
      · rw [if_neg h2] at h
        exact Til.mid Tryd.func5 13 [(7, .b false)] (fun _ f => o (o h0 h1) (o (decide_eq_false h2) f)) (by kernel_rfl) (ih.2.1 _ _ _ _ _ _ _ h)
theorem dendronlaw08_ValidUsed.does {k : Nat} {a0_0 : Int} {l0_1 : List (List (Bool × Int × Bool × List Int × List Int × Int × Int × Bool × Bool × List Int × List Int × Bool × List Int × List Int))} {r : Bool} (h : dendronlaw08_ValidUsed.f k a0_0 l0_1 = some r) :
    Does Tryd.prog 5 [.agg [.d (.int .i64 a0_0), .d (L32 l0_1)]] [] (.c (.d (.bool r))) none [] := by
  refine does_fn Tryd.func5 (by kernel_rfl) rfl rfl ?_
  unfold dendronlaw08_ValidUsed.f at h
  have ih := dendronlaw08_ValidUsed.w k
  obtain ⟨v3, h0, h⟩ := bnd h
  obtain ⟨v6, h1, h⟩ := bnd h
  obtain ⟨v9, h2, h⟩ := bnd h
  by_cases h3 : v9.1 ≠ 0
  · rw [if_pos h3] at h
    by_cases h4 : (v6.length : Int) = 0
    · rw [if_pos h4] at h
      obtain ⟨v19, h5, h⟩ := bnd h
      obtain rfl := Option.some.inj h
      exact Til.fin Tryd.func5 [(3, ca (.agg [.d (.int .i64 v3.1), .d (L32 v3.2)])), (6, ca (.c (.d (L4 v6)))), (9, ca (.agg [.d (.int .i64 v9.1), .d (.int .i64 v9.2.1), .d (.int .i64 v9.2.2.1), .d (.int .i64 v9.2.2.2)])), (14, .b true), (17, .b true), (19, ca (.c (.d (.bool v19))))] (fun _ f => o (dendronlaw07_Few.does h0) (o (valid_Used.does h1) (o (dendronlaw08_check.does h2) (o (bne_iff_ne.2 h3) (o (beq_iff_eq.2 h4) (o (dendronlaw08_awake.does h5) f)))))) (by kernel_rfl)
    · rw [if_neg h4] at h
      obtain rfl := Option.some.inj h
      exact Til.fin Tryd.func5 [(3, ca (.agg [.d (.int .i64 v3.1), .d (L32 v3.2)])), (6, ca (.c (.d (L4 v6)))), (9, ca (.agg [.d (.int .i64 v9.1), .d (.int .i64 v9.2.1), .d (.int .i64 v9.2.2.1), .d (.int .i64 v9.2.2.2)])), (14, .b true), (17, .b false)] (fun _ f => o (dendronlaw07_Few.does h0) (o (valid_Used.does h1) (o (dendronlaw08_check.does h2) (o (bne_iff_ne.2 h3) (o (beq_false_of_ne h4) f))))) (by kernel_rfl)
  · rw [if_neg h3] at h
    by_cases h4 : (v6.length : Int) ≠ v3.1
    · rw [if_pos h4] at h
      obtain rfl := Option.some.inj h
      exact Til.fin Tryd.func5 [(3, ca (.agg [.d (.int .i64 v3.1), .d (L32 v3.2)])), (6, ca (.c (.d (L4 v6)))), (9, ca (.agg [.d (.int .i64 v9.1), .d (.int .i64 v9.2.1), .d (.int .i64 v9.2.2.1), .d (.int .i64 v9.2.2.2)])), (14, .b false), (19, .b true)] (fun _ f => o (dendronlaw07_Few.does h0) (o (valid_Used.does h1) (o (dendronlaw08_check.does h2) (o (ne_f h3) (o (bne_iff_ne.2 h4) f))))) (by kernel_rfl)
    · rw [if_neg h4] at h
      exact Til.mid Tryd.func5 9 [(3, ca (.agg [.d (.int .i64 v3.1), .d (L32 v3.2)])), (6, ca (.c (.d (L4 v6)))), (9, ca (.agg [.d (.int .i64 v9.1), .d (.int .i64 v9.2.1), .d (.int .i64 v9.2.2.1), .d (.int .i64 v9.2.2.2)])), (14, .b false), (19, .b false)] (fun _ f => o (dendronlaw07_Few.does h0) (o (valid_Used.does h1) (o (dendronlaw08_check.does h2) (o (ne_f h3) (o (ne_f h4) f))))) (by kernel_rfl) (ih.1 _ _ _ _ _ h)

def c24 (x : Int × List (List (Bool × Int × Bool × List Int × List Int × Int × Int × Bool × Bool × List Int × List Int × Bool × List Int × List Int))) : List Dat := [.int .i64 x.1, L32 x.2]
def L24 (xs : List (Int × List (List (Bool × Int × Bool × List Int × List Int × Int × Int × Bool × Bool × List Int × List Int × Bool × List Int × List Int)))) : Dat := fr 2 c24 (0, []) xs
def Z24 (xs : List (Int × List (List (Bool × Int × Bool × List Int × List Int × Int × Int × Bool × Bool × List Int × List Int × Bool × List Int × List Int)))) : Sup := .r xs.length (enc c24 (0, []) xs)
def O24 (k : RK) (xs : List (Int × List (List (Bool × Int × Bool × List Int × List Int × Int × Int × Bool × Bool × List Int × List Int × Bool × List Int × List Int)))) : Ob := .row k 24 2 xs.length (enc c24 (0, []) xs)

def c22 (x : List (List (Bool × Int × Bool × List Int × List Int × Int × Int × Bool × Bool × List Int × List Int × Bool × List Int × List Int))) : List Dat := [L32 x]
def L22 (xs : List (List (List (Bool × Int × Bool × List Int × List Int × Int × Int × Bool × Bool × List Int × List Int × Bool × List Int × List Int)))) : Dat := fr 1 c22 [] xs
def Z22 (xs : List (List (List (Bool × Int × Bool × List Int × List Int × Int × Int × Bool × Bool × List Int × List Int × Bool × List Int × List Int)))) : Sup := .r xs.length (enc c22 [] xs)
def O22 (k : RK) (xs : List (List (List (Bool × Int × Bool × List Int × List Int × Int × Int × Bool × Bool × List Int × List Int × Bool × List Int × List Int)))) : Ob := .row k 22 1 xs.length (enc c22 [] xs)

def c41 (x : Bool × List Int × List Int) : List Dat := [.bool x.1, L59 x.2.1, L59 x.2.2]
def L41 (xs : List (Bool × List Int × List Int)) : Dat := fr 3 c41 (false, [], []) xs
def Z41 (xs : List (Bool × List Int × List Int)) : Sup := .r xs.length (enc c41 (false, [], []) xs)
def O41 (k : RK) (xs : List (Bool × List Int × List Int)) : Ob := .row k 41 3 xs.length (enc c41 (false, [], []) xs)

def c39 (x : Bool × List Int) : List Dat := [.bool x.1, L59 x.2]
def L39 (xs : List (Bool × List Int)) : Dat := fr 2 c39 (false, []) xs
def Z39 (xs : List (Bool × List Int)) : Sup := .r xs.length (enc c39 (false, []) xs)
def O39 (k : RK) (xs : List (Bool × List Int)) : Ob := .row k 39 2 xs.length (enc c39 (false, []) xs)

def c37 (x : List Int) : List Dat := [L59 x]
def L37 (xs : List (List Int)) : Dat := fr 1 c37 [] xs
def Z37 (xs : List (List Int)) : Sup := .r xs.length (enc c37 [] xs)
def O37 (k : RK) (xs : List (List Int)) : Ob := .row k 37 1 xs.length (enc c37 [] xs)

end Go.DI
