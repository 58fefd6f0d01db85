/- The code of the functions does what is told of it, part 2. No condition. -/
import Derived.Test.YtigikpefcbcgkaaGreatDoorWFrontNews1
set_option linter.all false
namespace Go.DI
open Go Go.RowKit Go.Proofs
set_option linter.unusedVariables false
set_option maxRecDepth 20000
theorem model_line.does {k : Nat} {a0_0 : Bool} {a0_1 : Int} {a0_2 : Bool} {l0_3 : ZI} {l0_4 : ZI} {a0_5 : Int} {a0_6 : Int} {a0_7 : Bool} {a0_8 : Bool} {l0_9 : ZI} {l0_10 : ZI} {a0_11 : Bool} {l0_12 : ZI} {l0_13 : ZI} {r : ByteArray} (h : model_line.f k a0_0 a0_1 a0_2 l0_3 l0_4 a0_5 a0_6 a0_7 a0_8 l0_9 l0_10 a0_11 l0_12 l0_13 = some r) :
 Does Tryz.prog 41 [.agg [.d (.bool a0_0), .d (.int .i64 a0_1), .d (.bool a0_2), .d (L154 l0_3), .d (L154 l0_4), .d (.int .i64 a0_5), .d (.int .i64 a0_6), .d (.bool a0_7), .d (.bool a0_8), .d (L154 l0_9), .d (L154 l0_10), .d (.bool a0_11), .d (L154 l0_12), .d (L154 l0_13)]] [] (.c (.d (.str r))) none [] := by
 refine does_fn Tryz.func41 (by kernel_rfl) rfl rfl ?_
 unfold model_line.f at h
 by_cases h0 : a0_0 = true
 ·rw [if_pos h0] at h
  obtain ⟨v6, h1, h⟩ := bnd h
  obtain ⟨h2, h⟩ := ifp h
  obtain ⟨h3, h⟩ := ifp h
  obtain ⟨v11, h4, h⟩ := bnd h
  obtain ⟨h5, h⟩ := ifp h
  obtain rfl := zI h
  exact Til.fin Tryz.func41 [(3, .b true), (6, ca (.c (.d (.str v6)))), (11, ca (.c (.d (.str v11))))] (fun _ f => o h0 (o (ratio_Print.does h1) (o h2 (o h3 (o (ratio_Print.does h4) (o h5 f)))))) (by kernel_rfl)
 ·rw [if_neg h0] at h
  by_cases h1 : a0_7 = true
  ·rw [if_pos h1] at h
   obtain ⟨v10, h2, h⟩ := bnd h
   obtain ⟨v13, h3, h⟩ := bnd h
   obtain ⟨v16, h4, h⟩ := bnd h
   obtain ⟨v19, h5, h⟩ := bnd h
   obtain ⟨v23, h6, h⟩ := bnd h
   obtain ⟨v25, h7, h⟩ := bnd h
   obtain rfl := zI h
   exact Til.fin Tryz.func41 [(3, .b false), (6, .b true), (10, ca (.c (.d (.str v10)))), (13, ca (.c (.d (.str v13)))), (16, ca (.c (.d (.str v16)))), (19, ca (.c (.d (.str v19)))), (23, ca (.c (.d (.str v23)))), (24, Z9 ([(⟨#[115, 112, 108, 105, 116]⟩ : ByteArray), v10, v13, v16, v19, (⟨#[109, 105, 115, 115, 45, 108, 101, 102, 116]⟩ : ByteArray), v23] : List ByteArray)), (25, ca (.c (.d (.str v25))))] (fun _ f => o (Bool.eq_false_iff.2 h0) (o h1 (o (model_digits.does h2) (o (ratio_Print.does h3) (o (model_digits.does h4) (o (model_digits.does h5) (o (ratio_Print.does h6) (o (lit_ok c9 ByteArray.empty ([(⟨#[115, 112, 108, 105, 116]⟩ : ByteArray), v10, v13, v16, v19, (⟨#[109, 105, 115, 115, 45, 108, 101, 102, 116]⟩ : ByteArray), v23] : List ByteArray)) (o (strings_Join.does h7) f))))))))) (by kernel_rfl)
  ·rw [if_neg h1] at h
   obtain ⟨v9, h2, h⟩ := bnd h
   obtain ⟨v12, h3, h⟩ := bnd h
   obtain ⟨v15, h4, h⟩ := bnd h
   obtain ⟨v18, h5, h⟩ := bnd h
   obtain ⟨v22, h6, h⟩ := bnd h
   obtain ⟨v24, h7, h⟩ := bnd h
   obtain rfl := zI h
   exact Til.fin Tryz.func41 [(3, .b false), (6, .b false), (9, ca (.c (.d (.str v9)))), (12, ca (.c (.d (.str v12)))), (15, ca (.c (.d (.str v15)))), (18, ca (.c (.d (.str v18)))), (22, ca (.c (.d (.str v22)))), (23, Z9 ([(⟨#[115, 112, 108, 105, 116]⟩ : ByteArray), v9, v12, v15, v18, (⟨#[109, 105, 115, 115, 45, 114, 105, 103, 104, 116]⟩ : ByteArray), v22] : List ByteArray)), (24, ca (.c (.d (.str v24))))] (fun _ f => o (Bool.eq_false_iff.2 h0) (o (Bool.eq_false_iff.2 h1) (o (model_digits.does h2) (o (ratio_Print.does h3) (o (model_digits.does h4) (o (model_digits.does h5) (o (ratio_Print.does h6) (o (lit_ok c9 ByteArray.empty ([(⟨#[115, 112, 108, 105, 116]⟩ : ByteArray), v9, v12, v15, v18, (⟨#[109, 105, 115, 115, 45, 114, 105, 103, 104, 116]⟩ : ByteArray), v22] : List ByteArray)) (o (strings_Join.does h7) f))))))))) (by kernel_rfl)

def model_Write.l0E (x25 : ZLLN) (x26 : Int) (x27 : Int) (b4 : ByteArray) : Env := [(4, .c (.ptr 4 0)), (25, .c (.d (L101 x25))), (26, .c (.d (.int .i64 x26))), (27, .c (.d (.int .i64 x27)))]
def model_Write.l0B (x25 : ZLLN) (x26 : Int) (x27 : Int) (b4 : ByteArray) : Obs := [(4, some (.bld b4))]
def model_Write.l1E (x25 : ZLLN) (x26 : Int) (x27 : Int) (x37 : ZLN) (x38 : Int) (x39 : Int) (b4 : ByteArray) : Env := [(4, .c (.ptr 4 0)), (25, .c (.d (L101 x25))), (26, .c (.d (.int .i64 x26))), (27, .c (.d (.int .i64 x27))), (37, .c (.d (L103 x37))), (38, .c (.d (.int .i64 x38))), (39, .c (.d (.int .i64 x39)))]
def model_Write.l1B (x25 : ZLLN) (x26 : Int) (x27 : Int) (x37 : ZLN) (x38 : Int) (x39 : Int) (b4 : ByteArray) : Obs := [(4, some (.bld b4))]
theorem model_Write.w (k : Nat) : (∀  (x25 : ZLLN) (x26 : Int) (x27 : Int) (b4 : ByteArray) (r : ByteArray × Int), model_Write.l0 k x25 x26 x27 b4 = some r -> Til Tryz.prog 17 [] (.tup [.c (.d (.str r.1)), .c (.d (.int .i64 r.2))]) none [] (at_ Tryz.f17 6) (model_Write.l0E x25 x26 x27 b4) (model_Write.l0B x25 x26 x27 b4)) /\
 (∀  (x25 : ZLLN) (x26 : Int) (x27 : Int) (x37 : ZLN) (x38 : Int) (x39 : Int) (b4 : ByteArray) (r : ByteArray × Int), model_Write.l1 k x25 x26 x27 x37 x38 x39 b4 = some r -> Til Tryz.prog 17 [] (.tup [.c (.d (.str r.1)), .c (.d (.int .i64 r.2))]) none [] (at_ Tryz.f17 10) (model_Write.l1E x25 x26 x27 x37 x38 x39 b4) (model_Write.l1B x25 x26 x27 x37 x38 x39 b4)) := by
 induction k with
 | zero =>
  exact ⟨fun _ _ _ _ _ h => (by cases h), fun _ _ _ _ _ _ _ _ h => (by cases h)⟩
 | succ k ih =>
  refine ⟨?_, ?_⟩
  ·intro x25 x26 x27 b4 r h
   rw [model_Write.l0] at h
   by_cases h0 : x27 < x26
   ·rw [if_pos h0] at h
    obtain ⟨h1, h⟩ := ifp h
    obtain ⟨h2, h⟩ := ifp h
    obtain ⟨v6, h3, h⟩ := bnd h
    obtain ⟨h4, h⟩ := ifp h
    obtain ⟨h5, h⟩ := ifp h
    obtain ⟨v9, h6, h⟩ := bnd h
    exact Til.mid Tryz.func17 10 [(0, .b true), (6, ca (.c (.d (.str v6)))), (9, .call [] [0] (.c (.u)) none [(0, some (.bld v9))] [])] (fun _ f => o (zT h0) (o (o h1 h2) (o (model_digits.does h3) (o h4 (o h5 (o (strings_Builder_WriteString.does h6) f)))))) (by kernel_rfl) (ih.2 _ _ _ _ _ _ _ _ h)
   ·rw [if_neg h0] at h
    obtain ⟨v1, h1, h⟩ := bnd h
    obtain ⟨v2, h2, h⟩ := bnd h
    obtain rfl := zI h
    exact Til.fin Tryz.func17 [(0, .b false), (1, .call [] [0] (.c (.u)) none [(0, some (.bld v1))] []), (2, .call [] [0] (.c (.d (.str v2.1))) none [(0, some (.bld v2.2))] [])] (fun _ f => o (zF h0) (o (strings_Builder_WriteString.does h1) (o (strings_Builder_String.does h2) f))) (by kernel_rfl)
  ·intro x25 x26 x27 x37 x38 x39 b4 r h
   rw [model_Write.l1] at h
   by_cases h0 : x39 < x38
   ·rw [if_pos h0] at h
    obtain ⟨h1, h⟩ := ifp h
    obtain ⟨h2, h⟩ := ifp h
    obtain ⟨v6, h3, h⟩ := bnd h
    obtain ⟨h4, h⟩ := ifp h
    obtain ⟨v8, h5, h⟩ := bnd h
    exact Til.mid Tryz.func17 10 [(0, .b true), (6, ca (.c (.d (.str v6)))), (8, .call [] [0] (.c (.u)) none [(0, some (.bld v8))] [])] (fun _ f => o (zT h0) (o (o h1 h2) (o (model_line.does h3) (o h4 (o (strings_Builder_WriteString.does h5) f))))) (by kernel_rfl) (ih.2 _ _ _ _ _ _ _ _ h)
   ·rw [if_neg h0] at h
    exact Til.mid Tryz.func17 6 [(0, .b false)] (fun _ f => o (zF h0) f) (by kernel_rfl) (ih.1 _ _ _ _ _ h)
theorem model_Write.does {k : Nat} {a0_0 : Int} {l0_1 : ZLLN} {r : ByteArray × Int} (h : model_Write.f k a0_0 l0_1 = some r) :
 Does Tryz.prog 17 [.agg [.d (.int .i64 a0_0), .d (L101 l0_1)]] [] (.tup [.c (.d (.str r.1)), .c (.d (.int .i64 r.2))]) none [] := by
 refine does_fn Tryz.func17 (by kernel_rfl) rfl rfl ?_
 unfold model_Write.f at h
 have ih := model_Write.w k
 obtain ⟨v4, h0, h⟩ := bnd h
 cases v4
 ·rw [if_neg (by decide)] at h
  obtain rfl := zI h
  exact Til.fin Tryz.func17 [(4, ca (.c (.d (.bool false))))] (fun _ f => o (model_Fits.does h0) f) (by kernel_rfl)
 ·rw [if_pos rfl] at h
  obtain ⟨v9, h2, h⟩ := bnd h
  obtain ⟨h3, h⟩ := ifp h
  obtain ⟨h4, h⟩ := ifp h
  obtain ⟨v15, h5, h⟩ := bnd h
  obtain ⟨h6, h⟩ := ifp h
  obtain ⟨h7, h⟩ := ifp h
  obtain ⟨v18, h8, h⟩ := bnd h
  exact Til.mid Tryz.func17 6 [(4, ca (.c (.d (.bool true)))), (9, ca (.c (.d (.str v9)))), (15, ca (.c (.d (.str v15)))), (18, .call [] [0] (.c (.u)) none [(0, some (.bld v18))] [])] (fun _ f => o (model_Fits.does h0) (o (model_digits.does h2) (o h3 (o h4 (o (model_digits.does h5) (o h6 (o h7 (o (strings_Builder_WriteString.does h8) f)))))))) (by kernel_rfl) (ih.1 _ _ _ _ _ h)

theorem limit_Default.does  {r : Int × Int × Int × Int} (h : limit_Default.f  = some r) :
 Does Tryz.prog 13 [] [] (.agg [.d (.int .i64 r.1), .d (.int .i64 r.2.1), .d (.int .i64 r.2.2.1), .d (.int .i64 r.2.2.2)]) none [] := by
 refine does_fn Tryz.func13 (by kernel_rfl) rfl rfl ?_
 unfold limit_Default.f at h
 obtain rfl := zI h
 exact Til.fin Tryz.func13 [] (fun _ f => f) (by kernel_rfl)

theorem valid_Ok.does {k : Nat} {a0_0 : Int} {l0_1 : ZLLN} {r : Bool} (h : valid_Ok.f k a0_0 l0_1 = some r) :
 Does Tryz.prog 44 [.agg [.d (.int .i64 a0_0), .d (L101 l0_1)]] [] (.c (.d (.bool r))) none [] := by
 refine does_fn Tryz.func44 (by kernel_rfl) rfl rfl ?_
 unfold valid_Ok.f at h
 obtain ⟨v3, h0, h⟩ := bnd h
 obtain rfl := zI h
 exact Til.fin Tryz.func44 [(3, ca (.agg [.d (.int .i64 v3.1), .d (.int .i64 v3.2.1), .d (.int .i64 v3.2.2.1), .d (.int .i64 v3.2.2.2)]))] (fun _ f => o (valid_Check.does h0) f) (by kernel_rfl)

def c77 (x : ZC) : List Dat := [.bool x.1, .bool x.2.1, L154 x.2.2.1, L154 x.2.2.2]
def L77 (xs : ZLC) : Dat := fr 4 c77 (false, false, [], []) xs
def Z77 (xs : ZLC) : Sup := .r xs.length (enc c77 (false, false, [], []) xs)
def O77 (k : RK) (xs : ZLC) : Ob := .row k 77 4 xs.length (enc c77 (false, false, [], []) xs)

theorem route_fits.does {k : Nat} {a0_0 : Int} {l0_1 : ZLLN} {l1 : ZLC} {r : Int} (h : route_fits.f k a0_0 l0_1 l1 = some r) :
 Does Tryz.prog 165 [.agg [.d (.int .i64 a0_0), .d (L101 l0_1)], .c (.d (L77 l1))] [] (.c (.d (.int .i64 r))) none [] := by
 refine does_fn Tryz.func165 (by kernel_rfl) rfl rfl ?_
 unfold route_fits.f at h
 obtain ⟨v3, h0, h⟩ := bnd h
 cases v3
 ·rw [if_neg (by decide)] at h
  obtain rfl := zI h
  exact Til.fin Tryz.func165 [(3, ca (.c (.d (.bool false))))] (fun _ f => o (valid_Ok.does h0) f) (by kernel_rfl)
 ·rw [if_pos rfl] at h
  by_cases h2 : (l1.length : Int) ≠ a0_0
  ·rw [if_pos h2] at h
   obtain rfl := zI h
   exact Til.fin Tryz.func165 [(3, ca (.c (.d (.bool true)))), (9, .b true)] (fun _ f => o (valid_Ok.does h0) (o (bne_iff_ne.2 h2) f)) (by kernel_rfl)
  ·rw [if_neg h2] at h
   obtain rfl := zI h
   exact Til.fin Tryz.func165 [(3, ca (.c (.d (.bool true)))), (9, .b false)] (fun _ f => o (valid_Ok.does h0) (o (ne_f h2) f)) (by kernel_rfl)

theorem route_Fits.does {k : Nat} {a0_0 : Int} {l0_1 : ZLLN} {l1 : ZLC} {r : Int} (h : route_Fits.f k a0_0 l0_1 l1 = some r) :
 Does Tryz.prog 168 [.agg [.d (.int .i64 a0_0), .d (L101 l0_1)], .c (.d (L77 l1))] [] (.c (.d (.int .i64 r))) none [] := by
 refine does_fn Tryz.func168 (by kernel_rfl) rfl rfl ?_
 unfold route_Fits.f at h
 obtain ⟨v4, h0, h⟩ := bnd h
 obtain rfl := zI h
 exact Til.fin Tryz.func168 [(4, ca (.c (.d (.int .i64 v4))))] (fun _ f => o (route_fits.does h0) f) (by kernel_rfl)

def expect_Value.l0E (x1 : ZLC) (x2 : Int) (x21 : ZLLN) (x22 : Int) (x23 : Int) (b6_0 : Bool) (b9_0 : Bool) (b9_1 : ZI) (b9_2 : ZI) : Env := [(1, .c (.d (L77 x1))), (2, .c (.d (.int .u64 x2))), (6, .c (.ptr 6 0)), (9, .c (.ptr 9 0)), (21, .c (.d (L101 x21))), (22, .c (.d (.int .i64 x22))), (23, .c (.d (.int .i64 x23)))]
def expect_Value.l0B (x1 : ZLC) (x2 : Int) (x21 : ZLLN) (x22 : Int) (x23 : Int) (b6_0 : Bool) (b9_0 : Bool) (b9_1 : ZI) (b9_2 : ZI) : Obs := [(6, some (.box [.d (.bool b6_0), .nils, .nils])), (9, some (.box [.d (.bool b9_0), .d (L154 b9_1), .d (L154 b9_2)]))]
theorem expect_Value.w (k : Nat) : (∀  (x1 : ZLC) (x2 : Int) (x21 : ZLLN) (x22 : Int) (x23 : Int) (b6_0 : Bool) (b9_0 : Bool) (b9_1 : ZI) (b9_2 : ZI) (r : Bool × ZI × ZI × Int), expect_Value.l0 k x1 x2 x21 x22 x23 b6_0 b9_0 b9_1 b9_2 = some r -> Til Tryz.prog 167 [] (.tup [.agg [.d (.bool r.1), .d (L154 r.2.1), .d (L154 r.2.2.1)], .c (.d (.int .i64 r.2.2.2))]) none [] (at_ Tryz.f167 6) (expect_Value.l0E x1 x2 x21 x22 x23 b6_0 b9_0 b9_1 b9_2) (expect_Value.l0B x1 x2 x21 x22 x23 b6_0 b9_0 b9_1 b9_2)) := by
 induction k with
 | zero =>
  exact fun _ _ _ _ _ _ _ _ _ _ h => (by cases h)
 | succ k ih =>
  intro x1 x2 x21 x22 x23 b6_0 b9_0 b9_1 b9_2 r h
  rw [expect_Value.l0] at h
  by_cases h0 : x23 < x22
  ·rw [if_pos h0] at h
   cases h
  ·rw [if_neg h0] at h
   obtain rfl := zI h
   exact Til.fin Tryz.func167 [(0, .b false)] (fun _ f => o (zF h0) f) (by kernel_rfl)
theorem expect_Value.does {k : Nat} {a0_0 : Int} {l0_1 : ZLLN} {l1 : ZLC} {a2 : Int} {r : Bool × ZI × ZI × Int} (h : expect_Value.f k a0_0 l0_1 l1 a2 = some r) :
 Does Tryz.prog 167 [.agg [.d (.int .i64 a0_0), .d (L101 l0_1)], .c (.d (L77 l1)), .c (.d (.int .u64 a2))] [] (.tup [.agg [.d (.bool r.1), .d (L154 r.2.1), .d (L154 r.2.2.1)], .c (.d (.int .i64 r.2.2.2))]) none [] := by
 refine does_fn Tryz.func167 (by kernel_rfl) rfl rfl ?_
 unfold expect_Value.f at h
 have ih := expect_Value.w k
 obtain ⟨v5, h0, h⟩ := bnd h
 by_cases h1 : v5 ≠ 0
 ·rw [if_pos h1] at h
  obtain rfl := zI h
  exact Til.fin Tryz.func167 [(5, ca (.c (.d (.int .i64 v5)))), (8, .b true)] (fun _ f => o (route_Fits.does h0) (o (bne_iff_ne.2 h1) f)) (by kernel_rfl)
 ·rw [if_neg h1] at h
  obtain ⟨v9, h2, h⟩ := bnd h
  exact Til.mid Tryz.func167 6 [(5, ca (.c (.d (.int .i64 v5)))), (8, .b false), (9, ca (.agg [.d (.bool v9.1), .d (L154 v9.2.1), .d (L154 v9.2.2)]))] (fun _ f => o (route_Fits.does h0) (o (ne_f h1) (o (ratio_Zero.does h2) f))) (by kernel_rfl) (ih _ _ _ _ _ _ _ _ _ _ h)

theorem expect_Base.does {k : Nat} {a0_0 : Int} {l0_1 : ZLLN} {r : Bool × ZI × ZI × Int} (h : expect_Base.f k a0_0 l0_1 = some r) :
 Does Tryz.prog 109 [.agg [.d (.int .i64 a0_0), .d (L101 l0_1)]] [] (.tup [.agg [.d (.bool r.1), .d (L154 r.2.1), .d (L154 r.2.2.1)], .c (.d (.int .i64 r.2.2.2))]) none [] := by
 refine does_fn Tryz.func109 (by kernel_rfl) rfl rfl ?_
 unfold expect_Base.f at h
 obtain ⟨v4, h0, h⟩ := bnd h
 cases v4
 ·rw [if_neg (by decide)] at h
  obtain rfl := zI h
  exact Til.fin Tryz.func109 [(4, ca (.c (.d (.bool false))))] (fun _ f => o (valid_Ok.does h0) f) (by kernel_rfl)
 ·rw [if_pos rfl] at h
  obtain ⟨h2, h⟩ := ifp h
  obtain ⟨h3, h⟩ := ifp h
  obtain ⟨v10, h4, h⟩ := bnd h
  obtain rfl := zI h
  exact Til.fin Tryz.func109 [(4, ca (.c (.d (.bool true)))), (9, Z77 (List.replicate ((a0_0 : Int).toNat) (false, false, [], []) : ZLC)), (10, ca (.tup [.agg [.d (.bool v10.1), .d (L154 v10.2.1), .d (L154 v10.2.2.1)], .c (.d (.int .i64 v10.2.2.2))]))] (fun _ f => o (valid_Ok.does h0) (o (make_ok c77 (false, false, [], []) [.bool false, .bool false, .fro 0 0 fun _ => [], .fro 0 0 fun _ => []] ⟨.refl _, ⟨.refl _, ⟨.nil _ _ _ _, ⟨.nil _ _ _ _, trivial⟩⟩⟩⟩ a0_0 64 4398046511104 (by decide) h2 h3) (o (expect_Value.does h4) f))) (by kernel_rfl)

def c71 (x : ZQ) : List Dat := [.bool x.1, L154 x.2.1, L154 x.2.2]
def L71 (xs : ZLQ) : Dat := fr 3 c71 (false, [], []) xs
def Z71 (xs : ZLQ) : Sup := .r xs.length (enc c71 (false, [], []) xs)
def O71 (k : RK) (xs : ZLQ) : Ob := .row k 71 3 xs.length (enc c71 (false, [], []) xs)

def c75 (x : ZLQ) : List Dat := [L71 x]
def L75 (xs : ZLLQ) : Dat := fr 1 c75 [] xs
def Z75 (xs : ZLLQ) : Sup := .r xs.length (enc c75 [] xs)
def O75 (k : RK) (xs : ZLLQ) : Ob := .row k 75 1 xs.length (enc c75 [] xs)

theorem front_single.does {a0_0 : Bool} {l0_1 : ZI} {l0_2 : ZI} {a1 : Int} {r : ZLLQ × Int} (h : front_single.f a0_0 l0_1 l0_2 a1 = some r) :
 Does Tryz.prog 107 [.agg [.d (.bool a0_0), .d (L154 l0_1), .d (L154 l0_2)], .c (.d (.int .i64 a1))] [] (.tup [.c (.d (L75 r.1)), .c (.d (.int .i64 r.2))]) none [] := by
 refine does_fn Tryz.func107 (by kernel_rfl) rfl rfl ?_
 unfold front_single.f at h
 by_cases h0 : a1 ≠ 0
 ·rw [if_pos h0] at h
  obtain rfl := zI h
  exact Til.fin Tryz.func107 [(4, .b true)] (fun _ f => o (bne_iff_ne.2 h0) f) (by kernel_rfl)
 ·rw [if_neg h0] at h
  obtain rfl := zI h
  exact Til.fin Tryz.func107 [(4, .b false), (6, Z71 ([(a0_0, l0_1, l0_2)] : ZLQ)), (7, Z75 ([([(a0_0, l0_1, l0_2)] : ZLQ)] : ZLLQ))] (fun _ f => o (ne_f h0) (o (lit_ok c71 (false, [], []) ([(a0_0, l0_1, l0_2)] : ZLQ)) (o (lit_ok c75 [] ([([(a0_0, l0_1, l0_2)] : ZLQ)] : ZLLQ)) f))) (by kernel_rfl)

theorem ask_word.does {a0 : Int} {r : ByteArray} (h : ask_word.f a0 = some r) :
 Does Tryz.prog 105 [.c (.d (.int .i64 a0))] [] (.c (.d (.str r))) none [] := by
 refine does_fn Tryz.func105 (by kernel_rfl) rfl rfl ?_
 unfold ask_word.f at h
 by_cases h0 : a0 = 1
 ·rw [if_pos h0] at h
  obtain rfl := zI h
  exact Til.fin Tryz.func105 [(2, .b true)] (fun _ f => o (beq_iff_eq.2 h0) f) (by kernel_rfl)
 ·rw [if_neg h0] at h
  by_cases h1 : a0 = 2
  ·rw [if_pos h1] at h
   obtain rfl := zI h
   exact Til.fin Tryz.func105 [(2, .b false), (4, .b true)] (fun _ f => o (zB h0) (o (beq_iff_eq.2 h1) f)) (by kernel_rfl)
  ·rw [if_neg h1] at h
   by_cases h2 : a0 = 3
   ·rw [if_pos h2] at h
    obtain rfl := zI h
    exact Til.fin Tryz.func105 [(2, .b false), (4, .b false), (6, .b true)] (fun _ f => o (zB h0) (o (zB h1) (o (beq_iff_eq.2 h2) f))) (by kernel_rfl)
   ·rw [if_neg h2] at h
    by_cases h3 : a0 = 4
    ·rw [if_pos h3] at h
     obtain rfl := zI h
     exact Til.fin Tryz.func105 [(2, .b false), (4, .b false), (6, .b false), (8, .b true)] (fun _ f => o (zB h0) (o (zB h1) (o (zB h2) (o (beq_iff_eq.2 h3) f)))) (by kernel_rfl)
    ·rw [if_neg h3] at h
     by_cases h4 : a0 = 5
     ·rw [if_pos h4] at h
      obtain rfl := zI h
      exact Til.fin Tryz.func105 [(2, .b false), (4, .b false), (6, .b false), (8, .b false), (10, .b true)] (fun _ f => o (zB h0) (o (zB h1) (o (zB h2) (o (zB h3) (o (beq_iff_eq.2 h4) f))))) (by kernel_rfl)
     ·rw [if_neg h4] at h
      by_cases h5 : a0 = 6
      ·rw [if_pos h5] at h
       obtain rfl := zI h
       exact Til.fin Tryz.func105 [(2, .b false), (4, .b false), (6, .b false), (8, .b false), (10, .b false), (12, .b true)] (fun _ f => o (zB h0) (o (zB h1) (o (zB h2) (o (zB h3) (o (zB h4) (o (beq_iff_eq.2 h5) f)))))) (by kernel_rfl)
      ·rw [if_neg h5] at h
       by_cases h6 : a0 = 7
       ·rw [if_pos h6] at h
        obtain rfl := zI h
        exact Til.fin Tryz.func105 [(2, .b false), (4, .b false), (6, .b false), (8, .b false), (10, .b false), (12, .b false), (14, .b true)] (fun _ f => o (zB h0) (o (zB h1) (o (zB h2) (o (zB h3) (o (zB h4) (o (zB h5) (o (beq_iff_eq.2 h6) f))))))) (by kernel_rfl)
       ·rw [if_neg h6] at h
        by_cases h7 : a0 = 8
        ·rw [if_pos h7] at h
         obtain rfl := zI h
         exact Til.fin Tryz.func105 [(2, .b false), (4, .b false), (6, .b false), (8, .b false), (10, .b false), (12, .b false), (14, .b false), (16, .b true)] (fun _ f => o (zB h0) (o (zB h1) (o (zB h2) (o (zB h3) (o (zB h4) (o (zB h5) (o (zB h6) (o (beq_iff_eq.2 h7) f)))))))) (by kernel_rfl)
        ·rw [if_neg h7] at h
         by_cases h8 : a0 = 9
         ·rw [if_pos h8] at h
          obtain rfl := zI h
          exact Til.fin Tryz.func105 [(2, .b false), (4, .b false), (6, .b false), (8, .b false), (10, .b false), (12, .b false), (14, .b false), (16, .b false), (18, .b true)] (fun _ f => o (zB h0) (o (zB h1) (o (zB h2) (o (zB h3) (o (zB h4) (o (zB h5) (o (zB h6) (o (zB h7) (o (beq_iff_eq.2 h8) f))))))))) (by kernel_rfl)
         ·rw [if_neg h8] at h
          obtain rfl := zI h
          exact Til.fin Tryz.func105 [(2, .b false), (4, .b false), (6, .b false), (8, .b false), (10, .b false), (12, .b false), (14, .b false), (16, .b false), (18, .b false)] (fun _ f => o (zB h0) (o (zB h1) (o (zB h2) (o (zB h3) (o (zB h4) (o (zB h5) (o (zB h6) (o (zB h7) (o (zB h8) f))))))))) (by kernel_rfl)

theorem ask_Word.does {a0 : Int} {r : ByteArray} (h : ask_Word.f a0 = some r) :
 Does Tryz.prog 55 [.c (.d (.int .i64 a0))] [] (.c (.d (.str r))) none [] := by
 refine does_fn Tryz.func55 (by kernel_rfl) rfl rfl ?_
 unfold ask_Word.f at h
 obtain ⟨v2, h0, h⟩ := bnd h
 obtain rfl := zI h
 exact Til.fin Tryz.func55 [(2, ca (.c (.d (.str v2))))] (fun _ f => o (ask_word.does h0) f) (by kernel_rfl)

def limit_cells.l0E (x1 : Int) (x7 : ZLC) (x8 : Int) (x9 : Int) : Env := [(1, .c (.d (.int .i64 x1))), (7, .c (.d (L77 x7))), (8, .c (.d (.int .i64 x8))), (9, .c (.d (.int .i64 x9)))]
theorem limit_cells.w (k : Nat) : (∀  (x1 : Int) (x7 : ZLC) (x8 : Int) (x9 : Int) (r : Bool), limit_cells.l0 k x1 x7 x8 x9 = some r -> Til Tryz.prog 106 [] (.c (.d (.bool r))) none [] (at_ Tryz.f106 2) (limit_cells.l0E x1 x7 x8 x9) []) := by
 induction k with
 | zero =>
  exact fun _ _ _ _ _ h => (by cases h)
 | succ k ih =>
  intro x1 x7 x8 x9 r h
  rw [limit_cells.l0] at h
  by_cases h0 : x9 < x8
  ·rw [if_pos h0] at h
   obtain ⟨h1, h⟩ := ifp h
   obtain ⟨h2, h⟩ := ifp h
   by_cases h3 : ((gt (false, false, [], []) x7 x9).1) = true
   ·rw [if_pos h3] at h
    exact Til.mid Tryz.func106 2 [(0, .b true), (6, .b true)] (fun _ f => o (zT h0) (o (o h1 h2) (o h3 f))) (by kernel_rfl) (ih _ _ _ _ _ h)
   ·rw [if_neg h3] at h
    cases h
  ·rw [if_neg h0] at h
   obtain rfl := zI h
   exact Til.fin Tryz.func106 [(0, .b false)] (fun _ f => o (zF h0) f) (by kernel_rfl)
theorem limit_cells.does {k : Nat} {l0 : ZLC} {a1 : Int} {r : Bool} (h : limit_cells.f k l0 a1 = some r) :
 Does Tryz.prog 106 [.c (.d (L77 l0)), .c (.d (.int .i64 a1))] [] (.c (.d (.bool r))) none [] := by
 refine does_fn Tryz.func106 (by kernel_rfl) rfl rfl ?_
 unfold limit_cells.f at h
 have ih := limit_cells.w k
 exact Til.mid Tryz.func106 2 [] (fun _ f => f) (by kernel_rfl) (ih _ _ _ _ _ h)

def c62 (x : ZLC) : List Dat := [L77 x]
def L62 (xs : ZLLC) : Dat := fr 1 c62 [] xs
def Z62 (xs : ZLLC) : Sup := .r xs.length (enc c62 [] xs)
def O62 (k : RK) (xs : ZLLC) : Ob := .row k 62 1 xs.length (enc c62 [] xs)

def limit_Check.l0E (x41 : ZLLC) (x42 : Int) (x43 : Int) (b2_0 : Int) (b2_1 : Int) (b2_2 : Int) (b2_3 : Int) : Env := [(2, .c (.ptr 2 0)), (41, .c (.d (L62 x41))), (42, .c (.d (.int .i64 x42))), (43, .c (.d (.int .i64 x43)))]
def limit_Check.l0B (x41 : ZLLC) (x42 : Int) (x43 : Int) (b2_0 : Int) (b2_1 : Int) (b2_2 : Int) (b2_3 : Int) : Obs := [(2, some (.box [.d (.int .i64 b2_0), .d (.int .i64 b2_1), .d (.int .i64 b2_2), .d (.int .i64 b2_3)]))]
theorem limit_Check.w (k : Nat) : (∀  (x41 : ZLLC) (x42 : Int) (x43 : Int) (b2_0 : Int) (b2_1 : Int) (b2_2 : Int) (b2_3 : Int) (r : Int), limit_Check.l0 k x41 x42 x43 b2_0 b2_1 b2_2 b2_3 = some r -> Til Tryz.prog 56 [] (.c (.d (.int .i64 r))) none [] (at_ Tryz.f56 6) (limit_Check.l0E x41 x42 x43 b2_0 b2_1 b2_2 b2_3) (limit_Check.l0B x41 x42 x43 b2_0 b2_1 b2_2 b2_3)) := by
 induction k with
 | zero =>
  exact fun _ _ _ _ _ _ _ _ h => (by cases h)
 | succ k ih =>
  intro x41 x42 x43 b2_0 b2_1 b2_2 b2_3 r h
  rw [limit_Check.l0] at h
  by_cases h0 : x43 < x42
  ·rw [if_pos h0] at h
   obtain ⟨h1, h⟩ := ifp h
   obtain ⟨h2, h⟩ := ifp h
   obtain ⟨v7, h3, h⟩ := bnd h
   cases v7
   ·rw [if_neg (by decide)] at h
    obtain rfl := zI h
    exact Til.fin Tryz.func56 [(0, .b true), (7, ca (.c (.d (.bool false))))] (fun _ f => o (zT h0) (o (o h1 h2) (o (limit_cells.does h3) f))) (by kernel_rfl)
   ·rw [if_pos rfl] at h
    exact Til.mid Tryz.func56 6 [(0, .b true), (7, ca (.c (.d (.bool true))))] (fun _ f => o (zT h0) (o (o h1 h2) (o (limit_cells.does h3) f))) (by kernel_rfl) (ih _ _ _ _ _ _ _ _ h)
  ·rw [if_neg h0] at h
   obtain rfl := zI h
   exact Til.fin Tryz.func56 [(0, .b false)] (fun _ f => o (zF h0) f) (by kernel_rfl)
theorem limit_Check.does {k : Nat} {a0_0 : Int} {a0_1 : Int} {a0_2 : Int} {a0_3 : Int} {a1_0 : Int} {a1_1 : Int} {l1_2 : ZLC} {l1_3 : ZLLC} {l1_4 : ZLC} {r : Int} (h : limit_Check.f k a0_0 a0_1 a0_2 a0_3 a1_0 a1_1 l1_2 l1_3 l1_4 = some r) :
 Does Tryz.prog 56 [.agg [.d (.int .i64 a0_0), .d (.int .i64 a0_1), .d (.int .i64 a0_2), .d (.int .i64 a0_3)], .agg [.d (.int .i64 a1_0), .d (.int .i64 a1_1), .d (L77 l1_2), .d (L62 l1_3), .d (L77 l1_4)]] [] (.c (.d (.int .i64 r))) none [] := by
 refine does_fn Tryz.func56 (by kernel_rfl) rfl rfl ?_
 unfold limit_Check.f at h
 have ih := limit_Check.w k
 obtain ⟨v4, h0, h⟩ := bnd h
 cases v4
 ·rw [if_neg (by decide)] at h
  obtain rfl := zI h
  exact Til.fin Tryz.func56 [(4, ca (.c (.d (.bool false))))] (fun _ f => o (limit_Right.does h0) f) (by kernel_rfl)
 ·rw [if_pos rfl] at h
  by_cases h2 : (l1_3.length : Int) > a0_1
  ·rw [if_pos h2] at h
   obtain rfl := zI h
   exact Til.fin Tryz.func56 [(4, ca (.c (.d (.bool true)))), (11, .b true)] (fun _ f => o (limit_Right.does h0) (o (zT h2) f)) (by kernel_rfl)
  ·rw [if_neg h2] at h
   by_cases h3 : (l1_4.length : Int) > a0_2
   ·rw [if_pos h3] at h
    obtain rfl := zI h
    exact Til.fin Tryz.func56 [(4, ca (.c (.d (.bool true)))), (11, .b false), (18, .b true)] (fun _ f => o (limit_Right.does h0) (o (zF h2) (o (zT h3) f))) (by kernel_rfl)
   ·rw [if_neg h3] at h
    obtain ⟨v25, h4, h⟩ := bnd h
    cases v25
    ·rw [if_neg (by decide)] at h
     obtain rfl := zI h
     exact Til.fin Tryz.func56 [(4, ca (.c (.d (.bool true)))), (11, .b false), (18, .b false), (25, ca (.c (.d (.bool false))))] (fun _ f => o (limit_Right.does h0) (o (zF h2) (o (zF h3) (o (limit_cells.does h4) f)))) (by kernel_rfl)
    ·rw [if_pos rfl] at h
     obtain ⟨v33, h6, h⟩ := bnd h
     cases v33
     ·rw [if_neg (by decide)] at h
      obtain rfl := zI h
      exact Til.fin Tryz.func56 [(4, ca (.c (.d (.bool true)))), (11, .b false), (18, .b false), (25, ca (.c (.d (.bool true)))), (33, ca (.c (.d (.bool false))))] (fun _ f => o (limit_Right.does h0) (o (zF h2) (o (zF h3) (o (limit_cells.does h4) (o (limit_cells.does h6) f))))) (by kernel_rfl)
     ·rw [if_pos rfl] at h
      exact Til.mid Tryz.func56 6 [(4, ca (.c (.d (.bool true)))), (11, .b false), (18, .b false), (25, ca (.c (.d (.bool true)))), (33, ca (.c (.d (.bool true))))] (fun _ f => o (limit_Right.does h0) (o (zF h2) (o (zF h3) (o (limit_cells.does h4) (o (limit_cells.does h6) f))))) (by kernel_rfl) (ih _ _ _ _ _ _ _ _ h)

theorem ask_Kind.does {a0 : ByteArray} {r : Int} (h : ask_Kind.f a0 = some r) :
 Does Tryz.prog 83 [.c (.d (.str a0))] [] (.c (.d (.int .i64 r))) none [] := by
 obtain rfl := zI h
 exact kind_of (fun k h1 h2 => ask_word.does (wd_word k h1 h2)) a0

theorem ask_form.does {a0 : Int} {r : Int} (h : ask_form.f a0 = some r) :
 Does Tryz.prog 141 [.c (.d (.int .i64 a0))] [] (.c (.d (.int .i64 r))) none [] := by
 refine does_fn Tryz.func141 (by kernel_rfl) rfl rfl ?_
 unfold ask_form.f at h
 by_cases h0 : a0 = 1
 ·rw [if_pos h0] at h
  obtain rfl := zI h
  exact Til.fin Tryz.func141 [(2, .b true)] (fun _ f => o (beq_iff_eq.2 h0) f) (by kernel_rfl)
 ·rw [if_neg h0] at h
  by_cases h1 : a0 = 3
  ·rw [if_pos h1] at h
   obtain rfl := zI h
   exact Til.fin Tryz.func141 [(2, .b false), (4, .b true)] (fun _ f => o (zB h0) (o (beq_iff_eq.2 h1) f)) (by kernel_rfl)
  ·rw [if_neg h1] at h
   by_cases h2 : a0 = 5
   ·rw [if_pos h2] at h
    obtain rfl := zI h
    exact Til.fin Tryz.func141 [(2, .b false), (4, .b false), (6, .b true)] (fun _ f => o (zB h0) (o (zB h1) (o (beq_iff_eq.2 h2) f))) (by kernel_rfl)
   ·rw [if_neg h2] at h
    by_cases h3 : a0 = 6
    ·rw [if_pos h3] at h
     obtain rfl := zI h
     exact Til.fin Tryz.func141 [(2, .b false), (4, .b false), (6, .b false), (8, .b true)] (fun _ f => o (zB h0) (o (zB h1) (o (zB h2) (o (beq_iff_eq.2 h3) f)))) (by kernel_rfl)
    ·rw [if_neg h3] at h
     by_cases h4 : a0 = 4
     ·rw [if_pos h4] at h
      obtain rfl := zI h
      exact Til.fin Tryz.func141 [(2, .b false), (4, .b false), (6, .b false), (8, .b false), (10, .b true)] (fun _ f => o (zB h0) (o (zB h1) (o (zB h2) (o (zB h3) (o (beq_iff_eq.2 h4) f))))) (by kernel_rfl)
     ·rw [if_neg h4] at h
      by_cases h5 : a0 = 7
      ·rw [if_pos h5] at h
       obtain rfl := zI h
       exact Til.fin Tryz.func141 [(2, .b false), (4, .b false), (6, .b false), (8, .b false), (10, .b false), (12, .b true)] (fun _ f => o (zB h0) (o (zB h1) (o (zB h2) (o (zB h3) (o (zB h4) (o (beq_iff_eq.2 h5) f)))))) (by kernel_rfl)
      ·rw [if_neg h5] at h
       by_cases h6 : a0 = 8
       ·rw [if_pos h6] at h
        obtain rfl := zI h
        exact Til.fin Tryz.func141 [(2, .b false), (4, .b false), (6, .b false), (8, .b false), (10, .b false), (12, .b false), (14, .b true)] (fun _ f => o (zB h0) (o (zB h1) (o (zB h2) (o (zB h3) (o (zB h4) (o (zB h5) (o (beq_iff_eq.2 h6) f))))))) (by kernel_rfl)
       ·rw [if_neg h6] at h
        by_cases h7 : a0 = 9
        ·rw [if_pos h7] at h
         obtain rfl := zI h
         exact Til.fin Tryz.func141 [(2, .b false), (4, .b false), (6, .b false), (8, .b false), (10, .b false), (12, .b false), (14, .b false), (16, .b true)] (fun _ f => o (zB h0) (o (zB h1) (o (zB h2) (o (zB h3) (o (zB h4) (o (zB h5) (o (zB h6) (o (beq_iff_eq.2 h7) f)))))))) (by kernel_rfl)
        ·rw [if_neg h7] at h
         obtain rfl := zI h
         exact Til.fin Tryz.func141 [(2, .b false), (4, .b false), (6, .b false), (8, .b false), (10, .b false), (12, .b false), (14, .b false), (16, .b false)] (fun _ f => o (zB h0) (o (zB h1) (o (zB h2) (o (zB h3) (o (zB h4) (o (zB h5) (o (zB h6) (o (zB h7) f)))))))) (by kernel_rfl)

def ask_rest.l0E (x98 : ZLLT) (x99 : Int) (x100 : Int) (b3_0 : Int) (b3_1 : Int) (b3_2 : ZLC) (b3_4 : ZLC) (b6_0 : Int) (b6_1 : Int) : Env := [(3, .c (.ptr 3 0)), (6, .c (.ptr 6 0)), (98, .c (.d (L143 x98))), (99, .c (.d (.int .i64 x99))), (100, .c (.d (.int .i64 x100)))]
def ask_rest.l0B (x98 : ZLLT) (x99 : Int) (x100 : Int) (b3_0 : Int) (b3_1 : Int) (b3_2 : ZLC) (b3_4 : ZLC) (b6_0 : Int) (b6_1 : Int) : Obs := [(3, some (.box [.d (.int .i64 b3_0), .d (.int .i64 b3_1), .d (L77 b3_2), .nils, .d (L77 b3_4)])), (6, some (.box [.d (.int .i64 b6_0), .d (.int .i64 b6_1), .nils, .nils, .nils]))]
theorem ask_rest.w (k : Nat) : (∀  (x98 : ZLLT) (x99 : Int) (x100 : Int) (b3_0 : Int) (b3_1 : Int) (b3_2 : ZLC) (b3_4 : ZLC) (b6_0 : Int) (b6_1 : Int) (r : Int × Int × ZLC × ZLLC × ZLC × Int × Int), ask_rest.l0 k x98 x99 x100 b3_0 b3_1 b3_2 b3_4 b6_0 b6_1 = some r -> Til Tryz.prog 84 [] (.tup [.agg [.d (.int .i64 r.1), .d (.int .i64 r.2.1), .d (L77 r.2.2.1), .d (L62 r.2.2.2.1), .d (L77 r.2.2.2.2.1)], .c (.d (.int .i64 r.2.2.2.2.2.1)), .c (.d (.int .i64 r.2.2.2.2.2.2))]) none [] (at_ Tryz.f84 23) (ask_rest.l0E x98 x99 x100 b3_0 b3_1 b3_2 b3_4 b6_0 b6_1) (ask_rest.l0B x98 x99 x100 b3_0 b3_1 b3_2 b3_4 b6_0 b6_1)) := by
 induction k with
 | zero =>
  exact fun _ _ _ _ _ _ _ _ _ _ h => (by cases h)
 | succ k ih =>
  intro x98 x99 x100 b3_0 b3_1 b3_2 b3_4 b6_0 b6_1 r h
  rw [ask_rest.l0] at h
  by_cases h0 : x100 < x99
  ·rw [if_pos h0] at h
   cases h
  ·rw [if_neg h0] at h
   obtain rfl := zI h
   exact Til.fin Tryz.func84 [(0, .b false)] (fun _ f => o (zF h0) f) (by kernel_rfl)
theorem ask_rest.does {k : Nat} {a0_0 : Int} {a0_1 : Int} {l0_2 : ZLC} {l0_4 : ZLC} {l1 : ZLT} {a2 : Int} {r : Int × Int × ZLC × ZLLC × ZLC × Int × Int} (h : ask_rest.f k a0_0 a0_1 l0_2 l0_4 l1 a2 = some r) :
 Does Tryz.prog 84 [.agg [.d (.int .i64 a0_0), .d (.int .i64 a0_1), .d (L77 l0_2), .nils, .d (L77 l0_4)], .c (.d (L148 l1)), .c (.d (.int .i64 a2))] [] (.tup [.agg [.d (.int .i64 r.1), .d (.int .i64 r.2.1), .d (L77 r.2.2.1), .d (L62 r.2.2.2.1), .d (L77 r.2.2.2.2.1)], .c (.d (.int .i64 r.2.2.2.2.2.1)), .c (.d (.int .i64 r.2.2.2.2.2.2))]) none [] := by
 refine does_fn Tryz.func84 (by kernel_rfl) rfl rfl ?_
 unfold ask_rest.f at h
 have ih := ask_rest.w k
 obtain ⟨v6, h0, h⟩ := bnd h
 by_cases h1 : (Go.bits .and .i64 v6 1) ≠ 0
 ·rw [if_pos h1] at h
  by_cases h2 : (l1.length : Int) = 0
  ·rw [if_pos h2] at h
   obtain rfl := zI h
   exact Til.fin Tryz.func84 [(6, ca (.c (.d (.int .i64 v6)))), (10, .b true), (13, .b true)] (fun _ f => o (ask_form.does h0) (o (bne_iff_ne.2 h1) (o (beq_iff_eq.2 h2) f))) (by kernel_rfl)
  ·rw [if_neg h2] at h
   cases h
 ·rw [if_neg h1] at h
  obtain ⟨v12, h2, h⟩ := bnd h
  by_cases h3 : (Go.bits .and .i64 v6 6) ≠ 0
  ·rw [if_pos h3] at h
   by_cases h4 : (v12.length : Int) > 0
   ·rw [if_pos h4] at h
    cases h
   ·rw [if_neg h4] at h
    cases h
  ·rw [if_neg h3] at h
   by_cases h4 : (Go.bits .and .i64 v6 8) = 0
   ·rw [if_pos h4] at h
    by_cases h5 : (v12.length : Int) > 0
    ·rw [if_pos h5] at h
     cases h
    ·rw [if_neg h5] at h
     exact Til.mid Tryz.func84 23 [(6, ca (.c (.d (.int .i64 v6)))), (10, .b false), (12, ca (.c (.d (L143 v12)))), (16, .b false), (19, .b true), (23, .b false)] (fun _ f => o (ask_form.does h0) (o (ne_f h1) (o (rows_Split.does h2) (o (ne_f h3) (o (beq_iff_eq.2 h4) (o (zF h5) f)))))) (by kernel_rfl) (ih _ _ _ _ _ _ _ _ _ _ h)
   ·rw [if_neg h4] at h
    exact Til.mid Tryz.func84 23 [(6, ca (.c (.d (.int .i64 v6)))), (10, .b false), (12, ca (.c (.d (L143 v12)))), (16, .b false), (19, .b false)] (fun _ f => o (ask_form.does h0) (o (ne_f h1) (o (rows_Split.does h2) (o (ne_f h3) (o (zB h4) f))))) (by kernel_rfl) (ih _ _ _ _ _ _ _ _ _ _ h)

def lex_WordsD.l0E (x0 : ByteArray) (x5 : ZLT) (x6 : Int) : Env := [(0, .c (.d (.str x0))), (5, .c (.own 5)), (6, .c (.d (.int .i64 x6)))]
def lex_WordsD.l0B (x0 : ByteArray) (x5 : ZLT) (x6 : Int) : Obs := [(5, some (O148 .own x5))]
def lex_WordsD.l1E (x0 : ByteArray) (x5 : ZLT) (x6 : Int) (x8 : Int) : Env := [(0, .c (.d (.str x0))), (5, .c (.own 5)), (6, .c (.d (.int .i64 x6))), (8, .c (.d (.int .i64 x8)))]
def lex_WordsD.l1B (x0 : ByteArray) (x5 : ZLT) (x6 : Int) (x8 : Int) : Obs := [(5, some (O148 .own x5))]
theorem lex_WordsD.w (k : Nat) : (∀  (x0 : ByteArray) (x5 : ZLT) (x6 : Int) (r : ZLT × Int × Int), lex_Words.l0 k x0 x5 x6 = some r -> Til Tryz.prog 82 [] (.tup [.c (.d (L148 r.1)), .c (.d (.int .i64 r.2.1)), .c (.d (.int .i64 r.2.2))]) none [] (at_ Tryz.f82 3) (lex_WordsD.l0E x0 x5 x6) (lex_WordsD.l0B x0 x5 x6)) /\
 (∀  (x0 : ByteArray) (x5 : ZLT) (x6 : Int) (x8 : Int) (r : ZLT × Int × Int), lex_Words.l1 k x0 x5 x6 x8 = some r -> Til Tryz.prog 82 [] (.tup [.c (.d (L148 r.1)), .c (.d (.int .i64 r.2.1)), .c (.d (.int .i64 r.2.2))]) none [] (at_ Tryz.f82 13) (lex_WordsD.l1E x0 x5 x6 x8) (lex_WordsD.l1B x0 x5 x6 x8)) := by
 induction k with
 | zero =>
  exact ⟨fun _ _ _ _ h => (by cases h), fun _ _ _ _ _ h => (by cases h)⟩
 | succ k ih =>
  refine ⟨?_, ?_⟩
  ·intro x0 x5 x6 r h
   rw [lex_Words.l0] at h
   by_cases h0 : x6 < (x0.size : Int)
   ·rw [if_pos h0] at h
    obtain ⟨h1, h⟩ := ifp h
    obtain ⟨v9, h2, h⟩ := bnd h
    cases v9
    ·rw [if_neg (by decide)] at h
     by_cases h4 : (bt x0 x6) = 35
     ·rw [if_pos h4] at h
      obtain rfl := zI h
      exact Til.fin Tryz.func82 [(3, .b true), (9, ca (.c (.d (.bool false)))), (12, .b true)] (fun _ f => o (zT h0) (o (o h1 h0) (o (lex_blank.does h2) (o (beq_iff_eq.2 h4) f)))) (by kernel_rfl)
     ·rw [if_neg h4] at h
      obtain ⟨v15, h5, h⟩ := bnd h
      cases v15
      ·rw [if_neg (by decide)] at h
       obtain rfl := zI h
       exact Til.fin Tryz.func82 [(3, .b true), (9, ca (.c (.d (.bool false)))), (12, .b false), (15, ca (.c (.d (.bool false))))] (fun _ f => o (zT h0) (o (o h1 h0) (o (lex_blank.does h2) (o (zB h4) (o (lex_plain.does h5) f))))) (by kernel_rfl)
      ·rw [if_pos rfl] at h
       by_cases h7 : (x5.length : Int) >= 4096
       ·rw [if_pos h7] at h
        obtain rfl := zI h
        exact Til.fin Tryz.func82 [(3, .b true), (9, ca (.c (.d (.bool false)))), (12, .b false), (15, ca (.c (.d (.bool true)))), (20, .b true)] (fun _ f => o (zT h0) (o (o h1 h0) (o (lex_blank.does h2) (o (zB h4) (o (lex_plain.does h5) (o (zT h7) f)))))) (by kernel_rfl)
       ·rw [if_neg h7] at h
        exact Til.mid Tryz.func82 13 [(3, .b true), (9, ca (.c (.d (.bool false)))), (12, .b false), (15, ca (.c (.d (.bool true)))), (20, .b false)] (fun _ f => o (zT h0) (o (o h1 h0) (o (lex_blank.does h2) (o (zB h4) (o (lex_plain.does h5) (o (zF h7) f)))))) (by kernel_rfl) (ih.2 _ _ _ _ _ h)
    ·rw [if_pos rfl] at h
     exact Til.mid Tryz.func82 3 [(3, .b true), (9, ca (.c (.d (.bool true))))] (fun _ f => o (zT h0) (o (o h1 h0) (o (lex_blank.does h2) f))) (by kernel_rfl) (ih.1 _ _ _ _ h)
   ·rw [if_neg h0] at h
    obtain rfl := zI h
    exact Til.fin Tryz.func82 [(3, .b false)] (fun _ f => o (zF h0) f) (by kernel_rfl)
  ·intro x0 x5 x6 x8 r h
   rw [lex_Words.l1] at h
   by_cases h0 : x8 < (x0.size : Int)
   ·rw [if_pos h0] at h
    obtain ⟨h1, h⟩ := ifp h
    obtain ⟨v8, h2, h⟩ := bnd h
    cases v8
    ·rw [if_neg (by decide)] at h
     obtain ⟨h4, h⟩ := ifp h
     obtain ⟨h5, h⟩ := ifp h
     obtain ⟨h6, h⟩ := ifp h
     obtain ⟨h7, h⟩ := ifp h
     exact Til.mid Tryz.func82 3 [(3, .b true), (8, ca (.c (.d (.bool false)))), (23, Z148 ([(x6, 0, (x0.extract ((x6 : Int).toNat) ((x8 : Int).toNat)))] : ZLT)), (24, Z148 (x5 ++ [(x6, 0, (x0.extract ((x6 : Int).toNat) ((x8 : Int).toNat)))]))] (fun _ f => o (zT h0) (o (o h1 h0) (o (lex_plain.does h2) (o (o h4 (o h5 h6)) (o (lit_ok c148 (0, 0, ByteArray.empty) ([(x6, 0, (x0.extract ((x6 : Int).toNat) ((x8 : Int).toNat)))] : ZLT)) (o (app1 c148 (0, 0, ByteArray.empty) x5 (x6, 0, (x0.extract ((x6 : Int).toNat) ((x8 : Int).toNat))) 32 4398046511104 (by decide) h7) f)))))) (by kernel_rfl) (ih.1 _ _ _ _ h)
    ·rw [if_pos rfl] at h
     by_cases h4 : (bt x0 x8) ≠ 35
     ·rw [if_pos h4] at h
      exact Til.mid Tryz.func82 13 [(3, .b true), (8, ca (.c (.d (.bool true)))), (14, .b true)] (fun _ f => o (zT h0) (o (o h1 h0) (o (lex_plain.does h2) (o (o h1 h0) (o (bne_iff_ne.2 h4) f))))) (by kernel_rfl) (ih.2 _ _ _ _ _ h)
     ·rw [if_neg h4] at h
      obtain ⟨h5, h⟩ := ifp h
      obtain ⟨h6, h⟩ := ifp h
      obtain ⟨h7, h⟩ := ifp h
      obtain ⟨h8, h⟩ := ifp h
      exact Til.mid Tryz.func82 3 [(3, .b true), (8, ca (.c (.d (.bool true)))), (14, .b false), (23, Z148 ([(x6, 0, (x0.extract ((x6 : Int).toNat) ((x8 : Int).toNat)))] : ZLT)), (24, Z148 (x5 ++ [(x6, 0, (x0.extract ((x6 : Int).toNat) ((x8 : Int).toNat)))]))] (fun _ f => o (zT h0) (o (o h1 h0) (o (lex_plain.does h2) (o (o h1 h0) (o (ne_f h4) (o (o h5 (o h6 h7)) (o (lit_ok c148 (0, 0, ByteArray.empty) ([(x6, 0, (x0.extract ((x6 : Int).toNat) ((x8 : Int).toNat)))] : ZLT)) (o (app1 c148 (0, 0, ByteArray.empty) x5 (x6, 0, (x0.extract ((x6 : Int).toNat) ((x8 : Int).toNat))) 32 4398046511104 (by decide) h8) f)))))))) (by kernel_rfl) (ih.1 _ _ _ _ h)
   ·rw [if_neg h0] at h
    obtain ⟨h1, h⟩ := ifp h
    obtain ⟨h2, h⟩ := ifp h
    obtain ⟨h3, h⟩ := ifp h
    obtain ⟨h4, h⟩ := ifp h
    exact Til.mid Tryz.func82 3 [(3, .b false), (23, Z148 ([(x6, 0, (x0.extract ((x6 : Int).toNat) ((x8 : Int).toNat)))] : ZLT)), (24, Z148 (x5 ++ [(x6, 0, (x0.extract ((x6 : Int).toNat) ((x8 : Int).toNat)))]))] (fun _ f => o (zF h0) (o (o h1 (o h2 h3)) (o (lit_ok c148 (0, 0, ByteArray.empty) ([(x6, 0, (x0.extract ((x6 : Int).toNat) ((x8 : Int).toNat)))] : ZLT)) (o (app1 c148 (0, 0, ByteArray.empty) x5 (x6, 0, (x0.extract ((x6 : Int).toNat) ((x8 : Int).toNat))) 32 4398046511104 (by decide) h4) f)))) (by kernel_rfl) (ih.1 _ _ _ _ h)
theorem lex_WordsD.does {k : Nat} {a0 : ByteArray} {r : ZLT × Int × Int} (h : lex_Words.f k a0 = some r) :
 Does Tryz.prog 82 [.c (.d (.str a0))] [] (.tup [.c (.d (L148 r.1)), .c (.d (.int .i64 r.2.1)), .c (.d (.int .i64 r.2.2))]) none [] := by
 refine does_fn Tryz.func82 (by kernel_rfl) rfl rfl ?_
 unfold lex_Words.f at h
 have ih := lex_WordsD.w k
 exact Til.mid Tryz.func82 3 [] (fun _ f => f) (by kernel_rfl) (ih.1 _ _ _ _ h)

theorem ask_Parse.does {k : Nat} {a0 : ByteArray} {r : Int × Int × ZLC × ZLLC × ZLC × Int × Int} (h : ask_Parse.f k a0 = some r) :
 Does Tryz.prog 32 [.c (.d (.str a0))] [] (.tup [.agg [.d (.int .i64 r.1), .d (.int .i64 r.2.1), .d (L77 r.2.2.1), .d (L62 r.2.2.2.1), .d (L77 r.2.2.2.2.1)], .c (.d (.int .i64 r.2.2.2.2.2.1)), .c (.d (.int .i64 r.2.2.2.2.2.2))]) none [] := by
 refine does_fn Tryz.func32 (by kernel_rfl) rfl rfl ?_
 unfold ask_Parse.f at h
 obtain ⟨v4, h0, h⟩ := bnd h
 by_cases h1 : v4.2.2 ≠ 0
 ·rw [if_pos h1] at h
  obtain rfl := zI h
  exact Til.fin Tryz.func32 [(4, ca (.tup [.c (.d (L148 v4.1)), .c (.d (.int .i64 v4.2.1)), .c (.d (.int .i64 v4.2.2))])), (13, .b true)] (fun _ f => o (lex_WordsD.does h0) (o (bne_iff_ne.2 h1) f)) (by kernel_rfl)
 ·rw [if_neg h1] at h
  by_cases h2 : (v4.1.length : Int) = 0
  ·rw [if_pos h2] at h
   obtain rfl := zI h
   exact Til.fin Tryz.func32 [(4, ca (.tup [.c (.d (L148 v4.1)), .c (.d (.int .i64 v4.2.1)), .c (.d (.int .i64 v4.2.2))])), (13, .b false), (16, .b true)] (fun _ f => o (lex_WordsD.does h0) (o (ne_f h1) (o (beq_iff_eq.2 h2) f))) (by kernel_rfl)
  ·rw [if_neg h2] at h
   obtain ⟨h3, h⟩ := ifp h
   obtain ⟨v21, h4, h⟩ := bnd h
   by_cases h5 : v21 = 0
   ·rw [if_pos h5] at h
    obtain rfl := zI h
    exact Til.fin Tryz.func32 [(4, ca (.tup [.c (.d (L148 v4.1)), .c (.d (.int .i64 v4.2.1)), .c (.d (.int .i64 v4.2.2))])), (13, .b false), (16, .b false), (21, ca (.c (.d (.int .i64 v21)))), (27, .b true)] (fun _ f => o (lex_WordsD.does h0) (o (ne_f h1) (o (zB h2) (o (o (nn 0) h3) (o (ask_Kind.does h4) (o (beq_iff_eq.2 h5) (o (o (nn 0) h3) f))))))) (by kernel_rfl)
   ·rw [if_neg h5] at h
    obtain ⟨h6, h⟩ := ifp h
    obtain ⟨v33, h7, h⟩ := bnd h
    obtain rfl := zI h
    exact Til.fin Tryz.func32 [(4, ca (.tup [.c (.d (L148 v4.1)), .c (.d (.int .i64 v4.2.1)), .c (.d (.int .i64 v4.2.2))])), (13, .b false), (16, .b false), (21, ca (.c (.d (.int .i64 v21)))), (27, .b false), (30, Z148 (v4.1.drop 1)), (33, .call [(0, .agg [.u, .u, .d (L77 ([] : ZLC)), .nils, .d (L77 ([] : ZLC))])] [] (.tup [.agg [.d (.int .i64 v33.1), .d (.int .i64 v33.2.1), .d (L77 v33.2.2.1), .d (L62 v33.2.2.2.1), .d (L77 v33.2.2.2.2.1)], .c (.d (.int .i64 v33.2.2.2.2.2.1)), .c (.d (.int .i64 v33.2.2.2.2.2.2))]) none [] [])] (fun _ f => o (lex_WordsD.does h0) (o (ne_f h1) (o (zB h2) (o (o (nn 0) h3) (o (ask_Kind.does h4) (o (zB h5) (o (drop_ok c148 (0, 0, ByteArray.empty) v4.1 (nn 1) h6) (o (ask_rest.does h7) f)))))))) (by kernel_rfl)

theorem report_digits.does {k : Nat} {a0 : Int} {r : ByteArray} (h : report_digits.f k a0 = some r) :
 Does Tryz.prog 31 [.c (.d (.int .i64 a0))] [] (.c (.d (.str r))) none [] := by
 refine does_fn Tryz.func31 (by kernel_rfl) rfl rfl ?_
 unfold report_digits.f at h
 obtain ⟨v2, h0, h⟩ := bnd h
 obtain ⟨v3, h1, h⟩ := bnd h
 obtain rfl := zI h
 exact Til.fin Tryz.func31 [(2, ca (.agg [.d (.bool v2.1), .d (L154 v2.2.1), .d (L154 v2.2.2)])), (3, ca (.c (.d (.str v3))))] (fun _ f => o (ratio_Of.does h0) (o (ratio_Print.does h1) f)) (by kernel_rfl)

def report_right.l0E (x49 : ZLLQ) (x50 : Int) (x51 : Int) : Env := [(49, .c (.d (L75 x49))), (50, .c (.d (.int .i64 x50))), (51, .c (.d (.int .i64 x51)))]
theorem report_right.w (k : Nat) : (∀  (x49 : ZLLQ) (x50 : Int) (x51 : Int) (r : Bool), report_right.l0 k x49 x50 x51 = some r -> Til Tryz.prog 35 [] (.c (.d (.bool r))) none [] (at_ Tryz.f35 4) (report_right.l0E x49 x50 x51) []) := by
 induction k with
 | zero =>
  exact fun _ _ _ _ h => (by cases h)
 | succ k ih =>
  intro x49 x50 x51 r h
  rw [report_right.l0] at h
  by_cases h0 : x51 < x50
  ·rw [if_pos h0] at h
   obtain ⟨h1, h⟩ := ifp h
   obtain ⟨h2, h⟩ := ifp h
   by_cases h3 : ((gt [] x49 x51).length : Int) > 1000
   ·rw [if_pos h3] at h
    obtain rfl := zI h
    exact Til.fin Tryz.func35 [(0, .b true), (6, .b true)] (fun _ f => o (zT h0) (o (o h1 h2) (o (zT h3) f))) (by kernel_rfl)
   ·rw [if_neg h3] at h
    exact Til.mid Tryz.func35 4 [(0, .b true), (6, .b false)] (fun _ f => o (zT h0) (o (o h1 h2) (o (zF h3) f))) (by kernel_rfl) (ih _ _ _ _ h)
  ·rw [if_neg h0] at h
   obtain rfl := zI h
   exact Til.fin Tryz.func35 [(0, .b false)] (fun _ f => o (zF h0) f) (by kernel_rfl)
theorem report_right.does {k : Nat} {a0_0 : Int} {a0_1 : Int} {a0_2 : Int} {l0_3 : ZLLQ} {a1 : Int} {r : Bool} (h : report_right.f k a0_0 a0_1 a0_2 l0_3 a1 = some r) :
 Does Tryz.prog 35 [.agg [.d (.int .i64 a0_0), .d (.int .i64 a0_1), .d (.int .i64 a0_2), .d (L75 l0_3)], .c (.d (.int .i64 a1))] [] (.c (.d (.bool r))) none [] := by
 refine does_fn Tryz.func35 (by kernel_rfl) rfl rfl ?_
 unfold report_right.f at h
 have ih := report_right.w k
 by_cases h0 : a0_0 ≠ a1
 ·rw [if_pos h0] at h
  obtain rfl := zI h
  exact Til.fin Tryz.func35 [(5, .b true)] (fun _ f => o (bne_iff_ne.2 h0) f) (by kernel_rfl)
 ·rw [if_neg h0] at h
  by_cases h1 : a0_1 < 0
  ·rw [if_pos h1] at h
   obtain rfl := zI h
   exact Til.fin Tryz.func35 [(5, .b false), (9, .b true)] (fun _ f => o (ne_f h0) (o (zT h1) f)) (by kernel_rfl)
  ·rw [if_neg h1] at h
   by_cases h2 : a0_1 > 9
   ·rw [if_pos h2] at h
    obtain rfl := zI h
    exact Til.fin Tryz.func35 [(5, .b false), (9, .b false), (14, .b true)] (fun _ f => o (ne_f h0) (o (zF h1) (o (zT h2) f))) (by kernel_rfl)
   ·rw [if_neg h2] at h
    by_cases h3 : a0_2 < 0
    ·rw [if_pos h3] at h
     obtain rfl := zI h
     exact Til.fin Tryz.func35 [(5, .b false), (9, .b false), (14, .b false), (19, .b true)] (fun _ f => o (ne_f h0) (o (zF h1) (o (zF h2) (o (zT h3) f)))) (by kernel_rfl)
    ·rw [if_neg h3] at h
     by_cases h4 : a0_2 > 999
     ·rw [if_pos h4] at h
      obtain rfl := zI h
      exact Til.fin Tryz.func35 [(5, .b false), (9, .b false), (14, .b false), (19, .b false), (24, .b true)] (fun _ f => o (ne_f h0) (o (zF h1) (o (zF h2) (o (zF h3) (o (zT h4) f))))) (by kernel_rfl)
     ·rw [if_neg h4] at h
      by_cases h5 : a0_2 ≠ 0
      ·rw [if_pos h5] at h
       by_cases h6 : (l0_3.length : Int) > 0
       ·rw [if_pos h6] at h
        obtain rfl := zI h
        exact Til.fin Tryz.func35 [(5, .b false), (9, .b false), (14, .b false), (19, .b false), (24, .b false), (29, .b true), (34, .b true)] (fun _ f => o (ne_f h0) (o (zF h1) (o (zF h2) (o (zF h3) (o (zF h4) (o (bne_iff_ne.2 h5) (o (zT h6) f))))))) (by kernel_rfl)
       ·rw [if_neg h6] at h
        by_cases h7 : (l0_3.length : Int) > 64
        ·rw [if_pos h7] at h
         obtain rfl := zI h
         exact Til.fin Tryz.func35 [(5, .b false), (9, .b false), (14, .b false), (19, .b false), (24, .b false), (29, .b true), (34, .b false), (41, .b true)] (fun _ f => o (ne_f h0) (o (zF h1) (o (zF h2) (o (zF h3) (o (zF h4) (o (bne_iff_ne.2 h5) (o (zF h6) (o (zT h7) f)))))))) (by kernel_rfl)
        ·rw [if_neg h7] at h
         exact Til.mid Tryz.func35 4 [(5, .b false), (9, .b false), (14, .b false), (19, .b false), (24, .b false), (29, .b true), (34, .b false), (41, .b false)] (fun _ f => o (ne_f h0) (o (zF h1) (o (zF h2) (o (zF h3) (o (zF h4) (o (bne_iff_ne.2 h5) (o (zF h6) (o (zF h7) f)))))))) (by kernel_rfl) (ih _ _ _ _ h)
      ·rw [if_neg h5] at h
       by_cases h6 : (l0_3.length : Int) > 64
       ·rw [if_pos h6] at h
        obtain rfl := zI h
        exact Til.fin Tryz.func35 [(5, .b false), (9, .b false), (14, .b false), (19, .b false), (24, .b false), (29, .b false), (41, .b true)] (fun _ f => o (ne_f h0) (o (zF h1) (o (zF h2) (o (zF h3) (o (zF h4) (o (ne_f h5) (o (zT h6) f))))))) (by kernel_rfl)
       ·rw [if_neg h6] at h
        exact Til.mid Tryz.func35 4 [(5, .b false), (9, .b false), (14, .b false), (19, .b false), (24, .b false), (29, .b false), (41, .b false)] (fun _ f => o (ne_f h0) (o (zF h1) (o (zF h2) (o (zF h3) (o (zF h4) (o (ne_f h5) (o (zF h6) f))))))) (by kernel_rfl) (ih _ _ _ _ h)

def c39 (x : Int × Int × Int × ZLLQ) : List Dat := [.int .i64 x.1, .int .i64 x.2.1, .int .i64 x.2.2.1, L75 x.2.2.2]
def L39 (xs : List (Int × Int × Int × ZLLQ)) : Dat := fr 4 c39 (0, 0, 0, []) xs
def Z39 (xs : List (Int × Int × Int × ZLLQ)) : Sup := .r xs.length (enc c39 (0, 0, 0, []) xs)
def O39 (k : RK) (xs : List (Int × Int × Int × ZLLQ)) : Ob := .row k 39 4 xs.length (enc c39 (0, 0, 0, []) xs)

def report_Write.l0E (x20 : List (Int × Int × Int × ZLLQ)) (x21 : Int) (x22 : Int) (b4 : ByteArray) : Env := [(4, .c (.ptr 4 0)), (20, .c (.d (L39 x20))), (21, .c (.d (.int .i64 x21))), (22, .c (.d (.int .i64 x22)))]
def report_Write.l0B (x20 : List (Int × Int × Int × ZLLQ)) (x21 : Int) (x22 : Int) (b4 : ByteArray) : Obs := [(4, some (.bld b4))]
def report_Write.l1E (x20 : List (Int × Int × Int × ZLLQ)) (x21 : Int) (x22 : Int) (x59 : ZLLQ) (x60 : Int) (x61 : Int) (b4 : ByteArray) : Env := [(4, .c (.ptr 4 0)), (20, .c (.d (L39 x20))), (21, .c (.d (.int .i64 x21))), (22, .c (.d (.int .i64 x22))), (59, .c (.d (L75 x59))), (60, .c (.d (.int .i64 x60))), (61, .c (.d (.int .i64 x61)))]
def report_Write.l1B (x20 : List (Int × Int × Int × ZLLQ)) (x21 : Int) (x22 : Int) (x59 : ZLLQ) (x60 : Int) (x61 : Int) (b4 : ByteArray) : Obs := [(4, some (.bld b4))]
def report_Write.l2E (x20 : List (Int × Int × Int × ZLLQ)) (x21 : Int) (x22 : Int) (x59 : ZLLQ) (x60 : Int) (x61 : Int) (x70 : ZLQ) (x71 : Int) (x72 : Int) (b4 : ByteArray) : Env := [(4, .c (.ptr 4 0)), (20, .c (.d (L39 x20))), (21, .c (.d (.int .i64 x21))), (22, .c (.d (.int .i64 x22))), (59, .c (.d (L75 x59))), (60, .c (.d (.int .i64 x60))), (61, .c (.d (.int .i64 x61))), (70, .c (.d (L71 x70))), (71, .c (.d (.int .i64 x71))), (72, .c (.d (.int .i64 x72)))]
def report_Write.l2B (x20 : List (Int × Int × Int × ZLLQ)) (x21 : Int) (x22 : Int) (x59 : ZLLQ) (x60 : Int) (x61 : Int) (x70 : ZLQ) (x71 : Int) (x72 : Int) (b4 : ByteArray) : Obs := [(4, some (.bld b4))]
theorem report_Write.w (k : Nat) : (∀  (x20 : List (Int × Int × Int × ZLLQ)) (x21 : Int) (x22 : Int) (b4 : ByteArray) (r : ByteArray × Int), report_Write.l0 k x20 x21 x22 b4 = some r -> Til Tryz.prog 14 [] (.tup [.c (.d (.str r.1)), .c (.d (.int .i64 r.2))]) none [] (at_ Tryz.f14 6) (report_Write.l0E x20 x21 x22 b4) (report_Write.l0B x20 x21 x22 b4)) /\
 (∀  (x20 : List (Int × Int × Int × ZLLQ)) (x21 : Int) (x22 : Int) (x59 : ZLLQ) (x60 : Int) (x61 : Int) (b4 : ByteArray) (r : ByteArray × Int), report_Write.l1 k x20 x21 x22 x59 x60 x61 b4 = some r -> Til Tryz.prog 14 [] (.tup [.c (.d (.str r.1)), .c (.d (.int .i64 r.2))]) none [] (at_ Tryz.f14 15) (report_Write.l1E x20 x21 x22 x59 x60 x61 b4) (report_Write.l1B x20 x21 x22 x59 x60 x61 b4)) /\
 (∀  (x20 : List (Int × Int × Int × ZLLQ)) (x21 : Int) (x22 : Int) (x59 : ZLLQ) (x60 : Int) (x61 : Int) (x70 : ZLQ) (x71 : Int) (x72 : Int) (b4 : ByteArray) (r : ByteArray × Int), report_Write.l2 k x20 x21 x22 x59 x60 x61 x70 x71 x72 b4 = some r -> Til Tryz.prog 14 [] (.tup [.c (.d (.str r.1)), .c (.d (.int .i64 r.2))]) none [] (at_ Tryz.f14 19) (report_Write.l2E x20 x21 x22 x59 x60 x61 x70 x71 x72 b4) (report_Write.l2B x20 x21 x22 x59 x60 x61 x70 x71 x72 b4)) := by
 induction k with
 | zero =>
  exact ⟨fun _ _ _ _ _ h => (by cases h), fun _ _ _ _ _ _ _ _ h => (by cases h), fun _ _ _ _ _ _ _ _ _ _ _ h => (by cases h)⟩
 | succ k ih =>
  refine ⟨?_, ?_, ?_⟩
  ·intro x20 x21 x22 b4 r h
   rw [report_Write.l0] at h
   by_cases h0 : x22 < x21
   ·rw [if_pos h0] at h
    obtain ⟨h1, h⟩ := ifp h
    obtain ⟨h2, h⟩ := ifp h
    obtain ⟨v9, h3, h⟩ := bnd h
    cases v9
    ·rw [if_neg (by decide)] at h
     obtain rfl := zI h
     exact Til.fin Tryz.func14 [(0, .b true), (9, ca (.c (.d (.bool false))))] (fun _ f => o (zT h0) (o (o h1 h2) (o (report_right.does h3) f))) (by kernel_rfl)
    ·rw [if_pos rfl] at h
     obtain ⟨v13, h5, h⟩ := bnd h
     obtain ⟨h6, h⟩ := ifp h
     obtain ⟨h7, h⟩ := ifp h
     obtain ⟨v18, h8, h⟩ := bnd h
     obtain ⟨h9, h⟩ := ifp h
     obtain ⟨h10, h⟩ := ifp h
     obtain ⟨v21, h11, h⟩ := bnd h
     by_cases h12 : (gt (0, 0, 0, []) x20 x22).2.2.1 ≠ 0
     ·rw [if_pos h12] at h
      obtain ⟨v27, h13, h⟩ := bnd h
      obtain ⟨h14, h⟩ := ifp h
      obtain ⟨h15, h⟩ := ifp h
      obtain ⟨v30, h16, h⟩ := bnd h
      exact Til.mid Tryz.func14 6 [(0, .b true), (9, ca (.c (.d (.bool true)))), (13, ca (.c (.d (.str v13)))), (18, ca (.c (.d (.str v18)))), (21, .call [] [0] (.c (.u)) none [(0, some (.bld v21))] []), (24, .b true), (27, ca (.c (.d (.str v27)))), (30, .call [] [0] (.c (.u)) none [(0, some (.bld v30))] [])] (fun _ f => o (zT h0) (o (o h1 h2) (o (report_right.does h3) (o (report_digits.does h5) (o h6 (o h7 (o (report_digits.does h8) (o h9 (o h10 (o (strings_Builder_WriteString.does h11) (o (bne_iff_ne.2 h12) (o (report_digits.does h13) (o h14 (o h15 (o (strings_Builder_WriteString.does h16) f))))))))))))))) (by kernel_rfl) (ih.1 _ _ _ _ _ h)
     ·rw [if_neg h12] at h
      obtain ⟨v28, h13, h⟩ := bnd h
      obtain ⟨h14, h⟩ := ifp h
      obtain ⟨h15, h⟩ := ifp h
      obtain ⟨v31, h16, h⟩ := bnd h
      exact Til.mid Tryz.func14 15 [(0, .b true), (9, ca (.c (.d (.bool true)))), (13, ca (.c (.d (.str v13)))), (18, ca (.c (.d (.str v18)))), (21, .call [] [0] (.c (.u)) none [(0, some (.bld v21))] []), (24, .b false), (28, ca (.c (.d (.str v28)))), (31, .call [] [0] (.c (.u)) none [(0, some (.bld v31))] [])] (fun _ f => o (zT h0) (o (o h1 h2) (o (report_right.does h3) (o (report_digits.does h5) (o h6 (o h7 (o (report_digits.does h8) (o h9 (o h10 (o (strings_Builder_WriteString.does h11) (o (ne_f h12) (o (report_digits.does h13) (o h14 (o h15 (o (strings_Builder_WriteString.does h16) f))))))))))))))) (by kernel_rfl) (ih.2.1 _ _ _ _ _ _ _ _ h)
   ·rw [if_neg h0] at h
    obtain ⟨v1, h1, h⟩ := bnd h
    obtain rfl := zI h
    exact Til.fin Tryz.func14 [(0, .b false), (1, .call [] [0] (.c (.d (.str v1.1))) none [(0, some (.bld v1.2))] [])] (fun _ f => o (zF h0) (o (strings_Builder_String.does h1) f)) (by kernel_rfl)
  ·intro x20 x21 x22 x59 x60 x61 b4 r h
   rw [report_Write.l1] at h
   by_cases h0 : x61 < x60
   ·rw [if_pos h0] at h
    obtain ⟨h1, h⟩ := ifp h
    obtain ⟨h2, h⟩ := ifp h
    obtain ⟨v6, h3, h⟩ := bnd h
    obtain ⟨h4, h⟩ := ifp h
    obtain ⟨v8, h5, h⟩ := bnd h
    exact Til.mid Tryz.func14 19 [(0, .b true), (6, ca (.c (.d (.str v6)))), (8, .call [] [0] (.c (.u)) none [(0, some (.bld v8))] [])] (fun _ f => o (zT h0) (o (o h1 h2) (o (report_digits.does h3) (o h4 (o (strings_Builder_WriteString.does h5) f))))) (by kernel_rfl) (ih.2.2 _ _ _ _ _ _ _ _ _ _ _ h)
   ·rw [if_neg h0] at h
    exact Til.mid Tryz.func14 6 [(0, .b false)] (fun _ f => o (zF h0) f) (by kernel_rfl) (ih.1 _ _ _ _ _ h)
  ·intro x20 x21 x22 x59 x60 x61 x70 x71 x72 b4 r h
   rw [report_Write.l2] at h
   by_cases h0 : x72 < x71
   ·rw [if_pos h0] at h
    obtain ⟨h1, h⟩ := ifp h
    obtain ⟨h2, h⟩ := ifp h
    obtain ⟨v6, h3, h⟩ := bnd h
    obtain ⟨h4, h⟩ := ifp h
    obtain ⟨v8, h5, h⟩ := bnd h
    exact Til.mid Tryz.func14 19 [(0, .b true), (6, ca (.c (.d (.str v6)))), (8, .call [] [0] (.c (.u)) none [(0, some (.bld v8))] [])] (fun _ f => o (zT h0) (o (o h1 h2) (o (ratio_Print.does h3) (o h4 (o (strings_Builder_WriteString.does h5) f))))) (by kernel_rfl) (ih.2.2 _ _ _ _ _ _ _ _ _ _ _ h)
   ·rw [if_neg h0] at h
    obtain ⟨v1, h1, h⟩ := bnd h
    exact Til.mid Tryz.func14 15 [(0, .b false), (1, .call [] [0] (.c (.u)) none [(0, some (.bld v1))] [])] (fun _ f => o (zF h0) (o (strings_Builder_WriteString.does h1) f)) (by kernel_rfl) (ih.2.1 _ _ _ _ _ _ _ _ h)
theorem report_Write.does {k : Nat} {l0 : List (Int × Int × Int × ZLLQ)} {r : ByteArray × Int} (h : report_Write.f k l0 = some r) :
 Does Tryz.prog 14 [.c (.d (L39 l0))] [] (.tup [.c (.d (.str r.1)), .c (.d (.int .i64 r.2))]) none [] := by
 refine does_fn Tryz.func14 (by kernel_rfl) rfl rfl ?_
 unfold report_Write.f at h
 have ih := report_Write.w k
 by_cases h0 : (l0.length : Int) > 16384
 ·rw [if_pos h0] at h
  obtain rfl := zI h
  exact Til.fin Tryz.func14 [(4, .b true)] (fun _ f => o (zT h0) f) (by kernel_rfl)
 ·rw [if_neg h0] at h
  obtain ⟨v8, h1, h⟩ := bnd h
  obtain ⟨h2, h⟩ := ifp h
  obtain ⟨h3, h⟩ := ifp h
  obtain ⟨v11, h4, h⟩ := bnd h
  exact Til.mid Tryz.func14 6 [(4, .b false), (8, ca (.c (.d (.str v8)))), (11, .call [] [0] (.c (.u)) none [(0, some (.bld v11))] [])] (fun _ f => o (zF h0) (o (report_digits.does h1) (o h2 (o h3 (o (strings_Builder_WriteString.does h4) f))))) (by kernel_rfl) (ih.1 _ _ _ _ _ h)

theorem stringslite_HasSuffix.does {a0 : ByteArray} {a1 : ByteArray} {r : Bool} (h : stringslite_HasSuffix.f a0 a1 = some r) :
 Does Tryz.prog 207 [.c (.d (.str a0)), .c (.d (.str a1))] [] (.c (.d (.bool r))) none [] := by
 refine does_fn Tryz.func207 (by kernel_rfl) rfl rfl ?_
 unfold stringslite_HasSuffix.f at h
 by_cases h0 : (a0.size : Int) >= (a1.size : Int)
 ·rw [if_pos h0] at h
  obtain ⟨h1, h⟩ := ifp h
  obtain ⟨h2, h⟩ := ifp h
  obtain rfl := zI h
  exact Til.fin Tryz.func207 [(5, .b true)] (fun _ f => o (zT h0) (o (o h1 h2) f)) (by kernel_rfl)
 ·rw [if_neg h0] at h
  obtain rfl := zI h
  exact Til.fin Tryz.func207 [(5, .b false)] (fun _ f => o (zF h0) f) (by kernel_rfl)

theorem stringslite_TrimSuffix.does {a0 : ByteArray} {a1 : ByteArray} {r : ByteArray} (h : stringslite_TrimSuffix.f a0 a1 = some r) :
 Does Tryz.prog 155 [.c (.d (.str a0)), .c (.d (.str a1))] [] (.c (.d (.str r))) none [] := by
 refine does_fn Tryz.func155 (by kernel_rfl) rfl rfl ?_
 unfold stringslite_TrimSuffix.f at h
 obtain ⟨v3, h0, h⟩ := bnd h
 cases v3
 ·rw [if_neg (by decide)] at h
  obtain rfl := zI h
  exact Til.fin Tryz.func155 [(3, ca (.c (.d (.bool false))))] (fun _ f => o (stringslite_HasSuffix.does h0) f) (by kernel_rfl)
 ·rw [if_pos rfl] at h
  obtain ⟨h2, h⟩ := ifp h
  obtain ⟨h3, h⟩ := ifp h
  obtain rfl := zI h
  exact Til.fin Tryz.func155 [(3, ca (.c (.d (.bool true))))] (fun _ f => o (stringslite_HasSuffix.does h0) (o (o h2 h3) f)) (by kernel_rfl)

theorem strings_TrimSuffix.does {a0 : ByteArray} {a1 : ByteArray} {r : ByteArray} (h : strings_TrimSuffix.f a0 a1 = some r) :
 Does Tryz.prog 95 [.c (.d (.str a0)), .c (.d (.str a1))] [] (.c (.d (.str r))) none [] := by
 refine does_fn Tryz.func95 (by kernel_rfl) rfl rfl ?_
 unfold strings_TrimSuffix.f at h
 obtain ⟨v3, h0, h⟩ := bnd h
 obtain rfl := zI h
 exact Til.fin Tryz.func95 [(3, ca (.c (.d (.str v3))))] (fun _ f => o (stringslite_TrimSuffix.does h0) f) (by kernel_rfl)

theorem awake31_tells : limit_Default.f = some (1000, 100, 100, 200) /\ limit_Right.f 1000 100 100 200 = some true /\ valid_Parse.f 400 (⟨#[100, 101, 110, 100, 114, 111, 110, 32, 49, 10, 102, 101, 97, 116, 117, 114, 101, 115, 32, 48, 10, 116, 114, 101, 101, 115, 32, 48, 10, 101, 110, 100, 10]⟩ : ByteArray) = some (0, [], 0, 0, 0, 0) /\ expect_Base.f 400 0 [] = some (false, [], [1], 0) /\
 front_single.f false [] [1] 0 = some ([[(false, [], [1])]], 0) /\ ask_Word.f 2 = some (⟨#[98, 97, 115, 101]⟩ : ByteArray) /\ limit_Check.f 400 1000 100 100 200 2 0 [] [] [] = some 0 /\ ask_Parse.f 400 (⟨#[98, 97, 115, 101]⟩ : ByteArray) = some (2, 0, [], [], [], 0, 0) /\
 strings_TrimSuffix.f (⟨#[98, 97, 115, 101]⟩ : ByteArray) (⟨#[10]⟩ : ByteArray) = some (⟨#[98, 97, 115, 101]⟩ : ByteArray) /\ report_Write.f 400 [(0, 2, 0, [[(false, [], [1])]])] = some ((⟨#[114, 101, 112, 111, 114, 116, 32, 49, 10, 101, 110, 116, 114, 121, 32, 48, 32, 50, 32, 116, 97, 98, 108, 101, 32, 49, 10, 114, 111, 119, 32, 49, 32, 48, 10]⟩ : ByteArray), 0) := ⟨by kernel_rfl, by kernel_rfl, by kernel_rfl, by kernel_rfl, by kernel_rfl, by kernel_rfl, by kernel_rfl, by kernel_rfl, by kernel_rfl, by kernel_rfl⟩
theorem awake31 : Awake := by
 obtain ⟨h1, h2, h3, h4, h5, h6, h7, h8, h9, h10⟩ := awake31_tells
 exact awake_of (run_base 1000 100 100 200 (by decide) 0 _ _ _ _ _ _ 0 _ _ _ _ (by decide +kernel) 0 0 _ _ _ _ _ _ _ _ _ (⟨#[100, 101, 110, 100, 114, 111, 110, 32, 49, 10, 102, 101, 97, 116, 117, 114, 101, 115, 32, 48, 10, 116, 114, 101, 101, 115, 32, 48, 10, 101, 110, 100, 10]⟩ : ByteArray) (⟨#[98, 97, 115, 101]⟩ : ByteArray) (⟨#[98, 97, 115, 101]⟩ : ByteArray) (⟨#[114, 101, 112, 111, 114, 116, 32, 49, 10, 101, 110, 116, 114, 121, 32, 48, 32, 50, 32, 116, 97, 98, 108, 101, 32, 49, 10, 114, 111, 119, 32, 49, 32, 48, 10]⟩ : ByteArray) _ rfl (by decide +kernel) (by decide) (by decide +kernel)
  (limit_Default.does h1) (limit_Right.does h2) (valid_Parse.does h3) (expect_Base.does h4) (front_single.does h5) (ask_Word.does h6) (limit_Check.does h7) (ask_Parse.does h8) (strings_TrimSuffix.does h9) (report_Write.does h10))
theorem news_args {w : World} {F : Nat -> Prop} {s : ByteArray} {a b c d : Int} {l : List Value} (h : TsRel w F (fun _ => none) (fun _ => none) [.c (.d (.str s)), .agg [cI a, cI b, cI c, cI d]] l) : l = [.string s, .agg (lim4 a b c d)] := by
 match l, h with
 | [x, y], h =>
  unfold TsRel at h
  obtain ⟨h1, h2⟩ := h
  unfold TsRel at h2
  obtain ⟨h2, _⟩ := h2
  rw [TRel] at h1
  cases h1
  rw [lim_of h2]
theorem dendronlaw31_FrontNews.does {k : Nat} {a0 : ByteArray} {a1_0 a1_1 a1_2 a1_3 : Int} {r : Bool} (h : dendronlaw31_FrontNews.f k a0 a1_0 a1_1 a1_2 a1_3 = some r) :
 Does Tryz.prog 4 [.c (.d (.str a0)), .agg [.d (.int .i64 a1_0), .d (.int .i64 a1_1), .d (.int .i64 a1_2), .d (.int .i64 a1_3)]] [] (.c (.d (.bool r))) none [] := by
 obtain ⟨c, hc⟩ := Option.isSome_iff_exists.1 (show Tryz.f4.body.isSome = true from rfl)
 have key : r = true /\ ∀ w : World, TabOk w (Fz w) -> Calls Tryz.prog 4 #[.string a0, .agg (lim4 a1_0 a1_1 a1_2 a1_3)] w fun e w' => e = .returned (.bool true) /\ Rests w w' := by
  unfold dendronlaw31_FrontNews.f at h
  obtain ⟨q, h1, h⟩ := bnd h
  obtain ⟨p, h2, h⟩ := bnd h
  obtain ⟨m, tr, f0, f1, f2, f3⟩ := p
  cases q with
  | false =>
   rw [if_neg (fun e => by cases e)] at h
   exact ⟨(zI h).symm, fun w ht => news_wrong awake31 _ _ _ _ (limit_Right.does h1) _ _ rfl _ _ _ _ _ _ _ _ (valid_Parse.does h2) w ht⟩
  | true =>
   rw [if_pos rfl] at h
   by_cases hf : f0 = 0
   ·subst hf
    rw [if_pos rfl] at h
    obtain ⟨hz, h⟩ := ifp h
    obtain ⟨t, h3, h⟩ := bnd h
    obtain ⟨ht, h⟩ := ifp h
    obtain ⟨ts, te⟩ := t
    obtain ⟨z1, z2, z3⟩ := hz
    dsimp only at z1 z2 z3 ht
    subst z1 z2 z3 ht
    exact ⟨(zI h).symm, fun w htb => news_ok awake31 _ _ _ _ (limit_Right.does h1) _ _ rfl _ _ _ _ (valid_Parse.does h2) _ (model_Write.does h3) w htb⟩
   ·rw [if_neg hf] at h
    exact ⟨(zI h).symm, fun w htb => news_fault awake31 _ _ _ _ (limit_Right.does h1) _ _ rfl _ _ _ _ _ _ _ _ (valid_Parse.does h2) hf w htb⟩
 obtain ⟨rfl, key⟩ := key
 refine does_fresh3 ⟨Tryz.f4, c, Tryz.func4, by kernel_rfl, hc⟩ (by simp [IsDat]) fun w F l hF htab hr => ?_
 obtain rfl := news_args hr
 refine (key w (htab.rests fun b hb => ⟨hF b hb, rfl⟩)).mono ?_
 rintro e w' ⟨rfl, hR⟩
 refine ⟨_, rfl, hR, fun _ _ _ => ?_⟩
 rw [TRel]
 exact .bool _

def c42 (x : Int × Int × Int × Int) : List Dat := [.int .i64 x.1, .int .i64 x.2.1, .int .i64 x.2.2.1, .int .i64 x.2.2.2]
def L42 (xs : List (Int × Int × Int × Int)) : Dat := fr 4 c42 (0, 0, 0, 0) xs
def Z42 (xs : List (Int × Int × Int × Int)) : Sup := .r xs.length (enc c42 (0, 0, 0, 0) xs)
def O42 (k : RK) (xs : List (Int × Int × Int × Int)) : Ob := .row k 42 4 xs.length (enc c42 (0, 0, 0, 0) xs)

end Go.DI
