/- The code of the functions does what is told of it, part 1. No condition. -/
import Derived.Test.YtigikpefcbcgkaaGreatDoorBFrontNews
set_option linter.all false
namespace Go.DI
open Go Go.RowKit Go.Proofs
set_option linter.unusedVariables false
set_option maxRecDepth 20000
theorem limit_Right.does {a0_0 : Int} {a0_1 : Int} {a0_2 : Int} {a0_3 : Int} {r : Bool} (h : limit_Right.f a0_0 a0_1 a0_2 a0_3 = some r) :
 Does Tryz.prog 16 [.agg [.d (.int .i64 a0_0), .d (.int .i64 a0_1), .d (.int .i64 a0_2), .d (.int .i64 a0_3)]] [] (.c (.d (.bool r))) none [] := by
 refine does_fn Tryz.func16 (by kernel_rfl) rfl rfl ?_
 unfold limit_Right.f at h
 by_cases h0 : a0_0 >= 0
 ·rw [if_pos h0] at h
  by_cases h1 : a0_0 <= 16384
  ·rw [if_pos h1] at h
   by_cases h2 : a0_1 >= 0
   ·rw [if_pos h2] at h
    by_cases h3 : a0_1 <= 1000
    ·rw [if_pos h3] at h
     by_cases h4 : a0_2 >= 0
     ·rw [if_pos h4] at h
      by_cases h5 : a0_2 <= 1000
      ·rw [if_pos h5] at h
       by_cases h6 : a0_3 >= 1
       ·rw [if_pos h6] at h
        obtain rfl := zI h
        exact Til.fin Tryz.func16 [(4, .b true), (8, .b true), (13, .b true), (18, .b true), (23, .b true), (28, .b true), (33, .b true)] (fun _ f => o (zT h0) (o (zT h1) (o (zT h2) (o (zT h3) (o (zT h4) (o (zT h5) (o (zT h6) f))))))) (by kernel_rfl)
       ·rw [if_neg h6] at h
        obtain rfl := zI h
        exact Til.fin Tryz.func16 [(4, .b true), (8, .b true), (13, .b true), (18, .b true), (23, .b true), (28, .b true), (33, .b false)] (fun _ f => o (zT h0) (o (zT h1) (o (zT h2) (o (zT h3) (o (zT h4) (o (zT h5) (o (zF h6) f))))))) (by kernel_rfl)
      ·rw [if_neg h5] at h
       obtain rfl := zI h
       exact Til.fin Tryz.func16 [(4, .b true), (8, .b true), (13, .b true), (18, .b true), (23, .b true), (28, .b false)] (fun _ f => o (zT h0) (o (zT h1) (o (zT h2) (o (zT h3) (o (zT h4) (o (zF h5) f)))))) (by kernel_rfl)
     ·rw [if_neg h4] at h
      obtain rfl := zI h
      exact Til.fin Tryz.func16 [(4, .b true), (8, .b true), (13, .b true), (18, .b true), (23, .b false)] (fun _ f => o (zT h0) (o (zT h1) (o (zT h2) (o (zT h3) (o (zF h4) f))))) (by kernel_rfl)
    ·rw [if_neg h3] at h
     obtain rfl := zI h
     exact Til.fin Tryz.func16 [(4, .b true), (8, .b true), (13, .b true), (18, .b false)] (fun _ f => o (zT h0) (o (zT h1) (o (zT h2) (o (zF h3) f)))) (by kernel_rfl)
   ·rw [if_neg h2] at h
    obtain rfl := zI h
    exact Til.fin Tryz.func16 [(4, .b true), (8, .b true), (13, .b false)] (fun _ f => o (zT h0) (o (zT h1) (o (zF h2) f))) (by kernel_rfl)
  ·rw [if_neg h1] at h
   obtain rfl := zI h
   exact Til.fin Tryz.func16 [(4, .b true), (8, .b false)] (fun _ f => o (zT h0) (o (zF h1) f)) (by kernel_rfl)
 ·rw [if_neg h0] at h
  obtain rfl := zI h
  exact Til.fin Tryz.func16 [(4, .b false)] (fun _ f => o (zF h0) f) (by kernel_rfl)

theorem lex_blank.does {a0 : Int} {r : Bool} (h : lex_blank.f a0 = some r) :
 Does Tryz.prog 139 [.c (.d (.int .u8 a0))] [] (.c (.d (.bool r))) none [] := by
 refine does_fn Tryz.func139 (by kernel_rfl) rfl rfl ?_
 unfold lex_blank.f at h
 by_cases h0 : a0 = 32
 ·rw [if_pos h0] at h
  obtain rfl := zI h
  exact Til.fin Tryz.func139 [(2, .b true)] (fun _ f => o (beq_iff_eq.2 h0) f) (by kernel_rfl)
 ·rw [if_neg h0] at h
  by_cases h1 : a0 = 9
  ·rw [if_pos h1] at h
   obtain rfl := zI h
   exact Til.fin Tryz.func139 [(2, .b false), (5, .b true)] (fun _ f => o (zB h0) (o (beq_iff_eq.2 h1) f)) (by kernel_rfl)
  ·rw [if_neg h1] at h
   obtain rfl := zI h
   exact Til.fin Tryz.func139 [(2, .b false), (5, .b false)] (fun _ f => o (zB h0) (o (zB h1) f)) (by kernel_rfl)

theorem lex_plain.does {a0 : Int} {r : Bool} (h : lex_plain.f a0 = some r) :
 Does Tryz.prog 140 [.c (.d (.int .u8 a0))] [] (.c (.d (.bool r))) none [] := by
 refine does_fn Tryz.func140 (by kernel_rfl) rfl rfl ?_
 unfold lex_plain.f at h
 by_cases h0 : a0 > 32
 ·rw [if_pos h0] at h
  obtain rfl := zI h
  exact Til.fin Tryz.func140 [(2, .b true)] (fun _ f => o (zT h0) f) (by kernel_rfl)
 ·rw [if_neg h0] at h
  obtain rfl := zI h
  exact Til.fin Tryz.func140 [(2, .b false)] (fun _ f => o (zF h0) f) (by kernel_rfl)

def c148 (x : ZT) : List Dat := [.int .i64 x.1, .int .i64 x.2.1, .str x.2.2]
def L148 (xs : ZLT) : Dat := fr 3 c148 (0, 0, ByteArray.empty) xs
def Z148 (xs : ZLT) : Sup := .r xs.length (enc c148 (0, 0, ByteArray.empty) xs)
def O148 (k : RK) (xs : ZLT) : Ob := .row k 148 3 xs.length (enc c148 (0, 0, ByteArray.empty) xs)

def lex_Words.l0E (x0 : ByteArray) (x5 : ZLT) (x6 : Int) : Env := [(0, .c (.d (.str x0))), (5, .c (.own 5)), (6, .c (.d (.int .i64 x6)))]
def lex_Words.l0B (x0 : ByteArray) (x5 : ZLT) (x6 : Int) : Obs := [(5, some (O148 .own x5))]
def lex_Words.l1E (x0 : ByteArray) (x5 : ZLT) (x6 : Int) (x8 : Int) : Env := [(0, .c (.d (.str x0))), (5, .c (.own 5)), (6, .c (.d (.int .i64 x6))), (8, .c (.d (.int .i64 x8)))]
def lex_Words.l1B (x0 : ByteArray) (x5 : ZLT) (x6 : Int) (x8 : Int) : Obs := [(5, some (O148 .own x5))]
theorem lex_Words.w (k : Nat) : (∀  (x0 : ByteArray) (x5 : ZLT) (x6 : Int) (r : ZLT × Int × Int), lex_Words.l0 k x0 x5 x6 = some r -> Til Tryz.prog 82 [] (.tup [.c (.own newName), .c (.d (.int .i64 r.2.1)), .c (.d (.int .i64 r.2.2))]) (some (O148 .own r.1)) [] (at_ Tryz.f82 3) (lex_Words.l0E x0 x5 x6) (lex_Words.l0B x0 x5 x6)) /\
 (∀  (x0 : ByteArray) (x5 : ZLT) (x6 : Int) (x8 : Int) (r : ZLT × Int × Int), lex_Words.l1 k x0 x5 x6 x8 = some r -> Til Tryz.prog 82 [] (.tup [.c (.own newName), .c (.d (.int .i64 r.2.1)), .c (.d (.int .i64 r.2.2))]) (some (O148 .own r.1)) [] (at_ Tryz.f82 13) (lex_Words.l1E x0 x5 x6 x8) (lex_Words.l1B x0 x5 x6 x8)) := by
 induction k with
 | zero =>
  exact ⟨fun _ _ _ _ h => (by cases h), fun _ _ _ _ _ h => (by cases h)⟩
 | succ k ih =>
  refine ⟨?_, ?_⟩
  ·intro x0 x5 x6 r h
   rw [lex_Words.l0] at h
   by_cases h0 : x6 < (x0.size : Int)
   ·rw [if_pos h0] at h
    obtain ⟨h1, h⟩ := ifp h
    obtain ⟨v9, h2, h⟩ := bnd h
    cases v9
    ·rw [if_neg (by decide)] at h
     by_cases h4 : (bt x0 x6) = 35
     ·rw [if_pos h4] at h
      obtain rfl := zI h
      exact Til.fin Tryz.func82 [(3, .b true), (9, ca (.c (.d (.bool false)))), (12, .b true)] (fun _ f => o (zT h0) (o (o h1 h0) (o (lex_blank.does h2) (o (beq_iff_eq.2 h4) f)))) (by kernel_rfl)
     ·rw [if_neg h4] at h
      obtain ⟨v15, h5, h⟩ := bnd h
      cases v15
      ·rw [if_neg (by decide)] at h
       obtain rfl := zI h
       exact Til.fin Tryz.func82 [(3, .b true), (9, ca (.c (.d (.bool false)))), (12, .b false), (15, ca (.c (.d (.bool false))))] (fun _ f => o (zT h0) (o (o h1 h0) (o (lex_blank.does h2) (o (zB h4) (o (lex_plain.does h5) f))))) (by kernel_rfl)
      ·rw [if_pos rfl] at h
       by_cases h7 : (x5.length : Int) >= 4096
       ·rw [if_pos h7] at h
        obtain rfl := zI h
        exact Til.fin Tryz.func82 [(3, .b true), (9, ca (.c (.d (.bool false)))), (12, .b false), (15, ca (.c (.d (.bool true)))), (20, .b true)] (fun _ f => o (zT h0) (o (o h1 h0) (o (lex_blank.does h2) (o (zB h4) (o (lex_plain.does h5) (o (zT h7) f)))))) (by kernel_rfl)
       ·rw [if_neg h7] at h
        exact Til.mid Tryz.func82 13 [(3, .b true), (9, ca (.c (.d (.bool false)))), (12, .b false), (15, ca (.c (.d (.bool true)))), (20, .b false)] (fun _ f => o (zT h0) (o (o h1 h0) (o (lex_blank.does h2) (o (zB h4) (o (lex_plain.does h5) (o (zF h7) f)))))) (by kernel_rfl) (ih.2 _ _ _ _ _ h)
    ·rw [if_pos rfl] at h
     exact Til.mid Tryz.func82 3 [(3, .b true), (9, ca (.c (.d (.bool true))))] (fun _ f => o (zT h0) (o (o h1 h0) (o (lex_blank.does h2) f))) (by kernel_rfl) (ih.1 _ _ _ _ h)
   ·rw [if_neg h0] at h
    obtain rfl := zI h
    exact Til.fin Tryz.func82 [(3, .b false)] (fun _ f => o (zF h0) f) (by kernel_rfl)
  ·intro x0 x5 x6 x8 r h
   rw [lex_Words.l1] at h
   by_cases h0 : x8 < (x0.size : Int)
   ·rw [if_pos h0] at h
    obtain ⟨h1, h⟩ := ifp h
    obtain ⟨v8, h2, h⟩ := bnd h
    cases v8
    ·rw [if_neg (by decide)] at h
     obtain ⟨h4, h⟩ := ifp h
     obtain ⟨h5, h⟩ := ifp h
     obtain ⟨h6, h⟩ := ifp h
     obtain ⟨h7, h⟩ := ifp h
     exact Til.mid Tryz.func82 3 [(3, .b true), (8, ca (.c (.d (.bool false)))), (23, Z148 ([(x6, 0, (x0.extract ((x6 : Int).toNat) ((x8 : Int).toNat)))] : ZLT)), (24, Z148 (x5 ++ [(x6, 0, (x0.extract ((x6 : Int).toNat) ((x8 : Int).toNat)))]))] (fun _ f => o (zT h0) (o (o h1 h0) (o (lex_plain.does h2) (o (o h4 (o h5 h6)) (o (lit_ok c148 (0, 0, ByteArray.empty) ([(x6, 0, (x0.extract ((x6 : Int).toNat) ((x8 : Int).toNat)))] : ZLT)) (o (app1 c148 (0, 0, ByteArray.empty) x5 (x6, 0, (x0.extract ((x6 : Int).toNat) ((x8 : Int).toNat))) 32 4398046511104 (by decide) h7) f)))))) (by kernel_rfl) (ih.1 _ _ _ _ h)
    ·rw [if_pos rfl] at h
     by_cases h4 : (bt x0 x8) ≠ 35
     ·rw [if_pos h4] at h
      exact Til.mid Tryz.func82 13 [(3, .b true), (8, ca (.c (.d (.bool true)))), (14, .b true)] (fun _ f => o (zT h0) (o (o h1 h0) (o (lex_plain.does h2) (o (o h1 h0) (o (bne_iff_ne.2 h4) f))))) (by kernel_rfl) (ih.2 _ _ _ _ _ h)
     ·rw [if_neg h4] at h
      obtain ⟨h5, h⟩ := ifp h
      obtain ⟨h6, h⟩ := ifp h
      obtain ⟨h7, h⟩ := ifp h
      obtain ⟨h8, h⟩ := ifp h
      exact Til.mid Tryz.func82 3 [(3, .b true), (8, ca (.c (.d (.bool true)))), (14, .b false), (23, Z148 ([(x6, 0, (x0.extract ((x6 : Int).toNat) ((x8 : Int).toNat)))] : ZLT)), (24, Z148 (x5 ++ [(x6, 0, (x0.extract ((x6 : Int).toNat) ((x8 : Int).toNat)))]))] (fun _ f => o (zT h0) (o (o h1 h0) (o (lex_plain.does h2) (o (o h1 h0) (o (ne_f h4) (o (o h5 (o h6 h7)) (o (lit_ok c148 (0, 0, ByteArray.empty) ([(x6, 0, (x0.extract ((x6 : Int).toNat) ((x8 : Int).toNat)))] : ZLT)) (o (app1 c148 (0, 0, ByteArray.empty) x5 (x6, 0, (x0.extract ((x6 : Int).toNat) ((x8 : Int).toNat))) 32 4398046511104 (by decide) h8) f)))))))) (by kernel_rfl) (ih.1 _ _ _ _ h)
   ·rw [if_neg h0] at h
    obtain ⟨h1, h⟩ := ifp h
    obtain ⟨h2, h⟩ := ifp h
    obtain ⟨h3, h⟩ := ifp h
    obtain ⟨h4, h⟩ := ifp h
    exact Til.mid Tryz.func82 3 [(3, .b false), (23, Z148 ([(x6, 0, (x0.extract ((x6 : Int).toNat) ((x8 : Int).toNat)))] : ZLT)), (24, Z148 (x5 ++ [(x6, 0, (x0.extract ((x6 : Int).toNat) ((x8 : Int).toNat)))]))] (fun _ f => o (zF h0) (o (o h1 (o h2 h3)) (o (lit_ok c148 (0, 0, ByteArray.empty) ([(x6, 0, (x0.extract ((x6 : Int).toNat) ((x8 : Int).toNat)))] : ZLT)) (o (app1 c148 (0, 0, ByteArray.empty) x5 (x6, 0, (x0.extract ((x6 : Int).toNat) ((x8 : Int).toNat))) 32 4398046511104 (by decide) h4) f)))) (by kernel_rfl) (ih.1 _ _ _ _ h)
theorem lex_Words.does {k : Nat} {a0 : ByteArray} {r : ZLT × Int × Int} (h : lex_Words.f k a0 = some r) :
 Does Tryz.prog 82 [.c (.d (.str a0))] [] (.tup [.c (.own newName), .c (.d (.int .i64 r.2.1)), .c (.d (.int .i64 r.2.2))]) (some (O148 .own r.1)) [] := by
 refine does_fn Tryz.func82 (by kernel_rfl) rfl rfl ?_
 unfold lex_Words.f at h
 have ih := lex_Words.w k
 exact Til.mid Tryz.func82 3 [] (fun _ f => f) (by kernel_rfl) (ih.1 _ _ _ _ h)

def c143 (x : ZLT) : List Dat := [L148 x]
def L143 (xs : ZLLT) : Dat := fr 1 c143 [] xs
def Z143 (xs : ZLLT) : Sup := .r xs.length (enc c143 [] xs)
def O143 (k : RK) (xs : ZLLT) : Ob := .row k 143 1 xs.length (enc c143 [] xs)

def lex_Lines.l0E (x0 : ByteArray) (x5 : ZLLT) (x6 : Int) (x7 : Int) : Env := [(0, .c (.d (.str x0))), (5, .c (.own 5)), (6, .c (.d (.int .i64 x6))), (7, .c (.d (.int .i64 x7)))]
def lex_Lines.l0B (x0 : ByteArray) (x5 : ZLLT) (x6 : Int) (x7 : Int) : Obs := [(5, some (O143 .own x5))]
def lex_Lines.l1E (x0 : ByteArray) (x5 : ZLLT) (x6 : Int) (x7 : Int) (x8 : Int) : Env := [(0, .c (.d (.str x0))), (5, .c (.own 5)), (6, .c (.d (.int .i64 x6))), (7, .c (.d (.int .i64 x7))), (8, .c (.d (.int .i64 x8)))]
def lex_Lines.l1B (x0 : ByteArray) (x5 : ZLLT) (x6 : Int) (x7 : Int) (x8 : Int) : Obs := [(5, some (O143 .own x5))]
def lex_Lines.l2E (x0 : ByteArray) (x5 : ZLLT) (x6 : Int) (x7 : Int) (x8 : Int) (x9 : ZLT) (x54 : Int) (x55 : Int) : Env := [(0, .c (.d (.str x0))), (5, .c (.own 5)), (6, .c (.d (.int .i64 x6))), (7, .c (.d (.int .i64 x7))), (8, .c (.d (.int .i64 x8))), (9, .c (.own 9)), (54, .c (.d (.int .i64 x54))), (55, .c (.d (.int .i64 x55)))]
def lex_Lines.l2B (x0 : ByteArray) (x5 : ZLLT) (x6 : Int) (x7 : Int) (x8 : Int) (x9 : ZLT) (x54 : Int) (x55 : Int) : Obs := [(5, some (O143 .own x5)), (9, some (O148 .own x9))]
theorem lex_Lines.w (k : Nat) : (∀  (x0 : ByteArray) (x5 : ZLLT) (x6 : Int) (x7 : Int) (r : ZLLT × Int × Int), lex_Lines.l0 k x0 x5 x6 x7 = some r -> Til Tryz.prog 129 [] (.tup [.c (.d (L143 r.1)), .c (.d (.int .i64 r.2.1)), .c (.d (.int .i64 r.2.2))]) none [] (at_ Tryz.f129 6) (lex_Lines.l0E x0 x5 x6 x7) (lex_Lines.l0B x0 x5 x6 x7)) /\
 (∀  (x0 : ByteArray) (x5 : ZLLT) (x6 : Int) (x7 : Int) (x8 : Int) (r : ZLLT × Int × Int), lex_Lines.l1 k x0 x5 x6 x7 x8 = some r -> Til Tryz.prog 129 [] (.tup [.c (.d (L143 r.1)), .c (.d (.int .i64 r.2.1)), .c (.d (.int .i64 r.2.2))]) none [] (at_ Tryz.f129 11) (lex_Lines.l1E x0 x5 x6 x7 x8) (lex_Lines.l1B x0 x5 x6 x7 x8)) /\
 (∀  (x0 : ByteArray) (x5 : ZLLT) (x6 : Int) (x7 : Int) (x8 : Int) (x9 : ZLT) (x54 : Int) (x55 : Int) (r : ZLLT × Int × Int), lex_Lines.l2 k x0 x5 x6 x7 x8 x9 x54 x55 = some r -> Til Tryz.prog 129 [] (.tup [.c (.d (L143 r.1)), .c (.d (.int .i64 r.2.1)), .c (.d (.int .i64 r.2.2))]) none [] (at_ Tryz.f129 17) (lex_Lines.l2E x0 x5 x6 x7 x8 x9 x54 x55) (lex_Lines.l2B x0 x5 x6 x7 x8 x9 x54 x55)) := by
 induction k with
 | zero =>
  exact ⟨fun _ _ _ _ _ h => (by cases h), fun _ _ _ _ _ _ h => (by cases h), fun _ _ _ _ _ _ _ _ _ h => (by cases h)⟩
 | succ k ih =>
  refine ⟨?_, ?_, ?_⟩
  ·intro x0 x5 x6 x7 r h
   rw [lex_Lines.l0] at h
   by_cases h0 : x7 <= (x0.size : Int)
   ·rw [if_pos h0] at h
    by_cases h1 : x6 >= 16384
    ·rw [if_pos h1] at h
     obtain rfl := zI h
     exact Til.fin Tryz.func129 [(3, .b true), (5, .b true)] (fun _ f => o (zT h0) (o (zT h1) f)) (by kernel_rfl)
    ·rw [if_neg h1] at h
     exact Til.mid Tryz.func129 11 [(3, .b true), (5, .b false)] (fun _ f => o (zT h0) (o (zF h1) f)) (by kernel_rfl) (ih.2.1 _ _ _ _ _ _ h)
   ·rw [if_neg h0] at h
    obtain rfl := zI h
    exact Til.fin Tryz.func129 [(3, .b false)] (fun _ f => o (zF h0) f) (by kernel_rfl)
  ·intro x0 x5 x6 x7 x8 r h
   rw [lex_Lines.l1] at h
   by_cases h0 : x8 < (x0.size : Int)
   ·rw [if_pos h0] at h
    obtain ⟨h1, h⟩ := ifp h
    by_cases h2 : (bt x0 x8) ≠ 10
    ·rw [if_pos h2] at h
     exact Til.mid Tryz.func129 11 [(3, .b true), (8, .b true)] (fun _ f => o (zT h0) (o (o h1 h0) (o (bne_iff_ne.2 h2) f))) (by kernel_rfl) (ih.2.1 _ _ _ _ _ _ h)
    ·rw [if_neg h2] at h
     obtain ⟨h3, h⟩ := ifp h
     obtain ⟨h4, h⟩ := ifp h
     obtain ⟨h5, h⟩ := ifp h
     obtain ⟨v14, h6, h⟩ := bnd h
     by_cases h7 : v14.2.2 ≠ 0
     ·rw [if_pos h7] at h
      obtain rfl := zI h
      exact Til.fin Tryz.func129 [(3, .b true), (8, .b false), (14, .call [] [] (.tup [.c (.own 43), .c (.d (.int .i64 v14.2.1)), .c (.d (.int .i64 v14.2.2))]) (some (O148 .own v14.1)) [] []), (23, .b true)] (fun _ f => o (zT h0) (o (o h1 h0) (o (ne_f h2) (o (o h3 (o h4 h5)) (o (lex_Words.does h6) (o (bne_iff_ne.2 h7) f)))))) (by kernel_rfl)
     ·rw [if_neg h7] at h
      exact Til.mid Tryz.func129 17 [(3, .b true), (8, .b false), (14, .call [] [] (.tup [.c (.own 43), .c (.d (.int .i64 v14.2.1)), .c (.d (.int .i64 v14.2.2))]) (some (O148 .own v14.1)) [] []), (23, .b false)] (fun _ f => o (zT h0) (o (o h1 h0) (o (ne_f h2) (o (o h3 (o h4 h5)) (o (lex_Words.does h6) (o (ne_f h7) f)))))) (by kernel_rfl) (ih.2.2 _ _ _ _ _ _ _ _ _ h)
   ·rw [if_neg h0] at h
    obtain ⟨h1, h⟩ := ifp h
    obtain ⟨h2, h⟩ := ifp h
    obtain ⟨h3, h⟩ := ifp h
    obtain ⟨v14, h4, h⟩ := bnd h
    by_cases h5 : v14.2.2 ≠ 0
    ·rw [if_pos h5] at h
     obtain rfl := zI h
     exact Til.fin Tryz.func129 [(3, .b false), (14, .call [] [] (.tup [.c (.own 43), .c (.d (.int .i64 v14.2.1)), .c (.d (.int .i64 v14.2.2))]) (some (O148 .own v14.1)) [] []), (23, .b true)] (fun _ f => o (zF h0) (o (o h1 (o h2 h3)) (o (lex_Words.does h4) (o (bne_iff_ne.2 h5) f)))) (by kernel_rfl)
    ·rw [if_neg h5] at h
     exact Til.mid Tryz.func129 17 [(3, .b false), (14, .call [] [] (.tup [.c (.own 43), .c (.d (.int .i64 v14.2.1)), .c (.d (.int .i64 v14.2.2))]) (some (O148 .own v14.1)) [] []), (23, .b false)] (fun _ f => o (zF h0) (o (o h1 (o h2 h3)) (o (lex_Words.does h4) (o (ne_f h5) f)))) (by kernel_rfl) (ih.2.2 _ _ _ _ _ _ _ _ _ h)
  ·intro x0 x5 x6 x7 x8 x9 x54 x55 r h
   rw [lex_Lines.l2] at h
   by_cases h0 : x55 < x54
   ·rw [if_pos h0] at h
    obtain ⟨h1, h⟩ := ifp h
    obtain ⟨h2, h⟩ := ifp h
    obtain ⟨h3, h⟩ := ifp h
    exact Til.mid Tryz.func129 17 [(0, .b true), (17, Z148 (x9.set ((x55 : Int).toNat) ((wrap64 ((x9.getD ((x55 : Int).toNat) (0, 0, ByteArray.empty)).1 + x7)), (x9.getD ((x55 : Int).toNat) (0, 0, ByteArray.empty)).2.1, (x9.getD ((x55 : Int).toNat) (0, 0, ByteArray.empty)).2.2))), (20, Z148 ((x9.set ((x55 : Int).toNat) ((wrap64 ((x9.getD ((x55 : Int).toNat) (0, 0, ByteArray.empty)).1 + x7)), (x9.getD ((x55 : Int).toNat) (0, 0, ByteArray.empty)).2.1, (x9.getD ((x55 : Int).toNat) (0, 0, ByteArray.empty)).2.2)).set ((x55 : Int).toNat) (((x9.set ((x55 : Int).toNat) ((wrap64 ((x9.getD ((x55 : Int).toNat) (0, 0, ByteArray.empty)).1 + x7)), (x9.getD ((x55 : Int).toNat) (0, 0, ByteArray.empty)).2.1, (x9.getD ((x55 : Int).toNat) (0, 0, ByteArray.empty)).2.2)).getD ((x55 : Int).toNat) (0, 0, ByteArray.empty)).1, x6, ((x9.set ((x55 : Int).toNat) ((wrap64 ((x9.getD ((x55 : Int).toNat) (0, 0, ByteArray.empty)).1 + x7)), (x9.getD ((x55 : Int).toNat) (0, 0, ByteArray.empty)).2.1, (x9.getD ((x55 : Int).toNat) (0, 0, ByteArray.empty)).2.2)).getD ((x55 : Int).toNat) (0, 0, ByteArray.empty)).2.2)))] (fun _ f => o (zT h0) (o (o h1 h2) (o (o h1 h2) (o (set_okp c148 (0, 0, ByteArray.empty) x9 ((x55 : Int).toNat) ((wrap64 ((x9.getD ((x55 : Int).toNat) (0, 0, ByteArray.empty)).1 + x7)), (x9.getD ((x55 : Int).toNat) (0, 0, ByteArray.empty)).2.1, (x9.getD ((x55 : Int).toNat) (0, 0, ByteArray.empty)).2.2) 0 [.int .i64 (wrap64 ((x9.getD ((x55 : Int).toNat) (0, 0, ByteArray.empty)).1 + x7))] (lt_ok h1 h2) rfl) (o (o h1 h3) (o (set_okp c148 (0, 0, ByteArray.empty) (x9.set ((x55 : Int).toNat) ((wrap64 ((x9.getD ((x55 : Int).toNat) (0, 0, ByteArray.empty)).1 + x7)), (x9.getD ((x55 : Int).toNat) (0, 0, ByteArray.empty)).2.1, (x9.getD ((x55 : Int).toNat) (0, 0, ByteArray.empty)).2.2)) ((x55 : Int).toNat) (((x9.set ((x55 : Int).toNat) ((wrap64 ((x9.getD ((x55 : Int).toNat) (0, 0, ByteArray.empty)).1 + x7)), (x9.getD ((x55 : Int).toNat) (0, 0, ByteArray.empty)).2.1, (x9.getD ((x55 : Int).toNat) (0, 0, ByteArray.empty)).2.2)).getD ((x55 : Int).toNat) (0, 0, ByteArray.empty)).1, x6, ((x9.set ((x55 : Int).toNat) ((wrap64 ((x9.getD ((x55 : Int).toNat) (0, 0, ByteArray.empty)).1 + x7)), (x9.getD ((x55 : Int).toNat) (0, 0, ByteArray.empty)).2.1, (x9.getD ((x55 : Int).toNat) (0, 0, ByteArray.empty)).2.2)).getD ((x55 : Int).toNat) (0, 0, ByteArray.empty)).2.2) 1 [.int .i64 x6] (lt_ok h1 h3) rfl) f)))))) (by kernel_rfl) (ih.2.2 _ _ _ _ _ _ _ _ _ h)
   ·rw [if_neg h0] at h
    by_cases h1 : (x9.length : Int) > 0
    ·rw [if_pos h1] at h
     obtain ⟨h2, h⟩ := ifp h
     exact Til.mid Tryz.func129 6 [(0, .b false), (3, .b true), (6, Z143 ([x9] : ZLLT)), (7, Z143 (x5 ++ [x9]))] (fun _ f => o (zF h0) (o (zT h1) (o (lit_ok c143 [] ([x9] : ZLLT)) (o (app1 c143 [] x5 x9 24 5864062014805 (by decide) h2) f)))) (by kernel_rfl) (ih.1 _ _ _ _ _ h)
    ·rw [if_neg h1] at h
     exact Til.mid Tryz.func129 6 [(0, .b false), (3, .b false)] (fun _ f => o (zF h0) (o (zF h1) f)) (by kernel_rfl) (ih.1 _ _ _ _ _ h)
theorem lex_Lines.does {k : Nat} {a0 : ByteArray} {r : ZLLT × Int × Int} (h : lex_Lines.f k a0 = some r) :
 Does Tryz.prog 129 [.c (.d (.str a0))] [] (.tup [.c (.d (L143 r.1)), .c (.d (.int .i64 r.2.1)), .c (.d (.int .i64 r.2.2))]) none [] := by
 refine does_fn Tryz.func129 (by kernel_rfl) rfl rfl ?_
 unfold lex_Lines.f at h
 have ih := lex_Lines.w k
 by_cases h0 : (a0.size : Int) > 1048576
 ·rw [if_pos h0] at h
  obtain rfl := zI h
  exact Til.fin Tryz.func129 [(5, .b true)] (fun _ f => o (zT h0) f) (by kernel_rfl)
 ·rw [if_neg h0] at h
  exact Til.mid Tryz.func129 6 [(5, .b false)] (fun _ f => o (zF h0) f) (by kernel_rfl) (ih.1 _ _ _ _ _ h)

theorem lex_Read.does {k : Nat} {a0 : ByteArray} {r : ZLLT × Int × Int × Int × Int × Int} (h : lex_Read.f k a0 = some r) :
 Does Tryz.prog 69 [.c (.d (.str a0))] [] (.c (.ptr newName 0)) (some (.box [.d (L143 r.1), .d (.int .i64 r.2.1), .d (.int .i64 r.2.2.1), .d (.int .i64 r.2.2.2.1), .d (.int .i64 r.2.2.2.2.1), .d (.int .i64 r.2.2.2.2.2)])) [] := by
 refine does_fn Tryz.func69 (by kernel_rfl) rfl rfl ?_
 unfold lex_Read.f at h
 obtain ⟨v2, h0, h⟩ := bnd h
 obtain rfl := zI h
 exact Til.fin Tryz.func69 [(2, ca (.tup [.c (.d (L143 v2.1)), .c (.d (.int .i64 v2.2.1)), .c (.d (.int .i64 v2.2.2))]))] (fun _ f => o (lex_Lines.does h0) f) (by kernel_rfl)

theorem lex_Reader_off.does {l0_0 : ZLLT} {a0_1 : Int} {a0_2 : Int} {a0_3 : Int} {a0_4 : Int} {a0_5 : Int} {r : Bool × ZLLT × Int × Int × Int × Int × Int} (h : lex_Reader_off.f l0_0 a0_1 a0_2 a0_3 a0_4 a0_5 = some r) :
 Does Tryz.prog 132 [.c (.ptr 0 0)] [(0, some (.box [.d (L143 l0_0), .d (.int .i64 a0_1), .d (.int .i64 a0_2), .d (.int .i64 a0_3), .d (.int .i64 a0_4), .d (.int .i64 a0_5)]))] (.c (.d (.bool r.1))) none [(0, some (.box [.d (L143 r.2.1), .d (.int .i64 r.2.2.1), .d (.int .i64 r.2.2.2.1), .d (.int .i64 r.2.2.2.2.1), .d (.int .i64 r.2.2.2.2.2.1), .d (.int .i64 r.2.2.2.2.2.2)]))] := by
 refine does_fn Tryz.func132 (by kernel_rfl) rfl rfl ?_
 unfold lex_Reader_off.f at h
 obtain rfl := zI h
 exact Til.fin Tryz.func132 [] (fun _ f => f) (by kernel_rfl)

theorem lex_Reader_here.does {l0_0 : ZLLT} {a0_1 : Int} {a0_2 : Int} {a0_3 : Int} {a0_4 : Int} {a0_5 : Int} {r : Int × ZLLT × Int × Int × Int × Int × Int} (h : lex_Reader_here.f l0_0 a0_1 a0_2 a0_3 a0_4 a0_5 = some r) :
 Does Tryz.prog 135 [.c (.ptr 0 0)] [(0, some (.box [.d (L143 l0_0), .d (.int .i64 a0_1), .d (.int .i64 a0_2), .d (.int .i64 a0_3), .d (.int .i64 a0_4), .d (.int .i64 a0_5)]))] (.c (.d (.int .i64 r.1))) none [(0, some (.box [.d (L143 r.2.1), .d (.int .i64 r.2.2.1), .d (.int .i64 r.2.2.2.1), .d (.int .i64 r.2.2.2.2.1), .d (.int .i64 r.2.2.2.2.2.1), .d (.int .i64 r.2.2.2.2.2.2)]))] := by
 refine does_fn Tryz.func135 (by kernel_rfl) rfl rfl ?_
 unfold lex_Reader_here.f at h
 by_cases h0 : a0_1 >= (l0_0.length : Int)
 ·rw [if_pos h0] at h
  obtain rfl := zI h
  exact Til.fin Tryz.func135 [(10, .b true)] (fun _ f => o (zT h0) f) (by kernel_rfl)
 ·rw [if_neg h0] at h
  obtain ⟨h1, h⟩ := ifp h
  obtain ⟨h2, h⟩ := ifp h
  by_cases h3 : a0_2 < ((gt [] l0_0 a0_1).length : Int)
  ·rw [if_pos h3] at h
   obtain ⟨h4, h⟩ := ifp h
   obtain rfl := zI h
   exact Til.fin Tryz.func135 [(10, .b false), (28, .b true)] (fun _ f => o (zF h0) (o (o h1 h2) (o (zT h3) (o (o h4 h3) f)))) (by kernel_rfl)
  ·rw [if_neg h3] at h
   obtain ⟨h4, h⟩ := ifp h
   obtain ⟨h5, h⟩ := ifp h
   obtain rfl := zI h
   exact Til.fin Tryz.func135 [(10, .b false), (28, .b false)] (fun _ f => o (zF h0) (o (o h1 h2) (o (zF h3) (o (o h4 h5) f)))) (by kernel_rfl)

theorem lex_Reader_place.does {l0_0 : ZLLT} {a0_1 : Int} {a0_2 : Int} {a0_3 : Int} {a0_4 : Int} {a0_5 : Int} {r : Int × ZLLT × Int × Int × Int × Int × Int} (h : lex_Reader_place.f l0_0 a0_1 a0_2 a0_3 a0_4 a0_5 = some r) :
 Does Tryz.prog 130 [.c (.ptr 0 0)] [(0, some (.box [.d (L143 l0_0), .d (.int .i64 a0_1), .d (.int .i64 a0_2), .d (.int .i64 a0_3), .d (.int .i64 a0_4), .d (.int .i64 a0_5)]))] (.c (.d (.int .i64 r.1))) none [(0, some (.box [.d (L143 r.2.1), .d (.int .i64 r.2.2.1), .d (.int .i64 r.2.2.2.1), .d (.int .i64 r.2.2.2.2.1), .d (.int .i64 r.2.2.2.2.2.1), .d (.int .i64 r.2.2.2.2.2.2)]))] := by
 refine does_fn Tryz.func130 (by kernel_rfl) rfl rfl ?_
 unfold lex_Reader_place.f at h
 obtain ⟨⟨v2_0, ⟨v2_1, ⟨v2_2, ⟨v2_3, ⟨v2_4, ⟨v2_5, v2_6⟩⟩⟩⟩⟩⟩, h0, h⟩ := bnd h
 dsimp only at h
 cases v2_0
 ·rw [if_neg (by decide)] at h
  obtain ⟨v4, h2, h⟩ := bnd h
  obtain rfl := zI h
  exact Til.fin Tryz.func130 [(2, .call [] [0] (.c (.d (.bool false))) none [(0, some (.box [.d (L143 v2_1), .d (.int .i64 v2_2), .d (.int .i64 v2_3), .d (.int .i64 v2_4), .d (.int .i64 v2_5), .d (.int .i64 v2_6)]))] []), (4, .call [] [0] (.c (.d (.int .i64 v4.1))) none [(0, some (.box [.d (L143 v4.2.1), .d (.int .i64 v4.2.2.1), .d (.int .i64 v4.2.2.2.1), .d (.int .i64 v4.2.2.2.2.1), .d (.int .i64 v4.2.2.2.2.2.1), .d (.int .i64 v4.2.2.2.2.2.2)]))] [])] (fun _ f => o (lex_Reader_off.does h0) (o (lex_Reader_here.does h2) f)) (by kernel_rfl)
 ·rw [if_pos rfl] at h
  obtain rfl := zI h
  exact Til.fin Tryz.func130 [(2, .call [] [0] (.c (.d (.bool true))) none [(0, some (.box [.d (L143 v2_1), .d (.int .i64 v2_2), .d (.int .i64 v2_3), .d (.int .i64 v2_4), .d (.int .i64 v2_5), .d (.int .i64 v2_6)]))] [])] (fun _ f => o (lex_Reader_off.does h0) f) (by kernel_rfl)

theorem lex_Reader_fail.does {l0_0 : ZLLT} {a0_1 : Int} {a0_2 : Int} {a0_3 : Int} {a0_4 : Int} {a0_5 : Int} {a1 : Int} {a2 : Int} {r : ZLLT × Int × Int × Int × Int × Int} (h : lex_Reader_fail.f l0_0 a0_1 a0_2 a0_3 a0_4 a0_5 a1 a2 = some r) :
 Does Tryz.prog 133 [.c (.ptr 0 0), .c (.d (.int .i64 a1)), .c (.d (.int .i64 a2))] [(0, some (.box [.d (L143 l0_0), .d (.int .i64 a0_1), .d (.int .i64 a0_2), .d (.int .i64 a0_3), .d (.int .i64 a0_4), .d (.int .i64 a0_5)]))] (.tup []) none [(0, some (.box [.d (L143 r.1), .d (.int .i64 r.2.1), .d (.int .i64 r.2.2.1), .d (.int .i64 r.2.2.2.1), .d (.int .i64 r.2.2.2.2.1), .d (.int .i64 r.2.2.2.2.2)]))] := by
 refine does_fn Tryz.func133 (by kernel_rfl) rfl rfl ?_
 unfold lex_Reader_fail.f at h
 obtain ⟨⟨v1_0, ⟨v1_1, ⟨v1_2, ⟨v1_3, ⟨v1_4, ⟨v1_5, v1_6⟩⟩⟩⟩⟩⟩, h0, h⟩ := bnd h
 dsimp only at h
 cases v1_0
 ·rw [if_neg (by decide)] at h
  obtain rfl := zI h
  exact Til.fin Tryz.func133 [(1, .call [] [0] (.c (.d (.bool false))) none [(0, some (.box [.d (L143 v1_1), .d (.int .i64 v1_2), .d (.int .i64 v1_3), .d (.int .i64 v1_4), .d (.int .i64 v1_5), .d (.int .i64 v1_6)]))] [])] (fun _ f => o (lex_Reader_off.does h0) f) (by kernel_rfl)
 ·rw [if_pos rfl] at h
  obtain rfl := zI h
  exact Til.fin Tryz.func133 [(1, .call [] [0] (.c (.d (.bool true))) none [(0, some (.box [.d (L143 v1_1), .d (.int .i64 v1_2), .d (.int .i64 v1_3), .d (.int .i64 v1_4), .d (.int .i64 v1_5), .d (.int .i64 v1_6)]))] [])] (fun _ f => o (lex_Reader_off.does h0) f) (by kernel_rfl)

theorem lex_Reader_More.does {l0_0 : ZLLT} {a0_1 : Int} {a0_2 : Int} {a0_3 : Int} {a0_4 : Int} {a0_5 : Int} {r : Bool × ZLLT × Int × Int × Int × Int × Int} (h : lex_Reader_More.f l0_0 a0_1 a0_2 a0_3 a0_4 a0_5 = some r) :
 Does Tryz.prog 134 [.c (.ptr 0 0)] [(0, some (.box [.d (L143 l0_0), .d (.int .i64 a0_1), .d (.int .i64 a0_2), .d (.int .i64 a0_3), .d (.int .i64 a0_4), .d (.int .i64 a0_5)]))] (.c (.d (.bool r.1))) none [(0, some (.box [.d (L143 r.2.1), .d (.int .i64 r.2.2.1), .d (.int .i64 r.2.2.2.1), .d (.int .i64 r.2.2.2.2.1), .d (.int .i64 r.2.2.2.2.2.1), .d (.int .i64 r.2.2.2.2.2.2)]))] := by
 refine does_fn Tryz.func134 (by kernel_rfl) rfl rfl ?_
 unfold lex_Reader_More.f at h
 obtain ⟨⟨v2_0, ⟨v2_1, ⟨v2_2, ⟨v2_3, ⟨v2_4, ⟨v2_5, v2_6⟩⟩⟩⟩⟩⟩, h0, h⟩ := bnd h
 dsimp only at h
 cases v2_0
 ·rw [if_neg (by decide)] at h
  by_cases h2 : v2_2 < (v2_1.length : Int)
  ·rw [if_pos h2] at h
   obtain ⟨h3, h⟩ := ifp h
   obtain rfl := zI h
   exact Til.fin Tryz.func134 [(2, .call [] [0] (.c (.d (.bool false))) none [(0, some (.box [.d (L143 v2_1), .d (.int .i64 v2_2), .d (.int .i64 v2_3), .d (.int .i64 v2_4), .d (.int .i64 v2_5), .d (.int .i64 v2_6)]))] []), (14, .b true)] (fun _ f => o (lex_Reader_off.does h0) (o (zT h2) (o (o h3 h2) f))) (by kernel_rfl)
  ·rw [if_neg h2] at h
   obtain rfl := zI h
   exact Til.fin Tryz.func134 [(2, .call [] [0] (.c (.d (.bool false))) none [(0, some (.box [.d (L143 v2_1), .d (.int .i64 v2_2), .d (.int .i64 v2_3), .d (.int .i64 v2_4), .d (.int .i64 v2_5), .d (.int .i64 v2_6)]))] []), (14, .b false)] (fun _ f => o (lex_Reader_off.does h0) (o (zF h2) f)) (by kernel_rfl)
 ·rw [if_pos rfl] at h
  obtain rfl := zI h
  exact Til.fin Tryz.func134 [(2, .call [] [0] (.c (.d (.bool true))) none [(0, some (.box [.d (L143 v2_1), .d (.int .i64 v2_2), .d (.int .i64 v2_3), .d (.int .i64 v2_4), .d (.int .i64 v2_5), .d (.int .i64 v2_6)]))] [])] (fun _ f => o (lex_Reader_off.does h0) f) (by kernel_rfl)

theorem lex_Reader_Word.does {l0_0 : ZLLT} {a0_1 : Int} {a0_2 : Int} {a0_3 : Int} {a0_4 : Int} {a0_5 : Int} {r : ByteArray × ZLLT × Int × Int × Int × Int × Int} (h : lex_Reader_Word.f l0_0 a0_1 a0_2 a0_3 a0_4 a0_5 = some r) :
 Does Tryz.prog 131 [.c (.ptr 0 0)] [(0, some (.box [.d (L143 l0_0), .d (.int .i64 a0_1), .d (.int .i64 a0_2), .d (.int .i64 a0_3), .d (.int .i64 a0_4), .d (.int .i64 a0_5)]))] (.c (.d (.str r.1))) none [(0, some (.box [.d (L143 r.2.1), .d (.int .i64 r.2.2.1), .d (.int .i64 r.2.2.2.1), .d (.int .i64 r.2.2.2.2.1), .d (.int .i64 r.2.2.2.2.2.1), .d (.int .i64 r.2.2.2.2.2.2)]))] := by
 refine does_fn Tryz.func131 (by kernel_rfl) rfl rfl ?_
 unfold lex_Reader_Word.f at h
 obtain ⟨⟨v2_0, ⟨v2_1, ⟨v2_2, ⟨v2_3, ⟨v2_4, ⟨v2_5, v2_6⟩⟩⟩⟩⟩⟩, h0, h⟩ := bnd h
 dsimp only at h
 cases v2_0
 ·rw [if_neg (by decide)] at h
  obtain ⟨⟨v4_0, ⟨v4_1, ⟨v4_2, ⟨v4_3, ⟨v4_4, ⟨v4_5, v4_6⟩⟩⟩⟩⟩⟩, h2, h⟩ := bnd h
  dsimp only at h
  cases v4_0
  ·rw [if_neg (by decide)] at h
   obtain ⟨v8, h4, h⟩ := bnd h
   obtain ⟨v9, h5, h⟩ := bnd h
   obtain rfl := zI h
   exact Til.fin Tryz.func131 [(2, .call [] [0] (.c (.d (.bool false))) none [(0, some (.box [.d (L143 v2_1), .d (.int .i64 v2_2), .d (.int .i64 v2_3), .d (.int .i64 v2_4), .d (.int .i64 v2_5), .d (.int .i64 v2_6)]))] []), (4, .call [] [0] (.c (.d (.bool false))) none [(0, some (.box [.d (L143 v4_1), .d (.int .i64 v4_2), .d (.int .i64 v4_3), .d (.int .i64 v4_4), .d (.int .i64 v4_5), .d (.int .i64 v4_6)]))] []), (8, .call [] [0] (.c (.d (.int .i64 v8.1))) none [(0, some (.box [.d (L143 v8.2.1), .d (.int .i64 v8.2.2.1), .d (.int .i64 v8.2.2.2.1), .d (.int .i64 v8.2.2.2.2.1), .d (.int .i64 v8.2.2.2.2.2.1), .d (.int .i64 v8.2.2.2.2.2.2)]))] []), (9, .call [] [0] (.tup []) none [(0, some (.box [.d (L143 v9.1), .d (.int .i64 v9.2.1), .d (.int .i64 v9.2.2.1), .d (.int .i64 v9.2.2.2.1), .d (.int .i64 v9.2.2.2.2.1), .d (.int .i64 v9.2.2.2.2.2)]))] [])] (fun _ f => o (lex_Reader_off.does h0) (o (lex_Reader_More.does h2) (o (lex_Reader_here.does h4) (o (lex_Reader_fail.does h5) f)))) (by kernel_rfl)
  ·rw [if_pos rfl] at h
   obtain ⟨h4, h⟩ := ifp h
   obtain ⟨h5, h⟩ := ifp h
   obtain ⟨h6, h⟩ := ifp h
   obtain ⟨h7, h⟩ := ifp h
   obtain rfl := zI h
   exact Til.fin Tryz.func131 [(2, .call [] [0] (.c (.d (.bool false))) none [(0, some (.box [.d (L143 v2_1), .d (.int .i64 v2_2), .d (.int .i64 v2_3), .d (.int .i64 v2_4), .d (.int .i64 v2_5), .d (.int .i64 v2_6)]))] []), (4, .call [] [0] (.c (.d (.bool true))) none [(0, some (.box [.d (L143 v4_1), .d (.int .i64 v4_2), .d (.int .i64 v4_3), .d (.int .i64 v4_4), .d (.int .i64 v4_5), .d (.int .i64 v4_6)]))] [])] (fun _ f => o (lex_Reader_off.does h0) (o (lex_Reader_More.does h2) (o (o h4 h5) (o (o h6 h7) f)))) (by kernel_rfl)
 ·rw [if_pos rfl] at h
  obtain rfl := zI h
  exact Til.fin Tryz.func131 [(2, .call [] [0] (.c (.d (.bool true))) none [(0, some (.box [.d (L143 v2_1), .d (.int .i64 v2_2), .d (.int .i64 v2_3), .d (.int .i64 v2_4), .d (.int .i64 v2_5), .d (.int .i64 v2_6)]))] [])] (fun _ f => o (lex_Reader_off.does h0) f) (by kernel_rfl)

theorem lex_Reader_Take.does {l0_0 : ZLLT} {a0_1 : Int} {a0_2 : Int} {a0_3 : Int} {a0_4 : Int} {a0_5 : Int} {a1 : ByteArray} {r : ZLLT × Int × Int × Int × Int × Int} (h : lex_Reader_Take.f l0_0 a0_1 a0_2 a0_3 a0_4 a0_5 a1 = some r) :
 Does Tryz.prog 70 [.c (.ptr 0 0), .c (.d (.str a1))] [(0, some (.box [.d (L143 l0_0), .d (.int .i64 a0_1), .d (.int .i64 a0_2), .d (.int .i64 a0_3), .d (.int .i64 a0_4), .d (.int .i64 a0_5)]))] (.tup []) none [(0, some (.box [.d (L143 r.1), .d (.int .i64 r.2.1), .d (.int .i64 r.2.2.1), .d (.int .i64 r.2.2.2.1), .d (.int .i64 r.2.2.2.2.1), .d (.int .i64 r.2.2.2.2.2)]))] := by
 refine does_fn Tryz.func70 (by kernel_rfl) rfl rfl ?_
 unfold lex_Reader_Take.f at h
 obtain ⟨v1, h0, h⟩ := bnd h
 obtain ⟨v4, h1, h⟩ := bnd h
 obtain ⟨⟨v7_0, ⟨v7_1, ⟨v7_2, ⟨v7_3, ⟨v7_4, ⟨v7_5, v7_6⟩⟩⟩⟩⟩⟩, h2, h⟩ := bnd h
 dsimp only at h
 cases v7_0
 ·rw [if_neg (by decide)] at h
  by_cases h4 : v4.1 ≠ a1
  ·rw [if_pos h4] at h
   obtain ⟨v16, h5, h⟩ := bnd h
   obtain rfl := zI h
   exact Til.fin Tryz.func70 [(1, .call [] [0] (.c (.d (.int .i64 v1.1))) none [(0, some (.box [.d (L143 v1.2.1), .d (.int .i64 v1.2.2.1), .d (.int .i64 v1.2.2.2.1), .d (.int .i64 v1.2.2.2.2.1), .d (.int .i64 v1.2.2.2.2.2.1), .d (.int .i64 v1.2.2.2.2.2.2)]))] []), (4, .call [] [0] (.c (.d (.str v4.1))) none [(0, some (.box [.d (L143 v4.2.1), .d (.int .i64 v4.2.2.1), .d (.int .i64 v4.2.2.2.1), .d (.int .i64 v4.2.2.2.2.1), .d (.int .i64 v4.2.2.2.2.2.1), .d (.int .i64 v4.2.2.2.2.2.2)]))] []), (7, .call [] [0] (.c (.d (.bool false))) none [(0, some (.box [.d (L143 v7_1), .d (.int .i64 v7_2), .d (.int .i64 v7_3), .d (.int .i64 v7_4), .d (.int .i64 v7_5), .d (.int .i64 v7_6)]))] []), (12, .b true), (16, .call [] [0] (.tup []) none [(0, some (.box [.d (L143 v16.1), .d (.int .i64 v16.2.1), .d (.int .i64 v16.2.2.1), .d (.int .i64 v16.2.2.2.1), .d (.int .i64 v16.2.2.2.2.1), .d (.int .i64 v16.2.2.2.2.2)]))] [])] (fun _ f => o (lex_Reader_place.does h0) (o (lex_Reader_Word.does h1) (o (lex_Reader_off.does h2) (o (str_nt h4) (o (lex_Reader_fail.does h5) f))))) (by kernel_rfl)
  ·rw [if_neg h4] at h
   obtain rfl := zI h
   exact Til.fin Tryz.func70 [(1, .call [] [0] (.c (.d (.int .i64 v1.1))) none [(0, some (.box [.d (L143 v1.2.1), .d (.int .i64 v1.2.2.1), .d (.int .i64 v1.2.2.2.1), .d (.int .i64 v1.2.2.2.2.1), .d (.int .i64 v1.2.2.2.2.2.1), .d (.int .i64 v1.2.2.2.2.2.2)]))] []), (4, .call [] [0] (.c (.d (.str v4.1))) none [(0, some (.box [.d (L143 v4.2.1), .d (.int .i64 v4.2.2.1), .d (.int .i64 v4.2.2.2.1), .d (.int .i64 v4.2.2.2.2.1), .d (.int .i64 v4.2.2.2.2.2.1), .d (.int .i64 v4.2.2.2.2.2.2)]))] []), (7, .call [] [0] (.c (.d (.bool false))) none [(0, some (.box [.d (L143 v7_1), .d (.int .i64 v7_2), .d (.int .i64 v7_3), .d (.int .i64 v7_4), .d (.int .i64 v7_5), .d (.int .i64 v7_6)]))] []), (12, .b false)] (fun _ f => o (lex_Reader_place.does h0) (o (lex_Reader_Word.does h1) (o (lex_Reader_off.does h2) (o (str_nf h4) f)))) (by kernel_rfl)
 ·rw [if_pos rfl] at h
  obtain rfl := zI h
  exact Til.fin Tryz.func70 [(1, .call [] [0] (.c (.d (.int .i64 v1.1))) none [(0, some (.box [.d (L143 v1.2.1), .d (.int .i64 v1.2.2.1), .d (.int .i64 v1.2.2.2.1), .d (.int .i64 v1.2.2.2.2.1), .d (.int .i64 v1.2.2.2.2.2.1), .d (.int .i64 v1.2.2.2.2.2.2)]))] []), (4, .call [] [0] (.c (.d (.str v4.1))) none [(0, some (.box [.d (L143 v4.2.1), .d (.int .i64 v4.2.2.1), .d (.int .i64 v4.2.2.2.1), .d (.int .i64 v4.2.2.2.2.1), .d (.int .i64 v4.2.2.2.2.2.1), .d (.int .i64 v4.2.2.2.2.2.2)]))] []), (7, .call [] [0] (.c (.d (.bool true))) none [(0, some (.box [.d (L143 v7_1), .d (.int .i64 v7_2), .d (.int .i64 v7_3), .d (.int .i64 v7_4), .d (.int .i64 v7_5), .d (.int .i64 v7_6)]))] [])] (fun _ f => o (lex_Reader_place.does h0) (o (lex_Reader_Word.does h1) (o (lex_Reader_off.does h2) f))) (by kernel_rfl)

theorem lex_Reader_Next.does {l0_0 : ZLLT} {a0_1 : Int} {a0_2 : Int} {a0_3 : Int} {a0_4 : Int} {a0_5 : Int} {r : ZLLT × Int × Int × Int × Int × Int} (h : lex_Reader_Next.f l0_0 a0_1 a0_2 a0_3 a0_4 a0_5 = some r) :
 Does Tryz.prog 71 [.c (.ptr 0 0)] [(0, some (.box [.d (L143 l0_0), .d (.int .i64 a0_1), .d (.int .i64 a0_2), .d (.int .i64 a0_3), .d (.int .i64 a0_4), .d (.int .i64 a0_5)]))] (.tup []) none [(0, some (.box [.d (L143 r.1), .d (.int .i64 r.2.1), .d (.int .i64 r.2.2.1), .d (.int .i64 r.2.2.2.1), .d (.int .i64 r.2.2.2.2.1), .d (.int .i64 r.2.2.2.2.2)]))] := by
 refine does_fn Tryz.func71 (by kernel_rfl) rfl rfl ?_
 unfold lex_Reader_Next.f at h
 obtain ⟨⟨v1_0, ⟨v1_1, ⟨v1_2, ⟨v1_3, ⟨v1_4, ⟨v1_5, v1_6⟩⟩⟩⟩⟩⟩, h0, h⟩ := bnd h
 dsimp only at h
 cases v1_0
 ·rw [if_neg (by decide)] at h
  obtain ⟨⟨v3_0, ⟨v3_1, ⟨v3_2, ⟨v3_3, ⟨v3_4, ⟨v3_5, v3_6⟩⟩⟩⟩⟩⟩, h2, h⟩ := bnd h
  dsimp only at h
  cases v3_0
  ·rw [if_neg (by decide)] at h
   by_cases h4 : v3_2 >= (v3_1.length : Int)
   ·rw [if_pos h4] at h
    obtain ⟨v19, h5, h⟩ := bnd h
    obtain rfl := zI h
    exact Til.fin Tryz.func71 [(1, .call [] [0] (.c (.d (.bool false))) none [(0, some (.box [.d (L143 v1_1), .d (.int .i64 v1_2), .d (.int .i64 v1_3), .d (.int .i64 v1_4), .d (.int .i64 v1_5), .d (.int .i64 v1_6)]))] []), (3, .call [] [0] (.c (.d (.bool false))) none [(0, some (.box [.d (L143 v3_1), .d (.int .i64 v3_2), .d (.int .i64 v3_3), .d (.int .i64 v3_4), .d (.int .i64 v3_5), .d (.int .i64 v3_6)]))] []), (13, .b true), (19, .call [] [0] (.tup []) none [(0, some (.box [.d (L143 v19.1), .d (.int .i64 v19.2.1), .d (.int .i64 v19.2.2.1), .d (.int .i64 v19.2.2.2.1), .d (.int .i64 v19.2.2.2.2.1), .d (.int .i64 v19.2.2.2.2.2)]))] [])] (fun _ f => o (lex_Reader_off.does h0) (o (lex_Reader_More.does h2) (o (zT h4) (o (lex_Reader_fail.does h5) f)))) (by kernel_rfl)
   ·rw [if_neg h4] at h
    obtain rfl := zI h
    exact Til.fin Tryz.func71 [(1, .call [] [0] (.c (.d (.bool false))) none [(0, some (.box [.d (L143 v1_1), .d (.int .i64 v1_2), .d (.int .i64 v1_3), .d (.int .i64 v1_4), .d (.int .i64 v1_5), .d (.int .i64 v1_6)]))] []), (3, .call [] [0] (.c (.d (.bool false))) none [(0, some (.box [.d (L143 v3_1), .d (.int .i64 v3_2), .d (.int .i64 v3_3), .d (.int .i64 v3_4), .d (.int .i64 v3_5), .d (.int .i64 v3_6)]))] []), (13, .b false)] (fun _ f => o (lex_Reader_off.does h0) (o (lex_Reader_More.does h2) (o (zF h4) f))) (by kernel_rfl)
  ·rw [if_pos rfl] at h
   obtain ⟨v6, h4, h⟩ := bnd h
   obtain ⟨v7, h5, h⟩ := bnd h
   obtain rfl := zI h
   exact Til.fin Tryz.func71 [(1, .call [] [0] (.c (.d (.bool false))) none [(0, some (.box [.d (L143 v1_1), .d (.int .i64 v1_2), .d (.int .i64 v1_3), .d (.int .i64 v1_4), .d (.int .i64 v1_5), .d (.int .i64 v1_6)]))] []), (3, .call [] [0] (.c (.d (.bool true))) none [(0, some (.box [.d (L143 v3_1), .d (.int .i64 v3_2), .d (.int .i64 v3_3), .d (.int .i64 v3_4), .d (.int .i64 v3_5), .d (.int .i64 v3_6)]))] []), (6, .call [] [0] (.c (.d (.int .i64 v6.1))) none [(0, some (.box [.d (L143 v6.2.1), .d (.int .i64 v6.2.2.1), .d (.int .i64 v6.2.2.2.1), .d (.int .i64 v6.2.2.2.2.1), .d (.int .i64 v6.2.2.2.2.2.1), .d (.int .i64 v6.2.2.2.2.2.2)]))] []), (7, .call [] [0] (.tup []) none [(0, some (.box [.d (L143 v7.1), .d (.int .i64 v7.2.1), .d (.int .i64 v7.2.2.1), .d (.int .i64 v7.2.2.2.1), .d (.int .i64 v7.2.2.2.2.1), .d (.int .i64 v7.2.2.2.2.2)]))] [])] (fun _ f => o (lex_Reader_off.does h0) (o (lex_Reader_More.does h2) (o (lex_Reader_here.does h4) (o (lex_Reader_fail.does h5) f)))) (by kernel_rfl)
 ·rw [if_pos rfl] at h
  obtain rfl := zI h
  exact Til.fin Tryz.func71 [(1, .call [] [0] (.c (.d (.bool true))) none [(0, some (.box [.d (L143 v1_1), .d (.int .i64 v1_2), .d (.int .i64 v1_3), .d (.int .i64 v1_4), .d (.int .i64 v1_5), .d (.int .i64 v1_6)]))] [])] (fun _ f => o (lex_Reader_off.does h0) f) (by kernel_rfl)

def c5 (x : Int) : List Dat := [.int .u8 x]
def L5 (xs : ZI) : Dat := fr 1 c5 0 xs
def Z5 (xs : ZI) : Sup := .r xs.length (enc c5 0 xs)
def O5 (k : RK) (xs : ZI) : Ob := .row k 5 1 xs.length (enc c5 0 xs)

def lex_small.l0E (x4 : Int) (x20 : ZI) (x21 : Int) (x22 : Int) : Env := [(4, .c (.d (.int .i64 x4))), (20, .c (.d (L5 x20))), (21, .c (.d (.int .i64 x21))), (22, .c (.d (.int .i64 x22)))]
theorem lex_small.w (k : Nat) : (∀  (x4 : Int) (x20 : ZI) (x21 : Int) (x22 : Int) (r : Int × Bool), lex_small.l0 k x4 x20 x21 x22 = some r -> Til Tryz.prog 136 [] (.tup [.c (.d (.int .i64 r.1)), .c (.d (.bool r.2))]) none [] (at_ Tryz.f136 5) (lex_small.l0E x4 x20 x21 x22) []) := by
 induction k with
 | zero =>
  exact fun _ _ _ _ _ h => (by cases h)
 | succ k ih =>
  intro x4 x20 x21 x22 r h
  rw [lex_small.l0] at h
  by_cases h0 : x22 < x21
  ·rw [if_pos h0] at h
   obtain ⟨h1, h⟩ := ifp h
   obtain ⟨h2, h⟩ := ifp h
   by_cases h3 : (rd x20 x22) < 48
   ·rw [if_pos h3] at h
    obtain rfl := zI h
    exact Til.fin Tryz.func136 [(0, .b true), (5, .b true)] (fun _ f => o (zT h0) (o (o h1 h2) (o (zT h3) f))) (by kernel_rfl)
   ·rw [if_neg h3] at h
    by_cases h4 : (rd x20 x22) > 57
    ·rw [if_pos h4] at h
     obtain rfl := zI h
     exact Til.fin Tryz.func136 [(0, .b true), (5, .b false), (8, .b true)] (fun _ f => o (zT h0) (o (o h1 h2) (o (zF h3) (o (zT h4) f)))) (by kernel_rfl)
    ·rw [if_neg h4] at h
     by_cases h5 : (wrap64 ((wrap64 (10 * x4)) + (wrap64 ((IntKind.u8.wrap ((rd x20 x22) - 48)))))) > 1000000000
     ·rw [if_pos h5] at h
      exact Til.mid Tryz.func136 5 [(0, .b true), (5, .b false), (8, .b false), (18, .b true)] (fun _ f => o (zT h0) (o (o h1 h2) (o (zF h3) (o (zF h4) (o (zT h5) f))))) (by kernel_rfl) (ih _ _ _ _ _ h)
     ·rw [if_neg h5] at h
      exact Til.mid Tryz.func136 5 [(0, .b true), (5, .b false), (8, .b false), (18, .b false)] (fun _ f => o (zT h0) (o (o h1 h2) (o (zF h3) (o (zF h4) (o (zF h5) f))))) (by kernel_rfl) (ih _ _ _ _ _ h)
  ·rw [if_neg h0] at h
   obtain rfl := zI h
   exact Til.fin Tryz.func136 [(0, .b false)] (fun _ f => o (zF h0) f) (by kernel_rfl)
theorem lex_small.does {k : Nat} {a0 : ByteArray} {r : Int × Bool} (h : lex_small.f k a0 = some r) :
 Does Tryz.prog 136 [.c (.d (.str a0))] [] (.tup [.c (.d (.int .i64 r.1)), .c (.d (.bool r.2))]) none [] := by
 refine does_fn Tryz.func136 (by kernel_rfl) rfl rfl ?_
 unfold lex_small.f at h
 have ih := lex_small.w k
 by_cases h0 : a0 = ByteArray.empty
 ·rw [if_pos h0] at h
  obtain rfl := zI h
  exact Til.fin Tryz.func136 [(3, .b true)] (fun _ f => o (str_t h0) f) (by kernel_rfl)
 ·rw [if_neg h0] at h
  by_cases h1 : (a0.size : Int) > 1
  ·rw [if_pos h1] at h
   obtain ⟨h2, h⟩ := ifp h
   by_cases h3 : (bt a0 0) = 48
   ·rw [if_pos h3] at h
    obtain rfl := zI h
    exact Til.fin Tryz.func136 [(3, .b false), (7, .b true), (11, .b true)] (fun _ f => o (str_f h0) (o (zT h1) (o (o (nn 0) h2) (o (beq_iff_eq.2 h3) f)))) (by kernel_rfl)
   ·rw [if_neg h3] at h
    obtain ⟨h4, h⟩ := ifp h
    exact Til.mid Tryz.func136 5 [(3, .b false), (7, .b true), (11, .b false), (16, Z5 (toBytes a0))] (fun _ f => o (str_f h0) (o (zT h1) (o (o (nn 0) h2) (o (zB h3) (o (bytes_ok c5 a0 (fun _ => rfl) h4) f))))) (by kernel_rfl) (ih _ _ _ _ _ h)
  ·rw [if_neg h1] at h
   obtain ⟨h2, h⟩ := ifp h
   exact Til.mid Tryz.func136 5 [(3, .b false), (7, .b false), (16, Z5 (toBytes a0))] (fun _ f => o (str_f h0) (o (zF h1) (o (bytes_ok c5 a0 (fun _ => rfl) h2) f))) (by kernel_rfl) (ih _ _ _ _ _ h)

theorem lex_Reader_Count.does {k : Nat} {l0_0 : ZLLT} {a0_1 : Int} {a0_2 : Int} {a0_3 : Int} {a0_4 : Int} {a0_5 : Int} {a1 : Int} {a2 : Int} {r : Int × ZLLT × Int × Int × Int × Int × Int} (h : lex_Reader_Count.f k l0_0 a0_1 a0_2 a0_3 a0_4 a0_5 a1 a2 = some r) :
 Does Tryz.prog 72 [.c (.ptr 0 0), .c (.d (.int .i64 a1)), .c (.d (.int .i64 a2))] [(0, some (.box [.d (L143 l0_0), .d (.int .i64 a0_1), .d (.int .i64 a0_2), .d (.int .i64 a0_3), .d (.int .i64 a0_4), .d (.int .i64 a0_5)]))] (.c (.d (.int .i64 r.1))) none [(0, some (.box [.d (L143 r.2.1), .d (.int .i64 r.2.2.1), .d (.int .i64 r.2.2.2.1), .d (.int .i64 r.2.2.2.2.1), .d (.int .i64 r.2.2.2.2.2.1), .d (.int .i64 r.2.2.2.2.2.2)]))] := by
 refine does_fn Tryz.func72 (by kernel_rfl) rfl rfl ?_
 unfold lex_Reader_Count.f at h
 obtain ⟨v2, h0, h⟩ := bnd h
 obtain ⟨v5, h1, h⟩ := bnd h
 obtain ⟨⟨v8_0, ⟨v8_1, ⟨v8_2, ⟨v8_3, ⟨v8_4, ⟨v8_5, v8_6⟩⟩⟩⟩⟩⟩, h2, h⟩ := bnd h
 dsimp only at h
 cases v8_0
 ·rw [if_neg (by decide)] at h
  obtain ⟨v10, h4, h⟩ := bnd h
  by_cases h5 : v10.2 = true
  ·rw [if_pos h5] at h
   by_cases h6 : v10.1 < a1
   ·rw [if_pos h6] at h
    obtain ⟨v30, h7, h⟩ := bnd h
    obtain rfl := zI h
    exact Til.fin Tryz.func72 [(2, .call [] [0] (.c (.d (.int .i64 v2.1))) none [(0, some (.box [.d (L143 v2.2.1), .d (.int .i64 v2.2.2.1), .d (.int .i64 v2.2.2.2.1), .d (.int .i64 v2.2.2.2.2.1), .d (.int .i64 v2.2.2.2.2.2.1), .d (.int .i64 v2.2.2.2.2.2.2)]))] []), (5, .call [] [0] (.c (.d (.str v5.1))) none [(0, some (.box [.d (L143 v5.2.1), .d (.int .i64 v5.2.2.1), .d (.int .i64 v5.2.2.2.1), .d (.int .i64 v5.2.2.2.2.1), .d (.int .i64 v5.2.2.2.2.2.1), .d (.int .i64 v5.2.2.2.2.2.2)]))] []), (8, .call [] [0] (.c (.d (.bool false))) none [(0, some (.box [.d (L143 v8_1), .d (.int .i64 v8_2), .d (.int .i64 v8_3), .d (.int .i64 v8_4), .d (.int .i64 v8_5), .d (.int .i64 v8_6)]))] []), (10, ca (.tup [.c (.d (.int .i64 v10.1)), .c (.d (.bool v10.2))])), (13, .b true), (21, .b true), (30, .call [] [0] (.tup []) none [(0, some (.box [.d (L143 v30.1), .d (.int .i64 v30.2.1), .d (.int .i64 v30.2.2.1), .d (.int .i64 v30.2.2.2.1), .d (.int .i64 v30.2.2.2.2.1), .d (.int .i64 v30.2.2.2.2.2)]))] [])] (fun _ f => o (lex_Reader_place.does h0) (o (lex_Reader_Word.does h1) (o (lex_Reader_off.does h2) (o (lex_small.does h4) (o h5 (o (zT h6) (o (lex_Reader_fail.does h7) f))))))) (by kernel_rfl)
   ·rw [if_neg h6] at h
    by_cases h7 : v10.1 > a2
    ·rw [if_pos h7] at h
     obtain ⟨v30, h8, h⟩ := bnd h
     obtain rfl := zI h
     exact Til.fin Tryz.func72 [(2, .call [] [0] (.c (.d (.int .i64 v2.1))) none [(0, some (.box [.d (L143 v2.2.1), .d (.int .i64 v2.2.2.1), .d (.int .i64 v2.2.2.2.1), .d (.int .i64 v2.2.2.2.2.1), .d (.int .i64 v2.2.2.2.2.2.1), .d (.int .i64 v2.2.2.2.2.2.2)]))] []), (5, .call [] [0] (.c (.d (.str v5.1))) none [(0, some (.box [.d (L143 v5.2.1), .d (.int .i64 v5.2.2.1), .d (.int .i64 v5.2.2.2.1), .d (.int .i64 v5.2.2.2.2.1), .d (.int .i64 v5.2.2.2.2.2.1), .d (.int .i64 v5.2.2.2.2.2.2)]))] []), (8, .call [] [0] (.c (.d (.bool false))) none [(0, some (.box [.d (L143 v8_1), .d (.int .i64 v8_2), .d (.int .i64 v8_3), .d (.int .i64 v8_4), .d (.int .i64 v8_5), .d (.int .i64 v8_6)]))] []), (10, ca (.tup [.c (.d (.int .i64 v10.1)), .c (.d (.bool v10.2))])), (13, .b true), (21, .b false), (25, .b true), (30, .call [] [0] (.tup []) none [(0, some (.box [.d (L143 v30.1), .d (.int .i64 v30.2.1), .d (.int .i64 v30.2.2.1), .d (.int .i64 v30.2.2.2.1), .d (.int .i64 v30.2.2.2.2.1), .d (.int .i64 v30.2.2.2.2.2)]))] [])] (fun _ f => o (lex_Reader_place.does h0) (o (lex_Reader_Word.does h1) (o (lex_Reader_off.does h2) (o (lex_small.does h4) (o h5 (o (zF h6) (o (zT h7) (o (lex_Reader_fail.does h8) f)))))))) (by kernel_rfl)
    ·rw [if_neg h7] at h
     obtain rfl := zI h
     exact Til.fin Tryz.func72 [(2, .call [] [0] (.c (.d (.int .i64 v2.1))) none [(0, some (.box [.d (L143 v2.2.1), .d (.int .i64 v2.2.2.1), .d (.int .i64 v2.2.2.2.1), .d (.int .i64 v2.2.2.2.2.1), .d (.int .i64 v2.2.2.2.2.2.1), .d (.int .i64 v2.2.2.2.2.2.2)]))] []), (5, .call [] [0] (.c (.d (.str v5.1))) none [(0, some (.box [.d (L143 v5.2.1), .d (.int .i64 v5.2.2.1), .d (.int .i64 v5.2.2.2.1), .d (.int .i64 v5.2.2.2.2.1), .d (.int .i64 v5.2.2.2.2.2.1), .d (.int .i64 v5.2.2.2.2.2.2)]))] []), (8, .call [] [0] (.c (.d (.bool false))) none [(0, some (.box [.d (L143 v8_1), .d (.int .i64 v8_2), .d (.int .i64 v8_3), .d (.int .i64 v8_4), .d (.int .i64 v8_5), .d (.int .i64 v8_6)]))] []), (10, ca (.tup [.c (.d (.int .i64 v10.1)), .c (.d (.bool v10.2))])), (13, .b true), (21, .b false), (25, .b false)] (fun _ f => o (lex_Reader_place.does h0) (o (lex_Reader_Word.does h1) (o (lex_Reader_off.does h2) (o (lex_small.does h4) (o h5 (o (zF h6) (o (zF h7) f))))))) (by kernel_rfl)
  ·rw [if_neg h5] at h
   obtain ⟨v21, h6, h⟩ := bnd h
   obtain rfl := zI h
   exact Til.fin Tryz.func72 [(2, .call [] [0] (.c (.d (.int .i64 v2.1))) none [(0, some (.box [.d (L143 v2.2.1), .d (.int .i64 v2.2.2.1), .d (.int .i64 v2.2.2.2.1), .d (.int .i64 v2.2.2.2.2.1), .d (.int .i64 v2.2.2.2.2.2.1), .d (.int .i64 v2.2.2.2.2.2.2)]))] []), (5, .call [] [0] (.c (.d (.str v5.1))) none [(0, some (.box [.d (L143 v5.2.1), .d (.int .i64 v5.2.2.1), .d (.int .i64 v5.2.2.2.1), .d (.int .i64 v5.2.2.2.2.1), .d (.int .i64 v5.2.2.2.2.2.1), .d (.int .i64 v5.2.2.2.2.2.2)]))] []), (8, .call [] [0] (.c (.d (.bool false))) none [(0, some (.box [.d (L143 v8_1), .d (.int .i64 v8_2), .d (.int .i64 v8_3), .d (.int .i64 v8_4), .d (.int .i64 v8_5), .d (.int .i64 v8_6)]))] []), (10, ca (.tup [.c (.d (.int .i64 v10.1)), .c (.d (.bool v10.2))])), (13, .b false), (21, .call [] [0] (.tup []) none [(0, some (.box [.d (L143 v21.1), .d (.int .i64 v21.2.1), .d (.int .i64 v21.2.2.1), .d (.int .i64 v21.2.2.2.1), .d (.int .i64 v21.2.2.2.2.1), .d (.int .i64 v21.2.2.2.2.2)]))] [])] (fun _ f => o (lex_Reader_place.does h0) (o (lex_Reader_Word.does h1) (o (lex_Reader_off.does h2) (o (lex_small.does h4) (o (Bool.eq_false_iff.2 h5) (o (lex_Reader_fail.does h6) f)))))) (by kernel_rfl)
 ·rw [if_pos rfl] at h
  obtain rfl := zI h
  exact Til.fin Tryz.func72 [(2, .call [] [0] (.c (.d (.int .i64 v2.1))) none [(0, some (.box [.d (L143 v2.2.1), .d (.int .i64 v2.2.2.1), .d (.int .i64 v2.2.2.2.1), .d (.int .i64 v2.2.2.2.2.1), .d (.int .i64 v2.2.2.2.2.2.1), .d (.int .i64 v2.2.2.2.2.2.2)]))] []), (5, .call [] [0] (.c (.d (.str v5.1))) none [(0, some (.box [.d (L143 v5.2.1), .d (.int .i64 v5.2.2.1), .d (.int .i64 v5.2.2.2.1), .d (.int .i64 v5.2.2.2.2.1), .d (.int .i64 v5.2.2.2.2.2.1), .d (.int .i64 v5.2.2.2.2.2.2)]))] []), (8, .call [] [0] (.c (.d (.bool true))) none [(0, some (.box [.d (L143 v8_1), .d (.int .i64 v8_2), .d (.int .i64 v8_3), .d (.int .i64 v8_4), .d (.int .i64 v8_5), .d (.int .i64 v8_6)]))] [])] (fun _ f => o (lex_Reader_place.does h0) (o (lex_Reader_Word.does h1) (o (lex_Reader_off.does h2) f))) (by kernel_rfl)

theorem lex_Reader_Err.does {l0_0 : ZLLT} {a0_1 : Int} {a0_2 : Int} {a0_3 : Int} {a0_4 : Int} {a0_5 : Int} {r : Int × Int × ZLLT × Int × Int × Int × Int × Int} (h : lex_Reader_Err.f l0_0 a0_1 a0_2 a0_3 a0_4 a0_5 = some r) :
 Does Tryz.prog 74 [.c (.ptr 0 0)] [(0, some (.box [.d (L143 l0_0), .d (.int .i64 a0_1), .d (.int .i64 a0_2), .d (.int .i64 a0_3), .d (.int .i64 a0_4), .d (.int .i64 a0_5)]))] (.tup [.c (.d (.int .i64 r.1)), .c (.d (.int .i64 r.2.1))]) none [(0, some (.box [.d (L143 r.2.2.1), .d (.int .i64 r.2.2.2.1), .d (.int .i64 r.2.2.2.2.1), .d (.int .i64 r.2.2.2.2.2.1), .d (.int .i64 r.2.2.2.2.2.2.1), .d (.int .i64 r.2.2.2.2.2.2.2)]))] := by
 refine does_fn Tryz.func74 (by kernel_rfl) rfl rfl ?_
 unfold lex_Reader_Err.f at h
 obtain rfl := zI h
 exact Til.fin Tryz.func74 [] (fun _ f => f) (by kernel_rfl)

def c9 (x : ByteArray) : List Dat := [.str x]
def L9 (xs : List ByteArray) : Dat := fr 1 c9 ByteArray.empty xs
def Z9 (xs : List ByteArray) : Sup := .r xs.length (enc c9 ByteArray.empty xs)
def O9 (k : RK) (xs : List ByteArray) : Ob := .row k 9 1 xs.length (enc c9 ByteArray.empty xs)

def lex_Reader_Pick.l0E (x5 : Int) (x6 : ByteArray) (x15 : List ByteArray) (x16 : Int) (x17 : Int) (b0_0 : ZLLT) (b0_1 : Int) (b0_2 : Int) (b0_3 : Int) (b0_4 : Int) (b0_5 : Int) : Env := [(0, .c (.ptr 0 0)), (5, .c (.d (.int .i64 x5))), (6, .c (.d (.str x6))), (15, .c (.d (L9 x15))), (16, .c (.d (.int .i64 x16))), (17, .c (.d (.int .i64 x17)))]
def lex_Reader_Pick.l0B (x5 : Int) (x6 : ByteArray) (x15 : List ByteArray) (x16 : Int) (x17 : Int) (b0_0 : ZLLT) (b0_1 : Int) (b0_2 : Int) (b0_3 : Int) (b0_4 : Int) (b0_5 : Int) : Obs := [(0, some (.box [.d (L143 b0_0), .d (.int .i64 b0_1), .d (.int .i64 b0_2), .d (.int .i64 b0_3), .d (.int .i64 b0_4), .d (.int .i64 b0_5)]))]
theorem lex_Reader_Pick.w (k : Nat) : (∀ (l0_0 : ZLLT) (a0_1 : Int) (a0_2 : Int) (a0_3 : Int) (a0_4 : Int) (a0_5 : Int) (x5 : Int) (x6 : ByteArray) (x15 : List ByteArray) (x16 : Int) (x17 : Int) (b0_0 : ZLLT) (b0_1 : Int) (b0_2 : Int) (b0_3 : Int) (b0_4 : Int) (b0_5 : Int) (r : Int × ZLLT × Int × Int × Int × Int × Int), lex_Reader_Pick.l0 k x5 x6 x15 x16 x17 b0_0 b0_1 b0_2 b0_3 b0_4 b0_5 = some r -> Til Tryz.prog 200 [(0, some (.box [.d (L143 l0_0), .d (.int .i64 a0_1), .d (.int .i64 a0_2), .d (.int .i64 a0_3), .d (.int .i64 a0_4), .d (.int .i64 a0_5)]))] (.c (.d (.int .i64 r.1))) none [(0, some (.box [.d (L143 r.2.1), .d (.int .i64 r.2.2.1), .d (.int .i64 r.2.2.2.1), .d (.int .i64 r.2.2.2.2.1), .d (.int .i64 r.2.2.2.2.2.1), .d (.int .i64 r.2.2.2.2.2.2)]))] (at_ Tryz.f200 6) (lex_Reader_Pick.l0E x5 x6 x15 x16 x17 b0_0 b0_1 b0_2 b0_3 b0_4 b0_5) (lex_Reader_Pick.l0B x5 x6 x15 x16 x17 b0_0 b0_1 b0_2 b0_3 b0_4 b0_5)) := by
 induction k with
 | zero =>
  exact fun _ _ _ _ _ _ _ _ _ _ _ _ _ _ _ _ _ _ h => (by cases h)
 | succ k ih =>
  intro l0_0 a0_1 a0_2 a0_3 a0_4 a0_5 x5 x6 x15 x16 x17 b0_0 b0_1 b0_2 b0_3 b0_4 b0_5 r h
  rw [lex_Reader_Pick.l0] at h
  by_cases h0 : x17 < x16
  ·rw [if_pos h0] at h
   obtain ⟨h1, h⟩ := ifp h
   obtain ⟨h2, h⟩ := ifp h
   by_cases h3 : x6 = (gt ByteArray.empty x15 x17)
   ·rw [if_pos h3] at h
    obtain rfl := zI h
    exact Til.fin Tryz.func200 [(0, .b true), (8, .b true)] (fun _ f => o (zT h0) (o (o h1 h2) (o (str_t h3) f))) (by kernel_rfl)
   ·rw [if_neg h3] at h
    exact Til.mid Tryz.func200 6 [(0, .b true), (8, .b false)] (fun _ f => o (zT h0) (o (o h1 h2) (o (str_f h3) f))) (by kernel_rfl) (ih _ _ _ _ _ _ _ _ _ _ _ _ _ _ _ _ _ _ h)
  ·rw [if_neg h0] at h
   obtain ⟨v3, h1, h⟩ := bnd h
   obtain rfl := zI h
   exact Til.fin Tryz.func200 [(0, .b false), (3, .call [] [0] (.tup []) none [(0, some (.box [.d (L143 v3.1), .d (.int .i64 v3.2.1), .d (.int .i64 v3.2.2.1), .d (.int .i64 v3.2.2.2.1), .d (.int .i64 v3.2.2.2.2.1), .d (.int .i64 v3.2.2.2.2.2)]))] [])] (fun _ f => o (zF h0) (o (lex_Reader_fail.does h1) f)) (by kernel_rfl)
theorem lex_Reader_Pick.does {k : Nat} {l0_0 : ZLLT} {a0_1 : Int} {a0_2 : Int} {a0_3 : Int} {a0_4 : Int} {a0_5 : Int} {l1 : List ByteArray} {r : Int × ZLLT × Int × Int × Int × Int × Int} (h : lex_Reader_Pick.f k l0_0 a0_1 a0_2 a0_3 a0_4 a0_5 l1 = some r) :
 Does Tryz.prog 200 [.c (.ptr 0 0), .c (.d (L9 l1))] [(0, some (.box [.d (L143 l0_0), .d (.int .i64 a0_1), .d (.int .i64 a0_2), .d (.int .i64 a0_3), .d (.int .i64 a0_4), .d (.int .i64 a0_5)]))] (.c (.d (.int .i64 r.1))) none [(0, some (.box [.d (L143 r.2.1), .d (.int .i64 r.2.2.1), .d (.int .i64 r.2.2.2.1), .d (.int .i64 r.2.2.2.2.1), .d (.int .i64 r.2.2.2.2.2.1), .d (.int .i64 r.2.2.2.2.2.2)]))] := by
 refine does_fn Tryz.func200 (by kernel_rfl) rfl rfl ?_
 unfold lex_Reader_Pick.f at h
 have ih := lex_Reader_Pick.w k
 obtain ⟨v2, h0, h⟩ := bnd h
 obtain ⟨v5, h1, h⟩ := bnd h
 obtain ⟨⟨v8_0, ⟨v8_1, ⟨v8_2, ⟨v8_3, ⟨v8_4, ⟨v8_5, v8_6⟩⟩⟩⟩⟩⟩, h2, h⟩ := bnd h
 dsimp only at h
 cases v8_0
 ·rw [if_neg (by decide)] at h
  exact Til.mid Tryz.func200 6 [(2, .call [] [0] (.c (.d (.int .i64 v2.1))) none [(0, some (.box [.d (L143 v2.2.1), .d (.int .i64 v2.2.2.1), .d (.int .i64 v2.2.2.2.1), .d (.int .i64 v2.2.2.2.2.1), .d (.int .i64 v2.2.2.2.2.2.1), .d (.int .i64 v2.2.2.2.2.2.2)]))] []), (5, .call [] [0] (.c (.d (.str v5.1))) none [(0, some (.box [.d (L143 v5.2.1), .d (.int .i64 v5.2.2.1), .d (.int .i64 v5.2.2.2.1), .d (.int .i64 v5.2.2.2.2.1), .d (.int .i64 v5.2.2.2.2.2.1), .d (.int .i64 v5.2.2.2.2.2.2)]))] []), (8, .call [] [0] (.c (.d (.bool false))) none [(0, some (.box [.d (L143 v8_1), .d (.int .i64 v8_2), .d (.int .i64 v8_3), .d (.int .i64 v8_4), .d (.int .i64 v8_5), .d (.int .i64 v8_6)]))] [])] (fun _ f => o (lex_Reader_place.does h0) (o (lex_Reader_Word.does h1) (o (lex_Reader_off.does h2) f))) (by kernel_rfl) (ih _ _ _ _ _ _ _ _ _ _ _ _ _ _ _ _ _ _ h)
 ·rw [if_pos rfl] at h
  obtain rfl := zI h
  exact Til.fin Tryz.func200 [(2, .call [] [0] (.c (.d (.int .i64 v2.1))) none [(0, some (.box [.d (L143 v2.2.1), .d (.int .i64 v2.2.2.1), .d (.int .i64 v2.2.2.2.1), .d (.int .i64 v2.2.2.2.2.1), .d (.int .i64 v2.2.2.2.2.2.1), .d (.int .i64 v2.2.2.2.2.2.2)]))] []), (5, .call [] [0] (.c (.d (.str v5.1))) none [(0, some (.box [.d (L143 v5.2.1), .d (.int .i64 v5.2.2.1), .d (.int .i64 v5.2.2.2.1), .d (.int .i64 v5.2.2.2.2.1), .d (.int .i64 v5.2.2.2.2.2.1), .d (.int .i64 v5.2.2.2.2.2.2)]))] []), (8, .call [] [0] (.c (.d (.bool true))) none [(0, some (.box [.d (L143 v8_1), .d (.int .i64 v8_2), .d (.int .i64 v8_3), .d (.int .i64 v8_4), .d (.int .i64 v8_5), .d (.int .i64 v8_6)]))] [])] (fun _ f => o (lex_Reader_place.does h0) (o (lex_Reader_Word.does h1) (o (lex_Reader_off.does h2) f))) (by kernel_rfl)

def c154 (x : Int) : List Dat := [.int .u64 x]
def L154 (xs : ZI) : Dat := fr 1 c154 0 xs
def Z154 (xs : ZI) : Sup := .r xs.length (enc c154 0 xs)
def O154 (k : RK) (xs : ZI) : Ob := .row k 154 1 xs.length (enc c154 0 xs)

def nat_trim.l0E (x0 : ZI) (x3 : Int) : Env := [(0, .c (.d (L154 x0))), (3, .c (.d (.int .i64 x3)))]
theorem nat_trim.w (k : Nat) : (∀  (x0 : ZI) (x3 : Int) (r : ZI), nat_trim.l0 k x0 x3 = some r -> Til Tryz.prog 128 [] (.c (.d (L154 r))) none [] (at_ Tryz.f128 2) (nat_trim.l0E x0 x3) []) := by
 induction k with
 | zero =>
  exact fun _ _ _ h => (by cases h)
 | succ k ih =>
  intro x0 x3 r h
  rw [nat_trim.l0] at h
  by_cases h0 : x3 > 0
  ·rw [if_pos h0] at h
   obtain ⟨h1, h⟩ := ifp h
   obtain ⟨h2, h⟩ := ifp h
   by_cases h3 : (rd x0 (wrap64 (x3 - 1))) = 0
   ·rw [if_pos h3] at h
    exact Til.mid Tryz.func128 2 [(1, .b true), (8, .b true)] (fun _ f => o (zT h0) (o (o h1 h2) (o (beq_iff_eq.2 h3) f))) (by kernel_rfl) (ih _ _ _ h)
   ·rw [if_neg h3] at h
    by_cases h4 : x3 = 0
    ·rw [if_pos h4] at h
     obtain rfl := zI h
     exact Til.fin Tryz.func128 [(1, .b true), (8, .b false), (11, .b true)] (fun _ f => o (zT h0) (o (o h1 h2) (o (zB h3) (o (beq_iff_eq.2 h4) f)))) (by kernel_rfl)
    ·rw [if_neg h4] at h
     obtain ⟨h5, h⟩ := ifp h
     obtain ⟨h6, h⟩ := ifp h
     obtain rfl := zI h
     exact Til.fin Tryz.func128 [(1, .b true), (8, .b false), (11, .b false), (14, Z154 (x0.take ((x3 : Int).toNat)))] (fun _ f => o (zT h0) (o (o h1 h2) (o (zB h3) (o (zB h4) (o (take_ok c154 0 x0 h5 h6) f))))) (by kernel_rfl)
  ·rw [if_neg h0] at h
   by_cases h1 : x3 = 0
   ·rw [if_pos h1] at h
    obtain rfl := zI h
    exact Til.fin Tryz.func128 [(1, .b false), (11, .b true)] (fun _ f => o (zF h0) (o (beq_iff_eq.2 h1) f)) (by kernel_rfl)
   ·rw [if_neg h1] at h
    obtain ⟨h2, h⟩ := ifp h
    obtain ⟨h3, h⟩ := ifp h
    obtain rfl := zI h
    exact Til.fin Tryz.func128 [(1, .b false), (11, .b false), (14, Z154 (x0.take ((x3 : Int).toNat)))] (fun _ f => o (zF h0) (o (zB h1) (o (take_ok c154 0 x0 h2 h3) f))) (by kernel_rfl)
theorem nat_trim.does {k : Nat} {l0 : ZI} {r : ZI} (h : nat_trim.f k l0 = some r) :
 Does Tryz.prog 128 [.c (.d (L154 l0))] [] (.c (.d (L154 r))) none [] := by
 refine does_fn Tryz.func128 (by kernel_rfl) rfl rfl ?_
 unfold nat_trim.f at h
 have ih := nat_trim.w k
 exact Til.mid Tryz.func128 2 [] (fun _ f => f) (by kernel_rfl) (ih _ _ _ h)

theorem nat_Of.does {k : Nat} {a0 : Int} {r : ZI} (h : nat_Of.f k a0 = some r) :
 Does Tryz.prog 89 [.c (.d (.int .u64 a0))] [] (.c (.d (L154 r))) none [] := by
 refine does_fn Tryz.func89 (by kernel_rfl) rfl rfl ?_
 unfold nat_Of.f at h
 obtain ⟨v6, h0, h⟩ := bnd h
 obtain rfl := zI h
 exact Til.fin Tryz.func89 [(5, Z154 ([(Go.bits .and .u64 a0 4294967295), (a0 / 4294967296)] : ZI)), (6, ca (.c (.d (L154 v6))))] (fun _ f => o (nn 32) (o (lit_ok c154 0 ([(Go.bits .and .u64 a0 4294967295), (a0 / 4294967296)] : ZI)) (o (nat_trim.does h0) f))) (by kernel_rfl)

theorem ratio_Zero.does {k : Nat}  {r : ZQ} (h : ratio_Zero.f k = some r) :
 Does Tryz.prog 59 [] [] (.agg [.d (.bool r.1), .d (L154 r.2.1), .d (L154 r.2.2)]) none [] := by
 refine does_fn Tryz.func59 (by kernel_rfl) rfl rfl ?_
 unfold ratio_Zero.f at h
 obtain ⟨v1, h0, h⟩ := bnd h
 obtain rfl := zI h
 exact Til.fin Tryz.func59 [(1, ca (.c (.d (L154 v1))))] (fun _ f => o (nat_Of.does h0) f) (by kernel_rfl)

def nat_Clean.l0E (x3 : ZI) (x9 : ZI) (x10 : Int) (x11 : Int) : Env := [(3, .c (.own 3)), (9, .c (.d (L154 x9))), (10, .c (.d (.int .i64 x10))), (11, .c (.d (.int .i64 x11)))]
def nat_Clean.l0B (x3 : ZI) (x9 : ZI) (x10 : Int) (x11 : Int) : Obs := [(3, some (O154 .own x3))]
theorem nat_Clean.w (k : Nat) : (∀  (x3 : ZI) (x9 : ZI) (x10 : Int) (x11 : Int) (r : ZI), nat_Clean.l0 k x3 x9 x10 x11 = some r -> Til Tryz.prog 121 [] (.c (.d (L154 r))) none [] (at_ Tryz.f121 3) (nat_Clean.l0E x3 x9 x10 x11) (nat_Clean.l0B x3 x9 x10 x11)) := by
 induction k with
 | zero =>
  exact fun _ _ _ _ _ h => (by cases h)
 | succ k ih =>
  intro x3 x9 x10 x11 r h
  rw [nat_Clean.l0] at h
  by_cases h0 : x11 < x10
  ·rw [if_pos h0] at h
   obtain ⟨h1, h⟩ := ifp h
   obtain ⟨h2, h⟩ := ifp h
   obtain ⟨h3, h⟩ := ifp h
   exact Til.mid Tryz.func121 3 [(0, .b true), (11, Z154 (x3.set ((x11 : Int).toNat) (Go.bits .and .u64 (rd x9 x11) 4294967295)))] (fun _ f => o (zT h0) (o (o h1 h2) (o (o h1 h3) (o (set_ok c154 0 (fun _ _ => rfl) x3 ((x11 : Int).toNat) (Go.bits .and .u64 (rd x9 x11) 4294967295) (lt_ok h1 h3)) f)))) (by kernel_rfl) (ih _ _ _ _ _ h)
  ·rw [if_neg h0] at h
   obtain ⟨v2, h1, h⟩ := bnd h
   obtain rfl := zI h
   exact Til.fin Tryz.func121 [(0, .b false), (2, ca (.c (.d (L154 v2))))] (fun _ f => o (zF h0) (o (nat_trim.does h1) f)) (by kernel_rfl)
theorem nat_Clean.does {k : Nat} {l0 : ZI} {r : ZI} (h : nat_Clean.f k l0 = some r) :
 Does Tryz.prog 121 [.c (.d (L154 l0))] [] (.c (.d (L154 r))) none [] := by
 refine does_fn Tryz.func121 (by kernel_rfl) rfl rfl ?_
 unfold nat_Clean.f at h
 have ih := nat_Clean.w k
 obtain ⟨h0, h⟩ := ifp h
 exact Til.mid Tryz.func121 3 [(3, Z154 (List.replicate (((l0.length : Int) : Int).toNat) 0 : ZI))] (fun _ f => o (make_ok c154 0 [.int .u64 0] ⟨.refl _, trivial⟩ (l0.length : Int) 8 35184372088832 (by decide) (Int.natCast_nonneg l0.length) h0) f) (by kernel_rfl) (ih _ _ _ _ _ h)

def nat_order.l0E (x0 : ZI) (x1 : ZI) (x5 : Int) : Env := [(0, .c (.d (L154 x0))), (1, .c (.d (L154 x1))), (5, .c (.d (.int .i64 x5)))]
theorem nat_order.w (k : Nat) : (∀  (x0 : ZI) (x1 : ZI) (x5 : Int) (r : Int), nat_order.l0 k x0 x1 x5 = some r -> Til Tryz.prog 149 [] (.c (.d (.int .i64 r))) none [] (at_ Tryz.f149 6) (nat_order.l0E x0 x1 x5) []) := by
 induction k with
 | zero =>
  exact fun _ _ _ _ h => (by cases h)
 | succ k ih =>
  intro x0 x1 x5 r h
  rw [nat_order.l0] at h
  by_cases h0 : x5 >= 0
  ·rw [if_pos h0] at h
   obtain ⟨h1, h⟩ := ifp h
   obtain ⟨h2, h⟩ := ifp h
   by_cases h3 : (rd x0 x5) < (rd x1 x5)
   ·rw [if_pos h3] at h
    obtain rfl := zI h
    exact Til.fin Tryz.func149 [(1, .b true), (10, .b true)] (fun _ f => o (zT h0) (o (o h0 h1) (o (o h0 h2) (o (zT h3) f)))) (by kernel_rfl)
   ·rw [if_neg h3] at h
    by_cases h4 : (rd x0 x5) > (rd x1 x5)
    ·rw [if_pos h4] at h
     obtain rfl := zI h
     exact Til.fin Tryz.func149 [(1, .b true), (10, .b false), (20, .b true)] (fun _ f => o (zT h0) (o (o h0 h1) (o (o h0 h2) (o (zF h3) (o (o h0 h1) (o (o h0 h2) (o (zT h4) f))))))) (by kernel_rfl)
    ·rw [if_neg h4] at h
     exact Til.mid Tryz.func149 6 [(1, .b true), (10, .b false), (20, .b false)] (fun _ f => o (zT h0) (o (o h0 h1) (o (o h0 h2) (o (zF h3) (o (o h0 h1) (o (o h0 h2) (o (zF h4) f))))))) (by kernel_rfl) (ih _ _ _ _ h)
  ·rw [if_neg h0] at h
   obtain rfl := zI h
   exact Til.fin Tryz.func149 [(1, .b false)] (fun _ f => o (zF h0) f) (by kernel_rfl)
theorem nat_order.does {k : Nat} {l0 : ZI} {l1 : ZI} {r : Int} (h : nat_order.f k l0 l1 = some r) :
 Does Tryz.prog 149 [.c (.d (L154 l0)), .c (.d (L154 l1))] [] (.c (.d (.int .i64 r))) none [] := by
 refine does_fn Tryz.func149 (by kernel_rfl) rfl rfl ?_
 unfold nat_order.f at h
 have ih := nat_order.w k
 by_cases h0 : (l0.length : Int) < (l1.length : Int)
 ·rw [if_pos h0] at h
  obtain rfl := zI h
  exact Til.fin Tryz.func149 [(5, .b true)] (fun _ f => o (zT h0) f) (by kernel_rfl)
 ·rw [if_neg h0] at h
  by_cases h1 : (l0.length : Int) > (l1.length : Int)
  ·rw [if_pos h1] at h
   obtain rfl := zI h
   exact Til.fin Tryz.func149 [(5, .b false), (11, .b true)] (fun _ f => o (zF h0) (o (zT h1) f)) (by kernel_rfl)
  ·rw [if_neg h1] at h
   exact Til.mid Tryz.func149 6 [(5, .b false), (11, .b false)] (fun _ f => o (zF h0) (o (zF h1) f)) (by kernel_rfl) (ih _ _ _ _ h)

theorem nat_To.does {k : Nat} {l0 : ZI} {r : Int × Bool} (h : nat_To.f k l0 = some r) :
 Does Tryz.prog 226 [.c (.d (L154 l0))] [] (.tup [.c (.d (.int .u64 r.1)), .c (.d (.bool r.2))]) none [] := by
 refine does_fn Tryz.func226 (by kernel_rfl) rfl rfl ?_
 unfold nat_To.f at h
 obtain ⟨v3, h0, h⟩ := bnd h
 by_cases h1 : (v3.length : Int) = 0
 ·rw [if_pos h1] at h
  obtain rfl := zI h
  exact Til.fin Tryz.func226 [(3, ca (.c (.d (L154 v3)))), (7, .b true)] (fun _ f => o (nat_Clean.does h0) (o (beq_iff_eq.2 h1) f)) (by kernel_rfl)
 ·rw [if_neg h1] at h
  by_cases h2 : (v3.length : Int) = 1
  ·rw [if_pos h2] at h
   obtain ⟨h3, h⟩ := ifp h
   obtain rfl := zI h
   exact Til.fin Tryz.func226 [(3, ca (.c (.d (L154 v3)))), (7, .b false), (9, .b true)] (fun _ f => o (nat_Clean.does h0) (o (zB h1) (o (beq_iff_eq.2 h2) (o (o (nn 0) h3) f)))) (by kernel_rfl)
  ·rw [if_neg h2] at h
   by_cases h3 : (v3.length : Int) = 2
   ·rw [if_pos h3] at h
    obtain ⟨h4, h⟩ := ifp h
    obtain ⟨h5, h⟩ := ifp h
    obtain rfl := zI h
    exact Til.fin Tryz.func226 [(3, ca (.c (.d (L154 v3)))), (7, .b false), (9, .b false), (11, .b true)] (fun _ f => o (nat_Clean.does h0) (o (zB h1) (o (zB h2) (o (beq_iff_eq.2 h3) (o (o (nn 1) h4) (o (nn 32) (o (o (nn 0) h5) f))))))) (by kernel_rfl)
   ·rw [if_neg h3] at h
    obtain rfl := zI h
    exact Til.fin Tryz.func226 [(3, ca (.c (.d (L154 v3)))), (7, .b false), (9, .b false), (11, .b false)] (fun _ f => o (nat_Clean.does h0) (o (zB h1) (o (zB h2) (o (zB h3) f)))) (by kernel_rfl)

def nat_euclid.l0E (x5 : Int) (x7 : Int) : Env := [(5, .c (.d (.int .u64 x5))), (7, .c (.d (.int .u64 x7)))]
theorem nat_euclid.w (k : Nat) : (∀  (x5 : Int) (x7 : Int) (r : ZI), nat_euclid.l0 k x5 x7 = some r -> Til Tryz.prog 192 [] (.c (.d (L154 r))) none [] (at_ Tryz.f192 3) (nat_euclid.l0E x5 x7) []) := by
 induction k with
 | zero =>
  exact fun _ _ _ h => (by cases h)
 | succ k ih =>
  intro x5 x7 r h
  rw [nat_euclid.l0] at h
  by_cases h0 : x7 ≠ 0
  ·rw [if_pos h0] at h
   obtain ⟨h1, h⟩ := ifn h
   exact Til.mid Tryz.func192 3 [(1, .b true)] (fun _ f => o (bne_iff_ne.2 h0) (o h1 f)) (by kernel_rfl) (ih _ _ _ h)
  ·rw [if_neg h0] at h
   obtain ⟨v3, h1, h⟩ := bnd h
   obtain rfl := zI h
   exact Til.fin Tryz.func192 [(1, .b false), (3, ca (.c (.d (L154 v3))))] (fun _ f => o (ne_f h0) (o (nat_Of.does h1) f)) (by kernel_rfl)
theorem nat_euclid.does {k : Nat} {l0 : ZI} {l1 : ZI} {r : ZI} (h : nat_euclid.f k l0 l1 = some r) :
 Does Tryz.prog 192 [.c (.d (L154 l0)), .c (.d (L154 l1))] [] (.c (.d (L154 r))) none [] := by
 refine does_fn Tryz.func192 (by kernel_rfl) rfl rfl ?_
 unfold nat_euclid.f at h
 have ih := nat_euclid.w k
 obtain ⟨v2, h0, h⟩ := bnd h
 obtain ⟨v9, h1, h⟩ := bnd h
 exact Til.mid Tryz.func192 3 [(2, ca (.tup [.c (.d (.int .u64 v2.1)), .c (.d (.bool v2.2))])), (9, ca (.tup [.c (.d (.int .u64 v9.1)), .c (.d (.bool v9.2))]))] (fun _ f => o (nat_To.does h0) (o (nat_To.does h1) f)) (by kernel_rfl) (ih _ _ _ h)

theorem bits_TrailingZeros64.does {a0 : Int} {r : Int} (h : bits_TrailingZeros64.f a0 = some r) :
 Does Tryz.prog 227 [.c (.d (.int .u64 a0))] [] (.c (.d (.int .i64 r))) none [] := by
 refine does_fn Tryz.func227 (by kernel_rfl) rfl rfl ?_
 unfold bits_TrailingZeros64.f at h
 by_cases h0 : a0 = 0
 ·rw [if_pos h0] at h
  obtain rfl := zI h
  exact Til.fin Tryz.func227 [(2, .b true)] (fun _ f => o (beq_iff_eq.2 h0) f) (by kernel_rfl)
 ·rw [if_neg h0] at h
  obtain ⟨h1, h⟩ := ifp h
  obtain ⟨h2, h⟩ := ifp h
  obtain rfl := zI h
  exact Til.fin Tryz.func227 [(2, .b false), (10, .v (.c (.d (.int .u8 (rd tab_deBruijn64tab ((IntKind.u64.wrap ((Go.bits .and .u64 a0 (IntKind.u64.wrap (0 - a0))) * 285870213051353865)) / 288230376151711744))))))] (fun _ f => o (zB h0) (o (nn 58) (o (o h1 h2) (o (tab_ok .u8 tab_deBruijn64tab h1 h2 rfl) f)))) (by kernel_rfl)

def nat_zeros.l0E (x3 : Int) (x6 : ZI) (x7 : Int) (x8 : Int) : Env := [(3, .c (.d (.int .i64 x3))), (6, .c (.d (L154 x6))), (7, .c (.d (.int .i64 x7))), (8, .c (.d (.int .i64 x8)))]
theorem nat_zeros.w (k : Nat) : (∀  (x3 : Int) (x6 : ZI) (x7 : Int) (x8 : Int) (r : Int), nat_zeros.l0 k x3 x6 x7 x8 = some r -> Til Tryz.prog 193 [] (.c (.d (.int .i64 r))) none [] (at_ Tryz.f193 3) (nat_zeros.l0E x3 x6 x7 x8) []) := by
 induction k with
 | zero =>
  exact fun _ _ _ _ _ h => (by cases h)
 | succ k ih =>
  intro x3 x6 x7 x8 r h
  rw [nat_zeros.l0] at h
  by_cases h0 : x8 < x7
  ·rw [if_pos h0] at h
   obtain ⟨h1, h⟩ := ifp h
   obtain ⟨h2, h⟩ := ifp h
   by_cases h3 : (rd x6 x8) ≠ 0
   ·rw [if_pos h3] at h
    obtain ⟨v11, h4, h⟩ := bnd h
    obtain rfl := zI h
    exact Til.fin Tryz.func193 [(0, .b true), (7, .b true), (11, ca (.c (.d (.int .i64 v11))))] (fun _ f => o (zT h0) (o (o h1 h2) (o (bne_iff_ne.2 h3) (o (bits_TrailingZeros64.does h4) f)))) (by kernel_rfl)
   ·rw [if_neg h3] at h
    exact Til.mid Tryz.func193 3 [(0, .b true), (7, .b false)] (fun _ f => o (zT h0) (o (o h1 h2) (o (ne_f h3) f))) (by kernel_rfl) (ih _ _ _ _ _ h)
  ·rw [if_neg h0] at h
   obtain rfl := zI h
   exact Til.fin Tryz.func193 [(0, .b false)] (fun _ f => o (zF h0) f) (by kernel_rfl)
theorem nat_zeros.does {k : Nat} {l0 : ZI} {r : Int} (h : nat_zeros.f k l0 = some r) :
 Does Tryz.prog 193 [.c (.d (L154 l0))] [] (.c (.d (.int .i64 r))) none [] := by
 refine does_fn Tryz.func193 (by kernel_rfl) rfl rfl ?_
 unfold nat_zeros.f at h
 have ih := nat_zeros.w k
 exact Til.mid Tryz.func193 3 [] (fun _ f => f) (by kernel_rfl) (ih _ _ _ _ _ h)

theorem nat_limb.does {l0 : ZI} {a1 : Int} {r : Int} (h : nat_limb.f l0 a1 = some r) :
 Does Tryz.prog 199 [.c (.d (L154 l0)), .c (.d (.int .i64 a1))] [] (.c (.d (.int .u64 r))) none [] := by
 refine does_fn Tryz.func199 (by kernel_rfl) rfl rfl ?_
 unfold nat_limb.f at h
 by_cases h0 : a1 < (l0.length : Int)
 ·rw [if_pos h0] at h
  obtain ⟨h1, h⟩ := ifp h
  obtain rfl := zI h
  exact Til.fin Tryz.func199 [(4, .b true)] (fun _ f => o (zT h0) (o (o h1 h0) f)) (by kernel_rfl)
 ·rw [if_neg h0] at h
  obtain rfl := zI h
  exact Til.fin Tryz.func199 [(4, .b false)] (fun _ f => o (zF h0) f) (by kernel_rfl)

def nat_shr.l0E (x0 : ZI) (x5 : Int) (x6 : Int) (x7 : ZI) (x23 : Int) (x24 : Int) : Env := [(0, .c (.d (L154 x0))), (5, .c (.d (.int .i64 x5))), (6, .c (.d (.int .i64 x6))), (7, .c (.own 7)), (23, .c (.d (.int .i64 x23))), (24, .c (.d (.int .i64 x24)))]
def nat_shr.l0B (x0 : ZI) (x5 : Int) (x6 : Int) (x7 : ZI) (x23 : Int) (x24 : Int) : Obs := [(7, some (O154 .own x7))]
theorem nat_shr.w (k : Nat) : (∀  (x0 : ZI) (x5 : Int) (x6 : Int) (x7 : ZI) (x23 : Int) (x24 : Int) (r : ZI), nat_shr.l0 k x0 x5 x6 x7 x23 x24 = some r -> Til Tryz.prog 194 [] (.c (.d (L154 r))) none [] (at_ Tryz.f194 6) (nat_shr.l0E x0 x5 x6 x7 x23 x24) (nat_shr.l0B x0 x5 x6 x7 x23 x24)) := by
 induction k with
 | zero =>
  exact fun _ _ _ _ _ _ _ h => (by cases h)
 | succ k ih =>
  intro x0 x5 x6 x7 x23 x24 r h
  rw [nat_shr.l0] at h
  by_cases h0 : x24 < x23
  ·rw [if_pos h0] at h
   obtain ⟨v10, h1, h⟩ := bnd h
   obtain ⟨h2, h⟩ := ifp h
   obtain ⟨h3, h⟩ := ifp h
   obtain ⟨h4, h⟩ := ifp h
   obtain ⟨h5, h⟩ := ifp h
   obtain ⟨h6, h⟩ := ifp h
   exact Til.mid Tryz.func194 6 [(0, .b true), (10, ca (.c (.d (.int .u64 v10)))), (23, Z154 (x7.set ((x24 : Int).toNat) (Go.bits .and .u64 (shr .u64 (Go.bits .or .u64 (IntKind.u64.wrap (v10 * 4294967296)) (rd x0 (wrap64 (x24 + x5)))) x6) 4294967295)))] (fun _ f => o (zT h0) (o (nat_limb.does h1) (o (nn 32) (o (o h2 h3) (o h4 (o (o h5 h6) (o (set_ok c154 0 (fun _ _ => rfl) x7 ((x24 : Int).toNat) (Go.bits .and .u64 (shr .u64 (Go.bits .or .u64 (IntKind.u64.wrap (v10 * 4294967296)) (rd x0 (wrap64 (x24 + x5)))) x6) 4294967295) (lt_ok h5 h6)) f))))))) (by kernel_rfl) (ih _ _ _ _ _ _ _ h)
  ·rw [if_neg h0] at h
   obtain ⟨v2, h1, h⟩ := bnd h
   obtain rfl := zI h
   exact Til.fin Tryz.func194 [(0, .b false), (2, ca (.c (.d (L154 v2))))] (fun _ f => o (zF h0) (o (nat_trim.does h1) f)) (by kernel_rfl)
theorem nat_shr.does {k : Nat} {l0 : ZI} {a1 : Int} {r : ZI} (h : nat_shr.f k l0 a1 = some r) :
 Does Tryz.prog 194 [.c (.d (L154 l0)), .c (.d (.int .i64 a1))] [] (.c (.d (L154 r))) none [] := by
 refine does_fn Tryz.func194 (by kernel_rfl) rfl rfl ?_
 unfold nat_shr.f at h
 have ih := nat_shr.w k
 by_cases h0 : (wrap64 (Int.tdiv a1 32)) >= (l0.length : Int)
 ·rw [if_pos h0] at h
  obtain rfl := zI h
  exact Til.fin Tryz.func194 [(10, .b true)] (fun _ f => o (by decide : ¬ (32 : Int) = 0) (o (by decide : ¬ (32 : Int) = 0) (o (zT h0) f))) (by kernel_rfl)
 ·rw [if_neg h0] at h
  obtain ⟨h1, h⟩ := ifp h
  obtain ⟨h2, h⟩ := ifp h
  exact Til.mid Tryz.func194 6 [(10, .b false), (15, Z154 (List.replicate (((wrap64 ((l0.length : Int) - (wrap64 (Int.tdiv a1 32)))) : Int).toNat) 0 : ZI))] (fun _ f => o (by decide : ¬ (32 : Int) = 0) (o (by decide : ¬ (32 : Int) = 0) (o (zF h0) (o (make_ok c154 0 [.int .u64 0] ⟨.refl _, trivial⟩ (wrap64 ((l0.length : Int) - (wrap64 (Int.tdiv a1 32)))) 8 35184372088832 (by decide) h1 h2) f)))) (by kernel_rfl) (ih _ _ _ _ _ _ _ h)

def nat_trimM.l0E (x0 : ZI) (x3 : Int) : Env := [(0, .c (.own 0)), (3, .c (.d (.int .i64 x3)))]
def nat_trimM.l0B (x0 : ZI) (x3 : Int) : Obs := [(0, some (O154 .own x0))]
theorem nat_trimM.w (k : Nat) : (∀ (l0 : ZI) (x0 : ZI) (x3 : Int) (r : ZI), nat_trimM.l0 k x0 x3 = some r -> Til Tryz.prog 128 [(0, some (O154 .own l0))] (.c (.own newName)) (some (O154 .own r)) [] (at_ Tryz.f128 2) (nat_trimM.l0E x0 x3) (nat_trimM.l0B x0 x3)) := by
 induction k with
 | zero =>
  exact fun _ _ _ _ h => (by cases h)
 | succ k ih =>
  intro l0 x0 x3 r h
  rw [nat_trimM.l0] at h
  by_cases h0 : x3 > 0
  ·rw [if_pos h0] at h
   obtain ⟨h1, h⟩ := ifp h
   obtain ⟨h2, h⟩ := ifp h
   by_cases h3 : (rd x0 (wrap64 (x3 - 1))) = 0
   ·rw [if_pos h3] at h
    exact Til.mid Tryz.func128 2 [(1, .b true), (8, .b true)] (fun _ f => o (zT h0) (o (o h1 h2) (o (beq_iff_eq.2 h3) f))) (by kernel_rfl) (ih _ _ _ _ h)
   ·rw [if_neg h3] at h
    by_cases h4 : x3 = 0
    ·rw [if_pos h4] at h
     obtain rfl := zI h
     exact Til.fin Tryz.func128 [(1, .b true), (8, .b false), (11, .b true)] (fun _ f => o (zT h0) (o (o h1 h2) (o (zB h3) (o (beq_iff_eq.2 h4) f)))) (by kernel_rfl)
    ·rw [if_neg h4] at h
     obtain ⟨h5, h⟩ := ifp h
     obtain ⟨h6, h⟩ := ifp h
     obtain rfl := zI h
     exact Til.fin Tryz.func128 [(1, .b true), (8, .b false), (11, .b false), (14, Z154 (x0.take ((x3 : Int).toNat)))] (fun _ f => o (zT h0) (o (o h1 h2) (o (zB h3) (o (zB h4) (o (take_ok c154 0 x0 h5 h6) f))))) (by kernel_rfl)
  ·rw [if_neg h0] at h
   by_cases h1 : x3 = 0
   ·rw [if_pos h1] at h
    obtain rfl := zI h
    exact Til.fin Tryz.func128 [(1, .b false), (11, .b true)] (fun _ f => o (zF h0) (o (beq_iff_eq.2 h1) f)) (by kernel_rfl)
   ·rw [if_neg h1] at h
    obtain ⟨h2, h⟩ := ifp h
    obtain ⟨h3, h⟩ := ifp h
    obtain rfl := zI h
    exact Til.fin Tryz.func128 [(1, .b false), (11, .b false), (14, Z154 (x0.take ((x3 : Int).toNat)))] (fun _ f => o (zF h0) (o (zB h1) (o (take_ok c154 0 x0 h2 h3) f))) (by kernel_rfl)
theorem nat_trimM.does {k : Nat} {l0 : ZI} {r : ZI} (h : nat_trimM.f k l0 = some r) :
 Does Tryz.prog 128 [.c (.own 0)] [(0, some (O154 .own l0))] (.c (.own newName)) (some (O154 .own r)) [] := by
 refine does_fn Tryz.func128 (by kernel_rfl) rfl rfl ?_
 unfold nat_trimM.f at h
 have ih := nat_trimM.w k
 exact Til.mid Tryz.func128 2 [] (fun _ f => f) (by kernel_rfl) (ih _ _ _ _ h)

def nat_shl.l0E (x5 : Int) (x6 : Int) (x7 : ZI) (x20 : ZI) (x21 : Int) (x22 : Int) : Env := [(5, .c (.d (.int .i64 x5))), (6, .c (.d (.int .i64 x6))), (7, .c (.own 7)), (20, .c (.d (L154 x20))), (21, .c (.d (.int .i64 x21))), (22, .c (.d (.int .i64 x22)))]
def nat_shl.l0B (x5 : Int) (x6 : Int) (x7 : ZI) (x20 : ZI) (x21 : Int) (x22 : Int) : Obs := [(7, some (O154 .own x7))]
theorem nat_shl.w (k : Nat) : (∀  (x5 : Int) (x6 : Int) (x7 : ZI) (x20 : ZI) (x21 : Int) (x22 : Int) (r : ZI), nat_shl.l0 k x5 x6 x7 x20 x21 x22 = some r -> Til Tryz.prog 195 [] (.c (.own newName)) (some (O154 .own r)) [] (at_ Tryz.f195 4) (nat_shl.l0E x5 x6 x7 x20 x21 x22) (nat_shl.l0B x5 x6 x7 x20 x21 x22)) := by
 induction k with
 | zero =>
  exact fun _ _ _ _ _ _ _ h => (by cases h)
 | succ k ih =>
  intro x5 x6 x7 x20 x21 x22 r h
  rw [nat_shl.l0] at h
  by_cases h0 : x22 < x21
  ·rw [if_pos h0] at h
   obtain ⟨h1, h⟩ := ifp h
   obtain ⟨h2, h⟩ := ifp h
   obtain ⟨h3, h⟩ := ifp h
   obtain ⟨h4, h⟩ := ifp h
   obtain ⟨h5, h⟩ := ifp h
   obtain ⟨h6, h⟩ := ifp h
   obtain ⟨h7, h⟩ := ifp h
   exact Til.mid Tryz.func195 4 [(0, .b true), (20, Z154 (x7.set (((wrap64 (x22 + x5)) : Int).toNat) (Go.bits .or .u64 (rd x7 (wrap64 (x22 + x5))) (Go.bits .and .u64 (shl .u64 (rd x20 x22) x6) 4294967295)))), (29, Z154 ((x7.set (((wrap64 (x22 + x5)) : Int).toNat) (Go.bits .or .u64 (rd x7 (wrap64 (x22 + x5))) (Go.bits .and .u64 (shl .u64 (rd x20 x22) x6) 4294967295))).set (((wrap64 ((wrap64 (x22 + x5)) + 1)) : Int).toNat) ((shl .u64 (rd x20 x22) x6) / 4294967296)))] (fun _ f => o (zT h0) (o (o h1 h2) (o h3 (o (o h4 h5) (o (o h4 h5) (o (set_ok c154 0 (fun _ _ => rfl) x7 (((wrap64 (x22 + x5)) : Int).toNat) (Go.bits .or .u64 (rd x7 (wrap64 (x22 + x5))) (Go.bits .and .u64 (shl .u64 (rd x20 x22) x6) 4294967295)) (lt_ok h4 h5)) (o (nn 32) (o (o h6 h7) (o (set_ok c154 0 (fun _ _ => rfl) (x7.set (((wrap64 (x22 + x5)) : Int).toNat) (Go.bits .or .u64 (rd x7 (wrap64 (x22 + x5))) (Go.bits .and .u64 (shl .u64 (rd x20 x22) x6) 4294967295))) (((wrap64 ((wrap64 (x22 + x5)) + 1)) : Int).toNat) ((shl .u64 (rd x20 x22) x6) / 4294967296) (lt_ok h6 h7)) f))))))))) (by kernel_rfl) (ih _ _ _ _ _ _ _ h)
  ·rw [if_neg h0] at h
   obtain ⟨v2, h1, h⟩ := bnd h
   obtain rfl := zI h
   exact Til.fin Tryz.func195 [(0, .b false), (2, .call [] [0] (.c (.own 0)) (some (O154 .own v2)) [] [])] (fun _ f => o (zF h0) (o (nat_trimM.does h1) f)) (by kernel_rfl)
theorem nat_shl.does {k : Nat} {l0 : ZI} {a1 : Int} {r : ZI} (h : nat_shl.f k l0 a1 = some r) :
 Does Tryz.prog 195 [.c (.d (L154 l0)), .c (.d (.int .i64 a1))] [] (.c (.own newName)) (some (O154 .own r)) [] := by
 refine does_fn Tryz.func195 (by kernel_rfl) rfl rfl ?_
 unfold nat_shl.f at h
 have ih := nat_shl.w k
 obtain ⟨h0, h⟩ := ifp h
 obtain ⟨h1, h⟩ := ifp h
 exact Til.mid Tryz.func195 4 [(12, Z154 (List.replicate (((wrap64 ((wrap64 ((l0.length : Int) + (wrap64 (Int.tdiv a1 32)))) + 1)) : Int).toNat) 0 : ZI))] (fun _ f => o (by decide : ¬ (32 : Int) = 0) (o (by decide : ¬ (32 : Int) = 0) (o (make_ok c154 0 [.int .u64 0] ⟨.refl _, trivial⟩ (wrap64 ((wrap64 ((l0.length : Int) + (wrap64 (Int.tdiv a1 32)))) + 1)) 8 35184372088832 (by decide) h0 h1) f))) (by kernel_rfl) (ih _ _ _ _ _ _ _ h)

def nat_small.l0E (x0 : ZI) (x1 : Int) (x6 : ZI) (x7 : Int) (x8 : Int) : Env := [(0, .c (.d (L154 x0))), (1, .c (.d (.int .u64 x1))), (6, .c (.own 6)), (7, .c (.d (.int .u64 x7))), (8, .c (.d (.int .i64 x8)))]
def nat_small.l0B (x0 : ZI) (x1 : Int) (x6 : ZI) (x7 : Int) (x8 : Int) : Obs := [(6, some (O154 .own x6))]
theorem nat_small.w (k : Nat) : (∀  (x0 : ZI) (x1 : Int) (x6 : ZI) (x7 : Int) (x8 : Int) (r : ZI × Int), nat_small.l0 k x0 x1 x6 x7 x8 = some r -> Til Tryz.prog 150 [] (.tup [.c (.d (L154 r.1)), .c (.d (.int .u64 r.2))]) none [] (at_ Tryz.f150 4) (nat_small.l0E x0 x1 x6 x7 x8) (nat_small.l0B x0 x1 x6 x7 x8)) := by
 induction k with
 | zero =>
  exact fun _ _ _ _ _ _ h => (by cases h)
 | succ k ih =>
  intro x0 x1 x6 x7 x8 r h
  rw [nat_small.l0] at h
  by_cases h0 : x8 >= 0
  ·rw [if_pos h0] at h
   obtain ⟨h1, h⟩ := ifp h
   obtain ⟨h2, h⟩ := ifn h
   obtain ⟨h3, h⟩ := ifp h
   exact Til.mid Tryz.func150 4 [(1, .b true), (16, Z154 (x6.set ((x8 : Int).toNat) (IntKind.u64.wrap (Int.tdiv (Go.bits .or .u64 (IntKind.u64.wrap (x7 * 4294967296)) (rd x0 x8)) x1))))] (fun _ f => o (zT h0) (o (nn 32) (o (o h0 h1) (o h2 (o (o h0 h3) (o (set_ok c154 0 (fun _ _ => rfl) x6 ((x8 : Int).toNat) (IntKind.u64.wrap (Int.tdiv (Go.bits .or .u64 (IntKind.u64.wrap (x7 * 4294967296)) (rd x0 x8)) x1)) (lt_ok h0 h3)) (o h2 f))))))) (by kernel_rfl) (ih _ _ _ _ _ _ h)
  ·rw [if_neg h0] at h
   obtain ⟨v3, h1, h⟩ := bnd h
   obtain rfl := zI h
   exact Til.fin Tryz.func150 [(1, .b false), (3, ca (.c (.d (L154 v3))))] (fun _ f => o (zF h0) (o (nat_trim.does h1) f)) (by kernel_rfl)
theorem nat_small.does {k : Nat} {l0 : ZI} {a1 : Int} {r : ZI × Int} (h : nat_small.f k l0 a1 = some r) :
 Does Tryz.prog 150 [.c (.d (L154 l0)), .c (.d (.int .u64 a1))] [] (.tup [.c (.d (L154 r.1)), .c (.d (.int .u64 r.2))]) none [] := by
 refine does_fn Tryz.func150 (by kernel_rfl) rfl rfl ?_
 unfold nat_small.f at h
 have ih := nat_small.w k
 obtain ⟨h0, h⟩ := ifp h
 exact Til.mid Tryz.func150 4 [(4, Z154 (List.replicate (((l0.length : Int) : Int).toNat) 0 : ZI))] (fun _ f => o (make_ok c154 0 [.int .u64 0] ⟨.refl _, trivial⟩ (l0.length : Int) 8 35184372088832 (by decide) (Int.natCast_nonneg l0.length) h0) f) (by kernel_rfl) (ih _ _ _ _ _ _ h)

theorem bits_Len32.does {a0 : Int} {r : Int} (h : bits_Len32.f a0 = some r) :
 Does Tryz.prog 251 [.c (.d (.int .u32 a0))] [] (.c (.d (.int .i64 r))) none [] := by
 refine does_fn Tryz.func251 (by kernel_rfl) rfl rfl ?_
 unfold bits_Len32.f at h
 by_cases h0 : a0 >= 65536
 ·rw [if_pos h0] at h
  by_cases h1 : (a0 / 65536) >= 256
  ·rw [if_pos h1] at h
   obtain ⟨h2, h⟩ := ifp h
   obtain ⟨h3, h⟩ := ifp h
   obtain rfl := zI h
   exact Til.fin Tryz.func251 [(2, .b true), (8, .b true)] (fun _ f => o (zT h0) (o (nn 16) (o (zT h1) (o (nn 8) (o (o h2 h3) f))))) (by kernel_rfl)
  ·rw [if_neg h1] at h
   obtain ⟨h2, h⟩ := ifp h
   obtain ⟨h3, h⟩ := ifp h
   obtain rfl := zI h
   exact Til.fin Tryz.func251 [(2, .b true), (8, .b false)] (fun _ f => o (zT h0) (o (nn 16) (o (zF h1) (o (o h2 h3) f)))) (by kernel_rfl)
 ·rw [if_neg h0] at h
  by_cases h1 : a0 >= 256
  ·rw [if_pos h1] at h
   obtain ⟨h2, h⟩ := ifp h
   obtain ⟨h3, h⟩ := ifp h
   obtain rfl := zI h
   exact Til.fin Tryz.func251 [(2, .b false), (4, .b true)] (fun _ f => o (zF h0) (o (zT h1) (o (nn 8) (o (o h2 h3) f)))) (by kernel_rfl)
  ·rw [if_neg h1] at h
   obtain ⟨h2, h⟩ := ifp h
   obtain ⟨h3, h⟩ := ifp h
   obtain rfl := zI h
   exact Til.fin Tryz.func251 [(2, .b false), (4, .b false)] (fun _ f => o (zF h0) (o (zF h1) (o (o h2 h3) f))) (by kernel_rfl)

theorem bits_LeadingZeros32.does {a0 : Int} {r : Int} (h : bits_LeadingZeros32.f a0 = some r) :
 Does Tryz.prog 228 [.c (.d (.int .u32 a0))] [] (.c (.d (.int .i64 r))) none [] := by
 refine does_fn Tryz.func228 (by kernel_rfl) rfl rfl ?_
 unfold bits_LeadingZeros32.f at h
 obtain ⟨v2, h0, h⟩ := bnd h
 obtain rfl := zI h
 exact Til.fin Tryz.func228 [(2, ca (.c (.d (.int .i64 v2))))] (fun _ f => o (bits_Len32.does h0) f) (by kernel_rfl)

def nat_take.l0E (x0 : ZI) (x1 : ZI) (x2 : Int) (x7 : Int) (x8 : Int) (x12 : Int) (x13 : Int) : Env := [(0, .c (.own 0)), (1, .c (.d (L154 x1))), (2, .c (.d (.int .u64 x2))), (7, .c (.d (.int .u64 x7))), (8, .c (.d (.int .u64 x8))), (12, .c (.d (.int .i64 x12))), (13, .c (.d (.int .i64 x13)))]
def nat_take.l0B (x0 : ZI) (x1 : ZI) (x2 : Int) (x7 : Int) (x8 : Int) (x12 : Int) (x13 : Int) : Obs := [(0, some (O154 .win x0))]
theorem nat_take.w (k : Nat) : (∀ (l0 : ZI) (x0 : ZI) (x1 : ZI) (x2 : Int) (x7 : Int) (x8 : Int) (x12 : Int) (x13 : Int) (r : Bool × ZI), nat_take.l0 k x0 x1 x2 x7 x8 x12 x13 = some r -> Til Tryz.prog 252 [(0, some (O154 .win l0))] (.c (.d (.bool r.1))) none [(0, some (O154 .win r.2))] (at_ Tryz.f252 3) (nat_take.l0E x0 x1 x2 x7 x8 x12 x13) (nat_take.l0B x0 x1 x2 x7 x8 x12 x13)) := by
 induction k with
 | zero =>
  exact fun _ _ _ _ _ _ _ _ _ h => (by cases h)
 | succ k ih =>
  intro l0 x0 x1 x2 x7 x8 x12 x13 r h
  rw [nat_take.l0] at h
  by_cases h0 : x13 < x12
  ·rw [if_pos h0] at h
   obtain ⟨v7, h1, h⟩ := bnd h
   obtain ⟨h2, h⟩ := ifp h
   obtain ⟨h3, h⟩ := ifp h
   exact Til.mid Tryz.func252 3 [(0, .b true), (7, ca (.c (.d (.int .u64 v7)))), (27, Z154 (x0.set ((x13 : Int).toNat) (Go.bits .and .u64 (IntKind.u64.wrap ((IntKind.u64.wrap ((IntKind.u64.wrap (4294967296 + (rd x0 x13))) - (Go.bits .and .u64 (IntKind.u64.wrap (x7 + (IntKind.u64.wrap (x2 * v7)))) 4294967295))) - x8)) 4294967295)))] (fun _ f => o (zT h0) (o (nat_limb.does h1) (o (o h2 h3) (o (o h2 h3) (o (set_ok c154 0 (fun _ _ => rfl) x0 ((x13 : Int).toNat) (Go.bits .and .u64 (IntKind.u64.wrap ((IntKind.u64.wrap ((IntKind.u64.wrap (4294967296 + (rd x0 x13))) - (Go.bits .and .u64 (IntKind.u64.wrap (x7 + (IntKind.u64.wrap (x2 * v7)))) 4294967295))) - x8)) 4294967295) (lt_ok h2 h3)) (o (nn 32) (o (nn 32) f))))))) (by kernel_rfl) (ih _ _ _ _ _ _ _ _ _ h)
  ·rw [if_neg h0] at h
   obtain rfl := zI h
   exact Til.fin Tryz.func252 [(0, .b false)] (fun _ f => o (zF h0) f) (by kernel_rfl)
theorem nat_take.does {k : Nat} {l0 : ZI} {l1 : ZI} {a2 : Int} {r : Bool × ZI} (h : nat_take.f k l0 l1 a2 = some r) :
 Does Tryz.prog 252 [.c (.own 0), .c (.d (L154 l1)), .c (.d (.int .u64 a2))] [(0, some (O154 .win l0))] (.c (.d (.bool r.1))) none [(0, some (O154 .win r.2))] := by
 refine does_fn Tryz.func252 (by kernel_rfl) rfl rfl ?_
 unfold nat_take.f at h
 have ih := nat_take.w k
 exact Til.mid Tryz.func252 3 [] (fun _ f => f) (by kernel_rfl) (ih _ _ _ _ _ _ _ _ _ h)

def nat_give.l0E (x0 : ZI) (x1 : ZI) (x4 : Int) (x7 : Int) (x8 : Int) : Env := [(0, .c (.own 0)), (1, .c (.d (L154 x1))), (4, .c (.d (.int .u64 x4))), (7, .c (.d (.int .i64 x7))), (8, .c (.d (.int .i64 x8)))]
def nat_give.l0B (x0 : ZI) (x1 : ZI) (x4 : Int) (x7 : Int) (x8 : Int) : Obs := [(0, some (O154 .win x0))]
theorem nat_give.w (k : Nat) : (∀ (l0 : ZI) (x0 : ZI) (x1 : ZI) (x4 : Int) (x7 : Int) (x8 : Int) (r : ZI), nat_give.l0 k x0 x1 x4 x7 x8 = some r -> Til Tryz.prog 253 [(0, some (O154 .win l0))] (.tup []) none [(0, some (O154 .win r))] (at_ Tryz.f253 2) (nat_give.l0E x0 x1 x4 x7 x8) (nat_give.l0B x0 x1 x4 x7 x8)) := by
 induction k with
 | zero =>
  exact fun _ _ _ _ _ _ _ h => (by cases h)
 | succ k ih =>
  intro l0 x0 x1 x4 x7 x8 r h
  rw [nat_give.l0] at h
  by_cases h0 : x8 < x7
  ·rw [if_pos h0] at h
   obtain ⟨h1, h⟩ := ifp h
   obtain ⟨h2, h⟩ := ifp h
   obtain ⟨v10, h3, h⟩ := bnd h
   exact Til.mid Tryz.func253 2 [(0, .b true), (10, ca (.c (.d (.int .u64 v10)))), (19, Z154 (x0.set ((x8 : Int).toNat) (Go.bits .and .u64 (IntKind.u64.wrap (x4 + (IntKind.u64.wrap ((rd x0 x8) + v10)))) 4294967295)))] (fun _ f => o (zT h0) (o (o h1 h2) (o (nat_limb.does h3) (o (o h1 h2) (o (set_ok c154 0 (fun _ _ => rfl) x0 ((x8 : Int).toNat) (Go.bits .and .u64 (IntKind.u64.wrap (x4 + (IntKind.u64.wrap ((rd x0 x8) + v10)))) 4294967295) (lt_ok h1 h2)) (o (nn 32) f)))))) (by kernel_rfl) (ih _ _ _ _ _ _ _ h)
  ·rw [if_neg h0] at h
   obtain rfl := zI h
   exact Til.fin Tryz.func253 [(0, .b false)] (fun _ f => o (zF h0) f) (by kernel_rfl)
theorem nat_give.does {k : Nat} {l0 : ZI} {l1 : ZI} {r : ZI} (h : nat_give.f k l0 l1 = some r) :
 Does Tryz.prog 253 [.c (.own 0), .c (.d (L154 l1))] [(0, some (O154 .win l0))] (.tup []) none [(0, some (O154 .win r))] := by
 refine does_fn Tryz.func253 (by kernel_rfl) rfl rfl ?_
 unfold nat_give.f at h
 have ih := nat_give.w k
 exact Til.mid Tryz.func253 2 [] (fun _ f => f) (by kernel_rfl) (ih _ _ _ _ _ _ _ h)

def nat_digit.l0E (x0 : ZI) (x1 : ZI) (x5 : Int) (x7 : Int) (x8 : Int) : Env := [(0, .c (.own 0)), (1, .c (.d (L154 x1))), (5, .c (.d (.int .i64 x5))), (7, .c (.d (.int .u64 x7))), (8, .c (.d (.int .u64 x8)))]
def nat_digit.l0B (x0 : ZI) (x1 : ZI) (x5 : Int) (x7 : Int) (x8 : Int) : Obs := [(0, some (O154 .win x0))]
theorem nat_digit.w (k : Nat) : (∀ (l0 : ZI) (x0 : ZI) (x1 : ZI) (x5 : Int) (x7 : Int) (x8 : Int) (r : Int × ZI), nat_digit.l0 k x0 x1 x5 x7 x8 = some r -> Til Tryz.prog 229 [(0, some (O154 .win l0))] (.c (.d (.int .u64 r.1))) none [(0, some (O154 .win r.2))] (at_ Tryz.f229 4) (nat_digit.l0E x0 x1 x5 x7 x8) (nat_digit.l0B x0 x1 x5 x7 x8)) := by
 induction k with
 | zero =>
  exact fun _ _ _ _ _ _ _ h => (by cases h)
 | succ k ih =>
  intro l0 x0 x1 x5 x7 x8 r h
  rw [nat_digit.l0] at h
  by_cases h0 : x7 >= 4294967296
  ·rw [if_pos h0] at h
   obtain ⟨h1, h⟩ := ifp h
   obtain ⟨h2, h⟩ := ifp h
   by_cases h3 : (IntKind.u64.wrap (x8 + (rd x1 (wrap64 (x5 - 1))))) >= 4294967296
   ·rw [if_pos h3] at h
    obtain ⟨⟨v36_0, v36_1⟩, h4, h⟩ := bnd h
    dsimp only at h
    obtain ⟨h5, h⟩ := ifp h
    cases v36_0
    ·rw [if_neg (by decide)] at h
     obtain ⟨h6, h⟩ := ifp h
     obtain rfl := zI h
     exact Til.fin Tryz.func229 [(1, .b true), (32, .b true), (36, .call [] [0] (.c (.d (.bool false))) none [(0, some (O154 .win v36_1))] [])] (fun _ f => o (zT h0) (o (o h1 h2) (o (zT h3) (o (nat_take.does h4) (o (o (rfl : (1 : Nat) = 1) h6) f))))) (by kernel_rfl)
    ·rw [if_pos rfl] at h
     obtain ⟨h6, h⟩ := ifp h
     obtain ⟨v42, h7, h⟩ := bnd h
     obtain ⟨h8, h⟩ := ifp h
     obtain rfl := zI h
     exact Til.fin Tryz.func229 [(1, .b true), (32, .b true), (36, .call [] [0] (.c (.d (.bool true))) none [(0, some (O154 .win v36_1))] []), (42, .call [] [0] (.tup []) none [(0, some (O154 .win v42))] [])] (fun _ f => o (zT h0) (o (o h1 h2) (o (zT h3) (o (nat_take.does h4) (o (o (rfl : (1 : Nat) = 1) h6) (o (nat_give.does h7) (o (o (rfl : (1 : Nat) = 1) h8) f))))))) (by kernel_rfl)
   ·rw [if_neg h3] at h
    exact Til.mid Tryz.func229 4 [(1, .b true), (32, .b false)] (fun _ f => o (zT h0) (o (o h1 h2) (o (zF h3) f))) (by kernel_rfl) (ih _ _ _ _ _ _ _ h)
  ·rw [if_neg h0] at h
   obtain ⟨h1, h⟩ := ifp h
   obtain ⟨h2, h⟩ := ifp h
   obtain ⟨h3, h⟩ := ifp h
   by_cases h4 : (IntKind.u64.wrap (x7 * (rd x1 (wrap64 (x5 - 2))))) > (Go.bits .or .u64 (IntKind.u64.wrap (x8 * 4294967296)) (rd x0 (wrap64 (x5 - 2))))
   ·rw [if_pos h4] at h
    obtain ⟨h5, h⟩ := ifp h
    obtain ⟨h6, h⟩ := ifp h
    by_cases h7 : (IntKind.u64.wrap (x8 + (rd x1 (wrap64 (x5 - 1))))) >= 4294967296
    ·rw [if_pos h7] at h
     obtain ⟨⟨v36_0, v36_1⟩, h8, h⟩ := bnd h
     dsimp only at h
     obtain ⟨h9, h⟩ := ifp h
     cases v36_0
     ·rw [if_neg (by decide)] at h
      obtain ⟨h10, h⟩ := ifp h
      obtain rfl := zI h
      exact Til.fin Tryz.func229 [(1, .b false), (18, .b true), (32, .b true), (36, .call [] [0] (.c (.d (.bool false))) none [(0, some (O154 .win v36_1))] [])] (fun _ f => o (zF h0) (o (o h1 h2) (o (nn 32) (o (o h1 h3) (o (zT h4) (o (o h5 h6) (o (zT h7) (o (nat_take.does h8) (o (o (rfl : (1 : Nat) = 1) h10) f))))))))) (by kernel_rfl)
     ·rw [if_pos rfl] at h
      obtain ⟨h10, h⟩ := ifp h
      obtain ⟨v42, h11, h⟩ := bnd h
      obtain ⟨h12, h⟩ := ifp h
      obtain rfl := zI h
      exact Til.fin Tryz.func229 [(1, .b false), (18, .b true), (32, .b true), (36, .call [] [0] (.c (.d (.bool true))) none [(0, some (O154 .win v36_1))] []), (42, .call [] [0] (.tup []) none [(0, some (O154 .win v42))] [])] (fun _ f => o (zF h0) (o (o h1 h2) (o (nn 32) (o (o h1 h3) (o (zT h4) (o (o h5 h6) (o (zT h7) (o (nat_take.does h8) (o (o (rfl : (1 : Nat) = 1) h10) (o (nat_give.does h11) (o (o (rfl : (1 : Nat) = 1) h12) f))))))))))) (by kernel_rfl)
    ·rw [if_neg h7] at h
     exact Til.mid Tryz.func229 4 [(1, .b false), (18, .b true), (32, .b false)] (fun _ f => o (zF h0) (o (o h1 h2) (o (nn 32) (o (o h1 h3) (o (zT h4) (o (o h5 h6) (o (zF h7) f))))))) (by kernel_rfl) (ih _ _ _ _ _ _ _ h)
   ·rw [if_neg h4] at h
    obtain ⟨⟨v23_0, v23_1⟩, h5, h⟩ := bnd h
    dsimp only at h
    obtain ⟨h6, h⟩ := ifp h
    cases v23_0
    ·rw [if_neg (by decide)] at h
     obtain ⟨h7, h⟩ := ifp h
     obtain rfl := zI h
     exact Til.fin Tryz.func229 [(1, .b false), (18, .b false), (23, .call [] [0] (.c (.d (.bool false))) none [(0, some (O154 .win v23_1))] [])] (fun _ f => o (zF h0) (o (o h1 h2) (o (nn 32) (o (o h1 h3) (o (zF h4) (o (nat_take.does h5) (o (o (rfl : (1 : Nat) = 1) h7) f))))))) (by kernel_rfl)
    ·rw [if_pos rfl] at h
     obtain ⟨h7, h⟩ := ifp h
     obtain ⟨v29, h8, h⟩ := bnd h
     obtain ⟨h9, h⟩ := ifp h
     obtain rfl := zI h
     exact Til.fin Tryz.func229 [(1, .b false), (18, .b false), (23, .call [] [0] (.c (.d (.bool true))) none [(0, some (O154 .win v23_1))] []), (29, .call [] [0] (.tup []) none [(0, some (O154 .win v29))] [])] (fun _ f => o (zF h0) (o (o h1 h2) (o (nn 32) (o (o h1 h3) (o (zF h4) (o (nat_take.does h5) (o (o (rfl : (1 : Nat) = 1) h7) (o (nat_give.does h8) (o (o (rfl : (1 : Nat) = 1) h9) f))))))))) (by kernel_rfl)
theorem nat_digit.does {k : Nat} {l0 : ZI} {l1 : ZI} {r : Int × ZI} (h : nat_digit.f k l0 l1 = some r) :
 Does Tryz.prog 229 [.c (.own 0), .c (.d (L154 l1))] [(0, some (O154 .win l0))] (.c (.d (.int .u64 r.1))) none [(0, some (O154 .win r.2))] := by
 refine does_fn Tryz.func229 (by kernel_rfl) rfl rfl ?_
 unfold nat_digit.f at h
 have ih := nat_digit.w k
 obtain ⟨h0, h⟩ := ifp h
 obtain ⟨h1, h⟩ := ifp h
 obtain ⟨h2, h⟩ := ifp h
 obtain ⟨h3, h⟩ := ifp h
 obtain ⟨h4, h⟩ := ifn h
 exact Til.mid Tryz.func229 4 [] (fun _ f => o (o (Int.natCast_nonneg l1.length) h0) (o (nn 32) (o (o h1 h2) (o (o h1 h3) (o h4 (o (o h1 h3) (o h4 f))))))) (by kernel_rfl) (ih _ _ _ _ _ _ _ h)

def nat_long.l0E (x6 : Int) (x7 : ZI) (x8 : ZI) (x9 : Int) (x10 : ZI) (x11 : Int) : Env := [(6, .c (.d (.int .i64 x6))), (7, .c (.d (L154 x7))), (8, .c (.own 8)), (9, .c (.d (.int .i64 x9))), (10, .c (.own 10)), (11, .c (.d (.int .i64 x11)))]
def nat_long.l0B (x6 : Int) (x7 : ZI) (x8 : ZI) (x9 : Int) (x10 : ZI) (x11 : Int) : Obs := [(8, some (O154 .own x8)), (10, some (O154 .own x10))]
theorem nat_long.w (k : Nat) : (∀  (x6 : Int) (x7 : ZI) (x8 : ZI) (x9 : Int) (x10 : ZI) (x11 : Int) (r : ZI × ZI), nat_long.l0 k x6 x7 x8 x9 x10 x11 = some r -> Til Tryz.prog 198 [] (.tup [.c (.d (L154 r.1)), .c (.d (L154 r.2))]) none [] (at_ Tryz.f198 7) (nat_long.l0E x6 x7 x8 x9 x10 x11) (nat_long.l0B x6 x7 x8 x9 x10 x11)) := by
 induction k with
 | zero =>
  exact fun _ _ _ _ _ _ _ h => (by cases h)
 | succ k ih =>
  intro x6 x7 x8 x9 x10 x11 r h
  rw [nat_long.l0] at h
  by_cases h0 : x11 >= 0
  ·rw [if_pos h0] at h
   obtain ⟨h1, h⟩ := ifp h
   obtain ⟨h2, h⟩ := ifp h
   obtain ⟨v12, h3, h⟩ := bnd h
   obtain ⟨h4, h⟩ := ifp h
   obtain ⟨h5, h⟩ := ifp h
   exact Til.mid Tryz.func198 7 [(1, .b true), (12, .call [] [0] (.c (.d (.int .u64 v12.1))) none [(0, some (O154 .win v12.2))] [(0, (x8.take ((x11 : Int).toNat) ++ v12.2 ++ x8.drop (((wrap64 ((wrap64 (x11 + x9)) + 1)) : Int).toNat)).length, enc c154 0 (x8.take ((x11 : Int).toNat) ++ v12.2 ++ x8.drop (((wrap64 ((wrap64 (x11 + x9)) + 1)) : Int).toNat))), (1000000, ((x8.drop ((x11 : Int).toNat)).take (((wrap64 ((wrap64 (x11 + x9)) + 1)) : Int).toNat - (x11 : Int).toNat)).length, enc c154 0 ((x8.drop ((x11 : Int).toNat)).take (((wrap64 ((wrap64 (x11 + x9)) + 1)) : Int).toNat - (x11 : Int).toNat)))]), (14, Z154 (x10.set ((x11 : Int).toNat) v12.1))] (fun _ f => o (zT h0) (o (o h0 (o h1 h2)) (o (nat_digit.does h3) (o (backw_ok c154 0 1 x8 v12.2 h0 (Int.le_of_lt h1) h2 h4) (o (part_ok c154 0 x8 h0 (Int.le_of_lt h1) h2).2.2.2 (o (o h0 h5) (o (set_ok c154 0 (fun _ _ => rfl) x10 ((x11 : Int).toNat) v12.1 (lt_ok h0 h5)) f))))))) (by kernel_rfl) (ih _ _ _ _ _ _ _ h)
  ·rw [if_neg h0] at h
   obtain ⟨v3, h1, h⟩ := bnd h
   obtain ⟨v5, h2, h⟩ := bnd h
   obtain ⟨v7, h3, h⟩ := bnd h
   obtain rfl := zI h
   exact Til.fin Tryz.func198 [(1, .b false), (3, ca (.c (.d (L154 v3)))), (5, ca (.c (.d (L154 v5)))), (7, ca (.c (.d (L154 v7))))] (fun _ f => o (zF h0) (o (nat_trim.does h1) (o (nat_trim.does h2) (o (nat_shr.does h3) f)))) (by kernel_rfl)
theorem nat_long.does {k : Nat} {l0 : ZI} {l1 : ZI} {r : ZI × ZI} (h : nat_long.f k l0 l1 = some r) :
 Does Tryz.prog 198 [.c (.d (L154 l0)), .c (.d (L154 l1))] [] (.tup [.c (.d (L154 r.1)), .c (.d (L154 r.2))]) none [] := by
 refine does_fn Tryz.func198 (by kernel_rfl) rfl rfl ?_
 unfold nat_long.f at h
 have ih := nat_long.w k
 obtain ⟨h0, h⟩ := ifp h
 obtain ⟨h1, h⟩ := ifp h
 obtain ⟨v9, h2, h⟩ := bnd h
 obtain ⟨v13, h3, h⟩ := bnd h
 obtain ⟨v17, h4, h⟩ := bnd h
 obtain ⟨h5, h⟩ := ifp h
 obtain ⟨h6, h⟩ := ifp h
 obtain ⟨h7, h⟩ := ifp h
 obtain ⟨h8, h⟩ := ifp h
 obtain ⟨h9, h⟩ := ifp h
 exact Til.mid Tryz.func198 7 [(9, ca (.c (.d (.int .i64 v9)))), (13, .call [] [] (.c (.own 0)) (some (O154 .own v13)) [] []), (17, .call [] [] (.c (.own 0)) (some (O154 .own v17)) [] []), (18, Z154 ([0, 0] : ZI)), (19, Z154 (v17 ++ ([0, 0] : ZI))), (23, Z154 ((v17 ++ ([0, 0] : ZI)).take (((wrap64 ((l0.length : Int) + 1)) : Int).toNat))), (32, Z154 (List.replicate (((wrap64 ((((v17 ++ ([0, 0] : ZI)).take (((wrap64 ((l0.length : Int) + 1)) : Int).toNat)).length : Int) - (v13.length : Int))) : Int).toNat) 0 : ZI))] (fun _ f => o (o h0 h1) (o (bits_LeadingZeros32.does h2) (o (nat_shl.does h3) (o (nat_shl.does h4) (o (lit_ok c154 0 ([0, 0] : ZI)) (o (app c154 0 v17 ([0, 0] : ZI) 8 17592186044416 (by decide) h5) (o (take_ok c154 0 (v17 ++ ([0, 0] : ZI)) h6 h7) (o (make_ok c154 0 [.int .u64 0] ⟨.refl _, trivial⟩ (wrap64 ((((v17 ++ ([0, 0] : ZI)).take (((wrap64 ((l0.length : Int) + 1)) : Int).toNat)).length : Int) - (v13.length : Int))) 8 35184372088832 (by decide) h8 h9) f)))))))) (by kernel_rfl) (ih _ _ _ _ _ _ _ h)

theorem nat_DivMod.does {k : Nat} {l0 : ZI} {l1 : ZI} {r : ZI × ZI × Int} (h : nat_DivMod.f k l0 l1 = some r) :
 Does Tryz.prog 124 [.c (.d (L154 l0)), .c (.d (L154 l1))] [] (.tup [.c (.d (L154 r.1)), .c (.d (L154 r.2.1)), .c (.d (.int .i64 r.2.2))]) none [] := by
 refine does_fn Tryz.func124 (by kernel_rfl) rfl rfl ?_
 unfold nat_DivMod.f at h
 obtain ⟨v4, h0, h⟩ := bnd h
 obtain ⟨v6, h1, h⟩ := bnd h
 by_cases h2 : (v6.length : Int) = 0
 ·rw [if_pos h2] at h
  obtain rfl := zI h
  exact Til.fin Tryz.func124 [(4, ca (.c (.d (L154 v4)))), (6, ca (.c (.d (L154 v6)))), (11, .b true)] (fun _ f => o (nat_Clean.does h0) (o (nat_Clean.does h1) (o (beq_iff_eq.2 h2) f))) (by kernel_rfl)
 ·rw [if_neg h2] at h
  obtain ⟨v15, h3, h⟩ := bnd h
  by_cases h4 : v15 < 0
  ·rw [if_pos h4] at h
   obtain rfl := zI h
   exact Til.fin Tryz.func124 [(4, ca (.c (.d (L154 v4)))), (6, ca (.c (.d (L154 v6)))), (11, .b false), (15, ca (.c (.d (.int .i64 v15)))), (16, .b true)] (fun _ f => o (nat_Clean.does h0) (o (nat_Clean.does h1) (o (zB h2) (o (nat_order.does h3) (o (zT h4) f))))) (by kernel_rfl)
  ·rw [if_neg h4] at h
   by_cases h5 : (v6.length : Int) = 1
   ·rw [if_pos h5] at h
    obtain ⟨h6, h⟩ := ifp h
    obtain ⟨v26, h7, h⟩ := bnd h
    obtain ⟨v34, h8, h⟩ := bnd h
    obtain rfl := zI h
    exact Til.fin Tryz.func124 [(4, ca (.c (.d (L154 v4)))), (6, ca (.c (.d (L154 v6)))), (11, .b false), (15, ca (.c (.d (.int .i64 v15)))), (16, .b false), (20, .b true), (26, ca (.tup [.c (.d (L154 v26.1)), .c (.d (.int .u64 v26.2))])), (34, ca (.c (.d (L154 v34))))] (fun _ f => o (nat_Clean.does h0) (o (nat_Clean.does h1) (o (zB h2) (o (nat_order.does h3) (o (zF h4) (o (beq_iff_eq.2 h5) (o (o (nn 0) h6) (o (nat_small.does h7) (o (nat_Of.does h8) f))))))))) (by kernel_rfl)
   ·rw [if_neg h5] at h
    obtain ⟨v24, h6, h⟩ := bnd h
    obtain rfl := zI h
    exact Til.fin Tryz.func124 [(4, ca (.c (.d (L154 v4)))), (6, ca (.c (.d (L154 v6)))), (11, .b false), (15, ca (.c (.d (.int .i64 v15)))), (16, .b false), (20, .b false), (24, ca (.tup [.c (.d (L154 v24.1)), .c (.d (L154 v24.2))]))] (fun _ f => o (nat_Clean.does h0) (o (nat_Clean.does h1) (o (zB h2) (o (nat_order.does h3) (o (zF h4) (o (zB h5) (o (nat_long.does h6) f))))))) (by kernel_rfl)

theorem nat_rest.does {k : Nat} {l0 : ZI} {l1 : ZI} {r : ZI × ZI} (h : nat_rest.f k l0 l1 = some r) :
 Does Tryz.prog 196 [.c (.d (L154 l0)), .c (.d (L154 l1))] [] (.tup [.c (.d (L154 r.1)), .c (.d (L154 r.2))]) none [] := by
 refine does_fn Tryz.func196 (by kernel_rfl) rfl rfl ?_
 unfold nat_rest.f at h
 obtain ⟨v4, h0, h⟩ := bnd h
 obtain rfl := zI h
 exact Til.fin Tryz.func196 [(4, ca (.tup [.c (.d (L154 v4.1)), .c (.d (L154 v4.2.1)), .c (.d (.int .i64 v4.2.2))]))] (fun _ f => o (nat_DivMod.does h0) f) (by kernel_rfl)

def nat_minus.l0E (x0 : ZI) (x1 : ZI) (x5 : ZI) (x6 : Int) (x13 : Int) (x14 : Int) : Env := [(0, .c (.d (L154 x0))), (1, .c (.d (L154 x1))), (5, .c (.own 5)), (6, .c (.d (.int .u64 x6))), (13, .c (.d (.int .i64 x13))), (14, .c (.d (.int .i64 x14)))]
def nat_minus.l0B (x0 : ZI) (x1 : ZI) (x5 : ZI) (x6 : Int) (x13 : Int) (x14 : Int) : Obs := [(5, some (O154 .own x5))]
theorem nat_minus.w (k : Nat) : (∀  (x0 : ZI) (x1 : ZI) (x5 : ZI) (x6 : Int) (x13 : Int) (x14 : Int) (r : ZI), nat_minus.l0 k x0 x1 x5 x6 x13 x14 = some r -> Til Tryz.prog 197 [] (.c (.d (L154 r))) none [] (at_ Tryz.f197 4) (nat_minus.l0E x0 x1 x5 x6 x13 x14) (nat_minus.l0B x0 x1 x5 x6 x13 x14)) := by
 induction k with
 | zero =>
  exact fun _ _ _ _ _ _ _ h => (by cases h)
 | succ k ih =>
  intro x0 x1 x5 x6 x13 x14 r h
  rw [nat_minus.l0] at h
  by_cases h0 : x14 < x13
  ·rw [if_pos h0] at h
   obtain ⟨h1, h⟩ := ifp h
   obtain ⟨h2, h⟩ := ifp h
   obtain ⟨v10, h3, h⟩ := bnd h
   obtain ⟨h4, h⟩ := ifp h
   exact Til.mid Tryz.func197 4 [(0, .b true), (10, ca (.c (.d (.int .u64 v10)))), (20, Z154 (x5.set ((x14 : Int).toNat) (Go.bits .and .u64 (IntKind.u64.wrap ((IntKind.u64.wrap ((IntKind.u64.wrap (4294967296 + (rd x0 x14))) - v10)) - x6)) 4294967295)))] (fun _ f => o (zT h0) (o (o h1 h2) (o (nat_limb.does h3) (o (o h1 h4) (o (set_ok c154 0 (fun _ _ => rfl) x5 ((x14 : Int).toNat) (Go.bits .and .u64 (IntKind.u64.wrap ((IntKind.u64.wrap ((IntKind.u64.wrap (4294967296 + (rd x0 x14))) - v10)) - x6)) 4294967295) (lt_ok h1 h4)) (o (nn 32) f)))))) (by kernel_rfl) (ih _ _ _ _ _ _ _ h)
  ·rw [if_neg h0] at h
   obtain ⟨v2, h1, h⟩ := bnd h
   obtain rfl := zI h
   exact Til.fin Tryz.func197 [(0, .b false), (2, ca (.c (.d (L154 v2))))] (fun _ f => o (zF h0) (o (nat_trim.does h1) f)) (by kernel_rfl)
theorem nat_minus.does {k : Nat} {l0 : ZI} {l1 : ZI} {r : ZI} (h : nat_minus.f k l0 l1 = some r) :
 Does Tryz.prog 197 [.c (.d (L154 l0)), .c (.d (L154 l1))] [] (.c (.d (L154 r))) none [] := by
 refine does_fn Tryz.func197 (by kernel_rfl) rfl rfl ?_
 unfold nat_minus.f at h
 have ih := nat_minus.w k
 obtain ⟨h0, h⟩ := ifp h
 exact Til.mid Tryz.func197 4 [(3, Z154 (List.replicate (((l0.length : Int) : Int).toNat) 0 : ZI))] (fun _ f => o (make_ok c154 0 [.int .u64 0] ⟨.refl _, trivial⟩ (l0.length : Int) 8 35184372088832 (by decide) (Int.natCast_nonneg l0.length) h0) f) (by kernel_rfl) (ih _ _ _ _ _ _ _ h)

def nat_Gcd.l0E (x0 : ZI) (x1 : ZI) (x5 : Int) (x6 : Int) : Env := [(0, .c (.d (L154 x0))), (1, .c (.d (L154 x1))), (5, .c (.d (.int .i64 x5))), (6, .c (.d (.int .i64 x6)))]
theorem nat_Gcd.w (k : Nat) : (∀  (x0 : ZI) (x1 : ZI) (x5 : Int) (x6 : Int) (r : ZI), nat_Gcd.l0 k x0 x1 x5 x6 = some r -> Til Tryz.prog 123 [] (.c (.d (L154 r))) none [] (at_ Tryz.f123 10) (nat_Gcd.l0E x0 x1 x5 x6) []) := by
 induction k with
 | zero =>
  exact fun _ _ _ _ _ h => (by cases h)
 | succ k ih =>
  intro x0 x1 x5 x6 r h
  rw [nat_Gcd.l0] at h
  obtain ⟨v2, h0, h⟩ := bnd h
  by_cases h1 : v2 = 0
  ·rw [if_pos h1] at h
   obtain ⟨v11, h2, h⟩ := bnd h
   obtain rfl := zI h
   exact Til.fin Tryz.func123 [(2, ca (.c (.d (.int .i64 v2)))), (5, .b true), (11, .call [] [] (.c (.own 0)) (some (O154 .own v11)) [] [])] (fun _ f => o (nat_order.does h0) (o (beq_iff_eq.2 h1) (o (nat_shl.does h2) f))) (by kernel_rfl)
  ·rw [if_neg h1] at h
   by_cases h2 : v2 < 0
   ·rw [if_pos h2] at h
    by_cases h3 : (x1.length : Int) > (wrap64 ((x0.length : Int) + 1))
    ·rw [if_pos h3] at h
     obtain ⟨v22, h4, h⟩ := bnd h
     by_cases h5 : (v22.2.length : Int) = 0
     ·rw [if_pos h5] at h
      obtain ⟨v34, h6, h⟩ := bnd h
      obtain rfl := zI h
      exact Til.fin Tryz.func123 [(2, ca (.c (.d (.int .i64 v2)))), (5, .b false), (8, .b true), (19, .b true), (22, ca (.tup [.c (.d (L154 v22.1)), .c (.d (L154 v22.2))])), (29, .b true), (34, .call [] [] (.c (.own 0)) (some (O154 .own v34)) [] [])] (fun _ f => o (nat_order.does h0) (o (zB h1) (o (zT h2) (o (zT h3) (o (nat_rest.does h4) (o (beq_iff_eq.2 h5) (o (nat_shl.does h6) f))))))) (by kernel_rfl)
     ·rw [if_neg h5] at h
      obtain ⟨v32, h6, h⟩ := bnd h
      obtain ⟨v33, h7, h⟩ := bnd h
      exact Til.mid Tryz.func123 10 [(2, ca (.c (.d (.int .i64 v2)))), (5, .b false), (8, .b true), (19, .b true), (22, ca (.tup [.c (.d (L154 v22.1)), .c (.d (L154 v22.2))])), (29, .b false), (32, ca (.c (.d (.int .i64 v32)))), (33, ca (.c (.d (L154 v33))))] (fun _ f => o (nat_order.does h0) (o (zB h1) (o (zT h2) (o (zT h3) (o (nat_rest.does h4) (o (zB h5) (o (nat_zeros.does h6) (o (nat_shr.does h7) f)))))))) (by kernel_rfl) (ih _ _ _ _ _ h)
    ·rw [if_neg h3] at h
     obtain ⟨v22, h4, h⟩ := bnd h
     obtain ⟨v26, h5, h⟩ := bnd h
     obtain ⟨v27, h6, h⟩ := bnd h
     exact Til.mid Tryz.func123 10 [(2, ca (.c (.d (.int .i64 v2)))), (5, .b false), (8, .b true), (19, .b false), (22, ca (.c (.d (L154 v22)))), (26, ca (.c (.d (.int .i64 v26)))), (27, ca (.c (.d (L154 v27))))] (fun _ f => o (nat_order.does h0) (o (zB h1) (o (zT h2) (o (zF h3) (o (nat_minus.does h4) (o (nat_zeros.does h5) (o (nat_shr.does h6) f))))))) (by kernel_rfl) (ih _ _ _ _ _ h)
   ·rw [if_neg h2] at h
    by_cases h3 : (x0.length : Int) > (wrap64 ((x1.length : Int) + 1))
    ·rw [if_pos h3] at h
     obtain ⟨v18, h4, h⟩ := bnd h
     by_cases h5 : (v18.2.length : Int) = 0
     ·rw [if_pos h5] at h
      obtain ⟨v30, h6, h⟩ := bnd h
      obtain rfl := zI h
      exact Til.fin Tryz.func123 [(2, ca (.c (.d (.int .i64 v2)))), (5, .b false), (8, .b false), (15, .b true), (18, ca (.tup [.c (.d (L154 v18.1)), .c (.d (L154 v18.2))])), (25, .b true), (30, .call [] [] (.c (.own 0)) (some (O154 .own v30)) [] [])] (fun _ f => o (nat_order.does h0) (o (zB h1) (o (zF h2) (o (zT h3) (o (nat_rest.does h4) (o (beq_iff_eq.2 h5) (o (nat_shl.does h6) f))))))) (by kernel_rfl)
     ·rw [if_neg h5] at h
      obtain ⟨v28, h6, h⟩ := bnd h
      obtain ⟨v29, h7, h⟩ := bnd h
      exact Til.mid Tryz.func123 10 [(2, ca (.c (.d (.int .i64 v2)))), (5, .b false), (8, .b false), (15, .b true), (18, ca (.tup [.c (.d (L154 v18.1)), .c (.d (L154 v18.2))])), (25, .b false), (28, ca (.c (.d (.int .i64 v28)))), (29, ca (.c (.d (L154 v29))))] (fun _ f => o (nat_order.does h0) (o (zB h1) (o (zF h2) (o (zT h3) (o (nat_rest.does h4) (o (zB h5) (o (nat_zeros.does h6) (o (nat_shr.does h7) f)))))))) (by kernel_rfl) (ih _ _ _ _ _ h)
    ·rw [if_neg h3] at h
     obtain ⟨v18, h4, h⟩ := bnd h
     obtain ⟨v22, h5, h⟩ := bnd h
     obtain ⟨v23, h6, h⟩ := bnd h
     exact Til.mid Tryz.func123 10 [(2, ca (.c (.d (.int .i64 v2)))), (5, .b false), (8, .b false), (15, .b false), (18, ca (.c (.d (L154 v18)))), (22, ca (.c (.d (.int .i64 v22)))), (23, ca (.c (.d (L154 v23))))] (fun _ f => o (nat_order.does h0) (o (zB h1) (o (zF h2) (o (zF h3) (o (nat_minus.does h4) (o (nat_zeros.does h5) (o (nat_shr.does h6) f))))))) (by kernel_rfl) (ih _ _ _ _ _ h)
theorem nat_Gcd.does {k : Nat} {l0 : ZI} {l1 : ZI} {r : ZI} (h : nat_Gcd.f k l0 l1 = some r) :
 Does Tryz.prog 123 [.c (.d (L154 l0)), .c (.d (L154 l1))] [] (.c (.d (L154 r))) none [] := by
 refine does_fn Tryz.func123 (by kernel_rfl) rfl rfl ?_
 unfold nat_Gcd.f at h
 have ih := nat_Gcd.w k
 obtain ⟨v2, h0, h⟩ := bnd h
 obtain ⟨v4, h1, h⟩ := bnd h
 by_cases h2 : (v2.length : Int) = 0
 ·rw [if_pos h2] at h
  obtain rfl := zI h
  exact Til.fin Tryz.func123 [(2, ca (.c (.d (L154 v2)))), (4, ca (.c (.d (L154 v4)))), (9, .b true)] (fun _ f => o (nat_Clean.does h0) (o (nat_Clean.does h1) (o (beq_iff_eq.2 h2) f))) (by kernel_rfl)
 ·rw [if_neg h2] at h
  by_cases h3 : (v4.length : Int) = 0
  ·rw [if_pos h3] at h
   obtain rfl := zI h
   exact Til.fin Tryz.func123 [(2, ca (.c (.d (L154 v2)))), (4, ca (.c (.d (L154 v4)))), (9, .b false), (13, .b true)] (fun _ f => o (nat_Clean.does h0) (o (nat_Clean.does h1) (o (zB h2) (o (beq_iff_eq.2 h3) f)))) (by kernel_rfl)
  ·rw [if_neg h3] at h
   by_cases h4 : (v2.length : Int) <= 2
   ·rw [if_pos h4] at h
    by_cases h5 : (v4.length : Int) <= 2
    ·rw [if_pos h5] at h
     obtain ⟨v25, h6, h⟩ := bnd h
     obtain rfl := zI h
     exact Til.fin Tryz.func123 [(2, ca (.c (.d (L154 v2)))), (4, ca (.c (.d (L154 v4)))), (9, .b false), (13, .b false), (17, .b true), (21, .b true), (25, ca (.c (.d (L154 v25))))] (fun _ f => o (nat_Clean.does h0) (o (nat_Clean.does h1) (o (zB h2) (o (zB h3) (o (zT h4) (o (zT h5) (o (nat_euclid.does h6) f))))))) (by kernel_rfl)
    ·rw [if_neg h5] at h
     obtain ⟨v24, h6, h⟩ := bnd h
     obtain ⟨v26, h7, h⟩ := bnd h
     obtain ⟨v31, h8, h⟩ := bnd h
     obtain ⟨v34, h9, h⟩ := bnd h
     exact Til.mid Tryz.func123 10 [(2, ca (.c (.d (L154 v2)))), (4, ca (.c (.d (L154 v4)))), (9, .b false), (13, .b false), (17, .b true), (21, .b false), (24, ca (.c (.d (.int .i64 v24)))), (26, ca (.c (.d (.int .i64 v26)))), (31, ca (.c (.d (L154 v31)))), (34, ca (.c (.d (L154 v34))))] (fun _ f => o (nat_Clean.does h0) (o (nat_Clean.does h1) (o (zB h2) (o (zB h3) (o (zT h4) (o (zF h5) (o (nat_zeros.does h6) (o (nat_zeros.does h7) (o (nat_shr.does h8) (o (nat_shr.does h9) f)))))))))) (by kernel_rfl) (ih _ _ _ _ _ h)
   ·rw [if_neg h4] at h
    obtain ⟨v24, h5, h⟩ := bnd h
    obtain ⟨v26, h6, h⟩ := bnd h
    obtain ⟨v31, h7, h⟩ := bnd h
    obtain ⟨v34, h8, h⟩ := bnd h
    exact Til.mid Tryz.func123 10 [(2, ca (.c (.d (L154 v2)))), (4, ca (.c (.d (L154 v4)))), (9, .b false), (13, .b false), (17, .b false), (24, ca (.c (.d (.int .i64 v24)))), (26, ca (.c (.d (.int .i64 v26)))), (31, ca (.c (.d (L154 v31)))), (34, ca (.c (.d (L154 v34))))] (fun _ f => o (nat_Clean.does h0) (o (nat_Clean.does h1) (o (zB h2) (o (zB h3) (o (zF h4) (o (nat_zeros.does h5) (o (nat_zeros.does h6) (o (nat_shr.does h7) (o (nat_shr.does h8) f))))))))) (by kernel_rfl) (ih _ _ _ _ _ h)

theorem ratio_form.does {k : Nat} {a0_0 : Bool} {l0_1 : ZI} {l1 : ZI} {r : ZQ} (h : ratio_form.f k a0_0 l0_1 l1 = some r) :
 Does Tryz.prog 63 [.agg [.d (.bool a0_0), .d (L154 l0_1)], .c (.d (L154 l1))] [] (.agg [.d (.bool r.1), .d (L154 r.2.1), .d (L154 r.2.2)]) none [] := by
 refine does_fn Tryz.func63 (by kernel_rfl) rfl rfl ?_
 unfold ratio_form.f at h
 by_cases h0 : (l0_1.length : Int) = 0
 ·rw [if_pos h0] at h
  obtain ⟨v6, h1, h⟩ := bnd h
  obtain rfl := zI h
  exact Til.fin Tryz.func63 [(5, .b true), (6, ca (.c (.d (L154 v6))))] (fun _ f => o (beq_iff_eq.2 h0) (o (nat_Of.does h1) f)) (by kernel_rfl)
 ·rw [if_neg h0] at h
  obtain ⟨v9, h1, h⟩ := bnd h
  by_cases h2 : (v9.length : Int) = 1
  ·rw [if_pos h2] at h
   obtain ⟨h3, h⟩ := ifp h
   by_cases h4 : (rd v9 0) = 1
   ·rw [if_pos h4] at h
    obtain rfl := zI h
    exact Til.fin Tryz.func63 [(5, .b false), (9, ca (.c (.d (L154 v9)))), (13, .b true), (18, .b true)] (fun _ f => o (zB h0) (o (nat_Gcd.does h1) (o (beq_iff_eq.2 h2) (o (o (nn 0) h3) (o (beq_iff_eq.2 h4) f))))) (by kernel_rfl)
   ·rw [if_neg h4] at h
    obtain ⟨v23, h5, h⟩ := bnd h
    obtain ⟨v33, h6, h⟩ := bnd h
    obtain rfl := zI h
    exact Til.fin Tryz.func63 [(5, .b false), (9, ca (.c (.d (L154 v9)))), (13, .b true), (18, .b false), (23, ca (.tup [.c (.d (L154 v23.1)), .c (.d (L154 v23.2.1)), .c (.d (.int .i64 v23.2.2))])), (33, ca (.tup [.c (.d (L154 v33.1)), .c (.d (L154 v33.2.1)), .c (.d (.int .i64 v33.2.2))]))] (fun _ f => o (zB h0) (o (nat_Gcd.does h1) (o (beq_iff_eq.2 h2) (o (o (nn 0) h3) (o (zB h4) (o (nat_DivMod.does h5) (o (nat_DivMod.does h6) f))))))) (by kernel_rfl)
  ·rw [if_neg h2] at h
   obtain ⟨v23, h3, h⟩ := bnd h
   obtain ⟨v33, h4, h⟩ := bnd h
   obtain rfl := zI h
   exact Til.fin Tryz.func63 [(5, .b false), (9, ca (.c (.d (L154 v9)))), (13, .b false), (23, ca (.tup [.c (.d (L154 v23.1)), .c (.d (L154 v23.2.1)), .c (.d (.int .i64 v23.2.2))])), (33, ca (.tup [.c (.d (L154 v33.1)), .c (.d (L154 v33.2.1)), .c (.d (.int .i64 v33.2.2))]))] (fun _ f => o (zB h0) (o (nat_Gcd.does h1) (o (zB h2) (o (nat_DivMod.does h3) (o (nat_DivMod.does h4) f))))) (by kernel_rfl)

theorem whole_sign.does {a0 : Bool} {l1 : ZI} {r : Bool × ZI} (h : whole_sign.f a0 l1 = some r) :
 Does Tryz.prog 125 [.c (.d (.bool a0)), .c (.d (L154 l1))] [] (.agg [.d (.bool r.1), .d (L154 r.2)]) none [] := by
 refine does_fn Tryz.func125 (by kernel_rfl) rfl rfl ?_
 unfold whole_sign.f at h
 by_cases h0 : a0 = true
 ·rw [if_pos h0] at h
  obtain rfl := zI h
  exact Til.fin Tryz.func125 [(1, .b true)] (fun _ f => o h0 f) (by kernel_rfl)
 ·rw [if_neg h0] at h
  obtain rfl := zI h
  exact Til.fin Tryz.func125 [(1, .b false)] (fun _ f => o (Bool.eq_false_iff.2 h0) f) (by kernel_rfl)

theorem whole_Clean.does {k : Nat} {a0_0 : Bool} {l0_1 : ZI} {r : Bool × ZI} (h : whole_Clean.f k a0_0 l0_1 = some r) :
 Does Tryz.prog 122 [.agg [.d (.bool a0_0), .d (L154 l0_1)]] [] (.agg [.d (.bool r.1), .d (L154 r.2)]) none [] := by
 refine does_fn Tryz.func122 (by kernel_rfl) rfl rfl ?_
 unfold whole_Clean.f at h
 obtain ⟨v6, h0, h⟩ := bnd h
 obtain ⟨v7, h1, h⟩ := bnd h
 obtain rfl := zI h
 exact Til.fin Tryz.func122 [(6, ca (.c (.d (L154 v6)))), (7, ca (.agg [.d (.bool v7.1), .d (L154 v7.2)]))] (fun _ f => o (nat_Clean.does h0) (o (whole_sign.does h1) f)) (by kernel_rfl)

theorem ratio_Clean.does {k : Nat} {a0_0 : Bool} {l0_1 : ZI} {l0_2 : ZI} {r : ZQ} (h : ratio_Clean.f k a0_0 l0_1 l0_2 = some r) :
 Does Tryz.prog 62 [.agg [.d (.bool a0_0), .d (L154 l0_1), .d (L154 l0_2)]] [] (.agg [.d (.bool r.1), .d (L154 r.2.1), .d (L154 r.2.2)]) none [] := by
 refine does_fn Tryz.func62 (by kernel_rfl) rfl rfl ?_
 unfold ratio_Clean.f at h
 obtain ⟨v4, h0, h⟩ := bnd h
 by_cases h1 : (v4.length : Int) = 0
 ·rw [if_pos h1] at h
  obtain ⟨v9, h2, h⟩ := bnd h
  obtain rfl := zI h
  exact Til.fin Tryz.func62 [(4, ca (.c (.d (L154 v4)))), (8, .b true), (9, ca (.agg [.d (.bool v9.1), .d (L154 v9.2.1), .d (L154 v9.2.2)]))] (fun _ f => o (nat_Clean.does h0) (o (beq_iff_eq.2 h1) (o (ratio_Zero.does h2) f))) (by kernel_rfl)
 ·rw [if_neg h1] at h
  obtain ⟨v11, h2, h⟩ := bnd h
  obtain ⟨v13, h3, h⟩ := bnd h
  obtain rfl := zI h
  exact Til.fin Tryz.func62 [(4, ca (.c (.d (L154 v4)))), (8, .b false), (11, ca (.agg [.d (.bool v11.1), .d (L154 v11.2)])), (13, ca (.agg [.d (.bool v13.1), .d (L154 v13.2.1), .d (L154 v13.2.2)]))] (fun _ f => o (nat_Clean.does h0) (o (zB h1) (o (whole_Clean.does h2) (o (ratio_form.does h3) f)))) (by kernel_rfl)

theorem whole_Neg.does {k : Nat} {a0_0 : Bool} {l0_1 : ZI} {r : Bool × ZI} (h : whole_Neg.f k a0_0 l0_1 = some r) :
 Does Tryz.prog 224 [.agg [.d (.bool a0_0), .d (L154 l0_1)]] [] (.agg [.d (.bool r.1), .d (L154 r.2)]) none [] := by
 refine does_fn Tryz.func224 (by kernel_rfl) rfl rfl ?_
 unfold whole_Neg.f at h
 obtain ⟨v3, h0, h⟩ := bnd h
 obtain ⟨v10, h1, h⟩ := bnd h
 obtain rfl := zI h
 exact Til.fin Tryz.func224 [(3, ca (.agg [.d (.bool v3.1), .d (L154 v3.2)])), (10, ca (.agg [.d (.bool v10.1), .d (L154 v10.2)]))] (fun _ f => o (whole_Clean.does h0) (o (whole_sign.does h1) f)) (by kernel_rfl)

theorem ratio_Neg.does {k : Nat} {a0_0 : Bool} {l0_1 : ZI} {l0_2 : ZI} {r : ZQ} (h : ratio_Neg.f k a0_0 l0_1 l0_2 = some r) :
 Does Tryz.prog 189 [.agg [.d (.bool a0_0), .d (L154 l0_1), .d (L154 l0_2)]] [] (.agg [.d (.bool r.1), .d (L154 r.2.1), .d (L154 r.2.2)]) none [] := by
 refine does_fn Tryz.func189 (by kernel_rfl) rfl rfl ?_
 unfold ratio_Neg.f at h
 obtain ⟨v3, h0, h⟩ := bnd h
 obtain ⟨v7, h1, h⟩ := bnd h
 obtain rfl := zI h
 exact Til.fin Tryz.func189 [(3, ca (.agg [.d (.bool v3.1), .d (L154 v3.2.1), .d (L154 v3.2.2)])), (7, ca (.agg [.d (.bool v7.1), .d (L154 v7.2)]))] (fun _ f => o (ratio_Clean.does h0) (o (whole_Neg.does h1) f)) (by kernel_rfl)

theorem stringslite_HasPrefix.does {a0 : ByteArray} {a1 : ByteArray} {r : Bool} (h : stringslite_HasPrefix.f a0 a1 = some r) :
 Does Tryz.prog 271 [.c (.d (.str a0)), .c (.d (.str a1))] [] (.c (.d (.bool r))) none [] := by
 refine does_fn Tryz.func271 (by kernel_rfl) rfl rfl ?_
 unfold stringslite_HasPrefix.f at h
 by_cases h0 : (a0.size : Int) >= (a1.size : Int)
 ·rw [if_pos h0] at h
  obtain ⟨h1, h⟩ := ifp h
  obtain rfl := zI h
  exact Til.fin Tryz.func271 [(5, .b true)] (fun _ f => o (zT h0) (o (o h1 h0) f)) (by kernel_rfl)
 ·rw [if_neg h0] at h
  obtain rfl := zI h
  exact Til.fin Tryz.func271 [(5, .b false)] (fun _ f => o (zF h0) f) (by kernel_rfl)

theorem strings_HasPrefix.does {a0 : ByteArray} {a1 : ByteArray} {r : Bool} (h : strings_HasPrefix.f a0 a1 = some r) :
 Does Tryz.prog 254 [.c (.d (.str a0)), .c (.d (.str a1))] [] (.c (.d (.bool r))) none [] := by
 refine does_fn Tryz.func254 (by kernel_rfl) rfl rfl ?_
 unfold strings_HasPrefix.f at h
 obtain ⟨v3, h0, h⟩ := bnd h
 obtain rfl := zI h
 exact Til.fin Tryz.func254 [(3, ca (.c (.d (.bool v3))))] (fun _ f => o (stringslite_HasPrefix.does h0) f) (by kernel_rfl)

def nat_Mul.l0E (x1 : ZI) (x5 : ZI) (x21 : ZI) (x22 : Int) (x23 : Int) : Env := [(1, .c (.d (L154 x1))), (5, .c (.own 5)), (21, .c (.d (L154 x21))), (22, .c (.d (.int .i64 x22))), (23, .c (.d (.int .i64 x23)))]
def nat_Mul.l0B (x1 : ZI) (x5 : ZI) (x21 : ZI) (x22 : Int) (x23 : Int) : Obs := [(5, some (O154 .own x5))]
def nat_Mul.l1E (x1 : ZI) (x5 : ZI) (x6 : Int) (x7 : Int) (x8 : Int) (x21 : ZI) (x22 : Int) (x23 : Int) (x28 : ZI) (x29 : Int) (x30 : Int) : Env := [(1, .c (.d (L154 x1))), (5, .c (.own 5)), (6, .c (.d (.int .i64 x6))), (7, .c (.d (.int .u64 x7))), (8, .c (.d (.int .u64 x8))), (21, .c (.d (L154 x21))), (22, .c (.d (.int .i64 x22))), (23, .c (.d (.int .i64 x23))), (28, .c (.d (L154 x28))), (29, .c (.d (.int .i64 x29))), (30, .c (.d (.int .i64 x30)))]
def nat_Mul.l1B (x1 : ZI) (x5 : ZI) (x6 : Int) (x7 : Int) (x8 : Int) (x21 : ZI) (x22 : Int) (x23 : Int) (x28 : ZI) (x29 : Int) (x30 : Int) : Obs := [(5, some (O154 .own x5))]
theorem nat_Mul.w (k : Nat) : (∀  (x1 : ZI) (x5 : ZI) (x21 : ZI) (x22 : Int) (x23 : Int) (r : ZI), nat_Mul.l0 k x1 x5 x21 x22 x23 = some r -> Til Tryz.prog 67 [] (.c (.d (L154 r))) none [] (at_ Tryz.f67 4) (nat_Mul.l0E x1 x5 x21 x22 x23) (nat_Mul.l0B x1 x5 x21 x22 x23)) /\
 (∀  (x1 : ZI) (x5 : ZI) (x6 : Int) (x7 : Int) (x8 : Int) (x21 : ZI) (x22 : Int) (x23 : Int) (x28 : ZI) (x29 : Int) (x30 : Int) (r : ZI), nat_Mul.l1 k x1 x5 x6 x7 x8 x21 x22 x23 x28 x29 x30 = some r -> Til Tryz.prog 67 [] (.c (.d (L154 r))) none [] (at_ Tryz.f67 8) (nat_Mul.l1E x1 x5 x6 x7 x8 x21 x22 x23 x28 x29 x30) (nat_Mul.l1B x1 x5 x6 x7 x8 x21 x22 x23 x28 x29 x30)) := by
 induction k with
 | zero =>
  exact ⟨fun _ _ _ _ _ _ h => (by cases h), fun _ _ _ _ _ _ _ _ _ _ _ _ h => (by cases h)⟩
 | succ k ih =>
  refine ⟨?_, ?_⟩
  ·intro x1 x5 x21 x22 x23 r h
   rw [nat_Mul.l0] at h
   by_cases h0 : x23 < x22
   ·rw [if_pos h0] at h
    obtain ⟨h1, h⟩ := ifp h
    obtain ⟨h2, h⟩ := ifp h
    exact Til.mid Tryz.func67 8 [(0, .b true)] (fun _ f => o (zT h0) (o (o h1 h2) f)) (by kernel_rfl) (ih.2 _ _ _ _ _ _ _ _ _ _ _ _ h)
   ·rw [if_neg h0] at h
    obtain ⟨v2, h1, h⟩ := bnd h
    obtain rfl := zI h
    exact Til.fin Tryz.func67 [(0, .b false), (2, ca (.c (.d (L154 v2))))] (fun _ f => o (zF h0) (o (nat_trim.does h1) f)) (by kernel_rfl)
  ·intro x1 x5 x6 x7 x8 x21 x22 x23 x28 x29 x30 r h
   rw [nat_Mul.l1] at h
   by_cases h0 : x30 < x29
   ·rw [if_pos h0] at h
    obtain ⟨h1, h⟩ := ifp h
    obtain ⟨h2, h⟩ := ifp h
    obtain ⟨h3, h⟩ := ifp h
    obtain ⟨h4, h⟩ := ifp h
    exact Til.mid Tryz.func67 8 [(0, .b true), (26, Z154 (x5.set (((wrap64 (x6 + x30)) : Int).toNat) (Go.bits .and .u64 (IntKind.u64.wrap (x8 + (IntKind.u64.wrap ((rd x5 (wrap64 (x6 + x30))) + (IntKind.u64.wrap (x7 * (rd x28 x30))))))) 4294967295)))] (fun _ f => o (zT h0) (o (o h1 h2) (o (o h3 h4) (o (o h3 h4) (o (set_ok c154 0 (fun _ _ => rfl) x5 (((wrap64 (x6 + x30)) : Int).toNat) (Go.bits .and .u64 (IntKind.u64.wrap (x8 + (IntKind.u64.wrap ((rd x5 (wrap64 (x6 + x30))) + (IntKind.u64.wrap (x7 * (rd x28 x30))))))) 4294967295) (lt_ok h3 h4)) (o (nn 32) f)))))) (by kernel_rfl) (ih.2 _ _ _ _ _ _ _ _ _ _ _ _ h)
   ·rw [if_neg h0] at h
    obtain ⟨h1, h⟩ := ifp h
    obtain ⟨h2, h⟩ := ifp h
    exact Til.mid Tryz.func67 4 [(0, .b false), (8, Z154 (x5.set (((wrap64 (x6 + (x1.length : Int))) : Int).toNat) x8))] (fun _ f => o (zF h0) (o (o h1 h2) (o (set_ok c154 0 (fun _ _ => rfl) x5 (((wrap64 (x6 + (x1.length : Int))) : Int).toNat) x8 (lt_ok h1 h2)) f))) (by kernel_rfl) (ih.1 _ _ _ _ _ _ h)
theorem nat_Mul.does {k : Nat} {l0 : ZI} {l1 : ZI} {r : ZI} (h : nat_Mul.f k l0 l1 = some r) :
 Does Tryz.prog 67 [.c (.d (L154 l0)), .c (.d (L154 l1))] [] (.c (.d (L154 r))) none [] := by
 refine does_fn Tryz.func67 (by kernel_rfl) rfl rfl ?_
 unfold nat_Mul.f at h
 have ih := nat_Mul.w k
 obtain ⟨v2, h0, h⟩ := bnd h
 obtain ⟨v4, h1, h⟩ := bnd h
 obtain ⟨h2, h⟩ := ifp h
 obtain ⟨h3, h⟩ := ifp h
 exact Til.mid Tryz.func67 4 [(2, ca (.c (.d (L154 v2)))), (4, ca (.c (.d (L154 v4)))), (12, Z154 (List.replicate (((wrap64 ((v2.length : Int) + (v4.length : Int))) : Int).toNat) 0 : ZI))] (fun _ f => o (nat_Clean.does h0) (o (nat_Clean.does h1) (o (make_ok c154 0 [.int .u64 0] ⟨.refl _, trivial⟩ (wrap64 ((v2.length : Int) + (v4.length : Int))) 8 35184372088832 (by decide) h2 h3) f))) (by kernel_rfl) (ih.1 _ _ _ _ _ _ h)

def nat_Add.l0E (x0 : ZI) (x1 : ZI) (x5 : ZI) (x6 : Int) (x20 : Int) (x21 : Int) : Env := [(0, .c (.d (L154 x0))), (1, .c (.d (L154 x1))), (5, .c (.own 5)), (6, .c (.d (.int .u64 x6))), (20, .c (.d (.int .i64 x20))), (21, .c (.d (.int .i64 x21)))]
def nat_Add.l0B (x0 : ZI) (x1 : ZI) (x5 : ZI) (x6 : Int) (x20 : Int) (x21 : Int) : Obs := [(5, some (O154 .own x5))]
theorem nat_Add.w (k : Nat) : (∀  (x0 : ZI) (x1 : ZI) (x5 : ZI) (x6 : Int) (x20 : Int) (x21 : Int) (r : ZI), nat_Add.l0 k x0 x1 x5 x6 x20 x21 = some r -> Til Tryz.prog 126 [] (.c (.d (L154 r))) none [] (at_ Tryz.f126 5) (nat_Add.l0E x0 x1 x5 x6 x20 x21) (nat_Add.l0B x0 x1 x5 x6 x20 x21)) := by
 induction k with
 | zero =>
  exact fun _ _ _ _ _ _ _ h => (by cases h)
 | succ k ih =>
  intro x0 x1 x5 x6 x20 x21 r h
  rw [nat_Add.l0] at h
  by_cases h0 : x21 < x20
  ·rw [if_pos h0] at h
   obtain ⟨v6, h1, h⟩ := bnd h
   obtain ⟨v9, h2, h⟩ := bnd h
   obtain ⟨h3, h⟩ := ifp h
   obtain ⟨h4, h⟩ := ifp h
   exact Til.mid Tryz.func126 5 [(0, .b true), (6, ca (.c (.d (.int .u64 v6)))), (9, ca (.c (.d (.int .u64 v9)))), (18, Z154 (x5.set ((x21 : Int).toNat) (Go.bits .and .u64 (IntKind.u64.wrap (x6 + (IntKind.u64.wrap (v6 + v9)))) 4294967295)))] (fun _ f => o (zT h0) (o (nat_limb.does h1) (o (nat_limb.does h2) (o (o h3 h4) (o (set_ok c154 0 (fun _ _ => rfl) x5 ((x21 : Int).toNat) (Go.bits .and .u64 (IntKind.u64.wrap (x6 + (IntKind.u64.wrap (v6 + v9)))) 4294967295) (lt_ok h3 h4)) (o (nn 32) f)))))) (by kernel_rfl) (ih _ _ _ _ _ _ _ h)
  ·rw [if_neg h0] at h
   obtain ⟨v2, h1, h⟩ := bnd h
   obtain rfl := zI h
   exact Til.fin Tryz.func126 [(0, .b false), (2, ca (.c (.d (L154 v2))))] (fun _ f => o (zF h0) (o (nat_trim.does h1) f)) (by kernel_rfl)
theorem nat_Add.does {k : Nat} {l0 : ZI} {l1 : ZI} {r : ZI} (h : nat_Add.f k l0 l1 = some r) :
 Does Tryz.prog 126 [.c (.d (L154 l0)), .c (.d (L154 l1))] [] (.c (.d (L154 r))) none [] := by
 refine does_fn Tryz.func126 (by kernel_rfl) rfl rfl ?_
 unfold nat_Add.f at h
 have ih := nat_Add.w k
 obtain ⟨v2, h0, h⟩ := bnd h
 obtain ⟨v4, h1, h⟩ := bnd h
 obtain ⟨h2, h⟩ := ifp h
 obtain ⟨h3, h⟩ := ifp h
 exact Til.mid Tryz.func126 5 [(2, ca (.c (.d (L154 v2)))), (4, ca (.c (.d (L154 v4)))), (13, Z154 (List.replicate (((wrap64 ((mx (v2.length : Int) (v4.length : Int)) + 1)) : Int).toNat) 0 : ZI))] (fun _ f => o (nat_Clean.does h0) (o (nat_Clean.does h1) (o (make_ok c154 0 [.int .u64 0] ⟨.refl _, trivial⟩ (wrap64 ((mx (v2.length : Int) (v4.length : Int)) + 1)) 8 35184372088832 (by decide) h2 h3) f))) (by kernel_rfl) (ih _ _ _ _ _ _ _ h)

theorem bytealg_Cutover.does {a0 : Int} {r : Int} (h : bytealg_Cutover.f a0 = some r) :
 Does Tryz.prog 259 [.c (.d (.int .i64 a0))] [] (.c (.d (.int .i64 r))) none [] := by
 refine does_fn Tryz.func259 (by kernel_rfl) rfl rfl ?_
 unfold bytealg_Cutover.f at h
 obtain rfl := zI h
 exact Til.fin Tryz.func259 [] (fun _ f => o (by decide : ¬ (8 : Int) = 0) f) (by kernel_rfl)

def bytealg_hashStr_string_.l0E (x0 : ByteArray) (x4 : Int) (x5 : Int) : Env := [(0, .c (.d (.str x0))), (4, .c (.d (.int .u32 x4))), (5, .c (.d (.int .i64 x5)))]
def bytealg_hashStr_string_.l1E (x4 : Int) (x6 : Int) (x7 : Int) (x8 : Int) : Env := [(4, .c (.d (.int .u32 x4))), (6, .c (.d (.int .u32 x6))), (7, .c (.d (.int .u32 x7))), (8, .c (.d (.int .i64 x8)))]
theorem bytealg_hashStr_string_.w (k : Nat) : (∀  (x0 : ByteArray) (x4 : Int) (x5 : Int) (r : Int × Int), bytealg_hashStr_string_.l0 k x0 x4 x5 = some r -> Til Tryz.prog 276 [] (.tup [.c (.d (.int .u32 r.1)), .c (.d (.int .u32 r.2))]) none [] (at_ Tryz.f276 3) (bytealg_hashStr_string_.l0E x0 x4 x5) []) /\
 (∀  (x4 : Int) (x6 : Int) (x7 : Int) (x8 : Int) (r : Int × Int), bytealg_hashStr_string_.l1 k x4 x6 x7 x8 = some r -> Til Tryz.prog 276 [] (.tup [.c (.d (.int .u32 r.1)), .c (.d (.int .u32 r.2))]) none [] (at_ Tryz.f276 8) (bytealg_hashStr_string_.l1E x4 x6 x7 x8) []) := by
 induction k with
 | zero =>
  exact ⟨fun _ _ _ _ h => (by cases h), fun _ _ _ _ _ h => (by cases h)⟩
 | succ k ih =>
  refine ⟨?_, ?_⟩
  ·intro x0 x4 x5 r h
   rw [bytealg_hashStr_string_.l0] at h
   by_cases h0 : x5 < (x0.size : Int)
   ·rw [if_pos h0] at h
    obtain ⟨h1, h⟩ := ifp h
    exact Til.mid Tryz.func276 3 [(3, .b true)] (fun _ f => o (zT h0) (o (o h1 h0) f)) (by kernel_rfl) (ih.1 _ _ _ _ h)
   ·rw [if_neg h0] at h
    exact Til.mid Tryz.func276 8 [(3, .b false)] (fun _ f => o (zF h0) f) (by kernel_rfl) (ih.2 _ _ _ _ _ h)
  ·intro x4 x6 x7 x8 r h
   rw [bytealg_hashStr_string_.l1] at h
   by_cases h0 : x8 > 0
   ·rw [if_pos h0] at h
    by_cases h1 : (Go.bits .and .i64 x8 1) ≠ 0
    ·rw [if_pos h1] at h
     exact Til.mid Tryz.func276 8 [(1, .b true), (4, .b true)] (fun _ f => o (zT h0) (o (bne_iff_ne.2 h1) (o (nn 1) f))) (by kernel_rfl) (ih.2 _ _ _ _ _ h)
    ·rw [if_neg h1] at h
     exact Til.mid Tryz.func276 8 [(1, .b true), (4, .b false)] (fun _ f => o (zT h0) (o (ne_f h1) (o (nn 1) f))) (by kernel_rfl) (ih.2 _ _ _ _ _ h)
   ·rw [if_neg h0] at h
    obtain rfl := zI h
    exact Til.fin Tryz.func276 [(1, .b false)] (fun _ f => o (zF h0) f) (by kernel_rfl)
theorem bytealg_hashStr_string_.does {k : Nat} {a0 : ByteArray} {r : Int × Int} (h : bytealg_hashStr_string_.f k a0 = some r) :
 Does Tryz.prog 276 [.c (.d (.str a0))] [] (.tup [.c (.d (.int .u32 r.1)), .c (.d (.int .u32 r.2))]) none [] := by
 refine does_fn Tryz.func276 (by kernel_rfl) rfl rfl ?_
 unfold bytealg_hashStr_string_.f at h
 have ih := bytealg_hashStr_string_.w k
 exact Til.mid Tryz.func276 3 [] (fun _ f => f) (by kernel_rfl) (ih.1 _ _ _ _ h)

def bytealg_IndexRabinKarp_string_.l0E (x0 : ByteArray) (x1 : ByteArray) (x5 : Int) (x6 : Int) (x7 : Int) (x8 : Int) (x9 : Int) : Env := [(0, .c (.d (.str x0))), (1, .c (.d (.str x1))), (5, .c (.d (.int .u32 x5))), (6, .c (.d (.int .u32 x6))), (7, .c (.d (.int .i64 x7))), (8, .c (.d (.int .u32 x8))), (9, .c (.d (.int .i64 x9)))]
def bytealg_IndexRabinKarp_string_.l1E (x0 : ByteArray) (x1 : ByteArray) (x5 : Int) (x6 : Int) (x7 : Int) (x8 : Int) (x10 : Int) : Env := [(0, .c (.d (.str x0))), (1, .c (.d (.str x1))), (5, .c (.d (.int .u32 x5))), (6, .c (.d (.int .u32 x6))), (7, .c (.d (.int .i64 x7))), (8, .c (.d (.int .u32 x8))), (10, .c (.d (.int .i64 x10)))]
theorem bytealg_IndexRabinKarp_string_.w (k : Nat) : (∀  (x0 : ByteArray) (x1 : ByteArray) (x5 : Int) (x6 : Int) (x7 : Int) (x8 : Int) (x9 : Int) (r : Int), bytealg_IndexRabinKarp_string_.l0 k x0 x1 x5 x6 x7 x8 x9 = some r -> Til Tryz.prog 260 [] (.c (.d (.int .i64 r))) none [] (at_ Tryz.f260 5) (bytealg_IndexRabinKarp_string_.l0E x0 x1 x5 x6 x7 x8 x9) []) /\
 (∀  (x0 : ByteArray) (x1 : ByteArray) (x5 : Int) (x6 : Int) (x7 : Int) (x8 : Int) (x10 : Int) (r : Int), bytealg_IndexRabinKarp_string_.l1 k x0 x1 x5 x6 x7 x8 x10 = some r -> Til Tryz.prog 260 [] (.c (.d (.int .i64 r))) none [] (at_ Tryz.f260 11) (bytealg_IndexRabinKarp_string_.l1E x0 x1 x5 x6 x7 x8 x10) []) := by
 induction k with
 | zero =>
  exact ⟨fun _ _ _ _ _ _ _ _ h => (by cases h), fun _ _ _ _ _ _ _ _ h => (by cases h)⟩
 | succ k ih =>
  refine ⟨?_, ?_⟩
  ·intro x0 x1 x5 x6 x7 x8 x9 r h
   rw [bytealg_IndexRabinKarp_string_.l0] at h
   by_cases h0 : x9 < x7
   ·rw [if_pos h0] at h
    obtain ⟨h1, h⟩ := ifp h
    obtain ⟨h2, h⟩ := ifp h
    exact Til.mid Tryz.func260 5 [(2, .b true)] (fun _ f => o (zT h0) (o (o h1 h2) f)) (by kernel_rfl) (ih.1 _ _ _ _ _ _ _ _ h)
   ·rw [if_neg h0] at h
    by_cases h1 : x8 = x5
    ·rw [if_pos h1] at h
     obtain ⟨h2, h⟩ := ifp h
     obtain ⟨h3, h⟩ := ifp h
     by_cases h4 : (x0.extract 0 ((x7 : Int).toNat)) = x1
     ·rw [if_pos h4] at h
      obtain rfl := zI h
      exact Til.fin Tryz.func260 [(2, .b false), (5, .b true), (11, .b true)] (fun _ f => o (zF h0) (o (beq_iff_eq.2 h1) (o (o h2 h3) (o (str_t h4) f)))) (by kernel_rfl)
     ·rw [if_neg h4] at h
      exact Til.mid Tryz.func260 11 [(2, .b false), (5, .b true), (11, .b false)] (fun _ f => o (zF h0) (o (beq_iff_eq.2 h1) (o (o h2 h3) (o (str_f h4) f)))) (by kernel_rfl) (ih.2 _ _ _ _ _ _ _ _ h)
    ·rw [if_neg h1] at h
     exact Til.mid Tryz.func260 11 [(2, .b false), (5, .b false)] (fun _ f => o (zF h0) (o (zB h1) f)) (by kernel_rfl) (ih.2 _ _ _ _ _ _ _ _ h)
  ·intro x0 x1 x5 x6 x7 x8 x10 r h
   rw [bytealg_IndexRabinKarp_string_.l1] at h
   by_cases h0 : x10 < (x0.size : Int)
   ·rw [if_pos h0] at h
    obtain ⟨h1, h⟩ := ifp h
    obtain ⟨h2, h⟩ := ifp h
    obtain ⟨h3, h⟩ := ifp h
    by_cases h4 : (IntKind.u32.wrap ((IntKind.u32.wrap ((IntKind.u32.wrap (x8 * 16777619)) + (IntKind.u32.wrap ((bt x0 x10))))) - (IntKind.u32.wrap (x6 * (IntKind.u32.wrap ((bt x0 (wrap64 (x10 - x7))))))))) = x5
    ·rw [if_pos h4] at h
     obtain ⟨h5, h⟩ := ifp h
     obtain ⟨h6, h⟩ := ifp h
     obtain ⟨h7, h⟩ := ifp h
     by_cases h8 : (x0.extract (((wrap64 ((wrap64 (x10 + 1)) - x7)) : Int).toNat) (((wrap64 (x10 + 1)) : Int).toNat)) = x1
     ·rw [if_pos h8] at h
      obtain rfl := zI h
      exact Til.fin Tryz.func260 [(3, .b true), (30, .b true), (39, .b true)] (fun _ f => o (zT h0) (o (o h1 h0) (o (o h2 h3) (o (beq_iff_eq.2 h4) (o (o h5 (o h6 h7)) (o (str_t h8) f)))))) (by kernel_rfl)
     ·rw [if_neg h8] at h
      exact Til.mid Tryz.func260 11 [(3, .b true), (30, .b true), (39, .b false)] (fun _ f => o (zT h0) (o (o h1 h0) (o (o h2 h3) (o (beq_iff_eq.2 h4) (o (o h5 (o h6 h7)) (o (str_f h8) f)))))) (by kernel_rfl) (ih.2 _ _ _ _ _ _ _ _ h)
    ·rw [if_neg h4] at h
     exact Til.mid Tryz.func260 11 [(3, .b true), (30, .b false)] (fun _ f => o (zT h0) (o (o h1 h0) (o (o h2 h3) (o (zB h4) f)))) (by kernel_rfl) (ih.2 _ _ _ _ _ _ _ _ h)
   ·rw [if_neg h0] at h
    obtain rfl := zI h
    exact Til.fin Tryz.func260 [(3, .b false)] (fun _ f => o (zF h0) f) (by kernel_rfl)
theorem bytealg_IndexRabinKarp_string_.does {k : Nat} {a0 : ByteArray} {a1 : ByteArray} {r : Int} (h : bytealg_IndexRabinKarp_string_.f k a0 a1 = some r) :
 Does Tryz.prog 260 [.c (.d (.str a0)), .c (.d (.str a1))] [] (.c (.d (.int .i64 r))) none [] := by
 refine does_fn Tryz.func260 (by kernel_rfl) rfl rfl ?_
 unfold bytealg_IndexRabinKarp_string_.f at h
 have ih := bytealg_IndexRabinKarp_string_.w k
 obtain ⟨v2, h0, h⟩ := bnd h
 exact Til.mid Tryz.func260 5 [(2, ca (.tup [.c (.d (.int .u32 v2.1)), .c (.d (.int .u32 v2.2))]))] (fun _ f => o (bytealg_hashStr_string_.does h0) f) (by kernel_rfl) (ih.1 _ _ _ _ _ _ _ _ h)

theorem stringslite_Index.does {k : Nat} {a0 : ByteArray} {a1 : ByteArray} {r : Int} (h : stringslite_Index.f k a0 a1 = some r) :
 Does Tryz.prog 236 [.c (.d (.str a0)), .c (.d (.str a1))] [] (.c (.d (.int .i64 r))) none [] := by
 refine does_fn Tryz.func236 (by kernel_rfl) rfl rfl ?_
 unfold stringslite_Index.f at h
 by_cases h0 : (a1.size : Int) = 0
 ·rw [if_pos h0] at h
  obtain rfl := zI h
  exact Til.fin Tryz.func236 [(5, .b true)] (fun _ f => o (beq_iff_eq.2 h0) f) (by kernel_rfl)
 ·rw [if_neg h0] at h
  by_cases h1 : a1 = a0
  ·rw [if_pos h1] at h
   obtain rfl := zI h
   exact Til.fin Tryz.func236 [(5, .b false), (9, .b true)] (fun _ f => o (zB h0) (o (str_t h1) f)) (by kernel_rfl)
  ·rw [if_neg h1] at h
   by_cases h2 : (a1.size : Int) = 1
   ·rw [if_pos h2] at h
    obtain ⟨h3, h⟩ := ifp h
    obtain ⟨v18, h4, h⟩ := bnd h
    obtain rfl := zI h
    exact Til.fin Tryz.func236 [(5, .b false), (9, .b false), (13, .b true), (18, ca (.c (.d (.int .i64 v18))))] (fun _ f => o (zB h0) (o (str_f h1) (o (beq_iff_eq.2 h2) (o (o (nn 0) h3) (o (stringslite_IndexByte.does h4) f))))) (by kernel_rfl)
   ·rw [if_neg h2] at h
    by_cases h3 : (a1.size : Int) >= (a0.size : Int)
    ·rw [if_pos h3] at h
     obtain rfl := zI h
     exact Til.fin Tryz.func236 [(5, .b false), (9, .b false), (13, .b false), (18, .b true)] (fun _ f => o (zB h0) (o (str_f h1) (o (zB h2) (o (zT h3) f)))) (by kernel_rfl)
    ·rw [if_neg h3] at h
     cases h

theorem stringslite_Cut.does {k : Nat} {a0 : ByteArray} {a1 : ByteArray} {r : ByteArray × ByteArray × Bool} (h : stringslite_Cut.f k a0 a1 = some r) :
 Does Tryz.prog 279 [.c (.d (.str a0)), .c (.d (.str a1))] [] (.tup [.c (.d (.str r.1)), .c (.d (.str r.2.1)), .c (.d (.bool r.2.2))]) none [] := by
 refine does_fn Tryz.func279 (by kernel_rfl) rfl rfl ?_
 unfold stringslite_Cut.f at h
 obtain ⟨v5, h0, h⟩ := bnd h
 by_cases h1 : v5 >= 0
 ·rw [if_pos h1] at h
  obtain ⟨h2, h⟩ := ifp h
  obtain ⟨h3, h⟩ := ifp h
  obtain ⟨h4, h⟩ := ifp h
  obtain rfl := zI h
  exact Til.fin Tryz.func279 [(5, ca (.c (.d (.int .i64 v5)))), (8, .b true)] (fun _ f => o (stringslite_Index.does h0) (o (zT h1) (o (o h1 h2) (o (o h3 h4) f)))) (by kernel_rfl)
 ·rw [if_neg h1] at h
  obtain rfl := zI h
  exact Til.fin Tryz.func279 [(5, ca (.c (.d (.int .i64 v5)))), (8, .b false)] (fun _ f => o (stringslite_Index.does h0) (o (zF h1) f)) (by kernel_rfl)

theorem strings_Cut.does {k : Nat} {a0 : ByteArray} {a1 : ByteArray} {r : ByteArray × ByteArray × Bool} (h : strings_Cut.f k a0 a1 = some r) :
 Does Tryz.prog 272 [.c (.d (.str a0)), .c (.d (.str a1))] [] (.tup [.c (.d (.str r.1)), .c (.d (.str r.2.1)), .c (.d (.bool r.2.2))]) none [] := by
 refine does_fn Tryz.func272 (by kernel_rfl) rfl rfl ?_
 unfold strings_Cut.f at h
 obtain ⟨v5, h0, h⟩ := bnd h
 obtain rfl := zI h
 exact Til.fin Tryz.func272 [(5, ca (.tup [.c (.d (.str v5.1)), .c (.d (.str v5.2.1)), .c (.d (.bool v5.2.2))]))] (fun _ f => o (stringslite_Cut.does h0) f) (by kernel_rfl)

def nat_plus.l0E (x0 : ZI) (x1 : Int) (x5 : ZI) (x12 : Int) (x13 : Int) : Env := [(0, .c (.d (L154 x0))), (1, .c (.d (.int .u64 x1))), (5, .c (.own 5)), (12, .c (.d (.int .i64 x12))), (13, .c (.d (.int .i64 x13)))]
def nat_plus.l0B (x0 : ZI) (x1 : Int) (x5 : ZI) (x12 : Int) (x13 : Int) : Obs := [(5, some (O154 .own x5))]
theorem nat_plus.w (k : Nat) : (∀  (x0 : ZI) (x1 : Int) (x5 : ZI) (x12 : Int) (x13 : Int) (r : ZI), nat_plus.l0 k x0 x1 x5 x12 x13 = some r -> Til Tryz.prog 280 [] (.c (.d (L154 r))) none [] (at_ Tryz.f280 3) (nat_plus.l0E x0 x1 x5 x12 x13) (nat_plus.l0B x0 x1 x5 x12 x13)) := by
 induction k with
 | zero =>
  exact fun _ _ _ _ _ _ h => (by cases h)
 | succ k ih =>
  intro x0 x1 x5 x12 x13 r h
  rw [nat_plus.l0] at h
  by_cases h0 : x13 < x12
  ·rw [if_pos h0] at h
   obtain ⟨v6, h1, h⟩ := bnd h
   obtain ⟨h2, h⟩ := ifp h
   obtain ⟨h3, h⟩ := ifp h
   exact Til.mid Tryz.func280 3 [(0, .b true), (6, ca (.c (.d (.int .u64 v6)))), (15, Z154 (x5.set ((x13 : Int).toNat) (Go.bits .and .u64 (IntKind.u64.wrap (x1 + (IntKind.u64.wrap (v6 * 1000000000)))) 4294967295)))] (fun _ f => o (zT h0) (o (nat_limb.does h1) (o (o h2 h3) (o (set_ok c154 0 (fun _ _ => rfl) x5 ((x13 : Int).toNat) (Go.bits .and .u64 (IntKind.u64.wrap (x1 + (IntKind.u64.wrap (v6 * 1000000000)))) 4294967295) (lt_ok h2 h3)) (o (nn 32) f))))) (by kernel_rfl) (ih _ _ _ _ _ _ h)
  ·rw [if_neg h0] at h
   obtain ⟨v2, h1, h⟩ := bnd h
   obtain rfl := zI h
   exact Til.fin Tryz.func280 [(0, .b false), (2, ca (.c (.d (L154 v2))))] (fun _ f => o (zF h0) (o (nat_trim.does h1) f)) (by kernel_rfl)
theorem nat_plus.does {k : Nat} {l0 : ZI} {a1 : Int} {r : ZI} (h : nat_plus.f k l0 a1 = some r) :
 Does Tryz.prog 280 [.c (.d (L154 l0)), .c (.d (.int .u64 a1))] [] (.c (.d (L154 r))) none [] := by
 refine does_fn Tryz.func280 (by kernel_rfl) rfl rfl ?_
 unfold nat_plus.f at h
 have ih := nat_plus.w k
 obtain ⟨h0, h⟩ := ifp h
 obtain ⟨h1, h⟩ := ifp h
 exact Til.mid Tryz.func280 3 [(4, Z154 (List.replicate (((wrap64 ((l0.length : Int) + 1)) : Int).toNat) 0 : ZI))] (fun _ f => o (make_ok c154 0 [.int .u64 0] ⟨.refl _, trivial⟩ (wrap64 ((l0.length : Int) + 1)) 8 35184372088832 (by decide) h0 h1) f) (by kernel_rfl) (ih _ _ _ _ _ _ h)

def nat_Parse.l0E (x0 : ByteArray) (b14_s : ByteArray) (b14_p : Nat) : Env := [(0, .c (.d (.str x0))), (14, .c (.ptr 14 0))]
def nat_Parse.l0B (x0 : ByteArray) (b14_s : ByteArray) (b14_p : Nat) : Obs := [(14, some (.iter b14_s b14_p))]
def nat_Parse.l1E (x0 : ByteArray) (x6 : ZI) : Env := [(0, .c (.d (.str x0))), (6, .c (.d (L154 x6)))]
def nat_Parse.l2E (x0 : ByteArray) (x6 : ZI) (x7 : Int) (x8 : Int) (x38 : ZI) (x39 : Int) (x40 : Int) : Env := [(0, .c (.d (.str x0))), (6, .c (.d (L154 x6))), (7, .c (.d (.int .i64 x7))), (8, .c (.d (.int .u64 x8))), (38, .c (.d (L5 x38))), (39, .c (.d (.int .i64 x39))), (40, .c (.d (.int .i64 x40)))]
theorem nat_Parse.w (k : Nat) : (∀  (x0 : ByteArray) (b14_s : ByteArray) (b14_p : Nat) (r : ZI × Int), nat_Parse.l0 k x0 b14_s b14_p = some r -> Til Tryz.prog 273 [] (.tup [.c (.d (L154 r.1)), .c (.d (.int .i64 r.2))]) none [] (at_ Tryz.f273 4) (nat_Parse.l0E x0 b14_s b14_p) (nat_Parse.l0B x0 b14_s b14_p)) /\
 (∀  (x0 : ByteArray) (x6 : ZI) (r : ZI × Int), nat_Parse.l1 k x0 x6 = some r -> Til Tryz.prog 273 [] (.tup [.c (.d (L154 r.1)), .c (.d (.int .i64 r.2))]) none [] (at_ Tryz.f273 11) (nat_Parse.l1E x0 x6) []) /\
 (∀  (x0 : ByteArray) (x6 : ZI) (x7 : Int) (x8 : Int) (x38 : ZI) (x39 : Int) (x40 : Int) (r : ZI × Int), nat_Parse.l2 k x0 x6 x7 x8 x38 x39 x40 = some r -> Til Tryz.prog 273 [] (.tup [.c (.d (L154 r.1)), .c (.d (.int .i64 r.2))]) none [] (at_ Tryz.f273 17) (nat_Parse.l2E x0 x6 x7 x8 x38 x39 x40) []) := by
 induction k with
 | zero =>
  exact ⟨fun _ _ _ _ h => (by cases h), fun _ _ _ h => (by cases h), fun _ _ _ _ _ _ _ _ h => (by cases h)⟩
 | succ k ih =>
  refine ⟨?_, ?_, ?_⟩
  ·intro x0 b14_s b14_p r h
   rw [nat_Parse.l0] at h
   by_cases h0 : b14_p < b14_s.size
   ·rw [if_pos h0] at h
    by_cases h1 : ((Utf8.decode b14_s b14_p).1 : Int) < 48
    ·rw [if_pos h1] at h
     obtain rfl := zI h
     exact Til.fin Tryz.func273 [(0, .b true), (5, .b true)] (fun _ f => o h0 (o (zT h1) f)) (by kernel_rfl)
    ·rw [if_neg h1] at h
     by_cases h2 : ((Utf8.decode b14_s b14_p).1 : Int) > 57
     ·rw [if_pos h2] at h
      obtain rfl := zI h
      exact Til.fin Tryz.func273 [(0, .b true), (5, .b false), (8, .b true)] (fun _ f => o h0 (o (zF h1) (o (zT h2) f))) (by kernel_rfl)
     ·rw [if_neg h2] at h
      exact Til.mid Tryz.func273 4 [(0, .b true), (5, .b false), (8, .b false)] (fun _ f => o h0 (o (zF h1) (o (zF h2) f))) (by kernel_rfl) (ih.1 _ _ _ _ h)
   ·rw [if_neg h0] at h
    by_cases h1 : (x0.size : Int) > 10000
    ·rw [if_pos h1] at h
     obtain rfl := zI h
     exact Til.fin Tryz.func273 [(0, .b false), (4, .b true)] (fun _ f => o h0 (o (zT h1) f)) (by kernel_rfl)
    ·rw [if_neg h1] at h
     exact Til.mid Tryz.func273 11 [(0, .b false), (4, .b false)] (fun _ f => o h0 (o (zF h1) f)) (by kernel_rfl) (ih.2.1 _ _ _ h)
  ·intro x0 x6 r h
   rw [nat_Parse.l1] at h
   by_cases h0 : (x0.size : Int) > 0
   ·rw [if_pos h0] at h
    by_cases h1 : (Int.tmod (x0.size : Int) 9) = 0
    ·rw [if_pos h1] at h
     obtain ⟨h2, h⟩ := ifp h
     obtain ⟨h3, h⟩ := ifp h
     exact Til.mid Tryz.func273 17 [(2, .b true), (8, .b true), (14, Z5 (toBytes (x0.extract 0 9)))] (fun _ f => o (zT h0) (o (by decide : ¬ (9 : Int) = 0) (o (beq_iff_eq.2 h1) (o (o (nn 9) h2) (o (bytes_ok c5 (x0.extract 0 9) (fun _ => rfl) h3) f))))) (by kernel_rfl) (ih.2.2 _ _ _ _ _ _ _ _ h)
    ·rw [if_neg h1] at h
     obtain ⟨h2, h⟩ := ifp h
     obtain ⟨h3, h⟩ := ifp h
     obtain ⟨h4, h⟩ := ifp h
     exact Til.mid Tryz.func273 17 [(2, .b true), (8, .b false), (13, Z5 (toBytes (x0.extract 0 (((Int.tmod (x0.size : Int) 9) : Int).toNat))))] (fun _ f => o (zT h0) (o (by decide : ¬ (9 : Int) = 0) (o (zB h1) (o (o h2 h3) (o (bytes_ok c5 (x0.extract 0 (((Int.tmod (x0.size : Int) 9) : Int).toNat)) (fun _ => rfl) h4) f))))) (by kernel_rfl) (ih.2.2 _ _ _ _ _ _ _ _ h)
   ·rw [if_neg h0] at h
    obtain rfl := zI h
    exact Til.fin Tryz.func273 [(2, .b false)] (fun _ f => o (zF h0) f) (by kernel_rfl)
  ·intro x0 x6 x7 x8 x38 x39 x40 r h
   rw [nat_Parse.l2] at h
   by_cases h0 : x40 < x39
   ·rw [if_pos h0] at h
    obtain ⟨h1, h⟩ := ifp h
    obtain ⟨h2, h⟩ := ifp h
    exact Til.mid Tryz.func273 17 [(0, .b true)] (fun _ f => o (zT h0) (o (o h1 h2) f)) (by kernel_rfl) (ih.2.2 _ _ _ _ _ _ _ _ h)
   ·rw [if_neg h0] at h
    obtain ⟨v3, h1, h⟩ := bnd h
    obtain ⟨h2, h⟩ := ifp h
    obtain ⟨h3, h⟩ := ifp h
    exact Til.mid Tryz.func273 11 [(0, .b false), (3, ca (.c (.d (L154 v3))))] (fun _ f => o (zF h0) (o (nat_plus.does h1) (o (o h2 h3) f))) (by kernel_rfl) (ih.2.1 _ _ _ h)
theorem nat_Parse.does {k : Nat} {a0 : ByteArray} {r : ZI × Int} (h : nat_Parse.f k a0 = some r) :
 Does Tryz.prog 273 [.c (.d (.str a0))] [] (.tup [.c (.d (L154 r.1)), .c (.d (.int .i64 r.2))]) none [] := by
 refine does_fn Tryz.func273 (by kernel_rfl) rfl rfl ?_
 unfold nat_Parse.f at h
 have ih := nat_Parse.w k
 by_cases h0 : a0 = ByteArray.empty
 ·rw [if_pos h0] at h
  obtain rfl := zI h
  exact Til.fin Tryz.func273 [(3, .b true)] (fun _ f => o (str_t h0) f) (by kernel_rfl)
 ·rw [if_neg h0] at h
  exact Til.mid Tryz.func273 4 [(3, .b false)] (fun _ f => o (str_f h0) f) (by kernel_rfl) (ih.1 _ _ _ _ h)

def ratio_ten.l0E (x3 : ZI) (x5 : Int) (x6 : Int) : Env := [(3, .c (.d (L154 x3))), (5, .c (.d (.int .i64 x5))), (6, .c (.d (.int .i64 x6)))]
theorem ratio_ten.w (k : Nat) : (∀  (x3 : ZI) (x5 : Int) (x6 : Int) (r : ZI), ratio_ten.l0 k x3 x5 x6 = some r -> Til Tryz.prog 274 [] (.c (.d (L154 r))) none [] (at_ Tryz.f274 3) (ratio_ten.l0E x3 x5 x6) []) := by
 induction k with
 | zero =>
  exact fun _ _ _ _ h => (by cases h)
 | succ k ih =>
  intro x3 x5 x6 r h
  rw [ratio_ten.l0] at h
  by_cases h0 : x6 < x5
  ·rw [if_pos h0] at h
   obtain ⟨v2, h1, h⟩ := bnd h
   obtain ⟨v3, h2, h⟩ := bnd h
   exact Til.mid Tryz.func274 3 [(0, .b true), (2, ca (.c (.d (L154 v2)))), (3, ca (.c (.d (L154 v3))))] (fun _ f => o (zT h0) (o (nat_Of.does h1) (o (nat_Mul.does h2) f))) (by kernel_rfl) (ih _ _ _ _ h)
  ·rw [if_neg h0] at h
   obtain rfl := zI h
   exact Til.fin Tryz.func274 [(0, .b false)] (fun _ f => o (zF h0) f) (by kernel_rfl)
theorem ratio_ten.does {k : Nat} {a0 : Int} {r : ZI} (h : ratio_ten.f k a0 = some r) :
 Does Tryz.prog 274 [.c (.d (.int .i64 a0))] [] (.c (.d (L154 r))) none [] := by
 refine does_fn Tryz.func274 (by kernel_rfl) rfl rfl ?_
 unfold ratio_ten.f at h
 have ih := ratio_ten.w k
 obtain ⟨v1, h0, h⟩ := bnd h
 exact Til.mid Tryz.func274 3 [(1, ca (.c (.d (L154 v1))))] (fun _ f => o (nat_Of.does h0) f) (by kernel_rfl) (ih _ _ _ _ h)

theorem ratio_plain.does {k : Nat} {a0 : ByteArray} {r : Bool × ZI × ZI × Int} (h : ratio_plain.f k a0 = some r) :
 Does Tryz.prog 255 [.c (.d (.str a0))] [] (.tup [.agg [.d (.bool r.1), .d (L154 r.2.1), .d (L154 r.2.2.1)], .c (.d (.int .i64 r.2.2.2))]) none [] := by
 refine does_fn Tryz.func255 (by kernel_rfl) rfl rfl ?_
 unfold ratio_plain.f at h
 obtain ⟨v3, h0, h⟩ := bnd h
 by_cases h1 : v3.2.2 = true
 ·rw [if_pos h1] at h
  obtain ⟨v13, h2, h⟩ := bnd h
  by_cases h3 : v13.2 ≠ 0
  ·rw [if_pos h3] at h
   obtain rfl := zI h
   exact Til.fin Tryz.func255 [(3, ca (.tup [.c (.d (.str v3.1)), .c (.d (.str v3.2.1)), .c (.d (.bool v3.2.2))])), (7, .b true), (13, ca (.tup [.c (.d (L154 v13.1)), .c (.d (.int .i64 v13.2))])), (20, .b true)] (fun _ f => o (strings_Cut.does h0) (o h1 (o (nat_Parse.does h2) (o (bne_iff_ne.2 h3) f)))) (by kernel_rfl)
  ·rw [if_neg h3] at h
   obtain ⟨v22, h4, h⟩ := bnd h
   by_cases h5 : v22.2 ≠ 0
   ·rw [if_pos h5] at h
    obtain rfl := zI h
    exact Til.fin Tryz.func255 [(3, ca (.tup [.c (.d (.str v3.1)), .c (.d (.str v3.2.1)), .c (.d (.bool v3.2.2))])), (7, .b true), (13, ca (.tup [.c (.d (L154 v13.1)), .c (.d (.int .i64 v13.2))])), (20, .b false), (22, ca (.tup [.c (.d (L154 v22.1)), .c (.d (.int .i64 v22.2))])), (29, .b true)] (fun _ f => o (strings_Cut.does h0) (o h1 (o (nat_Parse.does h2) (o (ne_f h3) (o (nat_Parse.does h4) (o (bne_iff_ne.2 h5) f)))))) (by kernel_rfl)
   ·rw [if_neg h5] at h
    by_cases h6 : (v22.1.length : Int) = 0
    ·rw [if_pos h6] at h
     obtain rfl := zI h
     exact Til.fin Tryz.func255 [(3, ca (.tup [.c (.d (.str v3.1)), .c (.d (.str v3.2.1)), .c (.d (.bool v3.2.2))])), (7, .b true), (13, ca (.tup [.c (.d (L154 v13.1)), .c (.d (.int .i64 v13.2))])), (20, .b false), (22, ca (.tup [.c (.d (L154 v22.1)), .c (.d (.int .i64 v22.2))])), (29, .b false), (32, .b true)] (fun _ f => o (strings_Cut.does h0) (o h1 (o (nat_Parse.does h2) (o (ne_f h3) (o (nat_Parse.does h4) (o (ne_f h5) (o (beq_iff_eq.2 h6) f))))))) (by kernel_rfl)
    ·rw [if_neg h6] at h
     obtain ⟨v36, h7, h⟩ := bnd h
     obtain rfl := zI h
     exact Til.fin Tryz.func255 [(3, ca (.tup [.c (.d (.str v3.1)), .c (.d (.str v3.2.1)), .c (.d (.bool v3.2.2))])), (7, .b true), (13, ca (.tup [.c (.d (L154 v13.1)), .c (.d (.int .i64 v13.2))])), (20, .b false), (22, ca (.tup [.c (.d (L154 v22.1)), .c (.d (.int .i64 v22.2))])), (29, .b false), (32, .b false), (36, ca (.agg [.d (.bool v36.1), .d (L154 v36.2.1), .d (L154 v36.2.2)]))] (fun _ f => o (strings_Cut.does h0) (o h1 (o (nat_Parse.does h2) (o (ne_f h3) (o (nat_Parse.does h4) (o (ne_f h5) (o (zB h6) (o (ratio_form.does h7) f)))))))) (by kernel_rfl)
 ·rw [if_neg h1] at h
  obtain ⟨v13, h2, h⟩ := bnd h
  by_cases h3 : v13.2.2 = true
  ·rw [if_pos h3] at h
   obtain ⟨v22, h4, h⟩ := bnd h
   by_cases h5 : v22.2 ≠ 0
   ·rw [if_pos h5] at h
    obtain rfl := zI h
    exact Til.fin Tryz.func255 [(3, ca (.tup [.c (.d (.str v3.1)), .c (.d (.str v3.2.1)), .c (.d (.bool v3.2.2))])), (7, .b false), (13, ca (.tup [.c (.d (.str v13.1)), .c (.d (.str v13.2.1)), .c (.d (.bool v13.2.2))])), (17, .b true), (22, ca (.tup [.c (.d (L154 v22.1)), .c (.d (.int .i64 v22.2))])), (29, .b true)] (fun _ f => o (strings_Cut.does h0) (o (Bool.eq_false_iff.2 h1) (o (strings_Cut.does h2) (o h3 (o (nat_Parse.does h4) (o (bne_iff_ne.2 h5) f)))))) (by kernel_rfl)
   ·rw [if_neg h5] at h
    obtain ⟨v33, h6, h⟩ := bnd h
    by_cases h7 : v33.2 ≠ 0
    ·rw [if_pos h7] at h
     obtain rfl := zI h
     exact Til.fin Tryz.func255 [(3, ca (.tup [.c (.d (.str v3.1)), .c (.d (.str v3.2.1)), .c (.d (.bool v3.2.2))])), (7, .b false), (13, ca (.tup [.c (.d (.str v13.1)), .c (.d (.str v13.2.1)), .c (.d (.bool v13.2.2))])), (17, .b true), (22, ca (.tup [.c (.d (L154 v22.1)), .c (.d (.int .i64 v22.2))])), (29, .b false), (33, ca (.tup [.c (.d (L154 v33.1)), .c (.d (.int .i64 v33.2))])), (40, .b true)] (fun _ f => o (strings_Cut.does h0) (o (Bool.eq_false_iff.2 h1) (o (strings_Cut.does h2) (o h3 (o (nat_Parse.does h4) (o (ne_f h5) (o (nat_Parse.does h6) (o (bne_iff_ne.2 h7) f)))))))) (by kernel_rfl)
    ·rw [if_neg h7] at h
     obtain ⟨v43, h8, h⟩ := bnd h
     obtain ⟨v47, h9, h⟩ := bnd h
     obtain ⟨v49, h10, h⟩ := bnd h
     obtain ⟨v52, h11, h⟩ := bnd h
     obtain rfl := zI h
     exact Til.fin Tryz.func255 [(3, ca (.tup [.c (.d (.str v3.1)), .c (.d (.str v3.2.1)), .c (.d (.bool v3.2.2))])), (7, .b false), (13, ca (.tup [.c (.d (.str v13.1)), .c (.d (.str v13.2.1)), .c (.d (.bool v13.2.2))])), (17, .b true), (22, ca (.tup [.c (.d (L154 v22.1)), .c (.d (.int .i64 v22.2))])), (29, .b false), (33, ca (.tup [.c (.d (L154 v33.1)), .c (.d (.int .i64 v33.2))])), (40, .b false), (43, ca (.c (.d (L154 v43)))), (47, ca (.c (.d (L154 v47)))), (49, ca (.c (.d (L154 v49)))), (52, ca (.agg [.d (.bool v52.1), .d (L154 v52.2.1), .d (L154 v52.2.2)]))] (fun _ f => o (strings_Cut.does h0) (o (Bool.eq_false_iff.2 h1) (o (strings_Cut.does h2) (o h3 (o (nat_Parse.does h4) (o (ne_f h5) (o (nat_Parse.does h6) (o (ne_f h7) (o (ratio_ten.does h8) (o (nat_Mul.does h9) (o (nat_Add.does h10) (o (ratio_form.does h11) f)))))))))))) (by kernel_rfl)
  ·rw [if_neg h3] at h
   obtain ⟨v22, h4, h⟩ := bnd h
   by_cases h5 : v22.2 ≠ 0
   ·rw [if_pos h5] at h
    obtain rfl := zI h
    exact Til.fin Tryz.func255 [(3, ca (.tup [.c (.d (.str v3.1)), .c (.d (.str v3.2.1)), .c (.d (.bool v3.2.2))])), (7, .b false), (13, ca (.tup [.c (.d (.str v13.1)), .c (.d (.str v13.2.1)), .c (.d (.bool v13.2.2))])), (17, .b false), (22, ca (.tup [.c (.d (L154 v22.1)), .c (.d (.int .i64 v22.2))])), (29, .b true)] (fun _ f => o (strings_Cut.does h0) (o (Bool.eq_false_iff.2 h1) (o (strings_Cut.does h2) (o (Bool.eq_false_iff.2 h3) (o (nat_Parse.does h4) (o (bne_iff_ne.2 h5) f)))))) (by kernel_rfl)
   ·rw [if_neg h5] at h
    obtain ⟨v34, h6, h⟩ := bnd h
    obtain ⟨v35, h7, h⟩ := bnd h
    obtain rfl := zI h
    exact Til.fin Tryz.func255 [(3, ca (.tup [.c (.d (.str v3.1)), .c (.d (.str v3.2.1)), .c (.d (.bool v3.2.2))])), (7, .b false), (13, ca (.tup [.c (.d (.str v13.1)), .c (.d (.str v13.2.1)), .c (.d (.bool v13.2.2))])), (17, .b false), (22, ca (.tup [.c (.d (L154 v22.1)), .c (.d (.int .i64 v22.2))])), (29, .b false), (34, ca (.c (.d (L154 v34)))), (35, ca (.agg [.d (.bool v35.1), .d (L154 v35.2.1), .d (L154 v35.2.2)]))] (fun _ f => o (strings_Cut.does h0) (o (Bool.eq_false_iff.2 h1) (o (strings_Cut.does h2) (o (Bool.eq_false_iff.2 h3) (o (nat_Parse.does h4) (o (ne_f h5) (o (nat_Of.does h6) (o (ratio_form.does h7) f)))))))) (by kernel_rfl)

theorem ratio_Parse.does {k : Nat} {a0 : ByteArray} {r : Bool × ZI × ZI × Int} (h : ratio_Parse.f k a0 = some r) :
 Does Tryz.prog 230 [.c (.d (.str a0))] [] (.tup [.agg [.d (.bool r.1), .d (L154 r.2.1), .d (L154 r.2.2.1)], .c (.d (.int .i64 r.2.2.2))]) none [] := by
 refine does_fn Tryz.func230 (by kernel_rfl) rfl rfl ?_
 unfold ratio_Parse.f at h
 obtain ⟨v3, h0, h⟩ := bnd h
 cases v3
 ·rw [if_neg (by decide)] at h
  obtain ⟨v7, h2, h⟩ := bnd h
  by_cases h3 : v7.2.2.2 ≠ 0
  ·rw [if_pos h3] at h
   obtain rfl := zI h
   exact Til.fin Tryz.func230 [(3, ca (.c (.d (.bool false)))), (7, ca (.tup [.agg [.d (.bool v7.1), .d (L154 v7.2.1), .d (L154 v7.2.2.1)], .c (.d (.int .i64 v7.2.2.2))])), (15, .b true)] (fun _ f => o (strings_HasPrefix.does h0) (o (ratio_plain.does h2) (o (bne_iff_ne.2 h3) f))) (by kernel_rfl)
  ·rw [if_neg h3] at h
   obtain rfl := zI h
   exact Til.fin Tryz.func230 [(3, ca (.c (.d (.bool false)))), (7, ca (.tup [.agg [.d (.bool v7.1), .d (L154 v7.2.1), .d (L154 v7.2.2.1)], .c (.d (.int .i64 v7.2.2.2))])), (15, .b false)] (fun _ f => o (strings_HasPrefix.does h0) (o (ratio_plain.does h2) (o (ne_f h3) f))) (by kernel_rfl)
 ·rw [if_pos rfl] at h
  obtain ⟨h2, h⟩ := ifp h
  obtain ⟨v10, h3, h⟩ := bnd h
  by_cases h4 : v10.2.2.2 ≠ 0
  ·rw [if_pos h4] at h
   obtain rfl := zI h
   exact Til.fin Tryz.func230 [(3, ca (.c (.d (.bool true)))), (10, ca (.tup [.agg [.d (.bool v10.1), .d (L154 v10.2.1), .d (L154 v10.2.2.1)], .c (.d (.int .i64 v10.2.2.2))])), (18, .b true)] (fun _ f => o (strings_HasPrefix.does h0) (o (o (nn 1) h2) (o (ratio_plain.does h3) (o (bne_iff_ne.2 h4) f)))) (by kernel_rfl)
  ·rw [if_neg h4] at h
   obtain ⟨v21, h5, h⟩ := bnd h
   obtain rfl := zI h
   exact Til.fin Tryz.func230 [(3, ca (.c (.d (.bool true)))), (10, ca (.tup [.agg [.d (.bool v10.1), .d (L154 v10.2.1), .d (L154 v10.2.2.1)], .c (.d (.int .i64 v10.2.2.2))])), (18, .b false), (21, ca (.agg [.d (.bool v21.1), .d (L154 v21.2.1), .d (L154 v21.2.2)]))] (fun _ f => o (strings_HasPrefix.does h0) (o (o (nn 1) h2) (o (ratio_plain.does h3) (o (ne_f h4) (o (ratio_Neg.does h5) f))))) (by kernel_rfl)

theorem lex_Reader_Fail.does {l0_0 : ZLLT} {a0_1 : Int} {a0_2 : Int} {a0_3 : Int} {a0_4 : Int} {a0_5 : Int} {a1 : Int} {r : ZLLT × Int × Int × Int × Int × Int} (h : lex_Reader_Fail.f l0_0 a0_1 a0_2 a0_3 a0_4 a0_5 a1 = some r) :
 Does Tryz.prog 231 [.c (.ptr 0 0), .c (.d (.int .i64 a1))] [(0, some (.box [.d (L143 l0_0), .d (.int .i64 a0_1), .d (.int .i64 a0_2), .d (.int .i64 a0_3), .d (.int .i64 a0_4), .d (.int .i64 a0_5)]))] (.tup []) none [(0, some (.box [.d (L143 r.1), .d (.int .i64 r.2.1), .d (.int .i64 r.2.2.1), .d (.int .i64 r.2.2.2.1), .d (.int .i64 r.2.2.2.2.1), .d (.int .i64 r.2.2.2.2.2)]))] := by
 refine does_fn Tryz.func231 (by kernel_rfl) rfl rfl ?_
 unfold lex_Reader_Fail.f at h
 obtain ⟨⟨v1_0, ⟨v1_1, ⟨v1_2, ⟨v1_3, ⟨v1_4, ⟨v1_5, v1_6⟩⟩⟩⟩⟩⟩, h0, h⟩ := bnd h
 dsimp only at h
 cases v1_0
 ·rw [if_neg (by decide)] at h
  by_cases h2 : a1 = 0
  ·rw [if_pos h2] at h
   obtain rfl := zI h
   exact Til.fin Tryz.func231 [(1, .call [] [0] (.c (.d (.bool false))) none [(0, some (.box [.d (L143 v1_1), .d (.int .i64 v1_2), .d (.int .i64 v1_3), .d (.int .i64 v1_4), .d (.int .i64 v1_5), .d (.int .i64 v1_6)]))] []), (4, .b true)] (fun _ f => o (lex_Reader_off.does h0) (o (beq_iff_eq.2 h2) f)) (by kernel_rfl)
  ·rw [if_neg h2] at h
   by_cases h3 : v1_2 >= (v1_1.length : Int)
   ·rw [if_pos h3] at h
    obtain rfl := zI h
    exact Til.fin Tryz.func231 [(1, .call [] [0] (.c (.d (.bool false))) none [(0, some (.box [.d (L143 v1_1), .d (.int .i64 v1_2), .d (.int .i64 v1_3), .d (.int .i64 v1_4), .d (.int .i64 v1_5), .d (.int .i64 v1_6)]))] []), (4, .b false), (16, .b true)] (fun _ f => o (lex_Reader_off.does h0) (o (zB h2) (o (zT h3) f))) (by kernel_rfl)
   ·rw [if_neg h3] at h
    by_cases h4 : v1_3 = 0
    ·rw [if_pos h4] at h
     obtain rfl := zI h
     exact Til.fin Tryz.func231 [(1, .call [] [0] (.c (.d (.bool false))) none [(0, some (.box [.d (L143 v1_1), .d (.int .i64 v1_2), .d (.int .i64 v1_3), .d (.int .i64 v1_4), .d (.int .i64 v1_5), .d (.int .i64 v1_6)]))] []), (4, .b false), (16, .b false), (23, .b true)] (fun _ f => o (lex_Reader_off.does h0) (o (zB h2) (o (zF h3) (o (beq_iff_eq.2 h4) f)))) (by kernel_rfl)
    ·rw [if_neg h4] at h
     obtain ⟨h5, h⟩ := ifp h
     obtain ⟨h6, h⟩ := ifp h
     obtain ⟨h7, h⟩ := ifp h
     obtain ⟨h8, h⟩ := ifp h
     obtain ⟨v45, h9, h⟩ := bnd h
     obtain rfl := zI h
     exact Til.fin Tryz.func231 [(1, .call [] [0] (.c (.d (.bool false))) none [(0, some (.box [.d (L143 v1_1), .d (.int .i64 v1_2), .d (.int .i64 v1_3), .d (.int .i64 v1_4), .d (.int .i64 v1_5), .d (.int .i64 v1_6)]))] []), (4, .b false), (16, .b false), (23, .b false), (45, .call [] [0] (.tup []) none [(0, some (.box [.d (L143 v45.1), .d (.int .i64 v45.2.1), .d (.int .i64 v45.2.2.1), .d (.int .i64 v45.2.2.2.1), .d (.int .i64 v45.2.2.2.2.1), .d (.int .i64 v45.2.2.2.2.2)]))] [])] (fun _ f => o (lex_Reader_off.does h0) (o (zB h2) (o (zF h3) (o (zB h4) (o (o h5 h6) (o (o h7 h8) (o (lex_Reader_fail.does h9) f))))))) (by kernel_rfl)
 ·rw [if_pos rfl] at h
  obtain rfl := zI h
  exact Til.fin Tryz.func231 [(1, .call [] [0] (.c (.d (.bool true))) none [(0, some (.box [.d (L143 v1_1), .d (.int .i64 v1_2), .d (.int .i64 v1_3), .d (.int .i64 v1_4), .d (.int .i64 v1_5), .d (.int .i64 v1_6)]))] [])] (fun _ f => o (lex_Reader_off.does h0) f) (by kernel_rfl)

theorem model_number.does {k : Nat} {l0_0 : ZLLT} {a0_1 : Int} {a0_2 : Int} {a0_3 : Int} {a0_4 : Int} {a0_5 : Int} {r : Bool × ZI × ZI × ZLLT × Int × Int × Int × Int × Int} (h : model_number.f k l0_0 a0_1 a0_2 a0_3 a0_4 a0_5 = some r) :
 Does Tryz.prog 201 [.c (.ptr 0 0)] [(0, some (.box [.d (L143 l0_0), .d (.int .i64 a0_1), .d (.int .i64 a0_2), .d (.int .i64 a0_3), .d (.int .i64 a0_4), .d (.int .i64 a0_5)]))] (.agg [.d (.bool r.1), .d (L154 r.2.1), .d (L154 r.2.2.1)]) none [(0, some (.box [.d (L143 r.2.2.2.1), .d (.int .i64 r.2.2.2.2.1), .d (.int .i64 r.2.2.2.2.2.1), .d (.int .i64 r.2.2.2.2.2.2.1), .d (.int .i64 r.2.2.2.2.2.2.2.1), .d (.int .i64 r.2.2.2.2.2.2.2.2)]))] := by
 refine does_fn Tryz.func201 (by kernel_rfl) rfl rfl ?_
 unfold model_number.f at h
 obtain ⟨v2, h0, h⟩ := bnd h
 obtain ⟨v5, h1, h⟩ := bnd h
 obtain ⟨v14, h2, h⟩ := bnd h
 by_cases h3 : v5.2.2.2 ≠ 0
 ·rw [if_pos h3] at h
  obtain rfl := zI h
  exact Til.fin Tryz.func201 [(2, .call [] [0] (.c (.d (.str v2.1))) none [(0, some (.box [.d (L143 v2.2.1), .d (.int .i64 v2.2.2.1), .d (.int .i64 v2.2.2.2.1), .d (.int .i64 v2.2.2.2.2.1), .d (.int .i64 v2.2.2.2.2.2.1), .d (.int .i64 v2.2.2.2.2.2.2)]))] []), (5, ca (.tup [.agg [.d (.bool v5.1), .d (L154 v5.2.1), .d (L154 v5.2.2.1)], .c (.d (.int .i64 v5.2.2.2))])), (14, .call [] [0] (.tup []) none [(0, some (.box [.d (L143 v14.1), .d (.int .i64 v14.2.1), .d (.int .i64 v14.2.2.1), .d (.int .i64 v14.2.2.2.1), .d (.int .i64 v14.2.2.2.2.1), .d (.int .i64 v14.2.2.2.2.2)]))] []), (16, .b true)] (fun _ f => o (lex_Reader_Word.does h0) (o (ratio_Parse.does h1) (o (lex_Reader_Fail.does h2) (o (bne_iff_ne.2 h3) f)))) (by kernel_rfl)
 ·rw [if_neg h3] at h
  obtain rfl := zI h
  exact Til.fin Tryz.func201 [(2, .call [] [0] (.c (.d (.str v2.1))) none [(0, some (.box [.d (L143 v2.2.1), .d (.int .i64 v2.2.2.1), .d (.int .i64 v2.2.2.2.1), .d (.int .i64 v2.2.2.2.2.1), .d (.int .i64 v2.2.2.2.2.2.1), .d (.int .i64 v2.2.2.2.2.2.2)]))] []), (5, ca (.tup [.agg [.d (.bool v5.1), .d (L154 v5.2.1), .d (L154 v5.2.2.1)], .c (.d (.int .i64 v5.2.2.2))])), (14, .call [] [0] (.tup []) none [(0, some (.box [.d (L143 v14.1), .d (.int .i64 v14.2.1), .d (.int .i64 v14.2.2.1), .d (.int .i64 v14.2.2.2.1), .d (.int .i64 v14.2.2.2.2.1), .d (.int .i64 v14.2.2.2.2.2)]))] []), (16, .b false)] (fun _ f => o (lex_Reader_Word.does h0) (o (ratio_Parse.does h1) (o (lex_Reader_Fail.does h2) (o (ne_f h3) f)))) (by kernel_rfl)

theorem model_node.does {k : Nat} {l0_0 : ZLLT} {a0_1 : Int} {a0_2 : Int} {a0_3 : Int} {a0_4 : Int} {a0_5 : Int} {r : Bool × Int × Bool × ZI × ZI × Int × Int × Bool × Bool × ZI × ZI × Bool × ZI × ZI × ZLLT × Int × Int × Int × Int × Int} (h : model_node.f k l0_0 a0_1 a0_2 a0_3 a0_4 a0_5 = some r) :
 Does Tryz.prog 137 [.c (.ptr 0 0)] [(0, some (.box [.d (L143 l0_0), .d (.int .i64 a0_1), .d (.int .i64 a0_2), .d (.int .i64 a0_3), .d (.int .i64 a0_4), .d (.int .i64 a0_5)]))] (.agg [.d (.bool r.1), .d (.int .i64 r.2.1), .d (.bool r.2.2.1), .d (L154 r.2.2.2.1), .d (L154 r.2.2.2.2.1), .d (.int .i64 r.2.2.2.2.2.1), .d (.int .i64 r.2.2.2.2.2.2.1), .d (.bool r.2.2.2.2.2.2.2.1), .d (.bool r.2.2.2.2.2.2.2.2.1), .d (L154 r.2.2.2.2.2.2.2.2.2.1), .d (L154 r.2.2.2.2.2.2.2.2.2.2.1), .d (.bool r.2.2.2.2.2.2.2.2.2.2.2.1), .d (L154 r.2.2.2.2.2.2.2.2.2.2.2.2.1), .d (L154 r.2.2.2.2.2.2.2.2.2.2.2.2.2.1)]) none [(0, some (.box [.d (L143 r.2.2.2.2.2.2.2.2.2.2.2.2.2.2.1), .d (.int .i64 r.2.2.2.2.2.2.2.2.2.2.2.2.2.2.2.1), .d (.int .i64 r.2.2.2.2.2.2.2.2.2.2.2.2.2.2.2.2.1), .d (.int .i64 r.2.2.2.2.2.2.2.2.2.2.2.2.2.2.2.2.2.1), .d (.int .i64 r.2.2.2.2.2.2.2.2.2.2.2.2.2.2.2.2.2.2.1), .d (.int .i64 r.2.2.2.2.2.2.2.2.2.2.2.2.2.2.2.2.2.2.2)]))] := by
 refine does_fn Tryz.func137 (by kernel_rfl) rfl rfl ?_
 unfold model_node.f at h
 obtain ⟨v6, h0, h⟩ := bnd h
 by_cases h1 : v6.1 = 0
 ·rw [if_pos h1] at h
  obtain ⟨v11, h2, h⟩ := bnd h
  obtain ⟨v15, h3, h⟩ := bnd h
  obtain ⟨v19, h4, h⟩ := bnd h
  obtain rfl := zI h
  exact Til.fin Tryz.func137 [(5, Z9 ([(⟨#[108, 101, 97, 102]⟩ : ByteArray), (⟨#[115, 112, 108, 105, 116]⟩ : ByteArray)] : List ByteArray)), (6, .call [] [0] (.c (.d (.int .i64 v6.1))) none [(0, some (.box [.d (L143 v6.2.1), .d (.int .i64 v6.2.2.1), .d (.int .i64 v6.2.2.2.1), .d (.int .i64 v6.2.2.2.2.1), .d (.int .i64 v6.2.2.2.2.2.1), .d (.int .i64 v6.2.2.2.2.2.2)]))] []), (7, .b true), (11, .call [] [0] (.agg [.d (.bool v11.1), .d (L154 v11.2.1), .d (L154 v11.2.2.1)]) none [(0, some (.box [.d (L143 v11.2.2.2.1), .d (.int .i64 v11.2.2.2.2.1), .d (.int .i64 v11.2.2.2.2.2.1), .d (.int .i64 v11.2.2.2.2.2.2.1), .d (.int .i64 v11.2.2.2.2.2.2.2.1), .d (.int .i64 v11.2.2.2.2.2.2.2.2)]))] []), (15, .call [] [0] (.agg [.d (.bool v15.1), .d (L154 v15.2.1), .d (L154 v15.2.2.1)]) none [(0, some (.box [.d (L143 v15.2.2.2.1), .d (.int .i64 v15.2.2.2.2.1), .d (.int .i64 v15.2.2.2.2.2.1), .d (.int .i64 v15.2.2.2.2.2.2.1), .d (.int .i64 v15.2.2.2.2.2.2.2.1), .d (.int .i64 v15.2.2.2.2.2.2.2.2)]))] []), (19, .call [] [0] (.tup []) none [(0, some (.box [.d (L143 v19.1), .d (.int .i64 v19.2.1), .d (.int .i64 v19.2.2.1), .d (.int .i64 v19.2.2.2.1), .d (.int .i64 v19.2.2.2.2.1), .d (.int .i64 v19.2.2.2.2.2)]))] [])] (fun _ f => o (lit_ok c9 ByteArray.empty ([(⟨#[108, 101, 97, 102]⟩ : ByteArray), (⟨#[115, 112, 108, 105, 116]⟩ : ByteArray)] : List ByteArray)) (o (lex_Reader_Pick.does h0) (o (beq_iff_eq.2 h1) (o (model_number.does h2) (o (model_number.does h3) (o (lex_Reader_Next.does h4) f)))))) (by kernel_rfl)
 ·rw [if_neg h1] at h
  obtain ⟨v9, h2, h⟩ := bnd h
  obtain ⟨v13, h3, h⟩ := bnd h
  obtain ⟨v17, h4, h⟩ := bnd h
  obtain ⟨v21, h5, h⟩ := bnd h
  obtain ⟨v26, h6, h⟩ := bnd h
  obtain ⟨v31, h7, h⟩ := bnd h
  obtain ⟨v35, h8, h⟩ := bnd h
  obtain rfl := zI h
  exact Til.fin Tryz.func137 [(5, Z9 ([(⟨#[108, 101, 97, 102]⟩ : ByteArray), (⟨#[115, 112, 108, 105, 116]⟩ : ByteArray)] : List ByteArray)), (6, .call [] [0] (.c (.d (.int .i64 v6.1))) none [(0, some (.box [.d (L143 v6.2.1), .d (.int .i64 v6.2.2.1), .d (.int .i64 v6.2.2.2.1), .d (.int .i64 v6.2.2.2.2.1), .d (.int .i64 v6.2.2.2.2.2.1), .d (.int .i64 v6.2.2.2.2.2.2)]))] []), (7, .b false), (9, .call [] [0] (.c (.d (.int .i64 v9.1))) none [(0, some (.box [.d (L143 v9.2.1), .d (.int .i64 v9.2.2.1), .d (.int .i64 v9.2.2.2.1), .d (.int .i64 v9.2.2.2.2.1), .d (.int .i64 v9.2.2.2.2.2.1), .d (.int .i64 v9.2.2.2.2.2.2)]))] []), (13, .call [] [0] (.agg [.d (.bool v13.1), .d (L154 v13.2.1), .d (L154 v13.2.2.1)]) none [(0, some (.box [.d (L143 v13.2.2.2.1), .d (.int .i64 v13.2.2.2.2.1), .d (.int .i64 v13.2.2.2.2.2.1), .d (.int .i64 v13.2.2.2.2.2.2.1), .d (.int .i64 v13.2.2.2.2.2.2.2.1), .d (.int .i64 v13.2.2.2.2.2.2.2.2)]))] []), (17, .call [] [0] (.c (.d (.int .i64 v17.1))) none [(0, some (.box [.d (L143 v17.2.1), .d (.int .i64 v17.2.2.1), .d (.int .i64 v17.2.2.2.1), .d (.int .i64 v17.2.2.2.2.1), .d (.int .i64 v17.2.2.2.2.2.1), .d (.int .i64 v17.2.2.2.2.2.2)]))] []), (21, .call [] [0] (.c (.d (.int .i64 v21.1))) none [(0, some (.box [.d (L143 v21.2.1), .d (.int .i64 v21.2.2.1), .d (.int .i64 v21.2.2.2.1), .d (.int .i64 v21.2.2.2.2.1), .d (.int .i64 v21.2.2.2.2.2.1), .d (.int .i64 v21.2.2.2.2.2.2)]))] []), (25, Z9 ([(⟨#[109, 105, 115, 115, 45, 108, 101, 102, 116]⟩ : ByteArray), (⟨#[109, 105, 115, 115, 45, 114, 105, 103, 104, 116]⟩ : ByteArray)] : List ByteArray)), (26, .call [] [0] (.c (.d (.int .i64 v26.1))) none [(0, some (.box [.d (L143 v26.2.1), .d (.int .i64 v26.2.2.1), .d (.int .i64 v26.2.2.2.1), .d (.int .i64 v26.2.2.2.2.1), .d (.int .i64 v26.2.2.2.2.2.1), .d (.int .i64 v26.2.2.2.2.2.2)]))] []), (31, .call [] [0] (.agg [.d (.bool v31.1), .d (L154 v31.2.1), .d (L154 v31.2.2.1)]) none [(0, some (.box [.d (L143 v31.2.2.2.1), .d (.int .i64 v31.2.2.2.2.1), .d (.int .i64 v31.2.2.2.2.2.1), .d (.int .i64 v31.2.2.2.2.2.2.1), .d (.int .i64 v31.2.2.2.2.2.2.2.1), .d (.int .i64 v31.2.2.2.2.2.2.2.2)]))] []), (35, .call [] [0] (.tup []) none [(0, some (.box [.d (L143 v35.1), .d (.int .i64 v35.2.1), .d (.int .i64 v35.2.2.1), .d (.int .i64 v35.2.2.2.1), .d (.int .i64 v35.2.2.2.2.1), .d (.int .i64 v35.2.2.2.2.2)]))] [])] (fun _ f => o (lit_ok c9 ByteArray.empty ([(⟨#[108, 101, 97, 102]⟩ : ByteArray), (⟨#[115, 112, 108, 105, 116]⟩ : ByteArray)] : List ByteArray)) (o (lex_Reader_Pick.does h0) (o (zB h1) (o (lex_Reader_Count.does h2) (o (model_number.does h3) (o (lex_Reader_Count.does h4) (o (lex_Reader_Count.does h5) (o (lit_ok c9 ByteArray.empty ([(⟨#[109, 105, 115, 115, 45, 108, 101, 102, 116]⟩ : ByteArray), (⟨#[109, 105, 115, 115, 45, 114, 105, 103, 104, 116]⟩ : ByteArray)] : List ByteArray)) (o (lex_Reader_Pick.does h6) (o (model_number.does h7) (o (lex_Reader_Next.does h8) f))))))))))) (by kernel_rfl)

def c103 (x : ZN) : List Dat := [.bool x.1, .int .i64 x.2.1, .bool x.2.2.1, L154 x.2.2.2.1, L154 x.2.2.2.2.1, .int .i64 x.2.2.2.2.2.1, .int .i64 x.2.2.2.2.2.2.1, .bool x.2.2.2.2.2.2.2.1, .bool x.2.2.2.2.2.2.2.2.1, L154 x.2.2.2.2.2.2.2.2.2.1, L154 x.2.2.2.2.2.2.2.2.2.2.1, .bool x.2.2.2.2.2.2.2.2.2.2.2.1, L154 x.2.2.2.2.2.2.2.2.2.2.2.2.1, L154 x.2.2.2.2.2.2.2.2.2.2.2.2.2]
def L103 (xs : ZLN) : Dat := fr 14 c103 (false, 0, false, [], [], 0, 0, false, false, [], [], false, [], []) xs
def Z103 (xs : ZLN) : Sup := .r xs.length (enc c103 (false, 0, false, [], [], 0, 0, false, false, [], [], false, [], []) xs)
def O103 (k : RK) (xs : ZLN) : Ob := .row k 103 14 xs.length (enc c103 (false, 0, false, [], [], 0, 0, false, false, [], [], false, [], []) xs)

def model_tree.l0E (x4 : ZLN) (x14 : Int) (x15 : Int) (b0_0 : ZLLT) (b0_1 : Int) (b0_2 : Int) (b0_3 : Int) (b0_4 : Int) (b0_5 : Int) : Env := [(0, .c (.ptr 0 0)), (4, .c (.own 4)), (14, .c (.d (.int .i64 x14))), (15, .c (.d (.int .i64 x15)))]
def model_tree.l0B (x4 : ZLN) (x14 : Int) (x15 : Int) (b0_0 : ZLLT) (b0_1 : Int) (b0_2 : Int) (b0_3 : Int) (b0_4 : Int) (b0_5 : Int) : Obs := [(0, some (.box [.d (L143 b0_0), .d (.int .i64 b0_1), .d (.int .i64 b0_2), .d (.int .i64 b0_3), .d (.int .i64 b0_4), .d (.int .i64 b0_5)])), (4, some (O103 .own x4))]
theorem model_tree.w (k : Nat) : (∀ (l0_0 : ZLLT) (a0_1 : Int) (a0_2 : Int) (a0_3 : Int) (a0_4 : Int) (a0_5 : Int) (x4 : ZLN) (x14 : Int) (x15 : Int) (b0_0 : ZLLT) (b0_1 : Int) (b0_2 : Int) (b0_3 : Int) (b0_4 : Int) (b0_5 : Int) (r : ZLN × ZLLT × Int × Int × Int × Int × Int), model_tree.l0 k x4 x14 x15 b0_0 b0_1 b0_2 b0_3 b0_4 b0_5 = some r -> Til Tryz.prog 73 [(0, some (.box [.d (L143 l0_0), .d (.int .i64 a0_1), .d (.int .i64 a0_2), .d (.int .i64 a0_3), .d (.int .i64 a0_4), .d (.int .i64 a0_5)]))] (.c (.d (L103 r.1))) none [(0, some (.box [.d (L143 r.2.1), .d (.int .i64 r.2.2.1), .d (.int .i64 r.2.2.2.1), .d (.int .i64 r.2.2.2.2.1), .d (.int .i64 r.2.2.2.2.2.1), .d (.int .i64 r.2.2.2.2.2.2)]))] (at_ Tryz.f73 6) (model_tree.l0E x4 x14 x15 b0_0 b0_1 b0_2 b0_3 b0_4 b0_5) (model_tree.l0B x4 x14 x15 b0_0 b0_1 b0_2 b0_3 b0_4 b0_5)) := by
 induction k with
 | zero =>
  exact fun _ _ _ _ _ _ _ _ _ _ _ _ _ _ _ _ h => (by cases h)
 | succ k ih =>
  intro l0_0 a0_1 a0_2 a0_3 a0_4 a0_5 x4 x14 x15 b0_0 b0_1 b0_2 b0_3 b0_4 b0_5 r h
  rw [model_tree.l0] at h
  by_cases h0 : x15 < x14
  ·rw [if_pos h0] at h
   obtain ⟨v2, h1, h⟩ := bnd h
   obtain ⟨v6, h2, h⟩ := bnd h
   by_cases h3 : v6.1 ≠ 0
   ·rw [if_pos h3] at h
    obtain rfl := zI h
    exact Til.fin Tryz.func73 [(0, .b true), (2, .call [] [0] (.agg [.d (.bool v2.1), .d (.int .i64 v2.2.1), .d (.bool v2.2.2.1), .d (L154 v2.2.2.2.1), .d (L154 v2.2.2.2.2.1), .d (.int .i64 v2.2.2.2.2.2.1), .d (.int .i64 v2.2.2.2.2.2.2.1), .d (.bool v2.2.2.2.2.2.2.2.1), .d (.bool v2.2.2.2.2.2.2.2.2.1), .d (L154 v2.2.2.2.2.2.2.2.2.2.1), .d (L154 v2.2.2.2.2.2.2.2.2.2.2.1), .d (.bool v2.2.2.2.2.2.2.2.2.2.2.2.1), .d (L154 v2.2.2.2.2.2.2.2.2.2.2.2.2.1), .d (L154 v2.2.2.2.2.2.2.2.2.2.2.2.2.2.1)]) none [(0, some (.box [.d (L143 v2.2.2.2.2.2.2.2.2.2.2.2.2.2.2.1), .d (.int .i64 v2.2.2.2.2.2.2.2.2.2.2.2.2.2.2.2.1), .d (.int .i64 v2.2.2.2.2.2.2.2.2.2.2.2.2.2.2.2.2.1), .d (.int .i64 v2.2.2.2.2.2.2.2.2.2.2.2.2.2.2.2.2.2.1), .d (.int .i64 v2.2.2.2.2.2.2.2.2.2.2.2.2.2.2.2.2.2.2.1), .d (.int .i64 v2.2.2.2.2.2.2.2.2.2.2.2.2.2.2.2.2.2.2.2)]))] []), (6, .call [] [0] (.tup [.c (.d (.int .i64 v6.1)), .c (.d (.int .i64 v6.2.1))]) none [(0, some (.box [.d (L143 v6.2.2.1), .d (.int .i64 v6.2.2.2.1), .d (.int .i64 v6.2.2.2.2.1), .d (.int .i64 v6.2.2.2.2.2.1), .d (.int .i64 v6.2.2.2.2.2.2.1), .d (.int .i64 v6.2.2.2.2.2.2.2)]))] []), (13, .b true)] (fun _ f => o (zT h0) (o (model_node.does h1) (o (lex_Reader_Err.does h2) (o (bne_iff_ne.2 h3) f)))) (by kernel_rfl)
   ·rw [if_neg h3] at h
    obtain ⟨h4, h⟩ := ifp h
    exact Til.mid Tryz.func73 6 [(0, .b true), (2, .call [] [0] (.agg [.d (.bool v2.1), .d (.int .i64 v2.2.1), .d (.bool v2.2.2.1), .d (L154 v2.2.2.2.1), .d (L154 v2.2.2.2.2.1), .d (.int .i64 v2.2.2.2.2.2.1), .d (.int .i64 v2.2.2.2.2.2.2.1), .d (.bool v2.2.2.2.2.2.2.2.1), .d (.bool v2.2.2.2.2.2.2.2.2.1), .d (L154 v2.2.2.2.2.2.2.2.2.2.1), .d (L154 v2.2.2.2.2.2.2.2.2.2.2.1), .d (.bool v2.2.2.2.2.2.2.2.2.2.2.2.1), .d (L154 v2.2.2.2.2.2.2.2.2.2.2.2.2.1), .d (L154 v2.2.2.2.2.2.2.2.2.2.2.2.2.2.1)]) none [(0, some (.box [.d (L143 v2.2.2.2.2.2.2.2.2.2.2.2.2.2.2.1), .d (.int .i64 v2.2.2.2.2.2.2.2.2.2.2.2.2.2.2.2.1), .d (.int .i64 v2.2.2.2.2.2.2.2.2.2.2.2.2.2.2.2.2.1), .d (.int .i64 v2.2.2.2.2.2.2.2.2.2.2.2.2.2.2.2.2.2.1), .d (.int .i64 v2.2.2.2.2.2.2.2.2.2.2.2.2.2.2.2.2.2.2.1), .d (.int .i64 v2.2.2.2.2.2.2.2.2.2.2.2.2.2.2.2.2.2.2.2)]))] []), (6, .call [] [0] (.tup [.c (.d (.int .i64 v6.1)), .c (.d (.int .i64 v6.2.1))]) none [(0, some (.box [.d (L143 v6.2.2.1), .d (.int .i64 v6.2.2.2.1), .d (.int .i64 v6.2.2.2.2.1), .d (.int .i64 v6.2.2.2.2.2.1), .d (.int .i64 v6.2.2.2.2.2.2.1), .d (.int .i64 v6.2.2.2.2.2.2.2)]))] []), (13, .b false), (16, Z103 ([(v2.1, v2.2.1, v2.2.2.1, v2.2.2.2.1, v2.2.2.2.2.1, v2.2.2.2.2.2.1, v2.2.2.2.2.2.2.1, v2.2.2.2.2.2.2.2.1, v2.2.2.2.2.2.2.2.2.1, v2.2.2.2.2.2.2.2.2.2.1, v2.2.2.2.2.2.2.2.2.2.2.1, v2.2.2.2.2.2.2.2.2.2.2.2.1, v2.2.2.2.2.2.2.2.2.2.2.2.2.1, v2.2.2.2.2.2.2.2.2.2.2.2.2.2.1)] : ZLN)), (17, Z103 (x4 ++ [(v2.1, v2.2.1, v2.2.2.1, v2.2.2.2.1, v2.2.2.2.2.1, v2.2.2.2.2.2.1, v2.2.2.2.2.2.2.1, v2.2.2.2.2.2.2.2.1, v2.2.2.2.2.2.2.2.2.1, v2.2.2.2.2.2.2.2.2.2.1, v2.2.2.2.2.2.2.2.2.2.2.1, v2.2.2.2.2.2.2.2.2.2.2.2.1, v2.2.2.2.2.2.2.2.2.2.2.2.2.1, v2.2.2.2.2.2.2.2.2.2.2.2.2.2.1)]))] (fun _ f => o (zT h0) (o (model_node.does h1) (o (lex_Reader_Err.does h2) (o (ne_f h3) (o (lit_ok c103 (false, 0, false, [], [], 0, 0, false, false, [], [], false, [], []) ([(v2.1, v2.2.1, v2.2.2.1, v2.2.2.2.1, v2.2.2.2.2.1, v2.2.2.2.2.2.1, v2.2.2.2.2.2.2.1, v2.2.2.2.2.2.2.2.1, v2.2.2.2.2.2.2.2.2.1, v2.2.2.2.2.2.2.2.2.2.1, v2.2.2.2.2.2.2.2.2.2.2.1, v2.2.2.2.2.2.2.2.2.2.2.2.1, v2.2.2.2.2.2.2.2.2.2.2.2.2.1, v2.2.2.2.2.2.2.2.2.2.2.2.2.2.1)] : ZLN)) (o (app1 c103 (false, 0, false, [], [], 0, 0, false, false, [], [], false, [], []) x4 (v2.1, v2.2.1, v2.2.2.1, v2.2.2.2.1, v2.2.2.2.2.1, v2.2.2.2.2.2.1, v2.2.2.2.2.2.2.1, v2.2.2.2.2.2.2.2.1, v2.2.2.2.2.2.2.2.2.1, v2.2.2.2.2.2.2.2.2.2.1, v2.2.2.2.2.2.2.2.2.2.2.1, v2.2.2.2.2.2.2.2.2.2.2.2.1, v2.2.2.2.2.2.2.2.2.2.2.2.2.1, v2.2.2.2.2.2.2.2.2.2.2.2.2.2.1) 208 676622540169 (by decide) h4) f)))))) (by kernel_rfl) (ih _ _ _ _ _ _ _ _ _ _ _ _ _ _ _ _ h)
  ·rw [if_neg h0] at h
   obtain rfl := zI h
   exact Til.fin Tryz.func73 [(0, .b false)] (fun _ f => o (zF h0) f) (by kernel_rfl)
theorem model_tree.does {k : Nat} {l0_0 : ZLLT} {a0_1 : Int} {a0_2 : Int} {a0_3 : Int} {a0_4 : Int} {a0_5 : Int} {r : ZLN × ZLLT × Int × Int × Int × Int × Int} (h : model_tree.f k l0_0 a0_1 a0_2 a0_3 a0_4 a0_5 = some r) :
 Does Tryz.prog 73 [.c (.ptr 0 0)] [(0, some (.box [.d (L143 l0_0), .d (.int .i64 a0_1), .d (.int .i64 a0_2), .d (.int .i64 a0_3), .d (.int .i64 a0_4), .d (.int .i64 a0_5)]))] (.c (.d (L103 r.1))) none [(0, some (.box [.d (L143 r.2.1), .d (.int .i64 r.2.2.1), .d (.int .i64 r.2.2.2.1), .d (.int .i64 r.2.2.2.2.1), .d (.int .i64 r.2.2.2.2.2.1), .d (.int .i64 r.2.2.2.2.2.2)]))] := by
 refine does_fn Tryz.func73 (by kernel_rfl) rfl rfl ?_
 unfold model_tree.f at h
 have ih := model_tree.w k
 obtain ⟨v2, h0, h⟩ := bnd h
 obtain ⟨v4, h1, h⟩ := bnd h
 obtain ⟨v7, h2, h⟩ := bnd h
 exact Til.mid Tryz.func73 6 [(2, .call [] [0] (.tup []) none [(0, some (.box [.d (L143 v2.1), .d (.int .i64 v2.2.1), .d (.int .i64 v2.2.2.1), .d (.int .i64 v2.2.2.2.1), .d (.int .i64 v2.2.2.2.2.1), .d (.int .i64 v2.2.2.2.2.2)]))] []), (4, .call [] [0] (.c (.d (.int .i64 v4.1))) none [(0, some (.box [.d (L143 v4.2.1), .d (.int .i64 v4.2.2.1), .d (.int .i64 v4.2.2.2.1), .d (.int .i64 v4.2.2.2.2.1), .d (.int .i64 v4.2.2.2.2.2.1), .d (.int .i64 v4.2.2.2.2.2.2)]))] []), (7, .call [] [0] (.tup []) none [(0, some (.box [.d (L143 v7.1), .d (.int .i64 v7.2.1), .d (.int .i64 v7.2.2.1), .d (.int .i64 v7.2.2.2.1), .d (.int .i64 v7.2.2.2.2.1), .d (.int .i64 v7.2.2.2.2.2)]))] [])] (fun _ f => o (lex_Reader_Take.does h0) (o (lex_Reader_Count.does h1) (o (lex_Reader_Next.does h2) f))) (by kernel_rfl) (ih _ _ _ _ _ _ _ _ _ _ _ _ _ _ _ _ h)

theorem lex_Reader_End.does {l0_0 : ZLLT} {a0_1 : Int} {a0_2 : Int} {a0_3 : Int} {a0_4 : Int} {a0_5 : Int} {r : ZLLT × Int × Int × Int × Int × Int} (h : lex_Reader_End.f l0_0 a0_1 a0_2 a0_3 a0_4 a0_5 = some r) :
 Does Tryz.prog 75 [.c (.ptr 0 0)] [(0, some (.box [.d (L143 l0_0), .d (.int .i64 a0_1), .d (.int .i64 a0_2), .d (.int .i64 a0_3), .d (.int .i64 a0_4), .d (.int .i64 a0_5)]))] (.tup []) none [(0, some (.box [.d (L143 r.1), .d (.int .i64 r.2.1), .d (.int .i64 r.2.2.1), .d (.int .i64 r.2.2.2.1), .d (.int .i64 r.2.2.2.2.1), .d (.int .i64 r.2.2.2.2.2)]))] := by
 refine does_fn Tryz.func75 (by kernel_rfl) rfl rfl ?_
 unfold lex_Reader_End.f at h
 obtain ⟨⟨v1_0, ⟨v1_1, ⟨v1_2, ⟨v1_3, ⟨v1_4, ⟨v1_5, v1_6⟩⟩⟩⟩⟩⟩, h0, h⟩ := bnd h
 dsimp only at h
 cases v1_0
 ·rw [if_neg (by decide)] at h
  by_cases h2 : v1_2 < (v1_1.length : Int)
  ·rw [if_pos h2] at h
   obtain ⟨v17, h3, h⟩ := bnd h
   obtain ⟨v18, h4, h⟩ := bnd h
   obtain rfl := zI h
   exact Til.fin Tryz.func75 [(1, .call [] [0] (.c (.d (.bool false))) none [(0, some (.box [.d (L143 v1_1), .d (.int .i64 v1_2), .d (.int .i64 v1_3), .d (.int .i64 v1_4), .d (.int .i64 v1_5), .d (.int .i64 v1_6)]))] []), (13, .b true), (17, .call [] [0] (.c (.d (.int .i64 v17.1))) none [(0, some (.box [.d (L143 v17.2.1), .d (.int .i64 v17.2.2.1), .d (.int .i64 v17.2.2.2.1), .d (.int .i64 v17.2.2.2.2.1), .d (.int .i64 v17.2.2.2.2.2.1), .d (.int .i64 v17.2.2.2.2.2.2)]))] []), (18, .call [] [0] (.tup []) none [(0, some (.box [.d (L143 v18.1), .d (.int .i64 v18.2.1), .d (.int .i64 v18.2.2.1), .d (.int .i64 v18.2.2.2.1), .d (.int .i64 v18.2.2.2.2.1), .d (.int .i64 v18.2.2.2.2.2)]))] [])] (fun _ f => o (lex_Reader_off.does h0) (o (zT h2) (o (lex_Reader_here.does h3) (o (lex_Reader_fail.does h4) f)))) (by kernel_rfl)
  ·rw [if_neg h2] at h
   obtain rfl := zI h
   exact Til.fin Tryz.func75 [(1, .call [] [0] (.c (.d (.bool false))) none [(0, some (.box [.d (L143 v1_1), .d (.int .i64 v1_2), .d (.int .i64 v1_3), .d (.int .i64 v1_4), .d (.int .i64 v1_5), .d (.int .i64 v1_6)]))] []), (13, .b false)] (fun _ f => o (lex_Reader_off.does h0) (o (zF h2) f)) (by kernel_rfl)
 ·rw [if_pos rfl] at h
  obtain rfl := zI h
  exact Til.fin Tryz.func75 [(1, .call [] [0] (.c (.d (.bool true))) none [(0, some (.box [.d (L143 v1_1), .d (.int .i64 v1_2), .d (.int .i64 v1_3), .d (.int .i64 v1_4), .d (.int .i64 v1_5), .d (.int .i64 v1_6)]))] [])] (fun _ f => o (lex_Reader_off.does h0) f) (by kernel_rfl)

def c101 (x : ZLN) : List Dat := [L103 x]
def L101 (xs : ZLLN) : Dat := fr 1 c101 [] xs
def Z101 (xs : ZLLN) : Sup := .r xs.length (enc c101 [] xs)
def O101 (k : RK) (xs : ZLLN) : Ob := .row k 101 1 xs.length (enc c101 [] xs)

def model_Read.l0E (x34 : Int) (x35 : Int) (b2_0 : Int) (b3_0 : Int) (b3_1 : Int) (b3_2 : Int) (b3_3 : Int) (b5_0 : Int) (b5_1 : ZLLN) (b13_0 : ZLLT) (b13_1 : Int) (b13_2 : Int) (b13_3 : Int) (b13_4 : Int) (b13_5 : Int) : Env := [(2, .c (.ptr 2 0)), (3, .c (.ptr 3 0)), (4, .c (.ptr 13 0)), (5, .c (.ptr 5 0)), (34, .c (.d (.int .i64 x34))), (35, .c (.d (.int .i64 x35)))]
def model_Read.l0B (x34 : Int) (x35 : Int) (b2_0 : Int) (b3_0 : Int) (b3_1 : Int) (b3_2 : Int) (b3_3 : Int) (b5_0 : Int) (b5_1 : ZLLN) (b13_0 : ZLLT) (b13_1 : Int) (b13_2 : Int) (b13_3 : Int) (b13_4 : Int) (b13_5 : Int) : Obs := [(2, some (.box [.d (.int .i64 b2_0), .nils])), (3, some (.box [.d (.int .i64 b3_0), .d (.int .i64 b3_1), .d (.int .i64 b3_2), .d (.int .i64 b3_3)])), (5, some (.box [.d (.int .i64 b5_0), .own 1006001])), (13, some (.box [.d (L143 b13_0), .d (.int .i64 b13_1), .d (.int .i64 b13_2), .d (.int .i64 b13_3), .d (.int .i64 b13_4), .d (.int .i64 b13_5)])), (1006001, some (O101 .own b5_1))]
theorem model_Read.w (k : Nat) : (∀  (x34 : Int) (x35 : Int) (b2_0 : Int) (b3_0 : Int) (b3_1 : Int) (b3_2 : Int) (b3_3 : Int) (b5_0 : Int) (b5_1 : ZLLN) (b13_0 : ZLLT) (b13_1 : Int) (b13_2 : Int) (b13_3 : Int) (b13_4 : Int) (b13_5 : Int) (r : Int × ZLLN × Int × Int × Int × Int), model_Read.l0 k x34 x35 b2_0 b3_0 b3_1 b3_2 b3_3 b5_0 b5_1 b13_0 b13_1 b13_2 b13_3 b13_4 b13_5 = some r -> Til Tryz.prog 29 [] (.tup [.agg [.d (.int .i64 r.1), .d (L101 r.2.1)], .agg [.d (.int .i64 r.2.2.1), .d (.int .i64 r.2.2.2.1), .d (.int .i64 r.2.2.2.2.1), .d (.int .i64 r.2.2.2.2.2)]]) none [] (at_ Tryz.f29 13) (model_Read.l0E x34 x35 b2_0 b3_0 b3_1 b3_2 b3_3 b5_0 b5_1 b13_0 b13_1 b13_2 b13_3 b13_4 b13_5) (model_Read.l0B x34 x35 b2_0 b3_0 b3_1 b3_2 b3_3 b5_0 b5_1 b13_0 b13_1 b13_2 b13_3 b13_4 b13_5)) := by
 induction k with
 | zero =>
  exact fun _ _ _ _ _ _ _ _ _ _ _ _ _ _ _ _ h => (by cases h)
 | succ k ih =>
  intro x34 x35 b2_0 b3_0 b3_1 b3_2 b3_3 b5_0 b5_1 b13_0 b13_1 b13_2 b13_3 b13_4 b13_5 r h
  rw [model_Read.l0] at h
  by_cases h0 : x35 < x34
  ·rw [if_pos h0] at h
   obtain ⟨v2, h1, h⟩ := bnd h
   obtain ⟨v5, h2, h⟩ := bnd h
   by_cases h3 : v5.1 ≠ 0
   ·rw [if_pos h3] at h
    obtain ⟨v14, h4, h⟩ := bnd h
    obtain ⟨v16, h5, h⟩ := bnd h
    obtain ⟨v18, h6, h⟩ := bnd h
    obtain ⟨v20, h7, h⟩ := bnd h
    by_cases h8 : v20.1 ≠ 0
    ·rw [if_pos h8] at h
     obtain rfl := zI h
     exact Til.fin Tryz.func29 [(0, .b true), (2, .call [] [0] (.c (.d (L103 v2.1))) none [(0, some (.box [.d (L143 v2.2.1), .d (.int .i64 v2.2.2.1), .d (.int .i64 v2.2.2.2.1), .d (.int .i64 v2.2.2.2.2.1), .d (.int .i64 v2.2.2.2.2.2.1), .d (.int .i64 v2.2.2.2.2.2.2)]))] []), (5, .call [] [0] (.tup [.c (.d (.int .i64 v5.1)), .c (.d (.int .i64 v5.2.1))]) none [(0, some (.box [.d (L143 v5.2.2.1), .d (.int .i64 v5.2.2.2.1), .d (.int .i64 v5.2.2.2.2.1), .d (.int .i64 v5.2.2.2.2.2.1), .d (.int .i64 v5.2.2.2.2.2.2.1), .d (.int .i64 v5.2.2.2.2.2.2.2)]))] []), (12, .b true), (14, .call [] [0] (.tup []) none [(0, some (.box [.d (L143 v14.1), .d (.int .i64 v14.2.1), .d (.int .i64 v14.2.2.1), .d (.int .i64 v14.2.2.2.1), .d (.int .i64 v14.2.2.2.2.1), .d (.int .i64 v14.2.2.2.2.2)]))] []), (16, .call [] [0] (.tup []) none [(0, some (.box [.d (L143 v16.1), .d (.int .i64 v16.2.1), .d (.int .i64 v16.2.2.1), .d (.int .i64 v16.2.2.2.1), .d (.int .i64 v16.2.2.2.2.1), .d (.int .i64 v16.2.2.2.2.2)]))] []), (18, .call [] [0] (.tup []) none [(0, some (.box [.d (L143 v18.1), .d (.int .i64 v18.2.1), .d (.int .i64 v18.2.2.1), .d (.int .i64 v18.2.2.2.1), .d (.int .i64 v18.2.2.2.2.1), .d (.int .i64 v18.2.2.2.2.2)]))] []), (20, .call [] [0] (.tup [.c (.d (.int .i64 v20.1)), .c (.d (.int .i64 v20.2.1))]) none [(0, some (.box [.d (L143 v20.2.2.1), .d (.int .i64 v20.2.2.2.1), .d (.int .i64 v20.2.2.2.2.1), .d (.int .i64 v20.2.2.2.2.2.1), .d (.int .i64 v20.2.2.2.2.2.2.1), .d (.int .i64 v20.2.2.2.2.2.2.2)]))] []), (27, .b true)] (fun _ f => o (zT h0) (o (model_tree.does h1) (o (lex_Reader_Err.does h2) (o (bne_iff_ne.2 h3) (o (lex_Reader_Take.does h4) (o (lex_Reader_Next.does h5) (o (lex_Reader_End.does h6) (o (lex_Reader_Err.does h7) (o (bne_iff_ne.2 h8) f))))))))) (by kernel_rfl)
    ·rw [if_neg h8] at h
     obtain rfl := zI h
     exact Til.fin Tryz.func29 [(0, .b true), (2, .call [] [0] (.c (.d (L103 v2.1))) none [(0, some (.box [.d (L143 v2.2.1), .d (.int .i64 v2.2.2.1), .d (.int .i64 v2.2.2.2.1), .d (.int .i64 v2.2.2.2.2.1), .d (.int .i64 v2.2.2.2.2.2.1), .d (.int .i64 v2.2.2.2.2.2.2)]))] []), (5, .call [] [0] (.tup [.c (.d (.int .i64 v5.1)), .c (.d (.int .i64 v5.2.1))]) none [(0, some (.box [.d (L143 v5.2.2.1), .d (.int .i64 v5.2.2.2.1), .d (.int .i64 v5.2.2.2.2.1), .d (.int .i64 v5.2.2.2.2.2.1), .d (.int .i64 v5.2.2.2.2.2.2.1), .d (.int .i64 v5.2.2.2.2.2.2.2)]))] []), (12, .b true), (14, .call [] [0] (.tup []) none [(0, some (.box [.d (L143 v14.1), .d (.int .i64 v14.2.1), .d (.int .i64 v14.2.2.1), .d (.int .i64 v14.2.2.2.1), .d (.int .i64 v14.2.2.2.2.1), .d (.int .i64 v14.2.2.2.2.2)]))] []), (16, .call [] [0] (.tup []) none [(0, some (.box [.d (L143 v16.1), .d (.int .i64 v16.2.1), .d (.int .i64 v16.2.2.1), .d (.int .i64 v16.2.2.2.1), .d (.int .i64 v16.2.2.2.2.1), .d (.int .i64 v16.2.2.2.2.2)]))] []), (18, .call [] [0] (.tup []) none [(0, some (.box [.d (L143 v18.1), .d (.int .i64 v18.2.1), .d (.int .i64 v18.2.2.1), .d (.int .i64 v18.2.2.2.1), .d (.int .i64 v18.2.2.2.2.1), .d (.int .i64 v18.2.2.2.2.2)]))] []), (20, .call [] [0] (.tup [.c (.d (.int .i64 v20.1)), .c (.d (.int .i64 v20.2.1))]) none [(0, some (.box [.d (L143 v20.2.2.1), .d (.int .i64 v20.2.2.2.1), .d (.int .i64 v20.2.2.2.2.1), .d (.int .i64 v20.2.2.2.2.2.1), .d (.int .i64 v20.2.2.2.2.2.2.1), .d (.int .i64 v20.2.2.2.2.2.2.2)]))] []), (27, .b false)] (fun _ f => o (zT h0) (o (model_tree.does h1) (o (lex_Reader_Err.does h2) (o (bne_iff_ne.2 h3) (o (lex_Reader_Take.does h4) (o (lex_Reader_Next.does h5) (o (lex_Reader_End.does h6) (o (lex_Reader_Err.does h7) (o (ne_f h8) f))))))))) (by kernel_rfl)
   ·rw [if_neg h3] at h
    obtain ⟨h4, h⟩ := ifp h
    exact Til.mid Tryz.func29 13 [(0, .b true), (2, .call [] [0] (.c (.d (L103 v2.1))) none [(0, some (.box [.d (L143 v2.2.1), .d (.int .i64 v2.2.2.1), .d (.int .i64 v2.2.2.2.1), .d (.int .i64 v2.2.2.2.2.1), .d (.int .i64 v2.2.2.2.2.2.1), .d (.int .i64 v2.2.2.2.2.2.2)]))] []), (5, .call [] [0] (.tup [.c (.d (.int .i64 v5.1)), .c (.d (.int .i64 v5.2.1))]) none [(0, some (.box [.d (L143 v5.2.2.1), .d (.int .i64 v5.2.2.2.1), .d (.int .i64 v5.2.2.2.2.1), .d (.int .i64 v5.2.2.2.2.2.1), .d (.int .i64 v5.2.2.2.2.2.2.1), .d (.int .i64 v5.2.2.2.2.2.2.2)]))] []), (12, .b false), (16, Z101 ([v2.1] : ZLLN)), (17, Z101 (b5_1 ++ [v2.1]))] (fun _ f => o (zT h0) (o (model_tree.does h1) (o (lex_Reader_Err.does h2) (o (ne_f h3) (o (lit_ok c101 [] ([v2.1] : ZLLN)) (o (app1 c101 [] b5_1 v2.1 24 5864062014805 (by decide) h4) f)))))) (by kernel_rfl) (ih _ _ _ _ _ _ _ _ _ _ _ _ _ _ _ _ h)
  ·rw [if_neg h0] at h
   obtain ⟨v2, h1, h⟩ := bnd h
   obtain ⟨v4, h2, h⟩ := bnd h
   obtain ⟨v6, h3, h⟩ := bnd h
   obtain ⟨v8, h4, h⟩ := bnd h
   by_cases h5 : v8.1 ≠ 0
   ·rw [if_pos h5] at h
    obtain rfl := zI h
    exact Til.fin Tryz.func29 [(0, .b false), (2, .call [] [0] (.tup []) none [(0, some (.box [.d (L143 v2.1), .d (.int .i64 v2.2.1), .d (.int .i64 v2.2.2.1), .d (.int .i64 v2.2.2.2.1), .d (.int .i64 v2.2.2.2.2.1), .d (.int .i64 v2.2.2.2.2.2)]))] []), (4, .call [] [0] (.tup []) none [(0, some (.box [.d (L143 v4.1), .d (.int .i64 v4.2.1), .d (.int .i64 v4.2.2.1), .d (.int .i64 v4.2.2.2.1), .d (.int .i64 v4.2.2.2.2.1), .d (.int .i64 v4.2.2.2.2.2)]))] []), (6, .call [] [0] (.tup []) none [(0, some (.box [.d (L143 v6.1), .d (.int .i64 v6.2.1), .d (.int .i64 v6.2.2.1), .d (.int .i64 v6.2.2.2.1), .d (.int .i64 v6.2.2.2.2.1), .d (.int .i64 v6.2.2.2.2.2)]))] []), (8, .call [] [0] (.tup [.c (.d (.int .i64 v8.1)), .c (.d (.int .i64 v8.2.1))]) none [(0, some (.box [.d (L143 v8.2.2.1), .d (.int .i64 v8.2.2.2.1), .d (.int .i64 v8.2.2.2.2.1), .d (.int .i64 v8.2.2.2.2.2.1), .d (.int .i64 v8.2.2.2.2.2.2.1), .d (.int .i64 v8.2.2.2.2.2.2.2)]))] []), (15, .b true)] (fun _ f => o (zF h0) (o (lex_Reader_Take.does h1) (o (lex_Reader_Next.does h2) (o (lex_Reader_End.does h3) (o (lex_Reader_Err.does h4) (o (bne_iff_ne.2 h5) f)))))) (by kernel_rfl)
   ·rw [if_neg h5] at h
    obtain rfl := zI h
    exact Til.fin Tryz.func29 [(0, .b false), (2, .call [] [0] (.tup []) none [(0, some (.box [.d (L143 v2.1), .d (.int .i64 v2.2.1), .d (.int .i64 v2.2.2.1), .d (.int .i64 v2.2.2.2.1), .d (.int .i64 v2.2.2.2.2.1), .d (.int .i64 v2.2.2.2.2.2)]))] []), (4, .call [] [0] (.tup []) none [(0, some (.box [.d (L143 v4.1), .d (.int .i64 v4.2.1), .d (.int .i64 v4.2.2.1), .d (.int .i64 v4.2.2.2.1), .d (.int .i64 v4.2.2.2.2.1), .d (.int .i64 v4.2.2.2.2.2)]))] []), (6, .call [] [0] (.tup []) none [(0, some (.box [.d (L143 v6.1), .d (.int .i64 v6.2.1), .d (.int .i64 v6.2.2.1), .d (.int .i64 v6.2.2.2.1), .d (.int .i64 v6.2.2.2.2.1), .d (.int .i64 v6.2.2.2.2.2)]))] []), (8, .call [] [0] (.tup [.c (.d (.int .i64 v8.1)), .c (.d (.int .i64 v8.2.1))]) none [(0, some (.box [.d (L143 v8.2.2.1), .d (.int .i64 v8.2.2.2.1), .d (.int .i64 v8.2.2.2.2.1), .d (.int .i64 v8.2.2.2.2.2.1), .d (.int .i64 v8.2.2.2.2.2.2.1), .d (.int .i64 v8.2.2.2.2.2.2.2)]))] []), (15, .b false)] (fun _ f => o (zF h0) (o (lex_Reader_Take.does h1) (o (lex_Reader_Next.does h2) (o (lex_Reader_End.does h3) (o (lex_Reader_Err.does h4) (o (ne_f h5) f)))))) (by kernel_rfl)
theorem model_Read.does {k : Nat} {a0 : ByteArray} {r : Int × ZLLN × Int × Int × Int × Int} (h : model_Read.f k a0 = some r) :
 Does Tryz.prog 29 [.c (.d (.str a0))] [] (.tup [.agg [.d (.int .i64 r.1), .d (L101 r.2.1)], .agg [.d (.int .i64 r.2.2.1), .d (.int .i64 r.2.2.2.1), .d (.int .i64 r.2.2.2.2.1), .d (.int .i64 r.2.2.2.2.2)]]) none [] := by
 refine does_fn Tryz.func29 (by kernel_rfl) rfl rfl ?_
 unfold model_Read.f at h
 have ih := model_Read.w k
 obtain ⟨v3, h0, h⟩ := bnd h
 obtain ⟨v9, h1, h⟩ := bnd h
 obtain ⟨v11, h2, h⟩ := bnd h
 obtain ⟨v13, h3, h⟩ := bnd h
 obtain ⟨v15, h4, h⟩ := bnd h
 obtain ⟨v17, h5, h⟩ := bnd h
 obtain ⟨v21, h6, h⟩ := bnd h
 obtain ⟨v23, h7, h⟩ := bnd h
 obtain ⟨v25, h8, h⟩ := bnd h
 obtain ⟨v28, h9, h⟩ := bnd h
 exact Til.mid Tryz.func29 13 [(3, .call [] [] (.c (.ptr 0 0)) (some (.box [.d (L143 v3.1), .d (.int .i64 v3.2.1), .d (.int .i64 v3.2.2.1), .d (.int .i64 v3.2.2.2.1), .d (.int .i64 v3.2.2.2.2.1), .d (.int .i64 v3.2.2.2.2.2)])) [] []), (9, .call [] [0] (.tup []) none [(0, some (.box [.d (L143 v9.1), .d (.int .i64 v9.2.1), .d (.int .i64 v9.2.2.1), .d (.int .i64 v9.2.2.2.1), .d (.int .i64 v9.2.2.2.2.1), .d (.int .i64 v9.2.2.2.2.2)]))] []), (11, .call [] [0] (.tup []) none [(0, some (.box [.d (L143 v11.1), .d (.int .i64 v11.2.1), .d (.int .i64 v11.2.2.1), .d (.int .i64 v11.2.2.2.1), .d (.int .i64 v11.2.2.2.2.1), .d (.int .i64 v11.2.2.2.2.2)]))] []), (13, .call [] [0] (.tup []) none [(0, some (.box [.d (L143 v13.1), .d (.int .i64 v13.2.1), .d (.int .i64 v13.2.2.1), .d (.int .i64 v13.2.2.2.1), .d (.int .i64 v13.2.2.2.2.1), .d (.int .i64 v13.2.2.2.2.2)]))] []), (15, .call [] [0] (.tup []) none [(0, some (.box [.d (L143 v15.1), .d (.int .i64 v15.2.1), .d (.int .i64 v15.2.2.1), .d (.int .i64 v15.2.2.2.1), .d (.int .i64 v15.2.2.2.2.1), .d (.int .i64 v15.2.2.2.2.2)]))] []), (17, .call [] [0] (.c (.d (.int .i64 v17.1))) none [(0, some (.box [.d (L143 v17.2.1), .d (.int .i64 v17.2.2.1), .d (.int .i64 v17.2.2.2.1), .d (.int .i64 v17.2.2.2.2.1), .d (.int .i64 v17.2.2.2.2.2.1), .d (.int .i64 v17.2.2.2.2.2.2)]))] []), (21, .call [] [0] (.tup []) none [(0, some (.box [.d (L143 v21.1), .d (.int .i64 v21.2.1), .d (.int .i64 v21.2.2.1), .d (.int .i64 v21.2.2.2.1), .d (.int .i64 v21.2.2.2.2.1), .d (.int .i64 v21.2.2.2.2.2)]))] []), (23, .call [] [0] (.tup []) none [(0, some (.box [.d (L143 v23.1), .d (.int .i64 v23.2.1), .d (.int .i64 v23.2.2.1), .d (.int .i64 v23.2.2.2.1), .d (.int .i64 v23.2.2.2.2.1), .d (.int .i64 v23.2.2.2.2.2)]))] []), (25, .call [] [0] (.c (.d (.int .i64 v25.1))) none [(0, some (.box [.d (L143 v25.2.1), .d (.int .i64 v25.2.2.1), .d (.int .i64 v25.2.2.2.1), .d (.int .i64 v25.2.2.2.2.1), .d (.int .i64 v25.2.2.2.2.2.1), .d (.int .i64 v25.2.2.2.2.2.2)]))] []), (28, .call [] [0] (.tup []) none [(0, some (.box [.d (L143 v28.1), .d (.int .i64 v28.2.1), .d (.int .i64 v28.2.2.1), .d (.int .i64 v28.2.2.2.1), .d (.int .i64 v28.2.2.2.2.1), .d (.int .i64 v28.2.2.2.2.2)]))] [])] (fun _ f => o (lex_Read.does h0) (o (lex_Reader_Take.does h1) (o (lex_Reader_Take.does h2) (o (lex_Reader_Next.does h3) (o (lex_Reader_Take.does h4) (o (lex_Reader_Count.does h5) (o (lex_Reader_Next.does h6) (o (lex_Reader_Take.does h7) (o (lex_Reader_Count.does h8) (o (lex_Reader_Next.does h9) f)))))))))) (by kernel_rfl) (ih _ _ _ _ _ _ _ _ _ _ _ _ _ _ _ _ h)

def model_Fits.l0E (x22 : ZLLN) (x23 : Int) (x24 : Int) : Env := [(22, .c (.d (L101 x22))), (23, .c (.d (.int .i64 x23))), (24, .c (.d (.int .i64 x24)))]
def model_Fits.l1E (x22 : ZLLN) (x23 : Int) (x24 : Int) (x32 : ZLN) (x33 : Int) (x34 : Bool) (x36 : ZLN) (x37 : Int) (x38 : Int) : Env := [(22, .c (.d (L101 x22))), (23, .c (.d (.int .i64 x23))), (24, .c (.d (.int .i64 x24))), (32, .c (.d (L103 x32))), (33, .c (.d (.int .i64 x33))), (34, .c (.d (.bool x34))), (36, .c (.d (L103 x36))), (37, .c (.d (.int .i64 x37))), (38, .c (.d (.int .i64 x38)))]
theorem model_Fits.w (k : Nat) : (∀  (x22 : ZLLN) (x23 : Int) (x24 : Int) (r : Bool), model_Fits.l0 k x22 x23 x24 = some r -> Til Tryz.prog 39 [] (.c (.d (.bool r))) none [] (at_ Tryz.f39 4) (model_Fits.l0E x22 x23 x24) []) /\
 (∀  (x22 : ZLLN) (x23 : Int) (x24 : Int) (x32 : ZLN) (x33 : Int) (x34 : Bool) (x36 : ZLN) (x37 : Int) (x38 : Int) (r : Bool), model_Fits.l1 k x22 x23 x24 x32 x33 x34 x36 x37 x38 = some r -> Til Tryz.prog 39 [] (.c (.d (.bool r))) none [] (at_ Tryz.f39 9) (model_Fits.l1E x22 x23 x24 x32 x33 x34 x36 x37 x38) []) := by
 induction k with
 | zero =>
  exact ⟨fun _ _ _ _ h => (by cases h), fun _ _ _ _ _ _ _ _ _ _ h => (by cases h)⟩
 | succ k ih =>
  refine ⟨?_, ?_⟩
  ·intro x22 x23 x24 r h
   rw [model_Fits.l0] at h
   by_cases h0 : x24 < x23
   ·rw [if_pos h0] at h
    obtain ⟨h1, h⟩ := ifp h
    obtain ⟨h2, h⟩ := ifp h
    by_cases h3 : ((gt [] x22 x24).length : Int) < 1
    ·rw [if_pos h3] at h
     obtain rfl := zI h
     exact Til.fin Tryz.func39 [(0, .b true), (6, .b true)] (fun _ f => o (zT h0) (o (o h1 h2) (o (zT h3) f))) (by kernel_rfl)
    ·rw [if_neg h3] at h
     by_cases h4 : ((gt [] x22 x24).length : Int) > 255
     ·rw [if_pos h4] at h
      obtain rfl := zI h
      exact Til.fin Tryz.func39 [(0, .b true), (6, .b false), (10, .b true)] (fun _ f => o (zT h0) (o (o h1 h2) (o (zF h3) (o (zT h4) f)))) (by kernel_rfl)
     ·rw [if_neg h4] at h
      exact Til.mid Tryz.func39 9 [(0, .b true), (6, .b false), (10, .b false)] (fun _ f => o (zT h0) (o (o h1 h2) (o (zF h3) (o (zF h4) f)))) (by kernel_rfl) (ih.2 _ _ _ _ _ _ _ _ _ _ h)
   ·rw [if_neg h0] at h
    obtain rfl := zI h
    exact Til.fin Tryz.func39 [(0, .b false)] (fun _ f => o (zF h0) f) (by kernel_rfl)
  ·intro x22 x23 x24 x32 x33 x34 x36 x37 x38 r h
   rw [model_Fits.l1] at h
   by_cases h0 : x38 < x37
   ·rw [if_pos h0] at h
    obtain ⟨h1, h⟩ := ifp h
    obtain ⟨h2, h⟩ := ifp h
    by_cases h3 : (gt (false, 0, false, [], [], 0, 0, false, false, [], [], false, [], []) x36 x38).2.1 < 0
    ·rw [if_pos h3] at h
     obtain rfl := zI h
     exact Til.fin Tryz.func39 [(0, .b true), (7, .b true)] (fun _ f => o (zT h0) (o (o h1 h2) (o (zT h3) f))) (by kernel_rfl)
    ·rw [if_neg h3] at h
     by_cases h4 : (gt (false, 0, false, [], [], 0, 0, false, false, [], [], false, [], []) x36 x38).2.1 > 64
     ·rw [if_pos h4] at h
      obtain rfl := zI h
      exact Til.fin Tryz.func39 [(0, .b true), (7, .b false), (11, .b true)] (fun _ f => o (zT h0) (o (o h1 h2) (o (zF h3) (o (zT h4) f)))) (by kernel_rfl)
     ·rw [if_neg h4] at h
      by_cases h5 : (gt (false, 0, false, [], [], 0, 0, false, false, [], [], false, [], []) x36 x38).2.2.2.2.2.1 < 0
      ·rw [if_pos h5] at h
       obtain rfl := zI h
       exact Til.fin Tryz.func39 [(0, .b true), (7, .b false), (11, .b false), (16, .b true)] (fun _ f => o (zT h0) (o (o h1 h2) (o (zF h3) (o (zF h4) (o (zT h5) f))))) (by kernel_rfl)
      ·rw [if_neg h5] at h
       by_cases h6 : (gt (false, 0, false, [], [], 0, 0, false, false, [], [], false, [], []) x36 x38).2.2.2.2.2.1 > 255
       ·rw [if_pos h6] at h
        obtain rfl := zI h
        exact Til.fin Tryz.func39 [(0, .b true), (7, .b false), (11, .b false), (16, .b false), (21, .b true)] (fun _ f => o (zT h0) (o (o h1 h2) (o (zF h3) (o (zF h4) (o (zF h5) (o (zT h6) f)))))) (by kernel_rfl)
       ·rw [if_neg h6] at h
        by_cases h7 : (gt (false, 0, false, [], [], 0, 0, false, false, [], [], false, [], []) x36 x38).2.2.2.2.2.2.1 < 0
        ·rw [if_pos h7] at h
         obtain rfl := zI h
         exact Til.fin Tryz.func39 [(0, .b true), (7, .b false), (11, .b false), (16, .b false), (21, .b false), (26, .b true)] (fun _ f => o (zT h0) (o (o h1 h2) (o (zF h3) (o (zF h4) (o (zF h5) (o (zF h6) (o (zT h7) f))))))) (by kernel_rfl)
        ·rw [if_neg h7] at h
         by_cases h8 : (gt (false, 0, false, [], [], 0, 0, false, false, [], [], false, [], []) x36 x38).2.2.2.2.2.2.1 > 255
         ·rw [if_pos h8] at h
          obtain rfl := zI h
          exact Til.fin Tryz.func39 [(0, .b true), (7, .b false), (11, .b false), (16, .b false), (21, .b false), (26, .b false), (31, .b true)] (fun _ f => o (zT h0) (o (o h1 h2) (o (zF h3) (o (zF h4) (o (zF h5) (o (zF h6) (o (zF h7) (o (zT h8) f)))))))) (by kernel_rfl)
         ·rw [if_neg h8] at h
          exact Til.mid Tryz.func39 9 [(0, .b true), (7, .b false), (11, .b false), (16, .b false), (21, .b false), (26, .b false), (31, .b false)] (fun _ f => o (zT h0) (o (o h1 h2) (o (zF h3) (o (zF h4) (o (zF h5) (o (zF h6) (o (zF h7) (o (zF h8) f)))))))) (by kernel_rfl) (ih.2 _ _ _ _ _ _ _ _ _ _ h)
   ·rw [if_neg h0] at h
    exact Til.mid Tryz.func39 4 [(0, .b false)] (fun _ f => o (zF h0) f) (by kernel_rfl) (ih.1 _ _ _ _ h)
theorem model_Fits.does {k : Nat} {a0_0 : Int} {l0_1 : ZLLN} {r : Bool} (h : model_Fits.f k a0_0 l0_1 = some r) :
 Does Tryz.prog 39 [.agg [.d (.int .i64 a0_0), .d (L101 l0_1)]] [] (.c (.d (.bool r))) none [] := by
 refine does_fn Tryz.func39 (by kernel_rfl) rfl rfl ?_
 unfold model_Fits.f at h
 have ih := model_Fits.w k
 by_cases h0 : a0_0 < 0
 ·rw [if_pos h0] at h
  obtain rfl := zI h
  exact Til.fin Tryz.func39 [(4, .b true)] (fun _ f => o (zT h0) f) (by kernel_rfl)
 ·rw [if_neg h0] at h
  by_cases h1 : a0_0 > 64
  ·rw [if_pos h1] at h
   obtain rfl := zI h
   exact Til.fin Tryz.func39 [(4, .b false), (8, .b true)] (fun _ f => o (zF h0) (o (zT h1) f)) (by kernel_rfl)
  ·rw [if_neg h1] at h
   by_cases h2 : (l0_1.length : Int) > 64
   ·rw [if_pos h2] at h
    obtain rfl := zI h
    exact Til.fin Tryz.func39 [(4, .b false), (8, .b false), (14, .b true)] (fun _ f => o (zF h0) (o (zF h1) (o (zT h2) f))) (by kernel_rfl)
   ·rw [if_neg h2] at h
    exact Til.mid Tryz.func39 4 [(4, .b false), (8, .b false), (14, .b false)] (fun _ f => o (zF h0) (o (zF h1) (o (zF h2) f))) (by kernel_rfl) (ih.1 _ _ _ _ h)

def valid_ranges.l0E (x0 : ZLN) (x1 : Int) (x8 : ZLN) (x9 : Int) (x10 : Int) : Env := [(0, .c (.d (L103 x0))), (1, .c (.d (.int .i64 x1))), (8, .c (.d (L103 x8))), (9, .c (.d (.int .i64 x9))), (10, .c (.d (.int .i64 x10)))]
theorem valid_ranges.w (k : Nat) : (∀  (x0 : ZLN) (x1 : Int) (x8 : ZLN) (x9 : Int) (x10 : Int) (r : Int × Int), valid_ranges.l0 k x0 x1 x8 x9 x10 = some r -> Til Tryz.prog 76 [] (.tup [.c (.d (.int .i64 r.1)), .c (.d (.int .i64 r.2))]) none [] (at_ Tryz.f76 2) (valid_ranges.l0E x0 x1 x8 x9 x10) []) := by
 induction k with
 | zero =>
  exact fun _ _ _ _ _ _ h => (by cases h)
 | succ k ih =>
  intro x0 x1 x8 x9 x10 r h
  rw [valid_ranges.l0] at h
  by_cases h0 : x10 < x9
  ·rw [if_pos h0] at h
   obtain ⟨h1, h⟩ := ifp h
   obtain ⟨h2, h⟩ := ifp h
   by_cases h3 : ((gt (false, 0, false, [], [], 0, 0, false, false, [], [], false, [], []) x8 x10).1) = true
   ·rw [if_pos h3] at h
    exact Til.mid Tryz.func76 2 [(0, .b true), (8, .b true)] (fun _ f => o (zT h0) (o (o h1 h2) (o h3 f))) (by kernel_rfl) (ih _ _ _ _ _ _ h)
   ·rw [if_neg h3] at h
    by_cases h4 : (gt (false, 0, false, [], [], 0, 0, false, false, [], [], false, [], []) x8 x10).2.1 < 0
    ·rw [if_pos h4] at h
     obtain rfl := zI h
     exact Til.fin Tryz.func76 [(0, .b true), (8, .b false), (11, .b true)] (fun _ f => o (zT h0) (o (o h1 h2) (o (Bool.eq_false_iff.2 h3) (o (zT h4) f)))) (by kernel_rfl)
    ·rw [if_neg h4] at h
     by_cases h5 : (gt (false, 0, false, [], [], 0, 0, false, false, [], [], false, [], []) x8 x10).2.1 >= x1
     ·rw [if_pos h5] at h
      obtain rfl := zI h
      exact Til.fin Tryz.func76 [(0, .b true), (8, .b false), (11, .b false), (16, .b true)] (fun _ f => o (zT h0) (o (o h1 h2) (o (Bool.eq_false_iff.2 h3) (o (zF h4) (o (zT h5) f))))) (by kernel_rfl)
     ·rw [if_neg h5] at h
      by_cases h6 : (gt (false, 0, false, [], [], 0, 0, false, false, [], [], false, [], []) x8 x10).2.2.2.2.2.1 < 1
      ·rw [if_pos h6] at h
       obtain rfl := zI h
       exact Til.fin Tryz.func76 [(0, .b true), (8, .b false), (11, .b false), (16, .b false), (21, .b true)] (fun _ f => o (zT h0) (o (o h1 h2) (o (Bool.eq_false_iff.2 h3) (o (zF h4) (o (zF h5) (o (zT h6) f)))))) (by kernel_rfl)
      ·rw [if_neg h6] at h
       by_cases h7 : (gt (false, 0, false, [], [], 0, 0, false, false, [], [], false, [], []) x8 x10).2.2.2.2.2.1 >= (x0.length : Int)
       ·rw [if_pos h7] at h
        obtain rfl := zI h
        exact Til.fin Tryz.func76 [(0, .b true), (8, .b false), (11, .b false), (16, .b false), (21, .b false), (28, .b true)] (fun _ f => o (zT h0) (o (o h1 h2) (o (Bool.eq_false_iff.2 h3) (o (zF h4) (o (zF h5) (o (zF h6) (o (zT h7) f))))))) (by kernel_rfl)
       ·rw [if_neg h7] at h
        by_cases h8 : (gt (false, 0, false, [], [], 0, 0, false, false, [], [], false, [], []) x8 x10).2.2.2.2.2.2.1 < 1
        ·rw [if_pos h8] at h
         obtain rfl := zI h
         exact Til.fin Tryz.func76 [(0, .b true), (8, .b false), (11, .b false), (16, .b false), (21, .b false), (28, .b false), (33, .b true)] (fun _ f => o (zT h0) (o (o h1 h2) (o (Bool.eq_false_iff.2 h3) (o (zF h4) (o (zF h5) (o (zF h6) (o (zF h7) (o (zT h8) f)))))))) (by kernel_rfl)
        ·rw [if_neg h8] at h
         by_cases h9 : (gt (false, 0, false, [], [], 0, 0, false, false, [], [], false, [], []) x8 x10).2.2.2.2.2.2.1 >= (x0.length : Int)
         ·rw [if_pos h9] at h
          obtain rfl := zI h
          exact Til.fin Tryz.func76 [(0, .b true), (8, .b false), (11, .b false), (16, .b false), (21, .b false), (28, .b false), (33, .b false), (40, .b true)] (fun _ f => o (zT h0) (o (o h1 h2) (o (Bool.eq_false_iff.2 h3) (o (zF h4) (o (zF h5) (o (zF h6) (o (zF h7) (o (zF h8) (o (zT h9) f))))))))) (by kernel_rfl)
         ·rw [if_neg h9] at h
          exact Til.mid Tryz.func76 2 [(0, .b true), (8, .b false), (11, .b false), (16, .b false), (21, .b false), (28, .b false), (33, .b false), (40, .b false)] (fun _ f => o (zT h0) (o (o h1 h2) (o (Bool.eq_false_iff.2 h3) (o (zF h4) (o (zF h5) (o (zF h6) (o (zF h7) (o (zF h8) (o (zF h9) f))))))))) (by kernel_rfl) (ih _ _ _ _ _ _ h)
  ·rw [if_neg h0] at h
   obtain rfl := zI h
   exact Til.fin Tryz.func76 [(0, .b false)] (fun _ f => o (zF h0) f) (by kernel_rfl)
theorem valid_ranges.does {k : Nat} {l0 : ZLN} {a1 : Int} {r : Int × Int} (h : valid_ranges.f k l0 a1 = some r) :
 Does Tryz.prog 76 [.c (.d (L103 l0)), .c (.d (.int .i64 a1))] [] (.tup [.c (.d (.int .i64 r.1)), .c (.d (.int .i64 r.2))]) none [] := by
 refine does_fn Tryz.func76 (by kernel_rfl) rfl rfl ?_
 unfold valid_ranges.f at h
 have ih := valid_ranges.w k
 exact Til.mid Tryz.func76 2 [] (fun _ f => f) (by kernel_rfl) (ih _ _ _ _ _ _ h)

def c3 (x : Int) : List Dat := [.int .i64 x]
def L3 (xs : ZI) : Dat := fr 1 c3 0 xs
def Z3 (xs : ZI) : Sup := .r xs.length (enc c3 0 xs)
def O3 (k : RK) (xs : ZI) : Ob := .row k 3 1 xs.length (enc c3 0 xs)

def c4 (x : Bool) : List Dat := [.bool x]
def L4 (xs : List Bool) : Dat := fr 1 c4 false xs
def Z4 (xs : List Bool) : Sup := .r xs.length (enc c4 false xs)
def O4 (k : RK) (xs : List Bool) : Ob := .row k 4 1 xs.length (enc c4 false xs)

def valid_shape.l0E (x0 : ZLN) (x4 : ZI) (x18 : ZLN) (x19 : Int) (x20 : Int) : Env := [(0, .c (.d (L103 x0))), (4, .c (.own 4)), (18, .c (.d (L103 x18))), (19, .c (.d (.int .i64 x19))), (20, .c (.d (.int .i64 x20)))]
def valid_shape.l0B (x0 : ZLN) (x4 : ZI) (x18 : ZLN) (x19 : Int) (x20 : Int) : Obs := [(4, some (O3 .own x4))]
def valid_shape.l1E (x0 : ZLN) (x42 : ZI) (x43 : Int) (x44 : Int) : Env := [(0, .c (.d (L103 x0))), (42, .c (.own 42)), (43, .c (.d (.int .i64 x43))), (44, .c (.d (.int .i64 x44)))]
def valid_shape.l1B (x0 : ZLN) (x42 : ZI) (x43 : Int) (x44 : Int) : Obs := [(42, some (O3 .own x42))]
def valid_shape.l2E (x0 : ZLN) (x9 : List Bool) (x10 : ZI) : Env := [(0, .c (.d (L103 x0))), (9, .c (.own 9)), (10, .c (.own 10))]
def valid_shape.l2B (x0 : ZLN) (x9 : List Bool) (x10 : ZI) : Obs := [(9, some (O4 .own x9)), (10, some (O3 .own x10))]
def valid_shape.l3E (x92 : List Bool) (x93 : Int) (x94 : Int) : Env := [(92, .c (.own 92)), (93, .c (.d (.int .i64 x93))), (94, .c (.d (.int .i64 x94)))]
def valid_shape.l3B (x92 : List Bool) (x93 : Int) (x94 : Int) : Obs := [(92, some (O4 .own x92))]
theorem valid_shape.w (k : Nat) : (∀  (x0 : ZLN) (x4 : ZI) (x18 : ZLN) (x19 : Int) (x20 : Int) (r : Int × Int), valid_shape.l0 k x0 x4 x18 x19 x20 = some r -> Til Tryz.prog 77 [] (.tup [.c (.d (.int .i64 r.1)), .c (.d (.int .i64 r.2))]) none [] (at_ Tryz.f77 3) (valid_shape.l0E x0 x4 x18 x19 x20) (valid_shape.l0B x0 x4 x18 x19 x20)) /\
 (∀  (x0 : ZLN) (x42 : ZI) (x43 : Int) (x44 : Int) (r : Int × Int), valid_shape.l1 k x0 x42 x43 x44 = some r -> Til Tryz.prog 77 [] (.tup [.c (.d (.int .i64 r.1)), .c (.d (.int .i64 r.2))]) none [] (at_ Tryz.f77 10) (valid_shape.l1E x0 x42 x43 x44) (valid_shape.l1B x0 x42 x43 x44)) /\
 (∀  (x0 : ZLN) (x9 : List Bool) (x10 : ZI) (r : Int × Int), valid_shape.l2 k x0 x9 x10 = some r -> Til Tryz.prog 77 [] (.tup [.c (.d (.int .i64 r.1)), .c (.d (.int .i64 r.2))]) none [] (at_ Tryz.f77 17) (valid_shape.l2E x0 x9 x10) (valid_shape.l2B x0 x9 x10)) /\
 (∀  (x92 : List Bool) (x93 : Int) (x94 : Int) (r : Int × Int), valid_shape.l3 k x92 x93 x94 = some r -> Til Tryz.prog 77 [] (.tup [.c (.d (.int .i64 r.1)), .c (.d (.int .i64 r.2))]) none [] (at_ Tryz.f77 25) (valid_shape.l3E x92 x93 x94) (valid_shape.l3B x92 x93 x94)) := by
 induction k with
 | zero =>
  exact ⟨fun _ _ _ _ _ _ h => (by cases h), fun _ _ _ _ _ h => (by cases h), fun _ _ _ _ h => (by cases h), fun _ _ _ _ h => (by cases h)⟩
 | succ k ih =>
  refine ⟨?_, ?_, ?_, ?_⟩
  ·intro x0 x4 x18 x19 x20 r h
   rw [valid_shape.l0] at h
   by_cases h0 : x20 < x19
   ·rw [if_pos h0] at h
    obtain ⟨h1, h⟩ := ifp h
    obtain ⟨h2, h⟩ := ifp h
    by_cases h3 : ((gt (false, 0, false, [], [], 0, 0, false, false, [], [], false, [], []) x18 x20).1) = true
    ·rw [if_pos h3] at h
     exact Til.mid Tryz.func77 3 [(0, .b true), (6, .b true)] (fun _ f => o (zT h0) (o (o h1 h2) (o h3 f))) (by kernel_rfl) (ih.1 _ _ _ _ _ _ h)
    ·rw [if_neg h3] at h
     obtain ⟨h4, h⟩ := ifp h
     obtain ⟨h5, h⟩ := ifp h
     obtain ⟨h6, h⟩ := ifp h
     obtain ⟨h7, h⟩ := ifp h
     exact Til.mid Tryz.func77 3 [(0, .b true), (6, .b false), (15, Z3 (x4.set (((gt (false, 0, false, [], [], 0, 0, false, false, [], [], false, [], []) x18 x20).2.2.2.2.2.1 : Int).toNat) (wrap64 ((rd x4 ((gt (false, 0, false, [], [], 0, 0, false, false, [], [], false, [], []) x18 x20).2.2.2.2.2.1)) + 1)))), (23, Z3 ((x4.set (((gt (false, 0, false, [], [], 0, 0, false, false, [], [], false, [], []) x18 x20).2.2.2.2.2.1 : Int).toNat) (wrap64 ((rd x4 ((gt (false, 0, false, [], [], 0, 0, false, false, [], [], false, [], []) x18 x20).2.2.2.2.2.1)) + 1))).set (((gt (false, 0, false, [], [], 0, 0, false, false, [], [], false, [], []) x18 x20).2.2.2.2.2.2.1 : Int).toNat) (wrap64 ((rd (x4.set (((gt (false, 0, false, [], [], 0, 0, false, false, [], [], false, [], []) x18 x20).2.2.2.2.2.1 : Int).toNat) (wrap64 ((rd x4 ((gt (false, 0, false, [], [], 0, 0, false, false, [], [], false, [], []) x18 x20).2.2.2.2.2.1)) + 1))) ((gt (false, 0, false, [], [], 0, 0, false, false, [], [], false, [], []) x18 x20).2.2.2.2.2.2.1)) + 1))))] (fun _ f => o (zT h0) (o (o h1 h2) (o (Bool.eq_false_iff.2 h3) (o (o h4 h5) (o (o h4 h5) (o (set_ok c3 0 (fun _ _ => rfl) x4 (((gt (false, 0, false, [], [], 0, 0, false, false, [], [], false, [], []) x18 x20).2.2.2.2.2.1 : Int).toNat) (wrap64 ((rd x4 ((gt (false, 0, false, [], [], 0, 0, false, false, [], [], false, [], []) x18 x20).2.2.2.2.2.1)) + 1)) (lt_ok h4 h5)) (o (o h6 h7) (o (o h6 h7) (o (set_ok c3 0 (fun _ _ => rfl) (x4.set (((gt (false, 0, false, [], [], 0, 0, false, false, [], [], false, [], []) x18 x20).2.2.2.2.2.1 : Int).toNat) (wrap64 ((rd x4 ((gt (false, 0, false, [], [], 0, 0, false, false, [], [], false, [], []) x18 x20).2.2.2.2.2.1)) + 1))) (((gt (false, 0, false, [], [], 0, 0, false, false, [], [], false, [], []) x18 x20).2.2.2.2.2.2.1 : Int).toNat) (wrap64 ((rd (x4.set (((gt (false, 0, false, [], [], 0, 0, false, false, [], [], false, [], []) x18 x20).2.2.2.2.2.1 : Int).toNat) (wrap64 ((rd x4 ((gt (false, 0, false, [], [], 0, 0, false, false, [], [], false, [], []) x18 x20).2.2.2.2.2.1)) + 1))) ((gt (false, 0, false, [], [], 0, 0, false, false, [], [], false, [], []) x18 x20).2.2.2.2.2.2.1)) + 1)) (lt_ok h6 h7)) f))))))))) (by kernel_rfl) (ih.1 _ _ _ _ _ _ h)
   ·rw [if_neg h0] at h
    exact Til.mid Tryz.func77 10 [(0, .b false)] (fun _ f => o (zF h0) f) (by kernel_rfl) (ih.2.1 _ _ _ _ _ h)
  ·intro x0 x42 x43 x44 r h
   rw [valid_shape.l1] at h
   by_cases h0 : x44 < x43
   ·rw [if_pos h0] at h
    obtain ⟨h1, h⟩ := ifp h
    obtain ⟨h2, h⟩ := ifp h
    by_cases h3 : x44 > 0
    ·rw [if_pos h3] at h
     by_cases h4 : (rd x42 x44) ≠ 1
     ·rw [if_pos h4] at h
      obtain rfl := zI h
      exact Til.fin Tryz.func77 [(0, .b true), (7, .b true), (10, .b true)] (fun _ f => o (zT h0) (o (o h1 h2) (o (zT h3) (o (bne_iff_ne.2 h4) f)))) (by kernel_rfl)
     ·rw [if_neg h4] at h
      exact Til.mid Tryz.func77 10 [(0, .b true), (7, .b true), (10, .b false)] (fun _ f => o (zT h0) (o (o h1 h2) (o (zT h3) (o (ne_f h4) f)))) (by kernel_rfl) (ih.2.1 _ _ _ _ _ h)
    ·rw [if_neg h3] at h
     exact Til.mid Tryz.func77 10 [(0, .b true), (7, .b false)] (fun _ f => o (zT h0) (o (o h1 h2) (o (zF h3) f))) (by kernel_rfl) (ih.2.1 _ _ _ _ _ h)
   ·rw [if_neg h0] at h
    obtain ⟨h1, h⟩ := ifp h
    exact Til.mid Tryz.func77 17 [(0, .b false), (3, Z4 (List.replicate (((x0.length : Int) : Int).toNat) false : List Bool)), (5, Z3 ([0] : ZI))] (fun _ f => o (zF h0) (o (make_ok c4 false [.bool false] ⟨.refl _, trivial⟩ (x0.length : Int) 1 281474976710656 (by decide) (Int.natCast_nonneg x0.length) h1) (o (lit_ok c3 0 ([0] : ZI)) f))) (by kernel_rfl) (ih.2.2.1 _ _ _ _ h)
  ·intro x0 x9 x10 r h
   rw [valid_shape.l2] at h
   by_cases h0 : (x10.length : Int) > 0
   ·rw [if_pos h0] at h
    obtain ⟨h1, h⟩ := ifp h
    obtain ⟨h2, h⟩ := ifp h
    obtain ⟨h3, h⟩ := ifp h
    obtain ⟨h4, h⟩ := ifp h
    obtain ⟨h5, h⟩ := ifp h
    obtain ⟨h6, h⟩ := ifp h
    by_cases h7 : ((gt (false, 0, false, [], [], 0, 0, false, false, [], [], false, [], []) x0 (rd x10 (wrap64 ((x10.length : Int) - 1)))).1) = true
    ·rw [if_pos h7] at h
     exact Til.mid Tryz.func77 17 [(2, .b true), (14, Z3 (x10.take (((wrap64 ((x10.length : Int) - 1)) : Int).toNat))), (19, Z4 (x9.set (((rd x10 (wrap64 ((x10.length : Int) - 1))) : Int).toNat) true)), (27, .b true)] (fun _ f => o (zT h0) (o (o h1 h2) (o (take_ok c3 0 x10 h1 h3) (o (o h4 h5) (o (set_ok c4 false (fun _ _ => rfl) x9 (((rd x10 (wrap64 ((x10.length : Int) - 1))) : Int).toNat) true (lt_ok h4 h5)) (o (o h4 h6) (o h7 f))))))) (by kernel_rfl) (ih.2.2.1 _ _ _ _ h)
    ·rw [if_neg h7] at h
     obtain ⟨h8, h⟩ := ifp h
     exact Til.mid Tryz.func77 17 [(2, .b true), (14, Z3 (x10.take (((wrap64 ((x10.length : Int) - 1)) : Int).toNat))), (19, Z4 (x9.set (((rd x10 (wrap64 ((x10.length : Int) - 1))) : Int).toNat) true)), (27, .b false), (34, Z3 ([(gt (false, 0, false, [], [], 0, 0, false, false, [], [], false, [], []) x0 (rd x10 (wrap64 ((x10.length : Int) - 1)))).2.2.2.2.2.1, (gt (false, 0, false, [], [], 0, 0, false, false, [], [], false, [], []) x0 (rd x10 (wrap64 ((x10.length : Int) - 1)))).2.2.2.2.2.2.1] : ZI)), (35, Z3 ((x10.take (((wrap64 ((x10.length : Int) - 1)) : Int).toNat)) ++ ([(gt (false, 0, false, [], [], 0, 0, false, false, [], [], false, [], []) x0 (rd x10 (wrap64 ((x10.length : Int) - 1)))).2.2.2.2.2.1, (gt (false, 0, false, [], [], 0, 0, false, false, [], [], false, [], []) x0 (rd x10 (wrap64 ((x10.length : Int) - 1)))).2.2.2.2.2.2.1] : ZI)))] (fun _ f => o (zT h0) (o (o h1 h2) (o (take_ok c3 0 x10 h1 h3) (o (o h4 h5) (o (set_ok c4 false (fun _ _ => rfl) x9 (((rd x10 (wrap64 ((x10.length : Int) - 1))) : Int).toNat) true (lt_ok h4 h5)) (o (o h4 h6) (o (Bool.eq_false_iff.2 h7) (o (lit_ok c3 0 ([(gt (false, 0, false, [], [], 0, 0, false, false, [], [], false, [], []) x0 (rd x10 (wrap64 ((x10.length : Int) - 1)))).2.2.2.2.2.1, (gt (false, 0, false, [], [], 0, 0, false, false, [], [], false, [], []) x0 (rd x10 (wrap64 ((x10.length : Int) - 1)))).2.2.2.2.2.2.1] : ZI)) (o (app c3 0 (x10.take (((wrap64 ((x10.length : Int) - 1)) : Int).toNat)) ([(gt (false, 0, false, [], [], 0, 0, false, false, [], [], false, [], []) x0 (rd x10 (wrap64 ((x10.length : Int) - 1)))).2.2.2.2.2.1, (gt (false, 0, false, [], [], 0, 0, false, false, [], [], false, [], []) x0 (rd x10 (wrap64 ((x10.length : Int) - 1)))).2.2.2.2.2.2.1] : ZI) 8 17592186044416 (by decide) h8) f))))))))) (by kernel_rfl) (ih.2.2.1 _ _ _ _ h)
   ·rw [if_neg h0] at h
    exact Til.mid Tryz.func77 25 [(2, .b false)] (fun _ f => o (zF h0) f) (by kernel_rfl) (ih.2.2.2 _ _ _ _ h)
  ·intro x92 x93 x94 r h
   rw [valid_shape.l3] at h
   by_cases h0 : x94 < x93
   ·rw [if_pos h0] at h
    obtain ⟨h1, h⟩ := ifp h
    obtain ⟨h2, h⟩ := ifp h
    by_cases h3 : (x92.getD ((x94 : Int).toNat) false) = true
    ·rw [if_pos h3] at h
     exact Til.mid Tryz.func77 25 [(0, .b true), (3, .b true)] (fun _ f => o (zT h0) (o (o h1 h2) (o h3 f))) (by kernel_rfl) (ih.2.2.2 _ _ _ _ h)
    ·rw [if_neg h3] at h
     obtain rfl := zI h
     exact Til.fin Tryz.func77 [(0, .b true), (3, .b false)] (fun _ f => o (zT h0) (o (o h1 h2) (o (Bool.eq_false_iff.2 h3) f))) (by kernel_rfl)
   ·rw [if_neg h0] at h
    obtain rfl := zI h
    exact Til.fin Tryz.func77 [(0, .b false)] (fun _ f => o (zF h0) f) (by kernel_rfl)
theorem valid_shape.does {k : Nat} {l0 : ZLN} {r : Int × Int} (h : valid_shape.f k l0 = some r) :
 Does Tryz.prog 77 [.c (.d (L103 l0))] [] (.tup [.c (.d (.int .i64 r.1)), .c (.d (.int .i64 r.2))]) none [] := by
 refine does_fn Tryz.func77 (by kernel_rfl) rfl rfl ?_
 unfold valid_shape.f at h
 have ih := valid_shape.w k
 obtain ⟨h0, h⟩ := ifp h
 exact Til.mid Tryz.func77 3 [(4, Z3 (List.replicate (((l0.length : Int) : Int).toNat) 0 : ZI))] (fun _ f => o (make_ok c3 0 [.int .i64 0] ⟨.refl _, trivial⟩ (l0.length : Int) 8 35184372088832 (by decide) (Int.natCast_nonneg l0.length) h0) f) (by kernel_rfl) (ih.1 _ _ _ _ _ _ h)

theorem whole_Sign.does {k : Nat} {a0_0 : Bool} {l0_1 : ZI} {r : Int} (h : whole_Sign.f k a0_0 l0_1 = some r) :
 Does Tryz.prog 68 [.agg [.d (.bool a0_0), .d (L154 l0_1)]] [] (.c (.d (.int .i64 r))) none [] := by
 refine does_fn Tryz.func68 (by kernel_rfl) rfl rfl ?_
 unfold whole_Sign.f at h
 obtain ⟨v3, h0, h⟩ := bnd h
 by_cases h1 : v3.1 = true
 ·rw [if_pos h1] at h
  obtain rfl := zI h
  exact Til.fin Tryz.func68 [(3, ca (.agg [.d (.bool v3.1), .d (L154 v3.2)])), (6, .b true)] (fun _ f => o (whole_Clean.does h0) (o h1 f)) (by kernel_rfl)
 ·rw [if_neg h1] at h
  by_cases h2 : (v3.2.length : Int) = 0
  ·rw [if_pos h2] at h
   obtain rfl := zI h
   exact Til.fin Tryz.func68 [(3, ca (.agg [.d (.bool v3.1), .d (L154 v3.2)])), (6, .b false), (11, .b true)] (fun _ f => o (whole_Clean.does h0) (o (Bool.eq_false_iff.2 h1) (o (beq_iff_eq.2 h2) f))) (by kernel_rfl)
  ·rw [if_neg h2] at h
   obtain rfl := zI h
   exact Til.fin Tryz.func68 [(3, ca (.agg [.d (.bool v3.1), .d (L154 v3.2)])), (6, .b false), (11, .b false)] (fun _ f => o (whole_Clean.does h0) (o (Bool.eq_false_iff.2 h1) (o (zB h2) f))) (by kernel_rfl)

theorem ratio_Sign.does {k : Nat} {a0_0 : Bool} {l0_1 : ZI} {l0_2 : ZI} {r : Int} (h : ratio_Sign.f k a0_0 l0_1 l0_2 = some r) :
 Does Tryz.prog 28 [.agg [.d (.bool a0_0), .d (L154 l0_1), .d (L154 l0_2)]] [] (.c (.d (.int .i64 r))) none [] := by
 refine does_fn Tryz.func28 (by kernel_rfl) rfl rfl ?_
 unfold ratio_Sign.f at h
 obtain ⟨v3, h0, h⟩ := bnd h
 obtain ⟨v5, h1, h⟩ := bnd h
 obtain rfl := zI h
 exact Til.fin Tryz.func28 [(3, ca (.agg [.d (.bool v3.1), .d (L154 v3.2.1), .d (L154 v3.2.2)])), (5, ca (.c (.d (.int .i64 v5))))] (fun _ f => o (ratio_Clean.does h0) (o (whole_Sign.does h1) f)) (by kernel_rfl)

def valid_covers.l0E (x6 : ZLN) (x7 : Int) (x8 : Int) : Env := [(6, .c (.d (L103 x6))), (7, .c (.d (.int .i64 x7))), (8, .c (.d (.int .i64 x8)))]
theorem valid_covers.w (k : Nat) : (∀  (x6 : ZLN) (x7 : Int) (x8 : Int) (r : Int × Int), valid_covers.l0 k x6 x7 x8 = some r -> Til Tryz.prog 78 [] (.tup [.c (.d (.int .i64 r.1)), .c (.d (.int .i64 r.2))]) none [] (at_ Tryz.f78 2) (valid_covers.l0E x6 x7 x8) []) := by
 induction k with
 | zero =>
  exact fun _ _ _ _ h => (by cases h)
 | succ k ih =>
  intro x6 x7 x8 r h
  rw [valid_covers.l0] at h
  by_cases h0 : x8 < x7
  ·rw [if_pos h0] at h
   obtain ⟨h1, h⟩ := ifp h
   obtain ⟨h2, h⟩ := ifp h
   obtain ⟨v9, h3, h⟩ := bnd h
   by_cases h4 : v9 <= 0
   ·rw [if_pos h4] at h
    obtain rfl := zI h
    exact Til.fin Tryz.func78 [(0, .b true), (9, ca (.c (.d (.int .i64 v9)))), (10, .b true)] (fun _ f => o (zT h0) (o (o h1 h2) (o (ratio_Sign.does h3) (o (zT h4) f)))) (by kernel_rfl)
   ·rw [if_neg h4] at h
    exact Til.mid Tryz.func78 2 [(0, .b true), (9, ca (.c (.d (.int .i64 v9)))), (10, .b false)] (fun _ f => o (zT h0) (o (o h1 h2) (o (ratio_Sign.does h3) (o (zF h4) f)))) (by kernel_rfl) (ih _ _ _ _ h)
  ·rw [if_neg h0] at h
   obtain rfl := zI h
   exact Til.fin Tryz.func78 [(0, .b false)] (fun _ f => o (zF h0) f) (by kernel_rfl)
theorem valid_covers.does {k : Nat} {l0 : ZLN} {r : Int × Int} (h : valid_covers.f k l0 = some r) :
 Does Tryz.prog 78 [.c (.d (L103 l0))] [] (.tup [.c (.d (.int .i64 r.1)), .c (.d (.int .i64 r.2))]) none [] := by
 refine does_fn Tryz.func78 (by kernel_rfl) rfl rfl ?_
 unfold valid_covers.f at h
 have ih := valid_covers.w k
 exact Til.mid Tryz.func78 2 [] (fun _ f => f) (by kernel_rfl) (ih _ _ _ _ h)

theorem nat_Cmp.does {k : Nat} {l0 : ZI} {l1 : ZI} {r : Int} (h : nat_Cmp.f k l0 l1 = some r) :
 Does Tryz.prog 88 [.c (.d (L154 l0)), .c (.d (L154 l1))] [] (.c (.d (.int .i64 r))) none [] := by
 refine does_fn Tryz.func88 (by kernel_rfl) rfl rfl ?_
 unfold nat_Cmp.f at h
 obtain ⟨v2, h0, h⟩ := bnd h
 obtain ⟨v4, h1, h⟩ := bnd h
 obtain ⟨v5, h2, h⟩ := bnd h
 obtain rfl := zI h
 exact Til.fin Tryz.func88 [(2, ca (.c (.d (L154 v2)))), (4, ca (.c (.d (L154 v4)))), (5, ca (.c (.d (.int .i64 v5))))] (fun _ f => o (nat_Clean.does h0) (o (nat_Clean.does h1) (o (nat_order.does h2) f))) (by kernel_rfl)

theorem nat_Sub.does {k : Nat} {l0 : ZI} {l1 : ZI} {r : ZI × Int} (h : nat_Sub.f k l0 l1 = some r) :
 Does Tryz.prog 127 [.c (.d (L154 l0)), .c (.d (L154 l1))] [] (.tup [.c (.d (L154 r.1)), .c (.d (.int .i64 r.2))]) none [] := by
 refine does_fn Tryz.func127 (by kernel_rfl) rfl rfl ?_
 unfold nat_Sub.f at h
 obtain ⟨v3, h0, h⟩ := bnd h
 obtain ⟨v5, h1, h⟩ := bnd h
 obtain ⟨v10, h2, h⟩ := bnd h
 by_cases h3 : v10 < 0
 ·rw [if_pos h3] at h
  obtain rfl := zI h
  exact Til.fin Tryz.func127 [(3, ca (.c (.d (L154 v3)))), (5, ca (.c (.d (L154 v5)))), (10, ca (.c (.d (.int .i64 v10)))), (11, .b true)] (fun _ f => o (nat_Clean.does h0) (o (nat_Clean.does h1) (o (nat_order.does h2) (o (zT h3) f)))) (by kernel_rfl)
 ·rw [if_neg h3] at h
  obtain ⟨v14, h4, h⟩ := bnd h
  obtain rfl := zI h
  exact Til.fin Tryz.func127 [(3, ca (.c (.d (L154 v3)))), (5, ca (.c (.d (L154 v5)))), (10, ca (.c (.d (.int .i64 v10)))), (11, .b false), (14, ca (.c (.d (L154 v14))))] (fun _ f => o (nat_Clean.does h0) (o (nat_Clean.does h1) (o (nat_order.does h2) (o (zF h3) (o (nat_minus.does h4) f))))) (by kernel_rfl)

theorem whole_Add.does {k : Nat} {a0_0 : Bool} {l0_1 : ZI} {a1_0 : Bool} {l1_1 : ZI} {r : Bool × ZI} (h : whole_Add.f k a0_0 l0_1 a1_0 l1_1 = some r) :
 Does Tryz.prog 64 [.agg [.d (.bool a0_0), .d (L154 l0_1)], .agg [.d (.bool a1_0), .d (L154 l1_1)]] [] (.agg [.d (.bool r.1), .d (L154 r.2)]) none [] := by
 refine does_fn Tryz.func64 (by kernel_rfl) rfl rfl ?_
 unfold whole_Add.f at h
 obtain ⟨v4, h0, h⟩ := bnd h
 obtain ⟨v6, h1, h⟩ := bnd h
 by_cases h2 : v4.1 = v6.1
 ·rw [if_pos h2] at h
  obtain ⟨v20, h3, h⟩ := bnd h
  obtain ⟨v21, h4, h⟩ := bnd h
  obtain rfl := zI h
  exact Til.fin Tryz.func64 [(4, ca (.agg [.d (.bool v4.1), .d (L154 v4.2)])), (6, ca (.agg [.d (.bool v6.1), .d (L154 v6.2)])), (13, .b true), (20, ca (.c (.d (L154 v20)))), (21, ca (.agg [.d (.bool v21.1), .d (L154 v21.2)]))] (fun _ f => o (whole_Clean.does h0) (o (whole_Clean.does h1) (o (beq_iff_eq.2 h2) (o (nat_Add.does h3) (o (whole_sign.does h4) f))))) (by kernel_rfl)
 ·rw [if_neg h2] at h
  obtain ⟨v18, h3, h⟩ := bnd h
  by_cases h4 : v18 < 0
  ·rw [if_pos h4] at h
   obtain ⟨v28, h5, h⟩ := bnd h
   obtain ⟨v37, h6, h⟩ := bnd h
   obtain rfl := zI h
   exact Til.fin Tryz.func64 [(4, ca (.agg [.d (.bool v4.1), .d (L154 v4.2)])), (6, ca (.agg [.d (.bool v6.1), .d (L154 v6.2)])), (13, .b false), (18, ca (.c (.d (.int .i64 v18)))), (19, .b true), (28, ca (.tup [.c (.d (L154 v28.1)), .c (.d (.int .i64 v28.2))])), (37, ca (.agg [.d (.bool v37.1), .d (L154 v37.2)]))] (fun _ f => o (whole_Clean.does h0) (o (whole_Clean.does h1) (o (zB h2) (o (nat_Cmp.does h3) (o (zT h4) (o (nat_Sub.does h5) (o (whole_sign.does h6) f))))))) (by kernel_rfl)
  ·rw [if_neg h4] at h
   obtain ⟨v24, h5, h⟩ := bnd h
   obtain ⟨v33, h6, h⟩ := bnd h
   obtain rfl := zI h
   exact Til.fin Tryz.func64 [(4, ca (.agg [.d (.bool v4.1), .d (L154 v4.2)])), (6, ca (.agg [.d (.bool v6.1), .d (L154 v6.2)])), (13, .b false), (18, ca (.c (.d (.int .i64 v18)))), (19, .b false), (24, ca (.tup [.c (.d (L154 v24.1)), .c (.d (.int .i64 v24.2))])), (33, ca (.agg [.d (.bool v33.1), .d (L154 v33.2)]))] (fun _ f => o (whole_Clean.does h0) (o (whole_Clean.does h1) (o (zB h2) (o (nat_Cmp.does h3) (o (zF h4) (o (nat_Sub.does h5) (o (whole_sign.does h6) f))))))) (by kernel_rfl)

theorem whole_Mul.does {k : Nat} {a0_0 : Bool} {l0_1 : ZI} {a1_0 : Bool} {l1_1 : ZI} {r : Bool × ZI} (h : whole_Mul.f k a0_0 l0_1 a1_0 l1_1 = some r) :
 Does Tryz.prog 65 [.agg [.d (.bool a0_0), .d (L154 l0_1)], .agg [.d (.bool a1_0), .d (L154 l1_1)]] [] (.agg [.d (.bool r.1), .d (L154 r.2)]) none [] := by
 refine does_fn Tryz.func65 (by kernel_rfl) rfl rfl ?_
 unfold whole_Mul.f at h
 obtain ⟨v4, h0, h⟩ := bnd h
 obtain ⟨v6, h1, h⟩ := bnd h
 obtain ⟨v18, h2, h⟩ := bnd h
 obtain ⟨v19, h3, h⟩ := bnd h
 obtain rfl := zI h
 exact Til.fin Tryz.func65 [(4, ca (.agg [.d (.bool v4.1), .d (L154 v4.2)])), (6, ca (.agg [.d (.bool v6.1), .d (L154 v6.2)])), (18, ca (.c (.d (L154 v18)))), (19, ca (.agg [.d (.bool v19.1), .d (L154 v19.2)]))] (fun _ f => o (whole_Clean.does h0) (o (whole_Clean.does h1) (o (nat_Mul.does h2) (o (whole_sign.does h3) f)))) (by kernel_rfl)

theorem ratio_den.does {a0_0 : Bool} {l0_1 : ZI} {l0_2 : ZI} {r : Bool × ZI} (h : ratio_den.f a0_0 l0_1 l0_2 = some r) :
 Does Tryz.prog 66 [.agg [.d (.bool a0_0), .d (L154 l0_1), .d (L154 l0_2)]] [] (.agg [.d (.bool r.1), .d (L154 r.2)]) none [] := by
 refine does_fn Tryz.func66 (by kernel_rfl) rfl rfl ?_
 unfold ratio_den.f at h
 obtain rfl := zI h
 exact Til.fin Tryz.func66 [] (fun _ f => f) (by kernel_rfl)

theorem ratio_Add.does {k : Nat} {a0_0 : Bool} {l0_1 : ZI} {l0_2 : ZI} {a1_0 : Bool} {l1_1 : ZI} {l1_2 : ZI} {r : ZQ} (h : ratio_Add.f k a0_0 l0_1 l0_2 a1_0 l1_1 l1_2 = some r) :
 Does Tryz.prog 27 [.agg [.d (.bool a0_0), .d (L154 l0_1), .d (L154 l0_2)], .agg [.d (.bool a1_0), .d (L154 l1_1), .d (L154 l1_2)]] [] (.agg [.d (.bool r.1), .d (L154 r.2.1), .d (L154 r.2.2)]) none [] := by
 refine does_fn Tryz.func27 (by kernel_rfl) rfl rfl ?_
 unfold ratio_Add.f at h
 obtain ⟨v4, h0, h⟩ := bnd h
 obtain ⟨v6, h1, h⟩ := bnd h
 obtain ⟨v12, h2, h⟩ := bnd h
 obtain ⟨v13, h3, h⟩ := bnd h
 obtain ⟨v17, h4, h⟩ := bnd h
 obtain ⟨v18, h5, h⟩ := bnd h
 obtain ⟨v19, h6, h⟩ := bnd h
 obtain ⟨v24, h7, h⟩ := bnd h
 obtain ⟨v25, h8, h⟩ := bnd h
 obtain rfl := zI h
 exact Til.fin Tryz.func27 [(4, ca (.agg [.d (.bool v4.1), .d (L154 v4.2.1), .d (L154 v4.2.2)])), (6, ca (.agg [.d (.bool v6.1), .d (L154 v6.2.1), .d (L154 v6.2.2)])), (12, ca (.agg [.d (.bool v12.1), .d (L154 v12.2)])), (13, ca (.agg [.d (.bool v13.1), .d (L154 v13.2)])), (17, ca (.agg [.d (.bool v17.1), .d (L154 v17.2)])), (18, ca (.agg [.d (.bool v18.1), .d (L154 v18.2)])), (19, ca (.agg [.d (.bool v19.1), .d (L154 v19.2)])), (24, ca (.c (.d (L154 v24)))), (25, ca (.agg [.d (.bool v25.1), .d (L154 v25.2.1), .d (L154 v25.2.2)]))] (fun _ f => o (ratio_Clean.does h0) (o (ratio_Clean.does h1) (o (ratio_den.does h2) (o (whole_Mul.does h3) (o (ratio_den.does h4) (o (whole_Mul.does h5) (o (whole_Add.does h6) (o (nat_Mul.does h7) (o (ratio_form.does h8) f))))))))) (by kernel_rfl)

theorem whole_Cmp.does {k : Nat} {a0_0 : Bool} {l0_1 : ZI} {a1_0 : Bool} {l1_1 : ZI} {r : Int} (h : whole_Cmp.f k a0_0 l0_1 a1_0 l1_1 = some r) :
 Does Tryz.prog 191 [.agg [.d (.bool a0_0), .d (L154 l0_1)], .agg [.d (.bool a1_0), .d (L154 l1_1)]] [] (.c (.d (.int .i64 r))) none [] := by
 refine does_fn Tryz.func191 (by kernel_rfl) rfl rfl ?_
 unfold whole_Cmp.f at h
 obtain ⟨v4, h0, h⟩ := bnd h
 obtain ⟨v6, h1, h⟩ := bnd h
 by_cases h2 : v4.1 ≠ v6.1
 ·rw [if_pos h2] at h
  by_cases h3 : v4.1 = true
  ·rw [if_pos h3] at h
   obtain rfl := zI h
   exact Til.fin Tryz.func191 [(4, ca (.agg [.d (.bool v4.1), .d (L154 v4.2)])), (6, ca (.agg [.d (.bool v6.1), .d (L154 v6.2)])), (13, .b true), (16, .b true)] (fun _ f => o (whole_Clean.does h0) (o (whole_Clean.does h1) (o (nb_t h2) (o h3 f)))) (by kernel_rfl)
  ·rw [if_neg h3] at h
   by_cases h4 : v4.1 ≠ v6.1
   ·rw [if_pos h4] at h
    obtain rfl := zI h
    exact Til.fin Tryz.func191 [(4, ca (.agg [.d (.bool v4.1), .d (L154 v4.2)])), (6, ca (.agg [.d (.bool v6.1), .d (L154 v6.2)])), (13, .b true), (16, .b false), (23, .b true)] (fun _ f => o (whole_Clean.does h0) (o (whole_Clean.does h1) (o (nb_t h2) (o (Bool.eq_false_iff.2 h3) (o (nb_t h4) f))))) (by kernel_rfl)
   ·rw [if_neg h4] at h
    by_cases h5 : v4.1 = true
    ·rw [if_pos h5] at h
     obtain ⟨v32, h6, h⟩ := bnd h
     obtain rfl := zI h
     exact Til.fin Tryz.func191 [(4, ca (.agg [.d (.bool v4.1), .d (L154 v4.2)])), (6, ca (.agg [.d (.bool v6.1), .d (L154 v6.2)])), (13, .b true), (16, .b false), (23, .b false), (26, .b true), (32, ca (.c (.d (.int .i64 v32))))] (fun _ f => o (whole_Clean.does h0) (o (whole_Clean.does h1) (o (nb_t h2) (o (Bool.eq_false_iff.2 h3) (o (nb_f h4) (o h5 (o (nat_Cmp.does h6) f))))))) (by kernel_rfl)
    ·rw [if_neg h5] at h
     obtain ⟨v32, h6, h⟩ := bnd h
     obtain rfl := zI h
     exact Til.fin Tryz.func191 [(4, ca (.agg [.d (.bool v4.1), .d (L154 v4.2)])), (6, ca (.agg [.d (.bool v6.1), .d (L154 v6.2)])), (13, .b true), (16, .b false), (23, .b false), (26, .b false), (32, ca (.c (.d (.int .i64 v32))))] (fun _ f => o (whole_Clean.does h0) (o (whole_Clean.does h1) (o (nb_t h2) (o (Bool.eq_false_iff.2 h3) (o (nb_f h4) (o (Bool.eq_false_iff.2 h5) (o (nat_Cmp.does h6) f))))))) (by kernel_rfl)
 ·rw [if_neg h2] at h
  by_cases h3 : v4.1 ≠ v6.1
  ·rw [if_pos h3] at h
   obtain rfl := zI h
   exact Til.fin Tryz.func191 [(4, ca (.agg [.d (.bool v4.1), .d (L154 v4.2)])), (6, ca (.agg [.d (.bool v6.1), .d (L154 v6.2)])), (13, .b false), (23, .b true)] (fun _ f => o (whole_Clean.does h0) (o (whole_Clean.does h1) (o (nb_f h2) (o (nb_t h3) f)))) (by kernel_rfl)
  ·rw [if_neg h3] at h
   by_cases h4 : v4.1 = true
   ·rw [if_pos h4] at h
    obtain ⟨v32, h5, h⟩ := bnd h
    obtain rfl := zI h
    exact Til.fin Tryz.func191 [(4, ca (.agg [.d (.bool v4.1), .d (L154 v4.2)])), (6, ca (.agg [.d (.bool v6.1), .d (L154 v6.2)])), (13, .b false), (23, .b false), (26, .b true), (32, ca (.c (.d (.int .i64 v32))))] (fun _ f => o (whole_Clean.does h0) (o (whole_Clean.does h1) (o (nb_f h2) (o (nb_f h3) (o h4 (o (nat_Cmp.does h5) f)))))) (by kernel_rfl)
   ·rw [if_neg h4] at h
    obtain ⟨v32, h5, h⟩ := bnd h
    obtain rfl := zI h
    exact Til.fin Tryz.func191 [(4, ca (.agg [.d (.bool v4.1), .d (L154 v4.2)])), (6, ca (.agg [.d (.bool v6.1), .d (L154 v6.2)])), (13, .b false), (23, .b false), (26, .b false), (32, ca (.c (.d (.int .i64 v32))))] (fun _ f => o (whole_Clean.does h0) (o (whole_Clean.does h1) (o (nb_f h2) (o (nb_f h3) (o (Bool.eq_false_iff.2 h4) (o (nat_Cmp.does h5) f)))))) (by kernel_rfl)

theorem ratio_Cmp.does {k : Nat} {a0_0 : Bool} {l0_1 : ZI} {l0_2 : ZI} {a1_0 : Bool} {l1_1 : ZI} {l1_2 : ZI} {r : Int} (h : ratio_Cmp.f k a0_0 l0_1 l0_2 a1_0 l1_1 l1_2 = some r) :
 Does Tryz.prog 120 [.agg [.d (.bool a0_0), .d (L154 l0_1), .d (L154 l0_2)], .agg [.d (.bool a1_0), .d (L154 l1_1), .d (L154 l1_2)]] [] (.c (.d (.int .i64 r))) none [] := by
 refine does_fn Tryz.func120 (by kernel_rfl) rfl rfl ?_
 unfold ratio_Cmp.f at h
 obtain ⟨v4, h0, h⟩ := bnd h
 obtain ⟨v6, h1, h⟩ := bnd h
 obtain ⟨v12, h2, h⟩ := bnd h
 obtain ⟨v13, h3, h⟩ := bnd h
 obtain ⟨v17, h4, h⟩ := bnd h
 obtain ⟨v18, h5, h⟩ := bnd h
 obtain ⟨v19, h6, h⟩ := bnd h
 obtain rfl := zI h
 exact Til.fin Tryz.func120 [(4, ca (.agg [.d (.bool v4.1), .d (L154 v4.2.1), .d (L154 v4.2.2)])), (6, ca (.agg [.d (.bool v6.1), .d (L154 v6.2.1), .d (L154 v6.2.2)])), (12, ca (.agg [.d (.bool v12.1), .d (L154 v12.2)])), (13, ca (.agg [.d (.bool v13.1), .d (L154 v13.2)])), (17, ca (.agg [.d (.bool v17.1), .d (L154 v17.2)])), (18, ca (.agg [.d (.bool v18.1), .d (L154 v18.2)])), (19, ca (.c (.d (.int .i64 v19))))] (fun _ f => o (ratio_Clean.does h0) (o (ratio_Clean.does h1) (o (ratio_den.does h2) (o (whole_Mul.does h3) (o (ratio_den.does h4) (o (whole_Mul.does h5) (o (whole_Cmp.does h6) f))))))) (by kernel_rfl)

theorem ratio_Same.does {k : Nat} {a0_0 : Bool} {l0_1 : ZI} {l0_2 : ZI} {a1_0 : Bool} {l1_1 : ZI} {l1_2 : ZI} {r : Bool} (h : ratio_Same.f k a0_0 l0_1 l0_2 a1_0 l1_1 l1_2 = some r) :
 Does Tryz.prog 61 [.agg [.d (.bool a0_0), .d (L154 l0_1), .d (L154 l0_2)], .agg [.d (.bool a1_0), .d (L154 l1_1), .d (L154 l1_2)]] [] (.c (.d (.bool r))) none [] := by
 refine does_fn Tryz.func61 (by kernel_rfl) rfl rfl ?_
 unfold ratio_Same.f at h
 obtain ⟨v5, h0, h⟩ := bnd h
 obtain rfl := zI h
 exact Til.fin Tryz.func61 [(5, ca (.c (.d (.int .i64 v5))))] (fun _ f => o (ratio_Cmp.does h0) f) (by kernel_rfl)

def valid_sums.l0E (x0 : ZLN) (x6 : ZLN) (x7 : Int) (x8 : Int) : Env := [(0, .c (.d (L103 x0))), (6, .c (.d (L103 x6))), (7, .c (.d (.int .i64 x7))), (8, .c (.d (.int .i64 x8)))]
theorem valid_sums.w (k : Nat) : (∀  (x0 : ZLN) (x6 : ZLN) (x7 : Int) (x8 : Int) (r : Int × Int), valid_sums.l0 k x0 x6 x7 x8 = some r -> Til Tryz.prog 79 [] (.tup [.c (.d (.int .i64 r.1)), .c (.d (.int .i64 r.2))]) none [] (at_ Tryz.f79 2) (valid_sums.l0E x0 x6 x7 x8) []) := by
 induction k with
 | zero =>
  exact fun _ _ _ _ _ h => (by cases h)
 | succ k ih =>
  intro x0 x6 x7 x8 r h
  rw [valid_sums.l0] at h
  by_cases h0 : x8 < x7
  ·rw [if_pos h0] at h
   obtain ⟨h1, h⟩ := ifp h
   obtain ⟨h2, h⟩ := ifp h
   by_cases h3 : ((gt (false, 0, false, [], [], 0, 0, false, false, [], [], false, [], []) x6 x8).1) = true
   ·rw [if_pos h3] at h
    exact Til.mid Tryz.func79 2 [(0, .b true), (8, .b true)] (fun _ f => o (zT h0) (o (o h1 h2) (o h3 f))) (by kernel_rfl) (ih _ _ _ _ _ h)
   ·rw [if_neg h3] at h
    obtain ⟨h4, h⟩ := ifp h
    obtain ⟨h5, h⟩ := ifp h
    obtain ⟨h6, h⟩ := ifp h
    obtain ⟨h7, h⟩ := ifp h
    obtain ⟨v25, h8, h⟩ := bnd h
    obtain ⟨v26, h9, h⟩ := bnd h
    cases v26
    ·rw [if_neg (by decide)] at h
     obtain rfl := zI h
     exact Til.fin Tryz.func79 [(0, .b true), (8, .b false), (25, ca (.agg [.d (.bool v25.1), .d (L154 v25.2.1), .d (L154 v25.2.2)])), (26, ca (.c (.d (.bool false))))] (fun _ f => o (zT h0) (o (o h1 h2) (o (Bool.eq_false_iff.2 h3) (o (o h4 h5) (o (o h6 h7) (o (ratio_Add.does h8) (o (ratio_Same.does h9) f))))))) (by kernel_rfl)
    ·rw [if_pos rfl] at h
     exact Til.mid Tryz.func79 2 [(0, .b true), (8, .b false), (25, ca (.agg [.d (.bool v25.1), .d (L154 v25.2.1), .d (L154 v25.2.2)])), (26, ca (.c (.d (.bool true))))] (fun _ f => o (zT h0) (o (o h1 h2) (o (Bool.eq_false_iff.2 h3) (o (o h4 h5) (o (o h6 h7) (o (ratio_Add.does h8) (o (ratio_Same.does h9) f))))))) (by kernel_rfl) (ih _ _ _ _ _ h)
  ·rw [if_neg h0] at h
   obtain rfl := zI h
   exact Til.fin Tryz.func79 [(0, .b false)] (fun _ f => o (zF h0) f) (by kernel_rfl)
theorem valid_sums.does {k : Nat} {l0 : ZLN} {r : Int × Int} (h : valid_sums.f k l0 = some r) :
 Does Tryz.prog 79 [.c (.d (L103 l0))] [] (.tup [.c (.d (.int .i64 r.1)), .c (.d (.int .i64 r.2))]) none [] := by
 refine does_fn Tryz.func79 (by kernel_rfl) rfl rfl ?_
 unfold valid_sums.f at h
 have ih := valid_sums.w k
 exact Til.mid Tryz.func79 2 [] (fun _ f => f) (by kernel_rfl) (ih _ _ _ _ _ h)

theorem valid_fault.does {a0 : Int} {a1 : Int} {a2 : Int} {r : Int × Int × Int × Int} (h : valid_fault.f a0 a1 a2 = some r) :
 Does Tryz.prog 80 [.c (.d (.int .i64 a0)), .c (.d (.int .i64 a1)), .c (.d (.int .i64 a2))] [] (.agg [.d (.int .i64 r.1), .d (.int .i64 r.2.1), .d (.int .i64 r.2.2.1), .d (.int .i64 r.2.2.2)]) none [] := by
 refine does_fn Tryz.func80 (by kernel_rfl) rfl rfl ?_
 unfold valid_fault.f at h
 obtain rfl := zI h
 exact Til.fin Tryz.func80 [] (fun _ f => f) (by kernel_rfl)

def valid_Check.l0E (x12 : Int) (b1_0 : Int) (b1_1 : ZLLN) (b2_0 : Int) (b2_1 : Int) (b2_2 : Int) (b2_3 : Int) : Env := [(1, .c (.ptr 1 0)), (2, .c (.ptr 2 0)), (12, .c (.d (.int .i64 x12)))]
def valid_Check.l0B (x12 : Int) (b1_0 : Int) (b1_1 : ZLLN) (b2_0 : Int) (b2_1 : Int) (b2_2 : Int) (b2_3 : Int) : Obs := [(1, some (.box [.d (.int .i64 b1_0), .d (L101 b1_1)])), (2, some (.box [.d (.int .i64 b2_0), .d (.int .i64 b2_1), .d (.int .i64 b2_2), .d (.int .i64 b2_3)]))]
def valid_Check.l1E (x3 : Int) (x12 : Int) (x16 : ZLLN) (x17 : Int) (x18 : Int) (b1_0 : Int) (b1_1 : ZLLN) (b2_0 : Int) (b2_1 : Int) (b2_2 : Int) (b2_3 : Int) : Env := [(1, .c (.ptr 1 0)), (2, .c (.ptr 2 0)), (3, .c (.d (.int .i64 x3))), (12, .c (.d (.int .i64 x12))), (16, .c (.d (L101 x16))), (17, .c (.d (.int .i64 x17))), (18, .c (.d (.int .i64 x18)))]
def valid_Check.l1B (x3 : Int) (x12 : Int) (x16 : ZLLN) (x17 : Int) (x18 : Int) (b1_0 : Int) (b1_1 : ZLLN) (b2_0 : Int) (b2_1 : Int) (b2_2 : Int) (b2_3 : Int) : Obs := [(1, some (.box [.d (.int .i64 b1_0), .d (L101 b1_1)])), (2, some (.box [.d (.int .i64 b2_0), .d (.int .i64 b2_1), .d (.int .i64 b2_2), .d (.int .i64 b2_3)]))]
theorem valid_Check.w (k : Nat) : (∀  (x12 : Int) (b1_0 : Int) (b1_1 : ZLLN) (b2_0 : Int) (b2_1 : Int) (b2_2 : Int) (b2_3 : Int) (r : Int × Int × Int × Int), valid_Check.l0 k x12 b1_0 b1_1 b2_0 b2_1 b2_2 b2_3 = some r -> Til Tryz.prog 30 [] (.agg [.d (.int .i64 r.1), .d (.int .i64 r.2.1), .d (.int .i64 r.2.2.1), .d (.int .i64 r.2.2.2)]) none [] (at_ Tryz.f30 4) (valid_Check.l0E x12 b1_0 b1_1 b2_0 b2_1 b2_2 b2_3) (valid_Check.l0B x12 b1_0 b1_1 b2_0 b2_1 b2_2 b2_3)) /\
 (∀  (x3 : Int) (x12 : Int) (x16 : ZLLN) (x17 : Int) (x18 : Int) (b1_0 : Int) (b1_1 : ZLLN) (b2_0 : Int) (b2_1 : Int) (b2_2 : Int) (b2_3 : Int) (r : Int × Int × Int × Int), valid_Check.l1 k x3 x12 x16 x17 x18 b1_0 b1_1 b2_0 b2_1 b2_2 b2_3 = some r -> Til Tryz.prog 30 [] (.agg [.d (.int .i64 r.1), .d (.int .i64 r.2.1), .d (.int .i64 r.2.2.1), .d (.int .i64 r.2.2.2)]) none [] (at_ Tryz.f30 7) (valid_Check.l1E x3 x12 x16 x17 x18 b1_0 b1_1 b2_0 b2_1 b2_2 b2_3) (valid_Check.l1B x3 x12 x16 x17 x18 b1_0 b1_1 b2_0 b2_1 b2_2 b2_3)) := by
 induction k with
 | zero =>
  exact ⟨fun _ _ _ _ _ _ _ _ h => (by cases h), fun _ _ _ _ _ _ _ _ _ _ _ _ h => (by cases h)⟩
 | succ k ih =>
  refine ⟨?_, ?_⟩
  ·intro x12 b1_0 b1_1 b2_0 b2_1 b2_2 b2_3 r h
   rw [valid_Check.l0] at h
   by_cases h0 : x12 < 4
   ·rw [if_pos h0] at h
    exact Til.mid Tryz.func30 7 [(0, .b true)] (fun _ f => o (zT h0) f) (by kernel_rfl) (ih.2 _ _ _ _ _ _ _ _ _ _ _ _ h)
   ·rw [if_neg h0] at h
    obtain rfl := zI h
    exact Til.fin Tryz.func30 [(0, .b false)] (fun _ f => o (zF h0) f) (by kernel_rfl)
  ·intro x3 x12 x16 x17 x18 b1_0 b1_1 b2_0 b2_1 b2_2 b2_3 r h
   rw [valid_Check.l1] at h
   by_cases h0 : x18 < x17
   ·rw [if_pos h0] at h
    obtain ⟨h1, h⟩ := ifp h
    obtain ⟨h2, h⟩ := ifp h
    by_cases h3 : x3 = 0
    ·rw [if_pos h3] at h
     obtain ⟨v14, h4, h⟩ := bnd h
     by_cases h5 : v14.2 ≠ 0
     ·rw [if_pos h5] at h
      obtain ⟨v25, h6, h⟩ := bnd h
      obtain rfl := zI h
      exact Til.fin Tryz.func30 [(0, .b true), (9, .b true), (14, ca (.tup [.c (.d (.int .i64 v14.1)), .c (.d (.int .i64 v14.2))])), (21, .b true), (25, ca (.agg [.d (.int .i64 v25.1), .d (.int .i64 v25.2.1), .d (.int .i64 v25.2.2.1), .d (.int .i64 v25.2.2.2)]))] (fun _ f => o (zT h0) (o (o h1 h2) (o (beq_iff_eq.2 h3) (o (valid_ranges.does h4) (o (bne_iff_ne.2 h5) (o (valid_fault.does h6) f)))))) (by kernel_rfl)
     ·rw [if_neg h5] at h
      exact Til.mid Tryz.func30 7 [(0, .b true), (9, .b true), (14, ca (.tup [.c (.d (.int .i64 v14.1)), .c (.d (.int .i64 v14.2))])), (21, .b false)] (fun _ f => o (zT h0) (o (o h1 h2) (o (beq_iff_eq.2 h3) (o (valid_ranges.does h4) (o (ne_f h5) f))))) (by kernel_rfl) (ih.2 _ _ _ _ _ _ _ _ _ _ _ _ h)
    ·rw [if_neg h3] at h
     by_cases h4 : x3 = 1
     ·rw [if_pos h4] at h
      obtain ⟨v14, h5, h⟩ := bnd h
      by_cases h6 : v14.2 ≠ 0
      ·rw [if_pos h6] at h
       obtain ⟨v25, h7, h⟩ := bnd h
       obtain rfl := zI h
       exact Til.fin Tryz.func30 [(0, .b true), (9, .b false), (11, .b true), (14, ca (.tup [.c (.d (.int .i64 v14.1)), .c (.d (.int .i64 v14.2))])), (21, .b true), (25, ca (.agg [.d (.int .i64 v25.1), .d (.int .i64 v25.2.1), .d (.int .i64 v25.2.2.1), .d (.int .i64 v25.2.2.2)]))] (fun _ f => o (zT h0) (o (o h1 h2) (o (zB h3) (o (beq_iff_eq.2 h4) (o (valid_shape.does h5) (o (bne_iff_ne.2 h6) (o (valid_fault.does h7) f))))))) (by kernel_rfl)
      ·rw [if_neg h6] at h
       exact Til.mid Tryz.func30 7 [(0, .b true), (9, .b false), (11, .b true), (14, ca (.tup [.c (.d (.int .i64 v14.1)), .c (.d (.int .i64 v14.2))])), (21, .b false)] (fun _ f => o (zT h0) (o (o h1 h2) (o (zB h3) (o (beq_iff_eq.2 h4) (o (valid_shape.does h5) (o (ne_f h6) f)))))) (by kernel_rfl) (ih.2 _ _ _ _ _ _ _ _ _ _ _ _ h)
     ·rw [if_neg h4] at h
      by_cases h5 : x3 = 2
      ·rw [if_pos h5] at h
       obtain ⟨v16, h6, h⟩ := bnd h
       by_cases h7 : v16.2 ≠ 0
       ·rw [if_pos h7] at h
        obtain ⟨v27, h8, h⟩ := bnd h
        obtain rfl := zI h
        exact Til.fin Tryz.func30 [(0, .b true), (9, .b false), (11, .b false), (13, .b true), (16, ca (.tup [.c (.d (.int .i64 v16.1)), .c (.d (.int .i64 v16.2))])), (23, .b true), (27, ca (.agg [.d (.int .i64 v27.1), .d (.int .i64 v27.2.1), .d (.int .i64 v27.2.2.1), .d (.int .i64 v27.2.2.2)]))] (fun _ f => o (zT h0) (o (o h1 h2) (o (zB h3) (o (zB h4) (o (beq_iff_eq.2 h5) (o (valid_covers.does h6) (o (bne_iff_ne.2 h7) (o (valid_fault.does h8) f)))))))) (by kernel_rfl)
       ·rw [if_neg h7] at h
        exact Til.mid Tryz.func30 7 [(0, .b true), (9, .b false), (11, .b false), (13, .b true), (16, ca (.tup [.c (.d (.int .i64 v16.1)), .c (.d (.int .i64 v16.2))])), (23, .b false)] (fun _ f => o (zT h0) (o (o h1 h2) (o (zB h3) (o (zB h4) (o (beq_iff_eq.2 h5) (o (valid_covers.does h6) (o (ne_f h7) f))))))) (by kernel_rfl) (ih.2 _ _ _ _ _ _ _ _ _ _ _ _ h)
      ·rw [if_neg h5] at h
       by_cases h6 : x3 = 3
       ·rw [if_pos h6] at h
        obtain ⟨v18, h7, h⟩ := bnd h
        by_cases h8 : v18.2 ≠ 0
        ·rw [if_pos h8] at h
         obtain ⟨v29, h9, h⟩ := bnd h
         obtain rfl := zI h
         exact Til.fin Tryz.func30 [(0, .b true), (9, .b false), (11, .b false), (13, .b false), (15, .b true), (18, ca (.tup [.c (.d (.int .i64 v18.1)), .c (.d (.int .i64 v18.2))])), (25, .b true), (29, ca (.agg [.d (.int .i64 v29.1), .d (.int .i64 v29.2.1), .d (.int .i64 v29.2.2.1), .d (.int .i64 v29.2.2.2)]))] (fun _ f => o (zT h0) (o (o h1 h2) (o (zB h3) (o (zB h4) (o (zB h5) (o (beq_iff_eq.2 h6) (o (valid_sums.does h7) (o (bne_iff_ne.2 h8) (o (valid_fault.does h9) f))))))))) (by kernel_rfl)
        ·rw [if_neg h8] at h
         exact Til.mid Tryz.func30 7 [(0, .b true), (9, .b false), (11, .b false), (13, .b false), (15, .b true), (18, ca (.tup [.c (.d (.int .i64 v18.1)), .c (.d (.int .i64 v18.2))])), (25, .b false)] (fun _ f => o (zT h0) (o (o h1 h2) (o (zB h3) (o (zB h4) (o (zB h5) (o (beq_iff_eq.2 h6) (o (valid_sums.does h7) (o (ne_f h8) f)))))))) (by kernel_rfl) (ih.2 _ _ _ _ _ _ _ _ _ _ _ _ h)
       ·rw [if_neg h6] at h
        exact Til.mid Tryz.func30 7 [(0, .b true), (9, .b false), (11, .b false), (13, .b false), (15, .b false)] (fun _ f => o (zT h0) (o (o h1 h2) (o (zB h3) (o (zB h4) (o (zB h5) (o (zB h6) f)))))) (by kernel_rfl) (ih.2 _ _ _ _ _ _ _ _ _ _ _ _ h)
   ·rw [if_neg h0] at h
    exact Til.mid Tryz.func30 4 [(0, .b false)] (fun _ f => o (zF h0) f) (by kernel_rfl) (ih.1 _ _ _ _ _ _ _ _ h)
theorem valid_Check.does {k : Nat} {a0_0 : Int} {l0_1 : ZLLN} {r : Int × Int × Int × Int} (h : valid_Check.f k a0_0 l0_1 = some r) :
 Does Tryz.prog 30 [.agg [.d (.int .i64 a0_0), .d (L101 l0_1)]] [] (.agg [.d (.int .i64 r.1), .d (.int .i64 r.2.1), .d (.int .i64 r.2.2.1), .d (.int .i64 r.2.2.2)]) none [] := by
 refine does_fn Tryz.func30 (by kernel_rfl) rfl rfl ?_
 unfold valid_Check.f at h
 have ih := valid_Check.w k
 obtain ⟨v3, h0, h⟩ := bnd h
 cases v3
 ·rw [if_neg (by decide)] at h
  obtain rfl := zI h
  exact Til.fin Tryz.func30 [(3, ca (.c (.d (.bool false))))] (fun _ f => o (model_Fits.does h0) f) (by kernel_rfl)
 ·rw [if_pos rfl] at h
  exact Til.mid Tryz.func30 4 [(3, ca (.c (.d (.bool true))))] (fun _ f => o (model_Fits.does h0) f) (by kernel_rfl) (ih.1 _ _ _ _ _ _ _ _ h)

theorem valid_Parse.does {k : Nat} {a0 : ByteArray} {r : Int × ZLLN × Int × Int × Int × Int} (h : valid_Parse.f k a0 = some r) :
 Does Tryz.prog 7 [.c (.d (.str a0))] [] (.tup [.agg [.d (.int .i64 r.1), .d (L101 r.2.1)], .agg [.d (.int .i64 r.2.2.1), .d (.int .i64 r.2.2.2.1), .d (.int .i64 r.2.2.2.2.1), .d (.int .i64 r.2.2.2.2.2)]]) none [] := by
 refine does_fn Tryz.func7 (by kernel_rfl) rfl rfl ?_
 unfold valid_Parse.f at h
 obtain ⟨v3, h0, h⟩ := bnd h
 by_cases h1 : v3.2.2.1 ≠ 0
 ·rw [if_pos h1] at h
  obtain rfl := zI h
  exact Til.fin Tryz.func7 [(3, ca (.tup [.agg [.d (.int .i64 v3.1), .d (L101 v3.2.1)], .agg [.d (.int .i64 v3.2.2.1), .d (.int .i64 v3.2.2.2.1), .d (.int .i64 v3.2.2.2.2.1), .d (.int .i64 v3.2.2.2.2.2)]])), (13, .b true)] (fun _ f => o (model_Read.does h0) (o (bne_iff_ne.2 h1) f)) (by kernel_rfl)
 ·rw [if_neg h1] at h
  obtain ⟨v15, h2, h⟩ := bnd h
  by_cases h3 : v15.1 ≠ 0
  ·rw [if_pos h3] at h
   obtain rfl := zI h
   exact Til.fin Tryz.func7 [(3, ca (.tup [.agg [.d (.int .i64 v3.1), .d (L101 v3.2.1)], .agg [.d (.int .i64 v3.2.2.1), .d (.int .i64 v3.2.2.2.1), .d (.int .i64 v3.2.2.2.2.1), .d (.int .i64 v3.2.2.2.2.2)]])), (13, .b false), (15, ca (.agg [.d (.int .i64 v15.1), .d (.int .i64 v15.2.1), .d (.int .i64 v15.2.2.1), .d (.int .i64 v15.2.2.2)])), (19, .b true)] (fun _ f => o (model_Read.does h0) (o (ne_f h1) (o (valid_Check.does h2) (o (bne_iff_ne.2 h3) f)))) (by kernel_rfl)
  ·rw [if_neg h3] at h
   obtain rfl := zI h
   exact Til.fin Tryz.func7 [(3, ca (.tup [.agg [.d (.int .i64 v3.1), .d (L101 v3.2.1)], .agg [.d (.int .i64 v3.2.2.1), .d (.int .i64 v3.2.2.2.1), .d (.int .i64 v3.2.2.2.2.1), .d (.int .i64 v3.2.2.2.2.2)]])), (13, .b false), (15, ca (.agg [.d (.int .i64 v15.1), .d (.int .i64 v15.2.1), .d (.int .i64 v15.2.2.1), .d (.int .i64 v15.2.2.2)])), (19, .b false)] (fun _ f => o (model_Read.does h0) (o (ne_f h1) (o (valid_Check.does h2) (o (ne_f h3) f)))) (by kernel_rfl)

def nat_nine.l0E (x0 : Int) (x3 : ZI) (x4 : Int) : Env := [(0, .c (.d (.int .u64 x0))), (3, .c (.own 3)), (4, .c (.d (.int .i64 x4)))]
def nat_nine.l0B (x0 : Int) (x3 : ZI) (x4 : Int) : Obs := [(3, some (O5 .own x3))]
theorem nat_nine.w (k : Nat) : (∀  (x0 : Int) (x3 : ZI) (x4 : Int) (r : ZI), nat_nine.l0 k x0 x3 x4 = some r -> Til Tryz.prog 151 [] (.c (.d (L5 r))) none [] (at_ Tryz.f151 3) (nat_nine.l0E x0 x3 x4) (nat_nine.l0B x0 x3 x4)) := by
 induction k with
 | zero =>
  exact fun _ _ _ _ h => (by cases h)
 | succ k ih =>
  intro x0 x3 x4 r h
  rw [nat_nine.l0] at h
  by_cases h0 : x4 >= 0
  ·rw [if_pos h0] at h
   obtain ⟨h1, h⟩ := ifp h
   exact Til.mid Tryz.func151 3 [(1, .b true), (9, Z5 (x3.set ((x4 : Int).toNat) (IntKind.u8.wrap ((IntKind.u64.wrap (48 + (Int.tmod x0 10)))))))] (fun _ f => o (zT h0) (o (by decide : ¬ (10 : Int) = 0) (o (o h0 h1) (o (set_ok c5 0 (fun _ _ => rfl) x3 ((x4 : Int).toNat) (IntKind.u8.wrap ((IntKind.u64.wrap (48 + (Int.tmod x0 10))))) (lt_ok h0 h1)) (o (by decide : ¬ (10 : Int) = 0) f))))) (by kernel_rfl) (ih _ _ _ _ h)
  ·rw [if_neg h0] at h
   obtain rfl := zI h
   exact Til.fin Tryz.func151 [(1, .b false)] (fun _ f => o (zF h0) f) (by kernel_rfl)
theorem nat_nine.does {k : Nat} {a0 : Int} {r : ZI} (h : nat_nine.f k a0 = some r) :
 Does Tryz.prog 151 [.c (.d (.int .u64 a0))] [] (.c (.d (L5 r))) none [] := by
 refine does_fn Tryz.func151 (by kernel_rfl) rfl rfl ?_
 unfold nat_nine.f at h
 have ih := nat_nine.w k
 exact Til.mid Tryz.func151 3 [(1, Z5 (List.replicate 9 0 : ZI))] (fun _ f => o (make_ok c5 0 [.int .u8 0] ⟨.refl _, trivial⟩ 9 1 281474976710656 (by decide) (nn 9) (by decide)) f) (by kernel_rfl) (ih _ _ _ _ h)

def nat_Print.l0E (x0 : ZI) (x3 : ZI) : Env := [(0, .c (.d (L154 x0))), (3, .c (.own 3))]
def nat_Print.l0B (x0 : ZI) (x3 : ZI) : Obs := [(3, some (O154 .own x3))]
def nat_Print.l1E (x3 : ZI) (x5 : ZI) (x6 : Int) : Env := [(3, .c (.own 3)), (5, .c (.own 5)), (6, .c (.d (.int .i64 x6)))]
def nat_Print.l1B (x3 : ZI) (x5 : ZI) (x6 : Int) : Obs := [(3, some (O154 .own x3)), (5, some (O5 .own x5))]
def nat_Print.l2E (x5 : ZI) (x7 : Int) : Env := [(5, .c (.own 5)), (7, .c (.d (.int .i64 x7)))]
def nat_Print.l2B (x5 : ZI) (x7 : Int) : Obs := [(5, some (O5 .own x5))]
theorem nat_Print.w (k : Nat) : (∀  (x0 : ZI) (x3 : ZI) (r : ByteArray), nat_Print.l0 k x0 x3 = some r -> Til Tryz.prog 90 [] (.c (.d (.str r))) none [] (at_ Tryz.f90 5) (nat_Print.l0E x0 x3) (nat_Print.l0B x0 x3)) /\
 (∀  (x3 : ZI) (x5 : ZI) (x6 : Int) (r : ByteArray), nat_Print.l1 k x3 x5 x6 = some r -> Til Tryz.prog 90 [] (.c (.d (.str r))) none [] (at_ Tryz.f90 11) (nat_Print.l1E x3 x5 x6) (nat_Print.l1B x3 x5 x6)) /\
 (∀  (x5 : ZI) (x7 : Int) (r : ByteArray), nat_Print.l2 k x5 x7 = some r -> Til Tryz.prog 90 [] (.c (.d (.str r))) none [] (at_ Tryz.f90 15) (nat_Print.l2E x5 x7) (nat_Print.l2B x5 x7)) := by
 induction k with
 | zero =>
  exact ⟨fun _ _ _ h => (by cases h), fun _ _ _ _ h => (by cases h), fun _ _ _ h => (by cases h)⟩
 | succ k ih =>
  refine ⟨?_, ?_, ?_⟩
  ·intro x0 x3 r h
   rw [nat_Print.l0] at h
   by_cases h0 : (x0.length : Int) > 0
   ·rw [if_pos h0] at h
    obtain ⟨v5, h1, h⟩ := bnd h
    obtain ⟨h2, h⟩ := ifp h
    exact Til.mid Tryz.func90 5 [(2, .b true), (5, ca (.tup [.c (.d (L154 v5.1)), .c (.d (.int .u64 v5.2))])), (13, Z154 ([v5.2] : ZI)), (14, Z154 (x3 ++ [v5.2]))] (fun _ f => o (zT h0) (o (nat_small.does h1) (o (lit_ok c154 0 ([v5.2] : ZI)) (o (app1 c154 0 x3 v5.2 8 17592186044416 (by decide) h2) f)))) (by kernel_rfl) (ih.1 _ _ _ h)
   ·rw [if_neg h0] at h
    exact Til.mid Tryz.func90 11 [(2, .b false)] (fun _ f => o (zF h0) f) (by kernel_rfl) (ih.2.1 _ _ _ _ h)
  ·intro x3 x5 x6 r h
   rw [nat_Print.l1] at h
   by_cases h0 : x6 >= 0
   ·rw [if_pos h0] at h
    obtain ⟨h1, h⟩ := ifp h
    obtain ⟨v7, h2, h⟩ := bnd h
    obtain ⟨h3, h⟩ := ifp h
    exact Til.mid Tryz.func90 11 [(1, .b true), (7, ca (.c (.d (L5 v7)))), (8, Z5 (x5 ++ v7))] (fun _ f => o (zT h0) (o (o h0 h1) (o (nat_nine.does h2) (o (app c5 0 x5 v7 1 140737488355328 (by decide) h3) f)))) (by kernel_rfl) (ih.2.1 _ _ _ _ h)
   ·rw [if_neg h0] at h
    exact Til.mid Tryz.func90 15 [(1, .b false)] (fun _ f => o (zF h0) f) (by kernel_rfl) (ih.2.2 _ _ _ h)
  ·intro x5 x7 r h
   rw [nat_Print.l2] at h
   obtain ⟨h0, h⟩ := ifp h
   obtain ⟨h1, h⟩ := ifp h
   by_cases h2 : (rd x5 x7) = 48
   ·rw [if_pos h2] at h
    exact Til.mid Tryz.func90 15 [(4, .b true)] (fun _ f => o (o h0 h1) (o (beq_iff_eq.2 h2) f)) (by kernel_rfl) (ih.2.2 _ _ _ h)
   ·rw [if_neg h2] at h
    obtain ⟨h3, h⟩ := ifp h
    obtain rfl := zI h
    exact Til.fin Tryz.func90 [(4, .b false), (8, .v (.c (.d (.str (ofBytes (x5.drop ((x7 : Int).toNat)))))))] (fun _ f => o (o h0 h1) (o (zB h2) (o (o h0 h1) (o (strd_ok c5 x5 (fun _ => rfl) x7 h0 h1 h3) (o (Eq.refl (TV.c (.d (.str (ofBytes (x5.drop ((x7 : Int).toNat))))))) f))))) (by kernel_rfl)
theorem nat_Print.does {k : Nat} {l0 : ZI} {r : ByteArray} (h : nat_Print.f k l0 = some r) :
 Does Tryz.prog 90 [.c (.d (L154 l0))] [] (.c (.d (.str r))) none [] := by
 refine does_fn Tryz.func90 (by kernel_rfl) rfl rfl ?_
 unfold nat_Print.f at h
 have ih := nat_Print.w k
 obtain ⟨v2, h0, h⟩ := bnd h
 by_cases h1 : (v2.length : Int) = 0
 ·rw [if_pos h1] at h
  obtain rfl := zI h
  exact Til.fin Tryz.func90 [(2, ca (.c (.d (L154 v2)))), (6, .b true)] (fun _ f => o (nat_Clean.does h0) (o (beq_iff_eq.2 h1) f)) (by kernel_rfl)
 ·rw [if_neg h1] at h
  exact Til.mid Tryz.func90 5 [(2, ca (.c (.d (L154 v2)))), (6, .b false)] (fun _ f => o (nat_Clean.does h0) (o (zB h1) f)) (by kernel_rfl) (ih.1 _ _ _ h)

theorem whole_Print.does {k : Nat} {a0_0 : Bool} {l0_1 : ZI} {r : ByteArray} (h : whole_Print.f k a0_0 l0_1 = some r) :
 Does Tryz.prog 87 [.agg [.d (.bool a0_0), .d (L154 l0_1)]] [] (.c (.d (.str r))) none [] := by
 refine does_fn Tryz.func87 (by kernel_rfl) rfl rfl ?_
 unfold whole_Print.f at h
 obtain ⟨v3, h0, h⟩ := bnd h
 by_cases h1 : v3.1 = true
 ·rw [if_pos h1] at h
  obtain ⟨v9, h2, h⟩ := bnd h
  obtain ⟨h3, h⟩ := ifp h
  obtain rfl := zI h
  exact Til.fin Tryz.func87 [(3, ca (.agg [.d (.bool v3.1), .d (L154 v3.2)])), (6, .b true), (9, ca (.c (.d (.str v9))))] (fun _ f => o (whole_Clean.does h0) (o h1 (o (nat_Print.does h2) (o h3 f)))) (by kernel_rfl)
 ·rw [if_neg h1] at h
  obtain ⟨v9, h2, h⟩ := bnd h
  obtain rfl := zI h
  exact Til.fin Tryz.func87 [(3, ca (.agg [.d (.bool v3.1), .d (L154 v3.2)])), (6, .b false), (9, ca (.c (.d (.str v9))))] (fun _ f => o (whole_Clean.does h0) (o (Bool.eq_false_iff.2 h1) (o (nat_Print.does h2) f))) (by kernel_rfl)

theorem ratio_Print.does {k : Nat} {a0_0 : Bool} {l0_1 : ZI} {l0_2 : ZI} {r : ByteArray} (h : ratio_Print.f k a0_0 l0_1 l0_2 = some r) :
 Does Tryz.prog 36 [.agg [.d (.bool a0_0), .d (L154 l0_1), .d (L154 l0_2)]] [] (.c (.d (.str r))) none [] := by
 refine does_fn Tryz.func36 (by kernel_rfl) rfl rfl ?_
 unfold ratio_Print.f at h
 obtain ⟨v3, h0, h⟩ := bnd h
 obtain ⟨v7, h1, h⟩ := bnd h
 obtain ⟨v11, h2, h⟩ := bnd h
 obtain ⟨v12, h3, h⟩ := bnd h
 by_cases h4 : v12 = 0
 ·rw [if_pos h4] at h
  obtain rfl := zI h
  exact Til.fin Tryz.func36 [(3, ca (.agg [.d (.bool v3.1), .d (L154 v3.2.1), .d (L154 v3.2.2)])), (7, ca (.c (.d (.str v7)))), (11, ca (.c (.d (L154 v11)))), (12, ca (.c (.d (.int .i64 v12)))), (13, .b true)] (fun _ f => o (ratio_Clean.does h0) (o (whole_Print.does h1) (o (nat_Of.does h2) (o (nat_Cmp.does h3) (o (beq_iff_eq.2 h4) f))))) (by kernel_rfl)
 ·rw [if_neg h4] at h
  obtain ⟨h5, h⟩ := ifp h
  obtain ⟨v18, h6, h⟩ := bnd h
  obtain ⟨h7, h⟩ := ifp h
  obtain rfl := zI h
  exact Til.fin Tryz.func36 [(3, ca (.agg [.d (.bool v3.1), .d (L154 v3.2.1), .d (L154 v3.2.2)])), (7, ca (.c (.d (.str v7)))), (11, ca (.c (.d (L154 v11)))), (12, ca (.c (.d (.int .i64 v12)))), (13, .b false), (18, ca (.c (.d (.str v18))))] (fun _ f => o (ratio_Clean.does h0) (o (whole_Print.does h1) (o (nat_Of.does h2) (o (nat_Cmp.does h3) (o (zB h4) (o h5 (o (nat_Print.does h6) (o h7 f)))))))) (by kernel_rfl)

theorem whole_Of.does {k : Nat} {a0 : Int} {r : Bool × ZI} (h : whole_Of.f k a0 = some r) :
 Does Tryz.prog 138 [.c (.d (.int .i64 a0))] [] (.agg [.d (.bool r.1), .d (L154 r.2)]) none [] := by
 refine does_fn Tryz.func138 (by kernel_rfl) rfl rfl ?_
 unfold whole_Of.f at h
 by_cases h0 : a0 < 0
 ·rw [if_pos h0] at h
  obtain ⟨v6, h1, h⟩ := bnd h
  obtain ⟨v7, h2, h⟩ := bnd h
  obtain rfl := zI h
  exact Til.fin Tryz.func138 [(2, .b true), (6, ca (.c (.d (L154 v6)))), (7, ca (.agg [.d (.bool v7.1), .d (L154 v7.2)]))] (fun _ f => o (zT h0) (o (nat_Of.does h1) (o (whole_sign.does h2) f))) (by kernel_rfl)
 ·rw [if_neg h0] at h
  obtain ⟨v5, h1, h⟩ := bnd h
  obtain ⟨v6, h2, h⟩ := bnd h
  obtain rfl := zI h
  exact Til.fin Tryz.func138 [(2, .b false), (5, ca (.c (.d (L154 v5)))), (6, ca (.agg [.d (.bool v6.1), .d (L154 v6.2)]))] (fun _ f => o (zF h0) (o (nat_Of.does h1) (o (whole_sign.does h2) f))) (by kernel_rfl)

theorem ratio_Of.does {k : Nat} {a0 : Int} {r : ZQ} (h : ratio_Of.f k a0 = some r) :
 Does Tryz.prog 81 [.c (.d (.int .i64 a0))] [] (.agg [.d (.bool r.1), .d (L154 r.2.1), .d (L154 r.2.2)]) none [] := by
 refine does_fn Tryz.func81 (by kernel_rfl) rfl rfl ?_
 unfold ratio_Of.f at h
 obtain ⟨v2, h0, h⟩ := bnd h
 obtain ⟨v3, h1, h⟩ := bnd h
 obtain rfl := zI h
 exact Til.fin Tryz.func81 [(2, ca (.agg [.d (.bool v2.1), .d (L154 v2.2)])), (3, ca (.c (.d (L154 v3))))] (fun _ f => o (whole_Of.does h0) (o (nat_Of.does h1) f)) (by kernel_rfl)

theorem model_digits.does {k : Nat} {a0 : Int} {r : ByteArray} (h : model_digits.f k a0 = some r) :
 Does Tryz.prog 40 [.c (.d (.int .i64 a0))] [] (.c (.d (.str r))) none [] := by
 refine does_fn Tryz.func40 (by kernel_rfl) rfl rfl ?_
 unfold model_digits.f at h
 obtain ⟨v2, h0, h⟩ := bnd h
 obtain ⟨v3, h1, h⟩ := bnd h
 obtain rfl := zI h
 exact Til.fin Tryz.func40 [(2, ca (.agg [.d (.bool v2.1), .d (L154 v2.2.1), .d (L154 v2.2.2)])), (3, ca (.c (.d (.str v3))))] (fun _ f => o (ratio_Of.does h0) (o (ratio_Print.does h1) f)) (by kernel_rfl)
end Go.DI
