/- The code of the functions does what is told of it, part 1. No condition. -/
import Derived.Test.YtopjcdonffcnhaaDoorBReportFaults
set_option linter.all false
namespace Go.DI
open Go Go.RowKit Go.Proofs
set_option linter.unusedVariables false
set_option maxRecDepth 20000
def c90 (x : Int) : List Dat := [.int .u64 x]
def L90 (xs : List Int) : Dat := fr 1 c90 0 xs
def Z90 (xs : List Int) : Sup := .r xs.length (enc c90 0 xs)
def O90 (k : RK) (xs : List Int) : Ob := .row k 90 1 xs.length (enc c90 0 xs)

def nat_trim.l0E (x0 : List Int) (x3 : Int) : Env := [(0, .c (.d (L90 x0))), (3, .c (.d (.int .i64 x3)))]
theorem nat_trim.w (k : Nat) : (∀  (x0 : List Int) (x3 : Int) (r : List Int), nat_trim.l0 k x0 x3 = some r → Til Tryd.prog 68 [] (.c (.d (L90 r))) none [] (at_ Tryd.f68 2) (nat_trim.l0E x0 x3) []) := by
  induction k with
  | zero =>
    exact fun _ _ _ h => (by cases h)
  | succ k ih =>
    intro x0 x3 r h
    rw [nat_trim.l0] at h
    by_cases h0 : x3 > 0
    · rw [if_pos h0] at h
      obtain ⟨h1, h⟩ := ifp h
      obtain ⟨h2, h⟩ := ifp h
      by_cases h3 : (rd x0 (wrap64 (x3 - 1))) = 0
      · rw [if_pos h3] at h
        exact Til.mid Tryd.func68 2 [(1, .b true), (8, .b true)] (fun _ f => o (decide_eq_true h0) (o (o h1 h2) (o (beq_iff_eq.2 h3) f))) (by kernel_rfl) (ih _ _ _ h)
      · rw [if_neg h3] at h
        by_cases h4 : x3 = 0
        · rw [if_pos h4] at h
          obtain rfl := Option.some.inj h
          exact Til.fin Tryd.func68 [(1, .b true), (8, .b false), (11, .b true)] (fun _ f => o (decide_eq_true h0) (o (o h1 h2) (o (beq_false_of_ne h3) (o (beq_iff_eq.2 h4) f)))) (by kernel_rfl)
        · rw [if_neg h4] at h
          obtain ⟨h5, h⟩ := ifp h
          obtain ⟨h6, h⟩ := ifp h
          obtain rfl := Option.some.inj h
          exact Til.fin Tryd.func68 [(1, .b true), (8, .b false), (11, .b false), (14, Z90 (x0.take ((x3 : Int).toNat)))] (fun _ f => o (decide_eq_true h0) (o (o h1 h2) (o (beq_false_of_ne h3) (o (beq_false_of_ne h4) (o (take_ok c90 0 x0 h5 h6) f))))) (by kernel_rfl)
    · rw [if_neg h0] at h
      by_cases h1 : x3 = 0
      · rw [if_pos h1] at h
        obtain rfl := Option.some.inj h
        exact Til.fin Tryd.func68 [(1, .b false), (11, .b true)] (fun _ f => o (decide_eq_false h0) (o (beq_iff_eq.2 h1) f)) (by kernel_rfl)
      · rw [if_neg h1] at h
        obtain ⟨h2, h⟩ := ifp h
        obtain ⟨h3, h⟩ := ifp h
        obtain rfl := Option.some.inj h
        exact Til.fin Tryd.func68 [(1, .b false), (11, .b false), (14, Z90 (x0.take ((x3 : Int).toNat)))] (fun _ f => o (decide_eq_false h0) (o (beq_false_of_ne h1) (o (take_ok c90 0 x0 h2 h3) f))) (by kernel_rfl)
theorem nat_trim.does {k : Nat} {l0 : List Int} {r : List Int} (h : nat_trim.f k l0 = some r) :
    Does Tryd.prog 68 [.c (.d (L90 l0))] [] (.c (.d (L90 r))) none [] := by
  refine does_fn Tryd.func68 (by kernel_rfl) rfl rfl ?_
  unfold nat_trim.f at h
  have ih := nat_trim.w k
  exact Til.mid Tryd.func68 2 [] (fun _ f => f) (by kernel_rfl) (ih _ _ _ h)

def nat_Clean.l0E (x3 : List Int) (x9 : List Int) (x10 : Int) (x11 : Int) : Env := [(3, .c (.own 3)), (9, .c (.d (L90 x9))), (10, .c (.d (.int .i64 x10))), (11, .c (.d (.int .i64 x11)))]
def nat_Clean.l0B (x3 : List Int) (x9 : List Int) (x10 : Int) (x11 : Int) : Obs := [(3, some (O90 .own x3))]
theorem nat_Clean.w (k : Nat) : (∀  (x3 : List Int) (x9 : List Int) (x10 : Int) (x11 : Int) (r : List Int), nat_Clean.l0 k x3 x9 x10 x11 = some r → Til Tryd.prog 63 [] (.c (.d (L90 r))) none [] (at_ Tryd.f63 3) (nat_Clean.l0E x3 x9 x10 x11) (nat_Clean.l0B x3 x9 x10 x11)) := by
  induction k with
  | zero =>
    exact fun _ _ _ _ _ h => (by cases h)
  | succ k ih =>
    intro x3 x9 x10 x11 r h
    rw [nat_Clean.l0] at h
    by_cases h0 : x11 < x10
    · rw [if_pos h0] at h
      obtain ⟨h1, h⟩ := ifp h
      obtain ⟨h2, h⟩ := ifp h
      obtain ⟨h3, h⟩ := ifp h
      exact Til.mid Tryd.func63 3 [(0, .b true), (11, Z90 (x3.set ((x11 : Int).toNat) (Go.bits .and .u64 (rd x9 x11) 4294967295)))] (fun _ f => o (decide_eq_true h0) (o (o h1 h2) (o (o h1 h3) (o (set_ok c90 0 (fun _ _ => rfl) x3 ((x11 : Int).toNat) (Go.bits .and .u64 (rd x9 x11) 4294967295) (lt_ok h1 h3)) f)))) (by kernel_rfl) (ih _ _ _ _ _ h)
    · rw [if_neg h0] at h
      obtain ⟨v2, h1, h⟩ := bnd h
      obtain rfl := Option.some.inj h
      exact Til.fin Tryd.func63 [(0, .b false), (2, ca (.c (.d (L90 v2))))] (fun _ f => o (decide_eq_false h0) (o (nat_trim.does h1) f)) (by kernel_rfl)
theorem nat_Clean.does {k : Nat} {l0 : List Int} {r : List Int} (h : nat_Clean.f k l0 = some r) :
    Does Tryd.prog 63 [.c (.d (L90 l0))] [] (.c (.d (L90 r))) none [] := by
  refine does_fn Tryd.func63 (by kernel_rfl) rfl rfl ?_
  unfold nat_Clean.f at h
  have ih := nat_Clean.w k
  obtain ⟨h0, h⟩ := ifp h
  exact Til.mid Tryd.func63 3 [(3, Z90 (List.replicate (((l0.length : Int) : Int).toNat) 0 : List Int))] (fun _ f => o (make_ok c90 0 [.int .u64 0] ⟨.refl _, trivial⟩ (l0.length : Int) 8 35184372088832 (by decide) (Int.natCast_nonneg l0.length) h0) f) (by kernel_rfl) (ih _ _ _ _ _ h)

theorem nat_Of.does {k : Nat} {a0 : Int} {r : List Int} (h : nat_Of.f k a0 = some r) :
    Does Tryd.prog 43 [.c (.d (.int .u64 a0))] [] (.c (.d (L90 r))) none [] := by
  refine does_fn Tryd.func43 (by kernel_rfl) rfl rfl ?_
  unfold nat_Of.f at h
  obtain ⟨v6, h0, h⟩ := bnd h
  obtain rfl := Option.some.inj h
  exact Til.fin Tryd.func43 [(5, Z90 ([(Go.bits .and .u64 a0 4294967295), (a0 / 4294967296)] : List Int)), (6, ca (.c (.d (L90 v6))))] (fun _ f => o (nn 32) (o (lit_ok c90 0 ([(Go.bits .and .u64 a0 4294967295), (a0 / 4294967296)] : List Int)) (o (nat_trim.does h0) f))) (by kernel_rfl)

theorem ratio_Zero.does {k : Nat}  {r : Bool × List Int × List Int} (h : ratio_Zero.f k = some r) :
    Does Tryd.prog 64 [] [] (.agg [.d (.bool r.1), .d (L90 r.2.1), .d (L90 r.2.2)]) none [] := by
  refine does_fn Tryd.func64 (by kernel_rfl) rfl rfl ?_
  unfold ratio_Zero.f at h
  obtain ⟨v1, h0, h⟩ := bnd h
  obtain rfl := Option.some.inj h
  exact Til.fin Tryd.func64 [(1, ca (.c (.d (L90 v1))))] (fun _ f => o (nat_Of.does h0) f) (by kernel_rfl)

def nat_order.l0E (x0 : List Int) (x1 : List Int) (x5 : Int) : Env := [(0, .c (.d (L90 x0))), (1, .c (.d (L90 x1))), (5, .c (.d (.int .i64 x5)))]
theorem nat_order.w (k : Nat) : (∀  (x0 : List Int) (x1 : List Int) (x5 : Int) (r : Int), nat_order.l0 k x0 x1 x5 = some r → Til Tryd.prog 67 [] (.c (.d (.int .i64 r))) none [] (at_ Tryd.f67 6) (nat_order.l0E x0 x1 x5) []) := by
  induction k with
  | zero =>
    exact fun _ _ _ _ h => (by cases h)
  | succ k ih =>
    intro x0 x1 x5 r h
    rw [nat_order.l0] at h
    by_cases h0 : x5 ≥ 0
    · rw [if_pos h0] at h
      obtain ⟨h1, h⟩ := ifp h
      obtain ⟨h2, h⟩ := ifp h
      by_cases h3 : (rd x0 x5) < (rd x1 x5)
      · rw [if_pos h3] at h
        obtain rfl := Option.some.inj h
        exact Til.fin Tryd.func67 [(1, .b true), (10, .b true)] (fun _ f => o (decide_eq_true h0) (o (o h0 h1) (o (o h0 h2) (o (decide_eq_true h3) f)))) (by kernel_rfl)
      · rw [if_neg h3] at h
        by_cases h4 : (rd x0 x5) > (rd x1 x5)
        · rw [if_pos h4] at h
          obtain rfl := Option.some.inj h
          exact Til.fin Tryd.func67 [(1, .b true), (10, .b false), (20, .b true)] (fun _ f => o (decide_eq_true h0) (o (o h0 h1) (o (o h0 h2) (o (decide_eq_false h3) (o (o h0 h1) (o (o h0 h2) (o (decide_eq_true h4) f))))))) (by kernel_rfl)
        · rw [if_neg h4] at h
          exact Til.mid Tryd.func67 6 [(1, .b true), (10, .b false), (20, .b false)] (fun _ f => o (decide_eq_true h0) (o (o h0 h1) (o (o h0 h2) (o (decide_eq_false h3) (o (o h0 h1) (o (o h0 h2) (o (decide_eq_false h4) f))))))) (by kernel_rfl) (ih _ _ _ _ h)
    · rw [if_neg h0] at h
      obtain rfl := Option.some.inj h
      exact Til.fin Tryd.func67 [(1, .b false)] (fun _ f => o (decide_eq_false h0) f) (by kernel_rfl)
theorem nat_order.does {k : Nat} {l0 : List Int} {l1 : List Int} {r : Int} (h : nat_order.f k l0 l1 = some r) :
    Does Tryd.prog 67 [.c (.d (L90 l0)), .c (.d (L90 l1))] [] (.c (.d (.int .i64 r))) none [] := by
  refine does_fn Tryd.func67 (by kernel_rfl) rfl rfl ?_
  unfold nat_order.f at h
  have ih := nat_order.w k
  by_cases h0 : (l0.length : Int) < (l1.length : Int)
  · rw [if_pos h0] at h
    obtain rfl := Option.some.inj h
    exact Til.fin Tryd.func67 [(5, .b true)] (fun _ f => o (decide_eq_true h0) f) (by kernel_rfl)
  · rw [if_neg h0] at h
    by_cases h1 : (l0.length : Int) > (l1.length : Int)
    · rw [if_pos h1] at h
      obtain rfl := Option.some.inj h
      exact Til.fin Tryd.func67 [(5, .b false), (11, .b true)] (fun _ f => o (decide_eq_false h0) (o (decide_eq_true h1) f)) (by kernel_rfl)
    · rw [if_neg h1] at h
      exact Til.mid Tryd.func67 6 [(5, .b false), (11, .b false)] (fun _ f => o (decide_eq_false h0) (o (decide_eq_false h1) f)) (by kernel_rfl) (ih _ _ _ _ h)

theorem nat_To.does {k : Nat} {l0 : List Int} {r : Int × Bool} (h : nat_To.f k l0 = some r) :
    Does Tryd.prog 98 [.c (.d (L90 l0))] [] (.tup [.c (.d (.int .u64 r.1)), .c (.d (.bool r.2))]) none [] := by
  refine does_fn Tryd.func98 (by kernel_rfl) rfl rfl ?_
  unfold nat_To.f at h
  obtain ⟨v3, h0, h⟩ := bnd h
  by_cases h1 : (v3.length : Int) = 0
  · rw [if_pos h1] at h
    obtain rfl := Option.some.inj h
    exact Til.fin Tryd.func98 [(3, ca (.c (.d (L90 v3)))), (7, .b true)] (fun _ f => o (nat_Clean.does h0) (o (beq_iff_eq.2 h1) f)) (by kernel_rfl)
  · rw [if_neg h1] at h
    by_cases h2 : (v3.length : Int) = 1
    · rw [if_pos h2] at h
      obtain ⟨h3, h⟩ := ifp h
      obtain rfl := Option.some.inj h
      exact Til.fin Tryd.func98 [(3, ca (.c (.d (L90 v3)))), (7, .b false), (9, .b true)] (fun _ f => o (nat_Clean.does h0) (o (beq_false_of_ne h1) (o (beq_iff_eq.2 h2) (o (o (nn 0) h3) f)))) (by kernel_rfl)
    · rw [if_neg h2] at h
      by_cases h3 : (v3.length : Int) = 2
      · rw [if_pos h3] at h
        obtain ⟨h4, h⟩ := ifp h
        obtain ⟨h5, h⟩ := ifp h
        obtain rfl := Option.some.inj h
        exact Til.fin Tryd.func98 [(3, ca (.c (.d (L90 v3)))), (7, .b false), (9, .b false), (11, .b true)] (fun _ f => o (nat_Clean.does h0) (o (beq_false_of_ne h1) (o (beq_false_of_ne h2) (o (beq_iff_eq.2 h3) (o (o (nn 1) h4) (o (nn 32) (o (o (nn 0) h5) f))))))) (by kernel_rfl)
      · rw [if_neg h3] at h
        obtain rfl := Option.some.inj h
        exact Til.fin Tryd.func98 [(3, ca (.c (.d (L90 v3)))), (7, .b false), (9, .b false), (11, .b false)] (fun _ f => o (nat_Clean.does h0) (o (beq_false_of_ne h1) (o (beq_false_of_ne h2) (o (beq_false_of_ne h3) f)))) (by kernel_rfl)

def nat_euclid.l0E (x5 : Int) (x7 : Int) : Env := [(5, .c (.d (.int .u64 x5))), (7, .c (.d (.int .u64 x7)))]
theorem nat_euclid.w (k : Nat) : (∀  (x5 : Int) (x7 : Int) (r : List Int), nat_euclid.l0 k x5 x7 = some r → Til Tryd.prog 91 [] (.c (.d (L90 r))) none [] (at_ Tryd.f91 3) (nat_euclid.l0E x5 x7) []) := by
  induction k with
  | zero =>
    exact fun _ _ _ h => (by cases h)
  | succ k ih =>
    intro x5 x7 r h
    rw [nat_euclid.l0] at h
    by_cases h0 : x7 ≠ 0
    · rw [if_pos h0] at h
      obtain ⟨h1, h⟩ := ifn h
      exact Til.mid Tryd.func91 3 [(1, .b true)] (fun _ f => o (bne_iff_ne.2 h0) (o h1 f)) (by kernel_rfl) (ih _ _ _ h)
    · rw [if_neg h0] at h
      obtain ⟨v3, h1, h⟩ := bnd h
      obtain rfl := Option.some.inj h
      exact Til.fin Tryd.func91 [(1, .b false), (3, ca (.c (.d (L90 v3))))] (fun _ f => o (ne_f h0) (o (nat_Of.does h1) f)) (by kernel_rfl)
theorem nat_euclid.does {k : Nat} {l0 : List Int} {l1 : List Int} {r : List Int} (h : nat_euclid.f k l0 l1 = some r) :
    Does Tryd.prog 91 [.c (.d (L90 l0)), .c (.d (L90 l1))] [] (.c (.d (L90 r))) none [] := by
  refine does_fn Tryd.func91 (by kernel_rfl) rfl rfl ?_
  unfold nat_euclid.f at h
  have ih := nat_euclid.w k
  obtain ⟨v2, h0, h⟩ := bnd h
  obtain ⟨v9, h1, h⟩ := bnd h
  exact Til.mid Tryd.func91 3 [(2, ca (.tup [.c (.d (.int .u64 v2.1)), .c (.d (.bool v2.2))])), (9, ca (.tup [.c (.d (.int .u64 v9.1)), .c (.d (.bool v9.2))]))] (fun _ f => o (nat_To.does h0) (o (nat_To.does h1) f)) (by kernel_rfl) (ih _ _ _ h)

theorem bits_TrailingZeros64.does {a0 : Int} {r : Int} (h : bits_TrailingZeros64.f a0 = some r) :
    Does Tryd.prog 99 [.c (.d (.int .u64 a0))] [] (.c (.d (.int .i64 r))) none [] := by
  refine does_fn Tryd.func99 (by kernel_rfl) rfl rfl ?_
  unfold bits_TrailingZeros64.f at h
  by_cases h0 : a0 = 0
  · rw [if_pos h0] at h
    obtain rfl := Option.some.inj h
    exact Til.fin Tryd.func99 [(2, .b true)] (fun _ f => o (beq_iff_eq.2 h0) f) (by kernel_rfl)
  · rw [if_neg h0] at h
    obtain ⟨h1, h⟩ := ifp h
    obtain ⟨h2, h⟩ := ifp h
    obtain rfl := Option.some.inj h
    exact Til.fin Tryd.func99 [(2, .b false), (10, .v (.c (.d (.int .u8 (rd tab_deBruijn64tab ((IntKind.u64.wrap ((Go.bits .and .u64 a0 (IntKind.u64.wrap (0 - a0))) * 285870213051353865)) / 288230376151711744))))))] (fun _ f => o (beq_false_of_ne h0) (o (nn 58) (o (o h1 h2) (o (tab_ok .u8 tab_deBruijn64tab h1 h2 rfl) f)))) (by kernel_rfl)

def nat_zeros.l0E (x3 : Int) (x6 : List Int) (x7 : Int) (x8 : Int) : Env := [(3, .c (.d (.int .i64 x3))), (6, .c (.d (L90 x6))), (7, .c (.d (.int .i64 x7))), (8, .c (.d (.int .i64 x8)))]
theorem nat_zeros.w (k : Nat) : (∀  (x3 : Int) (x6 : List Int) (x7 : Int) (x8 : Int) (r : Int), nat_zeros.l0 k x3 x6 x7 x8 = some r → Til Tryd.prog 92 [] (.c (.d (.int .i64 r))) none [] (at_ Tryd.f92 3) (nat_zeros.l0E x3 x6 x7 x8) []) := by
  induction k with
  | zero =>
    exact fun _ _ _ _ _ h => (by cases h)
  | succ k ih =>
    intro x3 x6 x7 x8 r h
    rw [nat_zeros.l0] at h
    by_cases h0 : x8 < x7
    · rw [if_pos h0] at h
      obtain ⟨h1, h⟩ := ifp h
      obtain ⟨h2, h⟩ := ifp h
      by_cases h3 : (rd x6 x8) ≠ 0
      · rw [if_pos h3] at h
        obtain ⟨v11, h4, h⟩ := bnd h
        obtain rfl := Option.some.inj h
        exact Til.fin Tryd.func92 [(0, .b true), (7, .b true), (11, ca (.c (.d (.int .i64 v11))))] (fun _ f => o (decide_eq_true h0) (o (o h1 h2) (o (bne_iff_ne.2 h3) (o (bits_TrailingZeros64.does h4) f)))) (by kernel_rfl)
      · rw [if_neg h3] at h
        exact Til.mid Tryd.func92 3 [(0, .b true), (7, .b false)] (fun _ f => o (decide_eq_true h0) (o (o h1 h2) (o (ne_f h3) f))) (by kernel_rfl) (ih _ _ _ _ _ h)
    · rw [if_neg h0] at h
      obtain rfl := Option.some.inj h
      exact Til.fin Tryd.func92 [(0, .b false)] (fun _ f => o (decide_eq_false h0) f) (by kernel_rfl)
theorem nat_zeros.does {k : Nat} {l0 : List Int} {r : Int} (h : nat_zeros.f k l0 = some r) :
    Does Tryd.prog 92 [.c (.d (L90 l0))] [] (.c (.d (.int .i64 r))) none [] := by
  refine does_fn Tryd.func92 (by kernel_rfl) rfl rfl ?_
  unfold nat_zeros.f at h
  have ih := nat_zeros.w k
  exact Til.mid Tryd.func92 3 [] (fun _ f => f) (by kernel_rfl) (ih _ _ _ _ _ h)

theorem nat_limb.does {l0 : List Int} {a1 : Int} {r : Int} (h : nat_limb.f l0 a1 = some r) :
    Does Tryd.prog 100 [.c (.d (L90 l0)), .c (.d (.int .i64 a1))] [] (.c (.d (.int .u64 r))) none [] := by
  refine does_fn Tryd.func100 (by kernel_rfl) rfl rfl ?_
  unfold nat_limb.f at h
  by_cases h0 : a1 < (l0.length : Int)
  · rw [if_pos h0] at h
    obtain ⟨h1, h⟩ := ifp h
    obtain rfl := Option.some.inj h
    exact Til.fin Tryd.func100 [(4, .b true)] (fun _ f => o (decide_eq_true h0) (o (o h1 h0) f)) (by kernel_rfl)
  · rw [if_neg h0] at h
    obtain rfl := Option.some.inj h
    exact Til.fin Tryd.func100 [(4, .b false)] (fun _ f => o (decide_eq_false h0) f) (by kernel_rfl)

def nat_shr.l0E (x0 : List Int) (x5 : Int) (x6 : Int) (x7 : List Int) (x23 : Int) (x24 : Int) : Env := [(0, .c (.d (L90 x0))), (5, .c (.d (.int .i64 x5))), (6, .c (.d (.int .i64 x6))), (7, .c (.own 7)), (23, .c (.d (.int .i64 x23))), (24, .c (.d (.int .i64 x24)))]
def nat_shr.l0B (x0 : List Int) (x5 : Int) (x6 : Int) (x7 : List Int) (x23 : Int) (x24 : Int) : Obs := [(7, some (O90 .own x7))]
theorem nat_shr.w (k : Nat) : (∀  (x0 : List Int) (x5 : Int) (x6 : Int) (x7 : List Int) (x23 : Int) (x24 : Int) (r : List Int), nat_shr.l0 k x0 x5 x6 x7 x23 x24 = some r → Til Tryd.prog 93 [] (.c (.d (L90 r))) none [] (at_ Tryd.f93 6) (nat_shr.l0E x0 x5 x6 x7 x23 x24) (nat_shr.l0B x0 x5 x6 x7 x23 x24)) := by
  induction k with
  | zero =>
    exact fun _ _ _ _ _ _ _ h => (by cases h)
  | succ k ih =>
    intro x0 x5 x6 x7 x23 x24 r h
    rw [nat_shr.l0] at h
    by_cases h0 : x24 < x23
    · rw [if_pos h0] at h
      obtain ⟨v10, h1, h⟩ := bnd h
      obtain ⟨h2, h⟩ := ifp h
      obtain ⟨h3, h⟩ := ifp h
      obtain ⟨h4, h⟩ := ifp h
      obtain ⟨h5, h⟩ := ifp h
      obtain ⟨h6, h⟩ := ifp h
      exact Til.mid Tryd.func93 6 [(0, .b true), (10, ca (.c (.d (.int .u64 v10)))), (23, Z90 (x7.set ((x24 : Int).toNat) (Go.bits .and .u64 (shr .u64 (Go.bits .or .u64 (IntKind.u64.wrap (v10 * 4294967296)) (rd x0 (wrap64 (x24 + x5)))) x6) 4294967295)))] (fun _ f => o (decide_eq_true h0) (o (nat_limb.does h1) (o (nn 32) (o (o h2 h3) (o h4 (o (o h5 h6) (o (set_ok c90 0 (fun _ _ => rfl) x7 ((x24 : Int).toNat) (Go.bits .and .u64 (shr .u64 (Go.bits .or .u64 (IntKind.u64.wrap (v10 * 4294967296)) (rd x0 (wrap64 (x24 + x5)))) x6) 4294967295) (lt_ok h5 h6)) f))))))) (by kernel_rfl) (ih _ _ _ _ _ _ _ h)
    · rw [if_neg h0] at h
      obtain ⟨v2, h1, h⟩ := bnd h
      obtain rfl := Option.some.inj h
      exact Til.fin Tryd.func93 [(0, .b false), (2, ca (.c (.d (L90 v2))))] (fun _ f => o (decide_eq_false h0) (o (nat_trim.does h1) f)) (by kernel_rfl)
theorem nat_shr.does {k : Nat} {l0 : List Int} {a1 : Int} {r : List Int} (h : nat_shr.f k l0 a1 = some r) :
    Does Tryd.prog 93 [.c (.d (L90 l0)), .c (.d (.int .i64 a1))] [] (.c (.d (L90 r))) none [] := by
  refine does_fn Tryd.func93 (by kernel_rfl) rfl rfl ?_
  unfold nat_shr.f at h
  have ih := nat_shr.w k
  by_cases h0 : (wrap64 (Int.tdiv a1 32)) ≥ (l0.length : Int)
  · rw [if_pos h0] at h
    obtain rfl := Option.some.inj h
    exact Til.fin Tryd.func93 [(10, .b true)] (fun _ f => o (by decide : ¬ (32 : Int) = 0) (o (by decide : ¬ (32 : Int) = 0) (o (decide_eq_true h0) f))) (by kernel_rfl)
  · rw [if_neg h0] at h
    obtain ⟨h1, h⟩ := ifp h
    obtain ⟨h2, h⟩ := ifp h
    exact Til.mid Tryd.func93 6 [(10, .b false), (15, Z90 (List.replicate (((wrap64 ((l0.length : Int) - (wrap64 (Int.tdiv a1 32)))) : Int).toNat) 0 : List Int))] (fun _ f => o (by decide : ¬ (32 : Int) = 0) (o (by decide : ¬ (32 : Int) = 0) (o (decide_eq_false h0) (o (make_ok c90 0 [.int .u64 0] ⟨.refl _, trivial⟩ (wrap64 ((l0.length : Int) - (wrap64 (Int.tdiv a1 32)))) 8 35184372088832 (by decide) h1 h2) f)))) (by kernel_rfl) (ih _ _ _ _ _ _ _ h)

def nat_trimM.l0E (x0 : List Int) (x3 : Int) : Env := [(0, .c (.own 0)), (3, .c (.d (.int .i64 x3)))]
def nat_trimM.l0B (x0 : List Int) (x3 : Int) : Obs := [(0, some (O90 .own x0))]
theorem nat_trimM.w (k : Nat) : (∀ (l0 : List Int) (x0 : List Int) (x3 : Int) (r : List Int), nat_trimM.l0 k x0 x3 = some r → Til Tryd.prog 68 [(0, some (O90 .own l0))] (.c (.own newName)) (some (O90 .own r)) [] (at_ Tryd.f68 2) (nat_trimM.l0E x0 x3) (nat_trimM.l0B x0 x3)) := by
  induction k with
  | zero =>
    exact fun _ _ _ _ h => (by cases h)
  | succ k ih =>
    intro l0 x0 x3 r h
    rw [nat_trimM.l0] at h
    by_cases h0 : x3 > 0
    · rw [if_pos h0] at h
      obtain ⟨h1, h⟩ := ifp h
      obtain ⟨h2, h⟩ := ifp h
      by_cases h3 : (rd x0 (wrap64 (x3 - 1))) = 0
      · rw [if_pos h3] at h
        exact Til.mid Tryd.func68 2 [(1, .b true), (8, .b true)] (fun _ f => o (decide_eq_true h0) (o (o h1 h2) (o (beq_iff_eq.2 h3) f))) (by kernel_rfl) (ih _ _ _ _ h)
      · rw [if_neg h3] at h
        by_cases h4 : x3 = 0
        · rw [if_pos h4] at h
          obtain rfl := Option.some.inj h
          exact Til.fin Tryd.func68 [(1, .b true), (8, .b false), (11, .b true)] (fun _ f => o (decide_eq_true h0) (o (o h1 h2) (o (beq_false_of_ne h3) (o (beq_iff_eq.2 h4) f)))) (by kernel_rfl)
        · rw [if_neg h4] at h
          obtain ⟨h5, h⟩ := ifp h
          obtain ⟨h6, h⟩ := ifp h
          obtain rfl := Option.some.inj h
          exact Til.fin Tryd.func68 [(1, .b true), (8, .b false), (11, .b false), (14, Z90 (x0.take ((x3 : Int).toNat)))] (fun _ f => o (decide_eq_true h0) (o (o h1 h2) (o (beq_false_of_ne h3) (o (beq_false_of_ne h4) (o (take_ok c90 0 x0 h5 h6) f))))) (by kernel_rfl)
    · rw [if_neg h0] at h
      by_cases h1 : x3 = 0
      · rw [if_pos h1] at h
        obtain rfl := Option.some.inj h
        exact Til.fin Tryd.func68 [(1, .b false), (11, .b true)] (fun _ f => o (decide_eq_false h0) (o (beq_iff_eq.2 h1) f)) (by kernel_rfl)
      · rw [if_neg h1] at h
        obtain ⟨h2, h⟩ := ifp h
        obtain ⟨h3, h⟩ := ifp h
        obtain rfl := Option.some.inj h
        exact Til.fin Tryd.func68 [(1, .b false), (11, .b false), (14, Z90 (x0.take ((x3 : Int).toNat)))] (fun _ f => o (decide_eq_false h0) (o (beq_false_of_ne h1) (o (take_ok c90 0 x0 h2 h3) f))) (by kernel_rfl)
theorem nat_trimM.does {k : Nat} {l0 : List Int} {r : List Int} (h : nat_trimM.f k l0 = some r) :
    Does Tryd.prog 68 [.c (.own 0)] [(0, some (O90 .own l0))] (.c (.own newName)) (some (O90 .own r)) [] := by
  refine does_fn Tryd.func68 (by kernel_rfl) rfl rfl ?_
  unfold nat_trimM.f at h
  have ih := nat_trimM.w k
  exact Til.mid Tryd.func68 2 [] (fun _ f => f) (by kernel_rfl) (ih _ _ _ _ h)

def nat_shl.l0E (x5 : Int) (x6 : Int) (x7 : List Int) (x20 : List Int) (x21 : Int) (x22 : Int) : Env := [(5, .c (.d (.int .i64 x5))), (6, .c (.d (.int .i64 x6))), (7, .c (.own 7)), (20, .c (.d (L90 x20))), (21, .c (.d (.int .i64 x21))), (22, .c (.d (.int .i64 x22)))]
def nat_shl.l0B (x5 : Int) (x6 : Int) (x7 : List Int) (x20 : List Int) (x21 : Int) (x22 : Int) : Obs := [(7, some (O90 .own x7))]
theorem nat_shl.w (k : Nat) : (∀  (x5 : Int) (x6 : Int) (x7 : List Int) (x20 : List Int) (x21 : Int) (x22 : Int) (r : List Int), nat_shl.l0 k x5 x6 x7 x20 x21 x22 = some r → Til Tryd.prog 94 [] (.c (.own newName)) (some (O90 .own r)) [] (at_ Tryd.f94 4) (nat_shl.l0E x5 x6 x7 x20 x21 x22) (nat_shl.l0B x5 x6 x7 x20 x21 x22)) := by
  induction k with
  | zero =>
    exact fun _ _ _ _ _ _ _ h => (by cases h)
  | succ k ih =>
    intro x5 x6 x7 x20 x21 x22 r h
    rw [nat_shl.l0] at h
    by_cases h0 : x22 < x21
    · rw [if_pos h0] at h
      obtain ⟨h1, h⟩ := ifp h
      obtain ⟨h2, h⟩ := ifp h
      obtain ⟨h3, h⟩ := ifp h
      obtain ⟨h4, h⟩ := ifp h
      obtain ⟨h5, h⟩ := ifp h
      obtain ⟨h6, h⟩ := ifp h
      obtain ⟨h7, h⟩ := ifp h
      exact Til.mid Tryd.func94 4 [(0, .b true), (20, Z90 (x7.set (((wrap64 (x22 + x5)) : Int).toNat) (Go.bits .or .u64 (rd x7 (wrap64 (x22 + x5))) (Go.bits .and .u64 (shl .u64 (rd x20 x22) x6) 4294967295)))), (29, Z90 ((x7.set (((wrap64 (x22 + x5)) : Int).toNat) (Go.bits .or .u64 (rd x7 (wrap64 (x22 + x5))) (Go.bits .and .u64 (shl .u64 (rd x20 x22) x6) 4294967295))).set (((wrap64 ((wrap64 (x22 + x5)) + 1)) : Int).toNat) ((shl .u64 (rd x20 x22) x6) / 4294967296)))] (fun _ f => o (decide_eq_true h0) (o (o h1 h2) (o h3 (o (o h4 h5) (o (o h4 h5) (o (set_ok c90 0 (fun _ _ => rfl) x7 (((wrap64 (x22 + x5)) : Int).toNat) (Go.bits .or .u64 (rd x7 (wrap64 (x22 + x5))) (Go.bits .and .u64 (shl .u64 (rd x20 x22) x6) 4294967295)) (lt_ok h4 h5)) (o (nn 32) (o (o h6 h7) (o (set_ok c90 0 (fun _ _ => rfl) (x7.set (((wrap64 (x22 + x5)) : Int).toNat) (Go.bits .or .u64 (rd x7 (wrap64 (x22 + x5))) (Go.bits .and .u64 (shl .u64 (rd x20 x22) x6) 4294967295))) (((wrap64 ((wrap64 (x22 + x5)) + 1)) : Int).toNat) ((shl .u64 (rd x20 x22) x6) / 4294967296) (lt_ok h6 h7)) f))))))))) (by kernel_rfl) (ih _ _ _ _ _ _ _ h)
    · rw [if_neg h0] at h
      obtain ⟨v2, h1, h⟩ := bnd h
      obtain rfl := Option.some.inj h
      exact Til.fin Tryd.func94 [(0, .b false), (2, .call [] [0] (.c (.own 0)) (some (O90 .own v2)) [] [])] (fun _ f => o (decide_eq_false h0) (o (nat_trimM.does h1) f)) (by kernel_rfl)
theorem nat_shl.does {k : Nat} {l0 : List Int} {a1 : Int} {r : List Int} (h : nat_shl.f k l0 a1 = some r) :
    Does Tryd.prog 94 [.c (.d (L90 l0)), .c (.d (.int .i64 a1))] [] (.c (.own newName)) (some (O90 .own r)) [] := by
  refine does_fn Tryd.func94 (by kernel_rfl) rfl rfl ?_
  unfold nat_shl.f at h
  have ih := nat_shl.w k
  obtain ⟨h0, h⟩ := ifp h
  obtain ⟨h1, h⟩ := ifp h
  exact Til.mid Tryd.func94 4 [(12, Z90 (List.replicate (((wrap64 ((wrap64 ((l0.length : Int) + (wrap64 (Int.tdiv a1 32)))) + 1)) : Int).toNat) 0 : List Int))] (fun _ f => o (by decide : ¬ (32 : Int) = 0) (o (by decide : ¬ (32 : Int) = 0) (o (make_ok c90 0 [.int .u64 0] ⟨.refl _, trivial⟩ (wrap64 ((wrap64 ((l0.length : Int) + (wrap64 (Int.tdiv a1 32)))) + 1)) 8 35184372088832 (by decide) h0 h1) f))) (by kernel_rfl) (ih _ _ _ _ _ _ _ h)

def nat_small.l0E (x0 : List Int) (x1 : Int) (x6 : List Int) (x7 : Int) (x8 : Int) : Env := [(0, .c (.d (L90 x0))), (1, .c (.d (.int .u64 x1))), (6, .c (.own 6)), (7, .c (.d (.int .u64 x7))), (8, .c (.d (.int .i64 x8)))]
def nat_small.l0B (x0 : List Int) (x1 : Int) (x6 : List Int) (x7 : Int) (x8 : Int) : Obs := [(6, some (O90 .own x6))]
theorem nat_small.w (k : Nat) : (∀  (x0 : List Int) (x1 : Int) (x6 : List Int) (x7 : Int) (x8 : Int) (r : List Int × Int), nat_small.l0 k x0 x1 x6 x7 x8 = some r → Til Tryd.prog 69 [] (.tup [.c (.d (L90 r.1)), .c (.d (.int .u64 r.2))]) none [] (at_ Tryd.f69 4) (nat_small.l0E x0 x1 x6 x7 x8) (nat_small.l0B x0 x1 x6 x7 x8)) := by
  induction k with
  | zero =>
    exact fun _ _ _ _ _ _ h => (by cases h)
  | succ k ih =>
    intro x0 x1 x6 x7 x8 r h
    rw [nat_small.l0] at h
    by_cases h0 : x8 ≥ 0
    · rw [if_pos h0] at h
      obtain ⟨h1, h⟩ := ifp h
      obtain ⟨h2, h⟩ := ifn h
      obtain ⟨h3, h⟩ := ifp h
      exact Til.mid Tryd.func69 4 [(1, .b true), (16, Z90 (x6.set ((x8 : Int).toNat) (IntKind.u64.wrap (Int.tdiv (Go.bits .or .u64 (IntKind.u64.wrap (x7 * 4294967296)) (rd x0 x8)) x1))))] (fun _ f => o (decide_eq_true h0) (o (nn 32) (o (o h0 h1) (o h2 (o (o h0 h3) (o (set_ok c90 0 (fun _ _ => rfl) x6 ((x8 : Int).toNat) (IntKind.u64.wrap (Int.tdiv (Go.bits .or .u64 (IntKind.u64.wrap (x7 * 4294967296)) (rd x0 x8)) x1)) (lt_ok h0 h3)) (o h2 f))))))) (by kernel_rfl) (ih _ _ _ _ _ _ h)
    · rw [if_neg h0] at h
      obtain ⟨v3, h1, h⟩ := bnd h
      obtain rfl := Option.some.inj h
      exact Til.fin Tryd.func69 [(1, .b false), (3, ca (.c (.d (L90 v3))))] (fun _ f => o (decide_eq_false h0) (o (nat_trim.does h1) f)) (by kernel_rfl)
theorem nat_small.does {k : Nat} {l0 : List Int} {a1 : Int} {r : List Int × Int} (h : nat_small.f k l0 a1 = some r) :
    Does Tryd.prog 69 [.c (.d (L90 l0)), .c (.d (.int .u64 a1))] [] (.tup [.c (.d (L90 r.1)), .c (.d (.int .u64 r.2))]) none [] := by
  refine does_fn Tryd.func69 (by kernel_rfl) rfl rfl ?_
  unfold nat_small.f at h
  have ih := nat_small.w k
  obtain ⟨h0, h⟩ := ifp h
  exact Til.mid Tryd.func69 4 [(4, Z90 (List.replicate (((l0.length : Int) : Int).toNat) 0 : List Int))] (fun _ f => o (make_ok c90 0 [.int .u64 0] ⟨.refl _, trivial⟩ (l0.length : Int) 8 35184372088832 (by decide) (Int.natCast_nonneg l0.length) h0) f) (by kernel_rfl) (ih _ _ _ _ _ _ h)

theorem bits_Len32.does {a0 : Int} {r : Int} (h : bits_Len32.f a0 = some r) :
    Does Tryd.prog 103 [.c (.d (.int .u32 a0))] [] (.c (.d (.int .i64 r))) none [] := by
  refine does_fn Tryd.func103 (by kernel_rfl) rfl rfl ?_
  unfold bits_Len32.f at h
  by_cases h0 : a0 ≥ 65536
  · rw [if_pos h0] at h
    by_cases h1 : (a0 / 65536) ≥ 256
    · rw [if_pos h1] at h
      obtain ⟨h2, h⟩ := ifp h
      obtain ⟨h3, h⟩ := ifp h
      obtain rfl := Option.some.inj h
      exact Til.fin Tryd.func103 [(2, .b true), (8, .b true)] (fun _ f => o (decide_eq_true h0) (o (nn 16) (o (decide_eq_true h1) (o (nn 8) (o (o h2 h3) f))))) (by kernel_rfl)
    · rw [if_neg h1] at h
      obtain ⟨h2, h⟩ := ifp h
      obtain ⟨h3, h⟩ := ifp h
      obtain rfl := Option.some.inj h
      exact Til.fin Tryd.func103 [(2, .b true), (8, .b false)] (fun _ f => o (decide_eq_true h0) (o (nn 16) (o (decide_eq_false h1) (o (o h2 h3) f)))) (by kernel_rfl)
  · rw [if_neg h0] at h
    by_cases h1 : a0 ≥ 256
    · rw [if_pos h1] at h
      obtain ⟨h2, h⟩ := ifp h
      obtain ⟨h3, h⟩ := ifp h
      obtain rfl := Option.some.inj h
      exact Til.fin Tryd.func103 [(2, .b false), (4, .b true)] (fun _ f => o (decide_eq_false h0) (o (decide_eq_true h1) (o (nn 8) (o (o h2 h3) f)))) (by kernel_rfl)
    · rw [if_neg h1] at h
      obtain ⟨h2, h⟩ := ifp h
      obtain ⟨h3, h⟩ := ifp h
      obtain rfl := Option.some.inj h
      exact Til.fin Tryd.func103 [(2, .b false), (4, .b false)] (fun _ f => o (decide_eq_false h0) (o (decide_eq_false h1) (o (o h2 h3) f))) (by kernel_rfl)

theorem bits_LeadingZeros32.does {a0 : Int} {r : Int} (h : bits_LeadingZeros32.f a0 = some r) :
    Does Tryd.prog 101 [.c (.d (.int .u32 a0))] [] (.c (.d (.int .i64 r))) none [] := by
  refine does_fn Tryd.func101 (by kernel_rfl) rfl rfl ?_
  unfold bits_LeadingZeros32.f at h
  obtain ⟨v2, h0, h⟩ := bnd h
  obtain rfl := Option.some.inj h
  exact Til.fin Tryd.func101 [(2, ca (.c (.d (.int .i64 v2))))] (fun _ f => o (bits_Len32.does h0) f) (by kernel_rfl)

def nat_take.l0E (x0 : List Int) (x1 : List Int) (x2 : Int) (x7 : Int) (x8 : Int) (x12 : Int) (x13 : Int) : Env := [(0, .c (.own 0)), (1, .c (.d (L90 x1))), (2, .c (.d (.int .u64 x2))), (7, .c (.d (.int .u64 x7))), (8, .c (.d (.int .u64 x8))), (12, .c (.d (.int .i64 x12))), (13, .c (.d (.int .i64 x13)))]
def nat_take.l0B (x0 : List Int) (x1 : List Int) (x2 : Int) (x7 : Int) (x8 : Int) (x12 : Int) (x13 : Int) : Obs := [(0, some (O90 .win x0))]
theorem nat_take.w (k : Nat) : (∀ (l0 : List Int) (x0 : List Int) (x1 : List Int) (x2 : Int) (x7 : Int) (x8 : Int) (x12 : Int) (x13 : Int) (r : Bool × List Int), nat_take.l0 k x0 x1 x2 x7 x8 x12 x13 = some r → Til Tryd.prog 104 [(0, some (O90 .win l0))] (.c (.d (.bool r.1))) none [(0, some (O90 .win r.2))] (at_ Tryd.f104 3) (nat_take.l0E x0 x1 x2 x7 x8 x12 x13) (nat_take.l0B x0 x1 x2 x7 x8 x12 x13)) := by
  induction k with
  | zero =>
    exact fun _ _ _ _ _ _ _ _ _ h => (by cases h)
  | succ k ih =>
    intro l0 x0 x1 x2 x7 x8 x12 x13 r h
    rw [nat_take.l0] at h
    by_cases h0 : x13 < x12
    · rw [if_pos h0] at h
      obtain ⟨v7, h1, h⟩ := bnd h
      obtain ⟨h2, h⟩ := ifp h
      obtain ⟨h3, h⟩ := ifp h
      exact Til.mid Tryd.func104 3 [(0, .b true), (7, ca (.c (.d (.int .u64 v7)))), (27, Z90 (x0.set ((x13 : Int).toNat) (Go.bits .and .u64 (IntKind.u64.wrap ((IntKind.u64.wrap ((IntKind.u64.wrap (4294967296 + (rd x0 x13))) - (Go.bits .and .u64 (IntKind.u64.wrap (x7 + (IntKind.u64.wrap (x2 * v7)))) 4294967295))) - x8)) 4294967295)))] (fun _ f => o (decide_eq_true h0) (o (nat_limb.does h1) (o (o h2 h3) (o (o h2 h3) (o (set_ok c90 0 (fun _ _ => rfl) x0 ((x13 : Int).toNat) (Go.bits .and .u64 (IntKind.u64.wrap ((IntKind.u64.wrap ((IntKind.u64.wrap (4294967296 + (rd x0 x13))) - (Go.bits .and .u64 (IntKind.u64.wrap (x7 + (IntKind.u64.wrap (x2 * v7)))) 4294967295))) - x8)) 4294967295) (lt_ok h2 h3)) (o (nn 32) (o (nn 32) f))))))) (by kernel_rfl) (ih _ _ _ _ _ _ _ _ _ h)
    · rw [if_neg h0] at h
      obtain rfl := Option.some.inj h
      exact Til.fin Tryd.func104 [(0, .b false)] (fun _ f => o (decide_eq_false h0) f) (by kernel_rfl)
theorem nat_take.does {k : Nat} {l0 : List Int} {l1 : List Int} {a2 : Int} {r : Bool × List Int} (h : nat_take.f k l0 l1 a2 = some r) :
    Does Tryd.prog 104 [.c (.own 0), .c (.d (L90 l1)), .c (.d (.int .u64 a2))] [(0, some (O90 .win l0))] (.c (.d (.bool r.1))) none [(0, some (O90 .win r.2))] := by
  refine does_fn Tryd.func104 (by kernel_rfl) rfl rfl ?_
  unfold nat_take.f at h
  have ih := nat_take.w k
  exact Til.mid Tryd.func104 3 [] (fun _ f => f) (by kernel_rfl) (ih _ _ _ _ _ _ _ _ _ h)

def nat_give.l0E (x0 : List Int) (x1 : List Int) (x4 : Int) (x7 : Int) (x8 : Int) : Env := [(0, .c (.own 0)), (1, .c (.d (L90 x1))), (4, .c (.d (.int .u64 x4))), (7, .c (.d (.int .i64 x7))), (8, .c (.d (.int .i64 x8)))]
def nat_give.l0B (x0 : List Int) (x1 : List Int) (x4 : Int) (x7 : Int) (x8 : Int) : Obs := [(0, some (O90 .win x0))]
theorem nat_give.w (k : Nat) : (∀ (l0 : List Int) (x0 : List Int) (x1 : List Int) (x4 : Int) (x7 : Int) (x8 : Int) (r : List Int), nat_give.l0 k x0 x1 x4 x7 x8 = some r → Til Tryd.prog 105 [(0, some (O90 .win l0))] (.tup []) none [(0, some (O90 .win r))] (at_ Tryd.f105 2) (nat_give.l0E x0 x1 x4 x7 x8) (nat_give.l0B x0 x1 x4 x7 x8)) := by
  induction k with
  | zero =>
    exact fun _ _ _ _ _ _ _ h => (by cases h)
  | succ k ih =>
    intro l0 x0 x1 x4 x7 x8 r h
    rw [nat_give.l0] at h
    by_cases h0 : x8 < x7
    · rw [if_pos h0] at h
      obtain ⟨h1, h⟩ := ifp h
      obtain ⟨h2, h⟩ := ifp h
      obtain ⟨v10, h3, h⟩ := bnd h
      exact Til.mid Tryd.func105 2 [(0, .b true), (10, ca (.c (.d (.int .u64 v10)))), (19, Z90 (x0.set ((x8 : Int).toNat) (Go.bits .and .u64 (IntKind.u64.wrap (x4 + (IntKind.u64.wrap ((rd x0 x8) + v10)))) 4294967295)))] (fun _ f => o (decide_eq_true h0) (o (o h1 h2) (o (nat_limb.does h3) (o (o h1 h2) (o (set_ok c90 0 (fun _ _ => rfl) x0 ((x8 : Int).toNat) (Go.bits .and .u64 (IntKind.u64.wrap (x4 + (IntKind.u64.wrap ((rd x0 x8) + v10)))) 4294967295) (lt_ok h1 h2)) (o (nn 32) f)))))) (by kernel_rfl) (ih _ _ _ _ _ _ _ h)
    · rw [if_neg h0] at h
      obtain rfl := Option.some.inj h
      exact Til.fin Tryd.func105 [(0, .b false)] (fun _ f => o (decide_eq_false h0) f) (by kernel_rfl)
theorem nat_give.does {k : Nat} {l0 : List Int} {l1 : List Int} {r : List Int} (h : nat_give.f k l0 l1 = some r) :
    Does Tryd.prog 105 [.c (.own 0), .c (.d (L90 l1))] [(0, some (O90 .win l0))] (.tup []) none [(0, some (O90 .win r))] := by
  refine does_fn Tryd.func105 (by kernel_rfl) rfl rfl ?_
  unfold nat_give.f at h
  have ih := nat_give.w k
  exact Til.mid Tryd.func105 2 [] (fun _ f => f) (by kernel_rfl) (ih _ _ _ _ _ _ _ h)

def nat_digit.l0E (x0 : List Int) (x1 : List Int) (x5 : Int) (x7 : Int) (x8 : Int) : Env := [(0, .c (.own 0)), (1, .c (.d (L90 x1))), (5, .c (.d (.int .i64 x5))), (7, .c (.d (.int .u64 x7))), (8, .c (.d (.int .u64 x8)))]
def nat_digit.l0B (x0 : List Int) (x1 : List Int) (x5 : Int) (x7 : Int) (x8 : Int) : Obs := [(0, some (O90 .win x0))]
theorem nat_digit.w (k : Nat) : (∀ (l0 : List Int) (x0 : List Int) (x1 : List Int) (x5 : Int) (x7 : Int) (x8 : Int) (r : Int × List Int), nat_digit.l0 k x0 x1 x5 x7 x8 = some r → Til Tryd.prog 102 [(0, some (O90 .win l0))] (.c (.d (.int .u64 r.1))) none [(0, some (O90 .win r.2))] (at_ Tryd.f102 4) (nat_digit.l0E x0 x1 x5 x7 x8) (nat_digit.l0B x0 x1 x5 x7 x8)) := by
  induction k with
  | zero =>
    exact fun _ _ _ _ _ _ _ h => (by cases h)
  | succ k ih =>
    intro l0 x0 x1 x5 x7 x8 r h
    rw [nat_digit.l0] at h
    by_cases h0 : x7 ≥ 4294967296
    · rw [if_pos h0] at h
      obtain ⟨h1, h⟩ := ifp h
      obtain ⟨h2, h⟩ := ifp h
      by_cases h3 : (IntKind.u64.wrap (x8 + (rd x1 (wrap64 (x5 - 1))))) ≥ 4294967296
      · rw [if_pos h3] at h
        obtain ⟨⟨v36_0, v36_1⟩, h4, h⟩ := bnd h
        dsimp only at h
        obtain ⟨h5, h⟩ := ifp h
        cases v36_0
        · rw [if_neg (by decide)] at h
          obtain ⟨h6, h⟩ := ifp h
          obtain rfl := Option.some.inj h
          exact Til.fin Tryd.func102 [(1, .b true), (32, .b true), (36, .call [] [0] (.c (.d (.bool false))) none [(0, some (O90 .win v36_1))] [])] (fun _ f => o (decide_eq_true h0) (o (o h1 h2) (o (decide_eq_true h3) (o (nat_take.does h4) (o (o (rfl : (1 : Nat) = 1) h6) f))))) (by kernel_rfl)
        · rw [if_pos rfl] at h
          obtain ⟨h6, h⟩ := ifp h
          obtain ⟨v42, h7, h⟩ := bnd h
          obtain ⟨h8, h⟩ := ifp h
          obtain rfl := Option.some.inj h
          exact Til.fin Tryd.func102 [(1, .b true), (32, .b true), (36, .call [] [0] (.c (.d (.bool true))) none [(0, some (O90 .win v36_1))] []), (42, .call [] [0] (.tup []) none [(0, some (O90 .win v42))] [])] (fun _ f => o (decide_eq_true h0) (o (o h1 h2) (o (decide_eq_true h3) (o (nat_take.does h4) (o (o (rfl : (1 : Nat) = 1) h6) (o (nat_give.does h7) (o (o (rfl : (1 : Nat) = 1) h8) f))))))) (by kernel_rfl)
      · rw [if_neg h3] at h
        exact Til.mid Tryd.func102 4 [(1, .b true), (32, .b false)] (fun _ f => o (decide_eq_true h0) (o (o h1 h2) (o (decide_eq_false h3) f))) (by kernel_rfl) (ih _ _ _ _ _ _ _ h)
    · rw [if_neg h0] at h
      obtain ⟨h1, h⟩ := ifp h
      obtain ⟨h2, h⟩ := ifp h
      obtain ⟨h3, h⟩ := ifp h
      by_cases h4 : (IntKind.u64.wrap (x7 * (rd x1 (wrap64 (x5 - 2))))) > (Go.bits .or .u64 (IntKind.u64.wrap (x8 * 4294967296)) (rd x0 (wrap64 (x5 - 2))))
      · rw [if_pos h4] at h
        obtain ⟨h5, h⟩ := ifp h
        obtain ⟨h6, h⟩ := ifp h
        by_cases h7 : (IntKind.u64.wrap (x8 + (rd x1 (wrap64 (x5 - 1))))) ≥ 4294967296
        · rw [if_pos h7] at h
          obtain ⟨⟨v36_0, v36_1⟩, h8, h⟩ := bnd h
          dsimp only at h
          obtain ⟨h9, h⟩ := ifp h
          cases v36_0
          · rw [if_neg (by decide)] at h
            obtain ⟨h10, h⟩ := ifp h
            obtain rfl := Option.some.inj h
            exact Til.fin Tryd.func102 [(1, .b false), (18, .b true), (32, .b true), (36, .call [] [0] (.c (.d (.bool false))) none [(0, some (O90 .win v36_1))] [])] (fun _ f => o (decide_eq_false h0) (o (o h1 h2) (o (nn 32) (o (o h1 h3) (o (decide_eq_true h4) (o (o h5 h6) (o (decide_eq_true h7) (o (nat_take.does h8) (o (o (rfl : (1 : Nat) = 1) h10) f))))))))) (by kernel_rfl)
          · rw [if_pos rfl] at h
            obtain ⟨h10, h⟩ := ifp h
            obtain ⟨v42, h11, h⟩ := bnd h
            obtain ⟨h12, h⟩ := ifp h
            obtain rfl := Option.some.inj h
            exact Til.fin Tryd.func102 [(1, .b false), (18, .b true), (32, .b true), (36, .call [] [0] (.c (.d (.bool true))) none [(0, some (O90 .win v36_1))] []), (42, .call [] [0] (.tup []) none [(0, some (O90 .win v42))] [])] (fun _ f => o (decide_eq_false h0) (o (o h1 h2) (o (nn 32) (o (o h1 h3) (o (decide_eq_true h4) (o (o h5 h6) (o (decide_eq_true h7) (o (nat_take.does h8) (o (o (rfl : (1 : Nat) = 1) h10) (o (nat_give.does h11) (o (o (rfl : (1 : Nat) = 1) h12) f))))))))))) (by kernel_rfl)
        · rw [if_neg h7] at h
          exact Til.mid Tryd.func102 4 [(1, .b false), (18, .b true), (32, .b false)] (fun _ f => o (decide_eq_false h0) (o (o h1 h2) (o (nn 32) (o (o h1 h3) (o (decide_eq_true h4) (o (o h5 h6) (o (decide_eq_false h7) f))))))) (by kernel_rfl) (ih _ _ _ _ _ _ _ h)
      · rw [if_neg h4] at h
        obtain ⟨⟨v23_0, v23_1⟩, h5, h⟩ := bnd h
        dsimp only at h
        obtain ⟨h6, h⟩ := ifp h
        cases v23_0
        · rw [if_neg (by decide)] at h
          obtain ⟨h7, h⟩ := ifp h
          obtain rfl := Option.some.inj h
          exact Til.fin Tryd.func102 [(1, .b false), (18, .b false), (23, .call [] [0] (.c (.d (.bool false))) none [(0, some (O90 .win v23_1))] [])] (fun _ f => o (decide_eq_false h0) (o (o h1 h2) (o (nn 32) (o (o h1 h3) (o (decide_eq_false h4) (o (nat_take.does h5) (o (o (rfl : (1 : Nat) = 1) h7) f))))))) (by kernel_rfl)
        · rw [if_pos rfl] at h
          obtain ⟨h7, h⟩ := ifp h
          obtain ⟨v29, h8, h⟩ := bnd h
          obtain ⟨h9, h⟩ := ifp h
          obtain rfl := Option.some.inj h
          exact Til.fin Tryd.func102 [(1, .b false), (18, .b false), (23, .call [] [0] (.c (.d (.bool true))) none [(0, some (O90 .win v23_1))] []), (29, .call [] [0] (.tup []) none [(0, some (O90 .win v29))] [])] (fun _ f => o (decide_eq_false h0) (o (o h1 h2) (o (nn 32) (o (o h1 h3) (o (decide_eq_false h4) (o (nat_take.does h5) (o (o (rfl : (1 : Nat) = 1) h7) (o (nat_give.does h8) (o (o (rfl : (1 : Nat) = 1) h9) f))))))))) (by kernel_rfl)
theorem nat_digit.does {k : Nat} {l0 : List Int} {l1 : List Int} {r : Int × List Int} (h : nat_digit.f k l0 l1 = some r) :
    Does Tryd.prog 102 [.c (.own 0), .c (.d (L90 l1))] [(0, some (O90 .win l0))] (.c (.d (.int .u64 r.1))) none [(0, some (O90 .win r.2))] := by
  refine does_fn Tryd.func102 (by kernel_rfl) rfl rfl ?_
  unfold nat_digit.f at h
  have ih := nat_digit.w k
  obtain ⟨h0, h⟩ := ifp h
  obtain ⟨h1, h⟩ := ifp h
  obtain ⟨h2, h⟩ := ifp h
  obtain ⟨h3, h⟩ := ifp h
  obtain ⟨h4, h⟩ := ifn h
  exact Til.mid Tryd.func102 4 [] (fun _ f => o (o (Int.natCast_nonneg l1.length) h0) (o (nn 32) (o (o h1 h2) (o (o h1 h3) (o h4 (o (o h1 h3) (o h4 f))))))) (by kernel_rfl) (ih _ _ _ _ _ _ _ h)

def nat_long.l0E (x6 : Int) (x7 : List Int) (x8 : List Int) (x9 : Int) (x10 : List Int) (x11 : Int) : Env := [(6, .c (.d (.int .i64 x6))), (7, .c (.d (L90 x7))), (8, .c (.own 8)), (9, .c (.d (.int .i64 x9))), (10, .c (.own 10)), (11, .c (.d (.int .i64 x11)))]
def nat_long.l0B (x6 : Int) (x7 : List Int) (x8 : List Int) (x9 : Int) (x10 : List Int) (x11 : Int) : Obs := [(8, some (O90 .own x8)), (10, some (O90 .own x10))]
theorem nat_long.w (k : Nat) : (∀  (x6 : Int) (x7 : List Int) (x8 : List Int) (x9 : Int) (x10 : List Int) (x11 : Int) (r : List Int × List Int), nat_long.l0 k x6 x7 x8 x9 x10 x11 = some r → Til Tryd.prog 97 [] (.tup [.c (.d (L90 r.1)), .c (.d (L90 r.2))]) none [] (at_ Tryd.f97 7) (nat_long.l0E x6 x7 x8 x9 x10 x11) (nat_long.l0B x6 x7 x8 x9 x10 x11)) := by
  induction k with
  | zero =>
    exact fun _ _ _ _ _ _ _ h => (by cases h)
  | succ k ih =>
    intro x6 x7 x8 x9 x10 x11 r h
    rw [nat_long.l0] at h
    by_cases h0 : x11 ≥ 0
    · rw [if_pos h0] at h
      obtain ⟨h1, h⟩ := ifp h
      obtain ⟨h2, h⟩ := ifp h
      obtain ⟨v12, h3, h⟩ := bnd h
      obtain ⟨h4, h⟩ := ifp h
      obtain ⟨h5, h⟩ := ifp h
      exact Til.mid Tryd.func97 7 [(1, .b true), (12, .call [] [0] (.c (.d (.int .u64 v12.1))) none [(0, some (O90 .win v12.2))] [(0, (x8.take ((x11 : Int).toNat) ++ v12.2 ++ x8.drop (((wrap64 ((wrap64 (x11 + x9)) + 1)) : Int).toNat)).length, enc c90 0 (x8.take ((x11 : Int).toNat) ++ v12.2 ++ x8.drop (((wrap64 ((wrap64 (x11 + x9)) + 1)) : Int).toNat))), (1000000, ((x8.drop ((x11 : Int).toNat)).take (((wrap64 ((wrap64 (x11 + x9)) + 1)) : Int).toNat - (x11 : Int).toNat)).length, enc c90 0 ((x8.drop ((x11 : Int).toNat)).take (((wrap64 ((wrap64 (x11 + x9)) + 1)) : Int).toNat - (x11 : Int).toNat)))]), (14, Z90 (x10.set ((x11 : Int).toNat) v12.1))] (fun _ f => o (decide_eq_true h0) (o (o h0 (o h1 h2)) (o (nat_digit.does h3) (o (backw_ok c90 0 1 x8 v12.2 h0 (Int.le_of_lt h1) h2 h4) (o (part_ok c90 0 x8 h0 (Int.le_of_lt h1) h2).2.2.2 (o (o h0 h5) (o (set_ok c90 0 (fun _ _ => rfl) x10 ((x11 : Int).toNat) v12.1 (lt_ok h0 h5)) f))))))) (by kernel_rfl) (ih _ _ _ _ _ _ _ h)
    · rw [if_neg h0] at h
      obtain ⟨v3, h1, h⟩ := bnd h
      obtain ⟨v5, h2, h⟩ := bnd h
      obtain ⟨v7, h3, h⟩ := bnd h
      obtain rfl := Option.some.inj h
      exact Til.fin Tryd.func97 [(1, .b false), (3, ca (.c (.d (L90 v3)))), (5, ca (.c (.d (L90 v5)))), (7, ca (.c (.d (L90 v7))))] (fun _ f => o (decide_eq_false h0) (o (nat_trim.does h1) (o (nat_trim.does h2) (o (nat_shr.does h3) f)))) (by kernel_rfl)
theorem nat_long.does {k : Nat} {l0 : List Int} {l1 : List Int} {r : List Int × List Int} (h : nat_long.f k l0 l1 = some r) :
    Does Tryd.prog 97 [.c (.d (L90 l0)), .c (.d (L90 l1))] [] (.tup [.c (.d (L90 r.1)), .c (.d (L90 r.2))]) none [] := by
  refine does_fn Tryd.func97 (by kernel_rfl) rfl rfl ?_
  unfold nat_long.f at h
  have ih := nat_long.w k
  obtain ⟨h0, h⟩ := ifp h
  obtain ⟨h1, h⟩ := ifp h
  obtain ⟨v9, h2, h⟩ := bnd h
  obtain ⟨v13, h3, h⟩ := bnd h
  obtain ⟨v17, h4, h⟩ := bnd h
  obtain ⟨h5, h⟩ := ifp h
  obtain ⟨h6, h⟩ := ifp h
  obtain ⟨h7, h⟩ := ifp h
  obtain ⟨h8, h⟩ := ifp h
  obtain ⟨h9, h⟩ := ifp h
  exact Til.mid Tryd.func97 7 [(9, ca (.c (.d (.int .i64 v9)))), (13, .call [] [] (.c (.own 0)) (some (O90 .own v13)) [] []), (17, .call [] [] (.c (.own 0)) (some (O90 .own v17)) [] []), (18, Z90 ([0, 0] : List Int)), (19, Z90 (v17 ++ ([0, 0] : List Int))), (23, Z90 ((v17 ++ ([0, 0] : List Int)).take (((wrap64 ((l0.length : Int) + 1)) : Int).toNat))), (32, Z90 (List.replicate (((wrap64 ((((v17 ++ ([0, 0] : List Int)).take (((wrap64 ((l0.length : Int) + 1)) : Int).toNat)).length : Int) - (v13.length : Int))) : Int).toNat) 0 : List Int))] (fun _ f => o (o h0 h1) (o (bits_LeadingZeros32.does h2) (o (nat_shl.does h3) (o (nat_shl.does h4) (o (lit_ok c90 0 ([0, 0] : List Int)) (o (app c90 0 v17 ([0, 0] : List Int) 8 17592186044416 (by decide) h5) (o (take_ok c90 0 (v17 ++ ([0, 0] : List Int)) h6 h7) (o (make_ok c90 0 [.int .u64 0] ⟨.refl _, trivial⟩ (wrap64 ((((v17 ++ ([0, 0] : List Int)).take (((wrap64 ((l0.length : Int) + 1)) : Int).toNat)).length : Int) - (v13.length : Int))) 8 35184372088832 (by decide) h8 h9) f)))))))) (by kernel_rfl) (ih _ _ _ _ _ _ _ h)

theorem nat_DivMod.does {k : Nat} {l0 : List Int} {l1 : List Int} {r : List Int × List Int × Int} (h : nat_DivMod.f k l0 l1 = some r) :
    Does Tryd.prog 85 [.c (.d (L90 l0)), .c (.d (L90 l1))] [] (.tup [.c (.d (L90 r.1)), .c (.d (L90 r.2.1)), .c (.d (.int .i64 r.2.2))]) none [] := by
  refine does_fn Tryd.func85 (by kernel_rfl) rfl rfl ?_
  unfold nat_DivMod.f at h
  obtain ⟨v4, h0, h⟩ := bnd h
  obtain ⟨v6, h1, h⟩ := bnd h
  by_cases h2 : (v6.length : Int) = 0
  · rw [if_pos h2] at h
    obtain rfl := Option.some.inj h
    exact Til.fin Tryd.func85 [(4, ca (.c (.d (L90 v4)))), (6, ca (.c (.d (L90 v6)))), (11, .b true)] (fun _ f => o (nat_Clean.does h0) (o (nat_Clean.does h1) (o (beq_iff_eq.2 h2) f))) (by kernel_rfl)
  · rw [if_neg h2] at h
    obtain ⟨v15, h3, h⟩ := bnd h
    by_cases h4 : v15 < 0
    · rw [if_pos h4] at h
      obtain rfl := Option.some.inj h
      exact Til.fin Tryd.func85 [(4, ca (.c (.d (L90 v4)))), (6, ca (.c (.d (L90 v6)))), (11, .b false), (15, ca (.c (.d (.int .i64 v15)))), (16, .b true)] (fun _ f => o (nat_Clean.does h0) (o (nat_Clean.does h1) (o (beq_false_of_ne h2) (o (nat_order.does h3) (o (decide_eq_true h4) f))))) (by kernel_rfl)
    · rw [if_neg h4] at h
      by_cases h5 : (v6.length : Int) = 1
      · rw [if_pos h5] at h
        obtain ⟨h6, h⟩ := ifp h
        obtain ⟨v26, h7, h⟩ := bnd h
        obtain ⟨v34, h8, h⟩ := bnd h
        obtain rfl := Option.some.inj h
        exact Til.fin Tryd.func85 [(4, ca (.c (.d (L90 v4)))), (6, ca (.c (.d (L90 v6)))), (11, .b false), (15, ca (.c (.d (.int .i64 v15)))), (16, .b false), (20, .b true), (26, ca (.tup [.c (.d (L90 v26.1)), .c (.d (.int .u64 v26.2))])), (34, ca (.c (.d (L90 v34))))] (fun _ f => o (nat_Clean.does h0) (o (nat_Clean.does h1) (o (beq_false_of_ne h2) (o (nat_order.does h3) (o (decide_eq_false h4) (o (beq_iff_eq.2 h5) (o (o (nn 0) h6) (o (nat_small.does h7) (o (nat_Of.does h8) f))))))))) (by kernel_rfl)
      · rw [if_neg h5] at h
        obtain ⟨v24, h6, h⟩ := bnd h
        obtain rfl := Option.some.inj h
        exact Til.fin Tryd.func85 [(4, ca (.c (.d (L90 v4)))), (6, ca (.c (.d (L90 v6)))), (11, .b false), (15, ca (.c (.d (.int .i64 v15)))), (16, .b false), (20, .b false), (24, ca (.tup [.c (.d (L90 v24.1)), .c (.d (L90 v24.2))]))] (fun _ f => o (nat_Clean.does h0) (o (nat_Clean.does h1) (o (beq_false_of_ne h2) (o (nat_order.does h3) (o (decide_eq_false h4) (o (beq_false_of_ne h5) (o (nat_long.does h6) f))))))) (by kernel_rfl)

theorem nat_rest.does {k : Nat} {l0 : List Int} {l1 : List Int} {r : List Int × List Int} (h : nat_rest.f k l0 l1 = some r) :
    Does Tryd.prog 95 [.c (.d (L90 l0)), .c (.d (L90 l1))] [] (.tup [.c (.d (L90 r.1)), .c (.d (L90 r.2))]) none [] := by
  refine does_fn Tryd.func95 (by kernel_rfl) rfl rfl ?_
  unfold nat_rest.f at h
  obtain ⟨v4, h0, h⟩ := bnd h
  obtain rfl := Option.some.inj h
  exact Til.fin Tryd.func95 [(4, ca (.tup [.c (.d (L90 v4.1)), .c (.d (L90 v4.2.1)), .c (.d (.int .i64 v4.2.2))]))] (fun _ f => o (nat_DivMod.does h0) f) (by kernel_rfl)

def nat_minus.l0E (x0 : List Int) (x1 : List Int) (x5 : List Int) (x6 : Int) (x13 : Int) (x14 : Int) : Env := [(0, .c (.d (L90 x0))), (1, .c (.d (L90 x1))), (5, .c (.own 5)), (6, .c (.d (.int .u64 x6))), (13, .c (.d (.int .i64 x13))), (14, .c (.d (.int .i64 x14)))]
def nat_minus.l0B (x0 : List Int) (x1 : List Int) (x5 : List Int) (x6 : Int) (x13 : Int) (x14 : Int) : Obs := [(5, some (O90 .own x5))]
theorem nat_minus.w (k : Nat) : (∀  (x0 : List Int) (x1 : List Int) (x5 : List Int) (x6 : Int) (x13 : Int) (x14 : Int) (r : List Int), nat_minus.l0 k x0 x1 x5 x6 x13 x14 = some r → Til Tryd.prog 96 [] (.c (.d (L90 r))) none [] (at_ Tryd.f96 4) (nat_minus.l0E x0 x1 x5 x6 x13 x14) (nat_minus.l0B x0 x1 x5 x6 x13 x14)) := by
  induction k with
  | zero =>
    exact fun _ _ _ _ _ _ _ h => (by cases h)
  | succ k ih =>
    intro x0 x1 x5 x6 x13 x14 r h
    rw [nat_minus.l0] at h
    by_cases h0 : x14 < x13
    · rw [if_pos h0] at h
      obtain ⟨h1, h⟩ := ifp h
      obtain ⟨h2, h⟩ := ifp h
      obtain ⟨v10, h3, h⟩ := bnd h
      obtain ⟨h4, h⟩ := ifp h
      exact Til.mid Tryd.func96 4 [(0, .b true), (10, ca (.c (.d (.int .u64 v10)))), (20, Z90 (x5.set ((x14 : Int).toNat) (Go.bits .and .u64 (IntKind.u64.wrap ((IntKind.u64.wrap ((IntKind.u64.wrap (4294967296 + (rd x0 x14))) - v10)) - x6)) 4294967295)))] (fun _ f => o (decide_eq_true h0) (o (o h1 h2) (o (nat_limb.does h3) (o (o h1 h4) (o (set_ok c90 0 (fun _ _ => rfl) x5 ((x14 : Int).toNat) (Go.bits .and .u64 (IntKind.u64.wrap ((IntKind.u64.wrap ((IntKind.u64.wrap (4294967296 + (rd x0 x14))) - v10)) - x6)) 4294967295) (lt_ok h1 h4)) (o (nn 32) f)))))) (by kernel_rfl) (ih _ _ _ _ _ _ _ h)
    · rw [if_neg h0] at h
      obtain ⟨v2, h1, h⟩ := bnd h
      obtain rfl := Option.some.inj h
      exact Til.fin Tryd.func96 [(0, .b false), (2, ca (.c (.d (L90 v2))))] (fun _ f => o (decide_eq_false h0) (o (nat_trim.does h1) f)) (by kernel_rfl)
theorem nat_minus.does {k : Nat} {l0 : List Int} {l1 : List Int} {r : List Int} (h : nat_minus.f k l0 l1 = some r) :
    Does Tryd.prog 96 [.c (.d (L90 l0)), .c (.d (L90 l1))] [] (.c (.d (L90 r))) none [] := by
  refine does_fn Tryd.func96 (by kernel_rfl) rfl rfl ?_
  unfold nat_minus.f at h
  have ih := nat_minus.w k
  obtain ⟨h0, h⟩ := ifp h
  exact Til.mid Tryd.func96 4 [(3, Z90 (List.replicate (((l0.length : Int) : Int).toNat) 0 : List Int))] (fun _ f => o (make_ok c90 0 [.int .u64 0] ⟨.refl _, trivial⟩ (l0.length : Int) 8 35184372088832 (by decide) (Int.natCast_nonneg l0.length) h0) f) (by kernel_rfl) (ih _ _ _ _ _ _ _ h)

def nat_Gcd.l0E (x0 : List Int) (x1 : List Int) (x5 : Int) (x6 : Int) : Env := [(0, .c (.d (L90 x0))), (1, .c (.d (L90 x1))), (5, .c (.d (.int .i64 x5))), (6, .c (.d (.int .i64 x6)))]
theorem nat_Gcd.w (k : Nat) : (∀  (x0 : List Int) (x1 : List Int) (x5 : Int) (x6 : Int) (r : List Int), nat_Gcd.l0 k x0 x1 x5 x6 = some r → Til Tryd.prog 84 [] (.c (.d (L90 r))) none [] (at_ Tryd.f84 10) (nat_Gcd.l0E x0 x1 x5 x6) []) := by
  induction k with
  | zero =>
    exact fun _ _ _ _ _ h => (by cases h)
  | succ k ih =>
    intro x0 x1 x5 x6 r h
    rw [nat_Gcd.l0] at h
    obtain ⟨v2, h0, h⟩ := bnd h
    by_cases h1 : v2 = 0
    · rw [if_pos h1] at h
      obtain ⟨v11, h2, h⟩ := bnd h
      obtain rfl := Option.some.inj h
      exact Til.fin Tryd.func84 [(2, ca (.c (.d (.int .i64 v2)))), (5, .b true), (11, .call [] [] (.c (.own 0)) (some (O90 .own v11)) [] [])] (fun _ f => o (nat_order.does h0) (o (beq_iff_eq.2 h1) (o (nat_shl.does h2) f))) (by kernel_rfl)
    · rw [if_neg h1] at h
      by_cases h2 : v2 < 0
      · rw [if_pos h2] at h
        by_cases h3 : (x1.length : Int) > (wrap64 ((x0.length : Int) + 1))
        · rw [if_pos h3] at h
          obtain ⟨v22, h4, h⟩ := bnd h
          by_cases h5 : (v22.2.length : Int) = 0
          · rw [if_pos h5] at h
            obtain ⟨v34, h6, h⟩ := bnd h
            obtain rfl := Option.some.inj h
            exact Til.fin Tryd.func84 [(2, ca (.c (.d (.int .i64 v2)))), (5, .b false), (8, .b true), (19, .b true), (22, ca (.tup [.c (.d (L90 v22.1)), .c (.d (L90 v22.2))])), (29, .b true), (34, .call [] [] (.c (.own 0)) (some (O90 .own v34)) [] [])] (fun _ f => o (nat_order.does h0) (o (beq_false_of_ne h1) (o (decide_eq_true h2) (o (decide_eq_true h3) (o (nat_rest.does h4) (o (beq_iff_eq.2 h5) (o (nat_shl.does h6) f))))))) (by kernel_rfl)
          · rw [if_neg h5] at h
            obtain ⟨v32, h6, h⟩ := bnd h
            obtain ⟨v33, h7, h⟩ := bnd h
            exact Til.mid Tryd.func84 10 [(2, ca (.c (.d (.int .i64 v2)))), (5, .b false), (8, .b true), (19, .b true), (22, ca (.tup [.c (.d (L90 v22.1)), .c (.d (L90 v22.2))])), (29, .b false), (32, ca (.c (.d (.int .i64 v32)))), (33, ca (.c (.d (L90 v33))))] (fun _ f => o (nat_order.does h0) (o (beq_false_of_ne h1) (o (decide_eq_true h2) (o (decide_eq_true h3) (o (nat_rest.does h4) (o (beq_false_of_ne h5) (o (nat_zeros.does h6) (o (nat_shr.does h7) f)))))))) (by kernel_rfl) (ih _ _ _ _ _ h)
        · rw [if_neg h3] at h
          obtain ⟨v22, h4, h⟩ := bnd h
          obtain ⟨v26, h5, h⟩ := bnd h
          obtain ⟨v27, h6, h⟩ := bnd h
          exact Til.mid Tryd.func84 10 [(2, ca (.c (.d (.int .i64 v2)))), (5, .b false), (8, .b true), (19, .b false), (22, ca (.c (.d (L90 v22)))), (26, ca (.c (.d (.int .i64 v26)))), (27, ca (.c (.d (L90 v27))))] (fun _ f => o (nat_order.does h0) (o (beq_false_of_ne h1) (o (decide_eq_true h2) (o (decide_eq_false h3) (o (nat_minus.does h4) (o (nat_zeros.does h5) (o (nat_shr.does h6) f))))))) (by kernel_rfl) (ih _ _ _ _ _ h)
      · rw [if_neg h2] at h
        by_cases h3 : (x0.length : Int) > (wrap64 ((x1.length : Int) + 1))
        · rw [if_pos h3] at h
          obtain ⟨v18, h4, h⟩ := bnd h
          by_cases h5 : (v18.2.length : Int) = 0
          · rw [if_pos h5] at h
            obtain ⟨v30, h6, h⟩ := bnd h
            obtain rfl := Option.some.inj h
            exact Til.fin Tryd.func84 [(2, ca (.c (.d (.int .i64 v2)))), (5, .b false), (8, .b false), (15, .b true), (18, ca (.tup [.c (.d (L90 v18.1)), .c (.d (L90 v18.2))])), (25, .b true), (30, .call [] [] (.c (.own 0)) (some (O90 .own v30)) [] [])] (fun _ f => o (nat_order.does h0) (o (beq_false_of_ne h1) (o (decide_eq_false h2) (o (decide_eq_true h3) (o (nat_rest.does h4) (o (beq_iff_eq.2 h5) (o (nat_shl.does h6) f))))))) (by kernel_rfl)
          · rw [if_neg h5] at h
            obtain ⟨v28, h6, h⟩ := bnd h
            obtain ⟨v29, h7, h⟩ := bnd h
            exact Til.mid Tryd.func84 10 [(2, ca (.c (.d (.int .i64 v2)))), (5, .b false), (8, .b false), (15, .b true), (18, ca (.tup [.c (.d (L90 v18.1)), .c (.d (L90 v18.2))])), (25, .b false), (28, ca (.c (.d (.int .i64 v28)))), (29, ca (.c (.d (L90 v29))))] (fun _ f => o (nat_order.does h0) (o (beq_false_of_ne h1) (o (decide_eq_false h2) (o (decide_eq_true h3) (o (nat_rest.does h4) (o (beq_false_of_ne h5) (o (nat_zeros.does h6) (o (nat_shr.does h7) f)))))))) (by kernel_rfl) (ih _ _ _ _ _ h)
        · rw [if_neg h3] at h
          obtain ⟨v18, h4, h⟩ := bnd h
          obtain ⟨v22, h5, h⟩ := bnd h
          obtain ⟨v23, h6, h⟩ := bnd h
          exact Til.mid Tryd.func84 10 [(2, ca (.c (.d (.int .i64 v2)))), (5, .b false), (8, .b false), (15, .b false), (18, ca (.c (.d (L90 v18)))), (22, ca (.c (.d (.int .i64 v22)))), (23, ca (.c (.d (L90 v23))))] (fun _ f => o (nat_order.does h0) (o (beq_false_of_ne h1) (o (decide_eq_false h2) (o (decide_eq_false h3) (o (nat_minus.does h4) (o (nat_zeros.does h5) (o (nat_shr.does h6) f))))))) (by kernel_rfl) (ih _ _ _ _ _ h)
theorem nat_Gcd.does {k : Nat} {l0 : List Int} {l1 : List Int} {r : List Int} (h : nat_Gcd.f k l0 l1 = some r) :
    Does Tryd.prog 84 [.c (.d (L90 l0)), .c (.d (L90 l1))] [] (.c (.d (L90 r))) none [] := by
  refine does_fn Tryd.func84 (by kernel_rfl) rfl rfl ?_
  unfold nat_Gcd.f at h
  have ih := nat_Gcd.w k
  obtain ⟨v2, h0, h⟩ := bnd h
  obtain ⟨v4, h1, h⟩ := bnd h
  by_cases h2 : (v2.length : Int) = 0
  · rw [if_pos h2] at h
    obtain rfl := Option.some.inj h
    exact Til.fin Tryd.func84 [(2, ca (.c (.d (L90 v2)))), (4, ca (.c (.d (L90 v4)))), (9, .b true)] (fun _ f => o (nat_Clean.does h0) (o (nat_Clean.does h1) (o (beq_iff_eq.2 h2) f))) (by kernel_rfl)
  · rw [if_neg h2] at h
    by_cases h3 : (v4.length : Int) = 0
    · rw [if_pos h3] at h
      obtain rfl := Option.some.inj h
      exact Til.fin Tryd.func84 [(2, ca (.c (.d (L90 v2)))), (4, ca (.c (.d (L90 v4)))), (9, .b false), (13, .b true)] (fun _ f => o (nat_Clean.does h0) (o (nat_Clean.does h1) (o (beq_false_of_ne h2) (o (beq_iff_eq.2 h3) f)))) (by kernel_rfl)
    · rw [if_neg h3] at h
      by_cases h4 : (v2.length : Int) ≤ 2
      · rw [if_pos h4] at h
        by_cases h5 : (v4.length : Int) ≤ 2
        · rw [if_pos h5] at h
          obtain ⟨v25, h6, h⟩ := bnd h
          obtain rfl := Option.some.inj h
          exact Til.fin Tryd.func84 [(2, ca (.c (.d (L90 v2)))), (4, ca (.c (.d (L90 v4)))), (9, .b false), (13, .b false), (17, .b true), (21, .b true), (25, ca (.c (.d (L90 v25))))] (fun _ f => o (nat_Clean.does h0) (o (nat_Clean.does h1) (o (beq_false_of_ne h2) (o (beq_false_of_ne h3) (o (decide_eq_true h4) (o (decide_eq_true h5) (o (nat_euclid.does h6) f))))))) (by kernel_rfl)
        · rw [if_neg h5] at h
          obtain ⟨v24, h6, h⟩ := bnd h
          obtain ⟨v26, h7, h⟩ := bnd h
          obtain ⟨v31, h8, h⟩ := bnd h
          obtain ⟨v34, h9, h⟩ := bnd h
          exact Til.mid Tryd.func84 10 [(2, ca (.c (.d (L90 v2)))), (4, ca (.c (.d (L90 v4)))), (9, .b false), (13, .b false), (17, .b true), (21, .b false), (24, ca (.c (.d (.int .i64 v24)))), (26, ca (.c (.d (.int .i64 v26)))), (31, ca (.c (.d (L90 v31)))), (34, ca (.c (.d (L90 v34))))] (fun _ f => o (nat_Clean.does h0) (o (nat_Clean.does h1) (o (beq_false_of_ne h2) (o (beq_false_of_ne h3) (o (decide_eq_true h4) (o (decide_eq_false h5) (o (nat_zeros.does h6) (o (nat_zeros.does h7) (o (nat_shr.does h8) (o (nat_shr.does h9) f)))))))))) (by kernel_rfl) (ih _ _ _ _ _ h)
      · rw [if_neg h4] at h
        obtain ⟨v24, h5, h⟩ := bnd h
        obtain ⟨v26, h6, h⟩ := bnd h
        obtain ⟨v31, h7, h⟩ := bnd h
        obtain ⟨v34, h8, h⟩ := bnd h
        exact Til.mid Tryd.func84 10 [(2, ca (.c (.d (L90 v2)))), (4, ca (.c (.d (L90 v4)))), (9, .b false), (13, .b false), (17, .b false), (24, ca (.c (.d (.int .i64 v24)))), (26, ca (.c (.d (.int .i64 v26)))), (31, ca (.c (.d (L90 v31)))), (34, ca (.c (.d (L90 v34))))] (fun _ f => o (nat_Clean.does h0) (o (nat_Clean.does h1) (o (beq_false_of_ne h2) (o (beq_false_of_ne h3) (o (decide_eq_false h4) (o (nat_zeros.does h5) (o (nat_zeros.does h6) (o (nat_shr.does h7) (o (nat_shr.does h8) f))))))))) (by kernel_rfl) (ih _ _ _ _ _ h)

theorem ratio_form.does {k : Nat} {a0_0 : Bool} {l0_1 : List Int} {l1 : List Int} {r : Bool × List Int × List Int} (h : ratio_form.f k a0_0 l0_1 l1 = some r) :
    Does Tryd.prog 65 [.agg [.d (.bool a0_0), .d (L90 l0_1)], .c (.d (L90 l1))] [] (.agg [.d (.bool r.1), .d (L90 r.2.1), .d (L90 r.2.2)]) none [] := by
  refine does_fn Tryd.func65 (by kernel_rfl) rfl rfl ?_
  unfold ratio_form.f at h
  by_cases h0 : (l0_1.length : Int) = 0
  · rw [if_pos h0] at h
    obtain ⟨v6, h1, h⟩ := bnd h
    obtain rfl := Option.some.inj h
    exact Til.fin Tryd.func65 [(5, .b true), (6, ca (.c (.d (L90 v6))))] (fun _ f => o (beq_iff_eq.2 h0) (o (nat_Of.does h1) f)) (by kernel_rfl)
  · rw [if_neg h0] at h
    obtain ⟨v9, h1, h⟩ := bnd h
    by_cases h2 : (v9.length : Int) = 1
    · rw [if_pos h2] at h
      obtain ⟨h3, h⟩ := ifp h
      by_cases h4 : (rd v9 0) = 1
      · rw [if_pos h4] at h
        obtain rfl := Option.some.inj h
        exact Til.fin Tryd.func65 [(5, .b false), (9, ca (.c (.d (L90 v9)))), (13, .b true), (18, .b true)] (fun _ f => o (beq_false_of_ne h0) (o (nat_Gcd.does h1) (o (beq_iff_eq.2 h2) (o (o (nn 0) h3) (o (beq_iff_eq.2 h4) f))))) (by kernel_rfl)
      · rw [if_neg h4] at h
        obtain ⟨v23, h5, h⟩ := bnd h
        obtain ⟨v33, h6, h⟩ := bnd h
        obtain rfl := Option.some.inj h
        exact Til.fin Tryd.func65 [(5, .b false), (9, ca (.c (.d (L90 v9)))), (13, .b true), (18, .b false), (23, ca (.tup [.c (.d (L90 v23.1)), .c (.d (L90 v23.2.1)), .c (.d (.int .i64 v23.2.2))])), (33, ca (.tup [.c (.d (L90 v33.1)), .c (.d (L90 v33.2.1)), .c (.d (.int .i64 v33.2.2))]))] (fun _ f => o (beq_false_of_ne h0) (o (nat_Gcd.does h1) (o (beq_iff_eq.2 h2) (o (o (nn 0) h3) (o (beq_false_of_ne h4) (o (nat_DivMod.does h5) (o (nat_DivMod.does h6) f))))))) (by kernel_rfl)
    · rw [if_neg h2] at h
      obtain ⟨v23, h3, h⟩ := bnd h
      obtain ⟨v33, h4, h⟩ := bnd h
      obtain rfl := Option.some.inj h
      exact Til.fin Tryd.func65 [(5, .b false), (9, ca (.c (.d (L90 v9)))), (13, .b false), (23, ca (.tup [.c (.d (L90 v23.1)), .c (.d (L90 v23.2.1)), .c (.d (.int .i64 v23.2.2))])), (33, ca (.tup [.c (.d (L90 v33.1)), .c (.d (L90 v33.2.1)), .c (.d (.int .i64 v33.2.2))]))] (fun _ f => o (beq_false_of_ne h0) (o (nat_Gcd.does h1) (o (beq_false_of_ne h2) (o (nat_DivMod.does h3) (o (nat_DivMod.does h4) f))))) (by kernel_rfl)

theorem whole_sign.does {a0 : Bool} {l1 : List Int} {r : Bool × List Int} (h : whole_sign.f a0 l1 = some r) :
    Does Tryd.prog 73 [.c (.d (.bool a0)), .c (.d (L90 l1))] [] (.agg [.d (.bool r.1), .d (L90 r.2)]) none [] := by
  refine does_fn Tryd.func73 (by kernel_rfl) rfl rfl ?_
  unfold whole_sign.f at h
  by_cases h0 : a0 = true
  · rw [if_pos h0] at h
    obtain rfl := Option.some.inj h
    exact Til.fin Tryd.func73 [(1, .b true)] (fun _ f => o h0 f) (by kernel_rfl)
  · rw [if_neg h0] at h
    obtain rfl := Option.some.inj h
    exact Til.fin Tryd.func73 [(1, .b false)] (fun _ f => o (Bool.eq_false_iff.2 h0) f) (by kernel_rfl)

theorem whole_Clean.does {k : Nat} {a0_0 : Bool} {l0_1 : List Int} {r : Bool × List Int} (h : whole_Clean.f k a0_0 l0_1 = some r) :
    Does Tryd.prog 66 [.agg [.d (.bool a0_0), .d (L90 l0_1)]] [] (.agg [.d (.bool r.1), .d (L90 r.2)]) none [] := by
  refine does_fn Tryd.func66 (by kernel_rfl) rfl rfl ?_
  unfold whole_Clean.f at h
  obtain ⟨v6, h0, h⟩ := bnd h
  obtain ⟨v7, h1, h⟩ := bnd h
  obtain rfl := Option.some.inj h
  exact Til.fin Tryd.func66 [(6, ca (.c (.d (L90 v6)))), (7, ca (.agg [.d (.bool v7.1), .d (L90 v7.2)]))] (fun _ f => o (nat_Clean.does h0) (o (whole_sign.does h1) f)) (by kernel_rfl)

theorem ratio_Clean.does {k : Nat} {a0_0 : Bool} {l0_1 : List Int} {l0_2 : List Int} {r : Bool × List Int × List Int} (h : ratio_Clean.f k a0_0 l0_1 l0_2 = some r) :
    Does Tryd.prog 40 [.agg [.d (.bool a0_0), .d (L90 l0_1), .d (L90 l0_2)]] [] (.agg [.d (.bool r.1), .d (L90 r.2.1), .d (L90 r.2.2)]) none [] := by
  refine does_fn Tryd.func40 (by kernel_rfl) rfl rfl ?_
  unfold ratio_Clean.f at h
  obtain ⟨v4, h0, h⟩ := bnd h
  by_cases h1 : (v4.length : Int) = 0
  · rw [if_pos h1] at h
    obtain ⟨v9, h2, h⟩ := bnd h
    obtain rfl := Option.some.inj h
    exact Til.fin Tryd.func40 [(4, ca (.c (.d (L90 v4)))), (8, .b true), (9, ca (.agg [.d (.bool v9.1), .d (L90 v9.2.1), .d (L90 v9.2.2)]))] (fun _ f => o (nat_Clean.does h0) (o (beq_iff_eq.2 h1) (o (ratio_Zero.does h2) f))) (by kernel_rfl)
  · rw [if_neg h1] at h
    obtain ⟨v11, h2, h⟩ := bnd h
    obtain ⟨v13, h3, h⟩ := bnd h
    obtain rfl := Option.some.inj h
    exact Til.fin Tryd.func40 [(4, ca (.c (.d (L90 v4)))), (8, .b false), (11, ca (.agg [.d (.bool v11.1), .d (L90 v11.2)])), (13, ca (.agg [.d (.bool v13.1), .d (L90 v13.2.1), .d (L90 v13.2.2)]))] (fun _ f => o (nat_Clean.does h0) (o (beq_false_of_ne h1) (o (whole_Clean.does h2) (o (ratio_form.does h3) f)))) (by kernel_rfl)

def c5 (x : Int) : List Dat := [.int .u8 x]
def L5 (xs : List Int) : Dat := fr 1 c5 0 xs
def Z5 (xs : List Int) : Sup := .r xs.length (enc c5 0 xs)
def O5 (k : RK) (xs : List Int) : Ob := .row k 5 1 xs.length (enc c5 0 xs)

def nat_nine.l0E (x0 : Int) (x3 : List Int) (x4 : Int) : Env := [(0, .c (.d (.int .u64 x0))), (3, .c (.own 3)), (4, .c (.d (.int .i64 x4)))]
def nat_nine.l0B (x0 : Int) (x3 : List Int) (x4 : Int) : Obs := [(3, some (O5 .own x3))]
theorem nat_nine.w (k : Nat) : (∀  (x0 : Int) (x3 : List Int) (x4 : Int) (r : List Int), nat_nine.l0 k x0 x3 x4 = some r → Til Tryd.prog 70 [] (.c (.d (L5 r))) none [] (at_ Tryd.f70 3) (nat_nine.l0E x0 x3 x4) (nat_nine.l0B x0 x3 x4)) := by
  induction k with
  | zero =>
    exact fun _ _ _ _ h => (by cases h)
  | succ k ih =>
    intro x0 x3 x4 r h
    rw [nat_nine.l0] at h
    by_cases h0 : x4 ≥ 0
    · rw [if_pos h0] at h
      obtain ⟨h1, h⟩ := ifp h
      exact Til.mid Tryd.func70 3 [(1, .b true), (9, Z5 (x3.set ((x4 : Int).toNat) (IntKind.u8.wrap ((IntKind.u64.wrap (48 + (Int.tmod x0 10)))))))] (fun _ f => o (decide_eq_true h0) (o (by decide : ¬ (10 : Int) = 0) (o (o h0 h1) (o (set_ok c5 0 (fun _ _ => rfl) x3 ((x4 : Int).toNat) (IntKind.u8.wrap ((IntKind.u64.wrap (48 + (Int.tmod x0 10))))) (lt_ok h0 h1)) (o (by decide : ¬ (10 : Int) = 0) f))))) (by kernel_rfl) (ih _ _ _ _ h)
    · rw [if_neg h0] at h
      obtain rfl := Option.some.inj h
      exact Til.fin Tryd.func70 [(1, .b false)] (fun _ f => o (decide_eq_false h0) f) (by kernel_rfl)
theorem nat_nine.does {k : Nat} {a0 : Int} {r : List Int} (h : nat_nine.f k a0 = some r) :
    Does Tryd.prog 70 [.c (.d (.int .u64 a0))] [] (.c (.d (L5 r))) none [] := by
  refine does_fn Tryd.func70 (by kernel_rfl) rfl rfl ?_
  unfold nat_nine.f at h
  have ih := nat_nine.w k
  exact Til.mid Tryd.func70 3 [(1, Z5 (List.replicate 9 0 : List Int))] (fun _ f => o (make_ok c5 0 [.int .u8 0] ⟨.refl _, trivial⟩ 9 1 281474976710656 (by decide) (nn 9) (by decide)) f) (by kernel_rfl) (ih _ _ _ _ h)

def nat_Print.l0E (x0 : List Int) (x3 : List Int) : Env := [(0, .c (.d (L90 x0))), (3, .c (.own 3))]
def nat_Print.l0B (x0 : List Int) (x3 : List Int) : Obs := [(3, some (O90 .own x3))]
def nat_Print.l1E (x3 : List Int) (x5 : List Int) (x6 : Int) : Env := [(3, .c (.own 3)), (5, .c (.own 5)), (6, .c (.d (.int .i64 x6)))]
def nat_Print.l1B (x3 : List Int) (x5 : List Int) (x6 : Int) : Obs := [(3, some (O90 .own x3)), (5, some (O5 .own x5))]
def nat_Print.l2E (x5 : List Int) (x7 : Int) : Env := [(5, .c (.own 5)), (7, .c (.d (.int .i64 x7)))]
def nat_Print.l2B (x5 : List Int) (x7 : Int) : Obs := [(5, some (O5 .own x5))]
theorem nat_Print.w (k : Nat) : (∀  (x0 : List Int) (x3 : List Int) (r : ByteArray), nat_Print.l0 k x0 x3 = some r → Til Tryd.prog 44 [] (.c (.d (.str r))) none [] (at_ Tryd.f44 5) (nat_Print.l0E x0 x3) (nat_Print.l0B x0 x3)) ∧
    (∀  (x3 : List Int) (x5 : List Int) (x6 : Int) (r : ByteArray), nat_Print.l1 k x3 x5 x6 = some r → Til Tryd.prog 44 [] (.c (.d (.str r))) none [] (at_ Tryd.f44 11) (nat_Print.l1E x3 x5 x6) (nat_Print.l1B x3 x5 x6)) ∧
    (∀  (x5 : List Int) (x7 : Int) (r : ByteArray), nat_Print.l2 k x5 x7 = some r → Til Tryd.prog 44 [] (.c (.d (.str r))) none [] (at_ Tryd.f44 15) (nat_Print.l2E x5 x7) (nat_Print.l2B x5 x7)) := by
  induction k with
  | zero =>
    exact ⟨fun _ _ _ h => (by cases h), fun _ _ _ _ h => (by cases h), fun _ _ _ h => (by cases h)⟩
  | succ k ih =>
    refine ⟨?_, ?_, ?_⟩
    · intro x0 x3 r h
      rw [nat_Print.l0] at h
      by_cases h0 : (x0.length : Int) > 0
      · rw [if_pos h0] at h
        obtain ⟨v5, h1, h⟩ := bnd h
        obtain ⟨h2, h⟩ := ifp h
        exact Til.mid Tryd.func44 5 [(2, .b true), (5, ca (.tup [.c (.d (L90 v5.1)), .c (.d (.int .u64 v5.2))])), (13, Z90 ([v5.2] : List Int)), (14, Z90 (x3 ++ [v5.2]))] (fun _ f => o (decide_eq_true h0) (o (nat_small.does h1) (o (lit_ok c90 0 ([v5.2] : List Int)) (o (app1 c90 0 x3 v5.2 8 17592186044416 (by decide) h2) f)))) (by kernel_rfl) (ih.1 _ _ _ h)
      · rw [if_neg h0] at h
        exact Til.mid Tryd.func44 11 [(2, .b false)] (fun _ f => o (decide_eq_false h0) f) (by kernel_rfl) (ih.2.1 _ _ _ _ h)
    · intro x3 x5 x6 r h
      rw [nat_Print.l1] at h
      by_cases h0 : x6 ≥ 0
      · rw [if_pos h0] at h
        obtain ⟨h1, h⟩ := ifp h
        obtain ⟨v7, h2, h⟩ := bnd h
        obtain ⟨h3, h⟩ := ifp h
        exact Til.mid Tryd.func44 11 [(1, .b true), (7, ca (.c (.d (L5 v7)))), (8, Z5 (x5 ++ v7))] (fun _ f => o (decide_eq_true h0) (o (o h0 h1) (o (nat_nine.does h2) (o (app c5 0 x5 v7 1 140737488355328 (by decide) h3) f)))) (by kernel_rfl) (ih.2.1 _ _ _ _ h)
      · rw [if_neg h0] at h
        exact Til.mid Tryd.func44 15 [(1, .b false)] (fun _ f => o (decide_eq_false h0) f) (by kernel_rfl) (ih.2.2 _ _ _ h)
    · intro x5 x7 r h
      rw [nat_Print.l2] at h
      obtain ⟨h0, h⟩ := ifp h
      obtain ⟨h1, h⟩ := ifp h
      by_cases h2 : (rd x5 x7) = 48
      · rw [if_pos h2] at h
        exact Til.mid Tryd.func44 15 [(4, .b true)] (fun _ f => o (o h0 h1) (o (beq_iff_eq.2 h2) f)) (by kernel_rfl) (ih.2.2 _ _ _ h)
      · rw [if_neg h2] at h
        obtain ⟨h3, h⟩ := ifp h
        obtain rfl := Option.some.inj h
        exact Til.fin Tryd.func44 [(4, .b false), (8, .v (.c (.d (.str (ofBytes (x5.drop ((x7 : Int).toNat)))))))] (fun _ f => o (o h0 h1) (o (beq_false_of_ne h2) (o (o h0 h1) (o (strd_ok c5 x5 (fun _ => rfl) x7 h0 h1 h3) (o (Eq.refl (TV.c (.d (.str (ofBytes (x5.drop ((x7 : Int).toNat))))))) f))))) (by kernel_rfl)
theorem nat_Print.does {k : Nat} {l0 : List Int} {r : ByteArray} (h : nat_Print.f k l0 = some r) :
    Does Tryd.prog 44 [.c (.d (L90 l0))] [] (.c (.d (.str r))) none [] := by
  refine does_fn Tryd.func44 (by kernel_rfl) rfl rfl ?_
  unfold nat_Print.f at h
  have ih := nat_Print.w k
  obtain ⟨v2, h0, h⟩ := bnd h
  by_cases h1 : (v2.length : Int) = 0
  · rw [if_pos h1] at h
    obtain rfl := Option.some.inj h
    exact Til.fin Tryd.func44 [(2, ca (.c (.d (L90 v2)))), (6, .b true)] (fun _ f => o (nat_Clean.does h0) (o (beq_iff_eq.2 h1) f)) (by kernel_rfl)
  · rw [if_neg h1] at h
    exact Til.mid Tryd.func44 5 [(2, ca (.c (.d (L90 v2)))), (6, .b false)] (fun _ f => o (nat_Clean.does h0) (o (beq_false_of_ne h1) f)) (by kernel_rfl) (ih.1 _ _ _ h)

theorem whole_Print.does {k : Nat} {a0_0 : Bool} {l0_1 : List Int} {r : ByteArray} (h : whole_Print.f k a0_0 l0_1 = some r) :
    Does Tryd.prog 41 [.agg [.d (.bool a0_0), .d (L90 l0_1)]] [] (.c (.d (.str r))) none [] := by
  refine does_fn Tryd.func41 (by kernel_rfl) rfl rfl ?_
  unfold whole_Print.f at h
  obtain ⟨v3, h0, h⟩ := bnd h
  by_cases h1 : v3.1 = true
  · rw [if_pos h1] at h
    obtain ⟨v9, h2, h⟩ := bnd h
    obtain ⟨h3, h⟩ := ifp h
    obtain rfl := Option.some.inj h
    exact Til.fin Tryd.func41 [(3, ca (.agg [.d (.bool v3.1), .d (L90 v3.2)])), (6, .b true), (9, ca (.c (.d (.str v9))))] (fun _ f => o (whole_Clean.does h0) (o h1 (o (nat_Print.does h2) (o h3 f)))) (by kernel_rfl)
  · rw [if_neg h1] at h
    obtain ⟨v9, h2, h⟩ := bnd h
    obtain rfl := Option.some.inj h
    exact Til.fin Tryd.func41 [(3, ca (.agg [.d (.bool v3.1), .d (L90 v3.2)])), (6, .b false), (9, ca (.c (.d (.str v9))))] (fun _ f => o (whole_Clean.does h0) (o (Bool.eq_false_iff.2 h1) (o (nat_Print.does h2) f))) (by kernel_rfl)

theorem nat_Cmp.does {k : Nat} {l0 : List Int} {l1 : List Int} {r : Int} (h : nat_Cmp.f k l0 l1 = some r) :
    Does Tryd.prog 42 [.c (.d (L90 l0)), .c (.d (L90 l1))] [] (.c (.d (.int .i64 r))) none [] := by
  refine does_fn Tryd.func42 (by kernel_rfl) rfl rfl ?_
  unfold nat_Cmp.f at h
  obtain ⟨v2, h0, h⟩ := bnd h
  obtain ⟨v4, h1, h⟩ := bnd h
  obtain ⟨v5, h2, h⟩ := bnd h
  obtain rfl := Option.some.inj h
  exact Til.fin Tryd.func42 [(2, ca (.c (.d (L90 v2)))), (4, ca (.c (.d (L90 v4)))), (5, ca (.c (.d (.int .i64 v5))))] (fun _ f => o (nat_Clean.does h0) (o (nat_Clean.does h1) (o (nat_order.does h2) f))) (by kernel_rfl)

theorem ratio_Print.does {k : Nat} {a0_0 : Bool} {l0_1 : List Int} {l0_2 : List Int} {r : ByteArray} (h : ratio_Print.f k a0_0 l0_1 l0_2 = some r) :
    Does Tryd.prog 24 [.agg [.d (.bool a0_0), .d (L90 l0_1), .d (L90 l0_2)]] [] (.c (.d (.str r))) none [] := by
  refine does_fn Tryd.func24 (by kernel_rfl) rfl rfl ?_
  unfold ratio_Print.f at h
  obtain ⟨v3, h0, h⟩ := bnd h
  obtain ⟨v7, h1, h⟩ := bnd h
  obtain ⟨v11, h2, h⟩ := bnd h
  obtain ⟨v12, h3, h⟩ := bnd h
  by_cases h4 : v12 = 0
  · rw [if_pos h4] at h
    obtain rfl := Option.some.inj h
    exact Til.fin Tryd.func24 [(3, ca (.agg [.d (.bool v3.1), .d (L90 v3.2.1), .d (L90 v3.2.2)])), (7, ca (.c (.d (.str v7)))), (11, ca (.c (.d (L90 v11)))), (12, ca (.c (.d (.int .i64 v12)))), (13, .b true)] (fun _ f => o (ratio_Clean.does h0) (o (whole_Print.does h1) (o (nat_Of.does h2) (o (nat_Cmp.does h3) (o (beq_iff_eq.2 h4) f))))) (by kernel_rfl)
  · rw [if_neg h4] at h
    obtain ⟨h5, h⟩ := ifp h
    obtain ⟨v18, h6, h⟩ := bnd h
    obtain ⟨h7, h⟩ := ifp h
    obtain rfl := Option.some.inj h
    exact Til.fin Tryd.func24 [(3, ca (.agg [.d (.bool v3.1), .d (L90 v3.2.1), .d (L90 v3.2.2)])), (7, ca (.c (.d (.str v7)))), (11, ca (.c (.d (L90 v11)))), (12, ca (.c (.d (.int .i64 v12)))), (13, .b false), (18, ca (.c (.d (.str v18))))] (fun _ f => o (ratio_Clean.does h0) (o (whole_Print.does h1) (o (nat_Of.does h2) (o (nat_Cmp.does h3) (o (beq_false_of_ne h4) (o h5 (o (nat_Print.does h6) (o h7 f)))))))) (by kernel_rfl)

theorem whole_Of.does {k : Nat} {a0 : Int} {r : Bool × List Int} (h : whole_Of.f k a0 = some r) :
    Does Tryd.prog 46 [.c (.d (.int .i64 a0))] [] (.agg [.d (.bool r.1), .d (L90 r.2)]) none [] := by
  refine does_fn Tryd.func46 (by kernel_rfl) rfl rfl ?_
  unfold whole_Of.f at h
  by_cases h0 : a0 < 0
  · rw [if_pos h0] at h
    obtain ⟨v6, h1, h⟩ := bnd h
    obtain ⟨v7, h2, h⟩ := bnd h
    obtain rfl := Option.some.inj h
    exact Til.fin Tryd.func46 [(2, .b true), (6, ca (.c (.d (L90 v6)))), (7, ca (.agg [.d (.bool v7.1), .d (L90 v7.2)]))] (fun _ f => o (decide_eq_true h0) (o (nat_Of.does h1) (o (whole_sign.does h2) f))) (by kernel_rfl)
  · rw [if_neg h0] at h
    obtain ⟨v5, h1, h⟩ := bnd h
    obtain ⟨v6, h2, h⟩ := bnd h
    obtain rfl := Option.some.inj h
    exact Til.fin Tryd.func46 [(2, .b false), (5, ca (.c (.d (L90 v5)))), (6, ca (.agg [.d (.bool v6.1), .d (L90 v6.2)]))] (fun _ f => o (decide_eq_false h0) (o (nat_Of.does h1) (o (whole_sign.does h2) f))) (by kernel_rfl)

theorem ratio_Of.does {k : Nat} {a0 : Int} {r : Bool × List Int × List Int} (h : ratio_Of.f k a0 = some r) :
    Does Tryd.prog 37 [.c (.d (.int .i64 a0))] [] (.agg [.d (.bool r.1), .d (L90 r.2.1), .d (L90 r.2.2)]) none [] := by
  refine does_fn Tryd.func37 (by kernel_rfl) rfl rfl ?_
  unfold ratio_Of.f at h
  obtain ⟨v2, h0, h⟩ := bnd h
  obtain ⟨v3, h1, h⟩ := bnd h
  obtain rfl := Option.some.inj h
  exact Til.fin Tryd.func37 [(2, ca (.agg [.d (.bool v2.1), .d (L90 v2.2)])), (3, ca (.c (.d (L90 v3))))] (fun _ f => o (whole_Of.does h0) (o (nat_Of.does h1) f)) (by kernel_rfl)

theorem report_digits.does {k : Nat} {a0 : Int} {r : ByteArray} (h : report_digits.f k a0 = some r) :
    Does Tryd.prog 22 [.c (.d (.int .i64 a0))] [] (.c (.d (.str r))) none [] := by
  refine does_fn Tryd.func22 (by kernel_rfl) rfl rfl ?_
  unfold report_digits.f at h
  obtain ⟨v2, h0, h⟩ := bnd h
  obtain ⟨v3, h1, h⟩ := bnd h
  obtain rfl := Option.some.inj h
  exact Til.fin Tryd.func22 [(2, ca (.agg [.d (.bool v2.1), .d (L90 v2.2.1), .d (L90 v2.2.2)])), (3, ca (.c (.d (.str v3))))] (fun _ f => o (ratio_Of.does h0) (o (ratio_Print.does h1) f)) (by kernel_rfl)

def c55 (x : Bool × List Int × List Int) : List Dat := [.bool x.1, L90 x.2.1, L90 x.2.2]
def L55 (xs : List (Bool × List Int × List Int)) : Dat := fr 3 c55 (false, [], []) xs
def Z55 (xs : List (Bool × List Int × List Int)) : Sup := .r xs.length (enc c55 (false, [], []) xs)
def O55 (k : RK) (xs : List (Bool × List Int × List Int)) : Ob := .row k 55 3 xs.length (enc c55 (false, [], []) xs)

def c47 (x : List (Bool × List Int × List Int)) : List Dat := [L55 x]
def L47 (xs : List (List (Bool × List Int × List Int))) : Dat := fr 1 c47 [] xs
def Z47 (xs : List (List (Bool × List Int × List Int))) : Sup := .r xs.length (enc c47 [] xs)
def O47 (k : RK) (xs : List (List (Bool × List Int × List Int))) : Ob := .row k 47 1 xs.length (enc c47 [] xs)

def report_right.l0E (x49 : List (List (Bool × List Int × List Int))) (x50 : Int) (x51 : Int) : Env := [(49, .c (.d (L47 x49))), (50, .c (.d (.int .i64 x50))), (51, .c (.d (.int .i64 x51)))]
theorem report_right.w (k : Nat) : (∀  (x49 : List (List (Bool × List Int × List Int))) (x50 : Int) (x51 : Int) (r : Bool), report_right.l0 k x49 x50 x51 = some r → Til Tryd.prog 23 [] (.c (.d (.bool r))) none [] (at_ Tryd.f23 4) (report_right.l0E x49 x50 x51) []) := by
  induction k with
  | zero =>
    exact fun _ _ _ _ h => (by cases h)
  | succ k ih =>
    intro x49 x50 x51 r h
    rw [report_right.l0] at h
    by_cases h0 : x51 < x50
    · rw [if_pos h0] at h
      obtain ⟨h1, h⟩ := ifp h
      obtain ⟨h2, h⟩ := ifp h
      by_cases h3 : ((gt [] x49 x51).length : Int) > 1000
      · rw [if_pos h3] at h
        obtain rfl := Option.some.inj h
        exact Til.fin Tryd.func23 [(0, .b true), (6, .b true)] (fun _ f => o (decide_eq_true h0) (o (o h1 h2) (o (decide_eq_true h3) f))) (by kernel_rfl)
      · rw [if_neg h3] at h
        exact Til.mid Tryd.func23 4 [(0, .b true), (6, .b false)] (fun _ f => o (decide_eq_true h0) (o (o h1 h2) (o (decide_eq_false h3) f))) (by kernel_rfl) (ih _ _ _ _ h)
    · rw [if_neg h0] at h
      obtain rfl := Option.some.inj h
      exact Til.fin Tryd.func23 [(0, .b false)] (fun _ f => o (decide_eq_false h0) f) (by kernel_rfl)
theorem report_right.does {k : Nat} {a0_0 : Int} {a0_1 : Int} {a0_2 : Int} {l0_3 : List (List (Bool × List Int × List Int))} {a1 : Int} {r : Bool} (h : report_right.f k a0_0 a0_1 a0_2 l0_3 a1 = some r) :
    Does Tryd.prog 23 [.agg [.d (.int .i64 a0_0), .d (.int .i64 a0_1), .d (.int .i64 a0_2), .d (L47 l0_3)], .c (.d (.int .i64 a1))] [] (.c (.d (.bool r))) none [] := by
  refine does_fn Tryd.func23 (by kernel_rfl) rfl rfl ?_
  unfold report_right.f at h
  have ih := report_right.w k
  by_cases h0 : a0_0 ≠ a1
  · rw [if_pos h0] at h
    obtain rfl := Option.some.inj h
    exact Til.fin Tryd.func23 [(5, .b true)] (fun _ f => o (bne_iff_ne.2 h0) f) (by kernel_rfl)
  · rw [if_neg h0] at h
    by_cases h1 : a0_1 < 0
    · rw [if_pos h1] at h
      obtain rfl := Option.some.inj h
      exact Til.fin Tryd.func23 [(5, .b false), (9, .b true)] (fun _ f => o (ne_f h0) (o (decide_eq_true h1) f)) (by kernel_rfl)
    · rw [if_neg h1] at h
      by_cases h2 : a0_1 > 9
      · rw [if_pos h2] at h
        obtain rfl := Option.some.inj h
        exact Til.fin Tryd.func23 [(5, .b false), (9, .b false), (14, .b true)] (fun _ f => o (ne_f h0) (o (decide_eq_false h1) (o (decide_eq_true h2) f))) (by kernel_rfl)
      · rw [if_neg h2] at h
        by_cases h3 : a0_2 < 0
        · rw [if_pos h3] at h
          obtain rfl := Option.some.inj h
          exact Til.fin Tryd.func23 [(5, .b false), (9, .b false), (14, .b false), (19, .b true)] (fun _ f => o (ne_f h0) (o (decide_eq_false h1) (o (decide_eq_false h2) (o (decide_eq_true h3) f)))) (by kernel_rfl)
        · rw [if_neg h3] at h
          by_cases h4 : a0_2 > 999
          · rw [if_pos h4] at h
            obtain rfl := Option.some.inj h
            exact Til.fin Tryd.func23 [(5, .b false), (9, .b false), (14, .b false), (19, .b false), (24, .b true)] (fun _ f => o (ne_f h0) (o (decide_eq_false h1) (o (decide_eq_false h2) (o (decide_eq_false h3) (o (decide_eq_true h4) f))))) (by kernel_rfl)
          · rw [if_neg h4] at h
            by_cases h5 : a0_2 ≠ 0
            · rw [if_pos h5] at h
              by_cases h6 : (l0_3.length : Int) > 0
              · rw [if_pos h6] at h
                obtain rfl := Option.some.inj h
                exact Til.fin Tryd.func23 [(5, .b false), (9, .b false), (14, .b false), (19, .b false), (24, .b false), (29, .b true), (34, .b true)] (fun _ f => o (ne_f h0) (o (decide_eq_false h1) (o (decide_eq_false h2) (o (decide_eq_false h3) (o (decide_eq_false h4) (o (bne_iff_ne.2 h5) (o (decide_eq_true h6) f))))))) (by kernel_rfl)
              · rw [if_neg h6] at h
                by_cases h7 : (l0_3.length : Int) > 64
                · rw [if_pos h7] at h
                  obtain rfl := Option.some.inj h
                  exact Til.fin Tryd.func23 [(5, .b false), (9, .b false), (14, .b false), (19, .b false), (24, .b false), (29, .b true), (34, .b false), (41, .b true)] (fun _ f => o (ne_f h0) (o (decide_eq_false h1) (o (decide_eq_false h2) (o (decide_eq_false h3) (o (decide_eq_false h4) (o (bne_iff_ne.2 h5) (o (decide_eq_false h6) (o (decide_eq_true h7) f)))))))) (by kernel_rfl)
                · rw [if_neg h7] at h
                  exact Til.mid Tryd.func23 4 [(5, .b false), (9, .b false), (14, .b false), (19, .b false), (24, .b false), (29, .b true), (34, .b false), (41, .b false)] (fun _ f => o (ne_f h0) (o (decide_eq_false h1) (o (decide_eq_false h2) (o (decide_eq_false h3) (o (decide_eq_false h4) (o (bne_iff_ne.2 h5) (o (decide_eq_false h6) (o (decide_eq_false h7) f)))))))) (by kernel_rfl) (ih _ _ _ _ h)
            · rw [if_neg h5] at h
              by_cases h6 : (l0_3.length : Int) > 64
              · rw [if_pos h6] at h
                obtain rfl := Option.some.inj h
                exact Til.fin Tryd.func23 [(5, .b false), (9, .b false), (14, .b false), (19, .b false), (24, .b false), (29, .b false), (41, .b true)] (fun _ f => o (ne_f h0) (o (decide_eq_false h1) (o (decide_eq_false h2) (o (decide_eq_false h3) (o (decide_eq_false h4) (o (ne_f h5) (o (decide_eq_true h6) f))))))) (by kernel_rfl)
              · rw [if_neg h6] at h
                exact Til.mid Tryd.func23 4 [(5, .b false), (9, .b false), (14, .b false), (19, .b false), (24, .b false), (29, .b false), (41, .b false)] (fun _ f => o (ne_f h0) (o (decide_eq_false h1) (o (decide_eq_false h2) (o (decide_eq_false h3) (o (decide_eq_false h4) (o (ne_f h5) (o (decide_eq_false h6) f))))))) (by kernel_rfl) (ih _ _ _ _ h)

def c33 (x : Int × Int × Int × List (List (Bool × List Int × List Int))) : List Dat := [.int .i64 x.1, .int .i64 x.2.1, .int .i64 x.2.2.1, L47 x.2.2.2]
def L33 (xs : List (Int × Int × Int × List (List (Bool × List Int × List Int)))) : Dat := fr 4 c33 (0, 0, 0, []) xs
def Z33 (xs : List (Int × Int × Int × List (List (Bool × List Int × List Int)))) : Sup := .r xs.length (enc c33 (0, 0, 0, []) xs)
def O33 (k : RK) (xs : List (Int × Int × Int × List (List (Bool × List Int × List Int)))) : Ob := .row k 33 4 xs.length (enc c33 (0, 0, 0, []) xs)

def report_Write.l0E (x20 : List (Int × Int × Int × List (List (Bool × List Int × List Int)))) (x21 : Int) (x22 : Int) (b4 : ByteArray) : Env := [(4, .c (.ptr 4 0)), (20, .c (.d (L33 x20))), (21, .c (.d (.int .i64 x21))), (22, .c (.d (.int .i64 x22)))]
def report_Write.l0B (x20 : List (Int × Int × Int × List (List (Bool × List Int × List Int)))) (x21 : Int) (x22 : Int) (b4 : ByteArray) : Obs := [(4, some (.bld b4))]
def report_Write.l1E (x20 : List (Int × Int × Int × List (List (Bool × List Int × List Int)))) (x21 : Int) (x22 : Int) (x59 : List (List (Bool × List Int × List Int))) (x60 : Int) (x61 : Int) (b4 : ByteArray) : Env := [(4, .c (.ptr 4 0)), (20, .c (.d (L33 x20))), (21, .c (.d (.int .i64 x21))), (22, .c (.d (.int .i64 x22))), (59, .c (.d (L47 x59))), (60, .c (.d (.int .i64 x60))), (61, .c (.d (.int .i64 x61)))]
def report_Write.l1B (x20 : List (Int × Int × Int × List (List (Bool × List Int × List Int)))) (x21 : Int) (x22 : Int) (x59 : List (List (Bool × List Int × List Int))) (x60 : Int) (x61 : Int) (b4 : ByteArray) : Obs := [(4, some (.bld b4))]
def report_Write.l2E (x20 : List (Int × Int × Int × List (List (Bool × List Int × List Int)))) (x21 : Int) (x22 : Int) (x59 : List (List (Bool × List Int × List Int))) (x60 : Int) (x61 : Int) (x70 : List (Bool × List Int × List Int)) (x71 : Int) (x72 : Int) (b4 : ByteArray) : Env := [(4, .c (.ptr 4 0)), (20, .c (.d (L33 x20))), (21, .c (.d (.int .i64 x21))), (22, .c (.d (.int .i64 x22))), (59, .c (.d (L47 x59))), (60, .c (.d (.int .i64 x60))), (61, .c (.d (.int .i64 x61))), (70, .c (.d (L55 x70))), (71, .c (.d (.int .i64 x71))), (72, .c (.d (.int .i64 x72)))]
def report_Write.l2B (x20 : List (Int × Int × Int × List (List (Bool × List Int × List Int)))) (x21 : Int) (x22 : Int) (x59 : List (List (Bool × List Int × List Int))) (x60 : Int) (x61 : Int) (x70 : List (Bool × List Int × List Int)) (x71 : Int) (x72 : Int) (b4 : ByteArray) : Obs := [(4, some (.bld b4))]
theorem report_Write.w (k : Nat) : (∀  (x20 : List (Int × Int × Int × List (List (Bool × List Int × List Int)))) (x21 : Int) (x22 : Int) (b4 : ByteArray) (r : ByteArray × Int), report_Write.l0 k x20 x21 x22 b4 = some r → Til Tryd.prog 8 [] (.tup [.c (.d (.str r.1)), .c (.d (.int .i64 r.2))]) none [] (at_ Tryd.f8 6) (report_Write.l0E x20 x21 x22 b4) (report_Write.l0B x20 x21 x22 b4)) ∧
    (∀  (x20 : List (Int × Int × Int × List (List (Bool × List Int × List Int)))) (x21 : Int) (x22 : Int) (x59 : List (List (Bool × List Int × List Int))) (x60 : Int) (x61 : Int) (b4 : ByteArray) (r : ByteArray × Int), report_Write.l1 k x20 x21 x22 x59 x60 x61 b4 = some r → Til Tryd.prog 8 [] (.tup [.c (.d (.str r.1)), .c (.d (.int .i64 r.2))]) none [] (at_ Tryd.f8 15) (report_Write.l1E x20 x21 x22 x59 x60 x61 b4) (report_Write.l1B x20 x21 x22 x59 x60 x61 b4)) ∧
    (∀  (x20 : List (Int × Int × Int × List (List (Bool × List Int × List Int)))) (x21 : Int) (x22 : Int) (x59 : List (List (Bool × List Int × List Int))) (x60 : Int) (x61 : Int) (x70 : List (Bool × List Int × List Int)) (x71 : Int) (x72 : Int) (b4 : ByteArray) (r : ByteArray × Int), report_Write.l2 k x20 x21 x22 x59 x60 x61 x70 x71 x72 b4 = some r → Til Tryd.prog 8 [] (.tup [.c (.d (.str r.1)), .c (.d (.int .i64 r.2))]) none [] (at_ Tryd.f8 19) (report_Write.l2E x20 x21 x22 x59 x60 x61 x70 x71 x72 b4) (report_Write.l2B x20 x21 x22 x59 x60 x61 x70 x71 x72 b4)) := by
  induction k with
  | zero =>
    exact ⟨fun _ _ _ _ _ h => (by cases h), fun _ _ _ _ _ _ _ _ h => (by cases h), fun _ _ _ _ _ _ _ _ _ _ _ h => (by cases h)⟩
  | succ k ih =>
    refine ⟨?_, ?_, ?_⟩
    · intro x20 x21 x22 b4 r h
      rw [report_Write.l0] at h
      by_cases h0 : x22 < x21
      · rw [if_pos h0] at h
        obtain ⟨h1, h⟩ := ifp h
        obtain ⟨h2, h⟩ := ifp h
        obtain ⟨v9, h3, h⟩ := bnd h
        cases v9
        · rw [if_neg (by decide)] at h
          obtain rfl := Option.some.inj h
          exact Til.fin Tryd.func8 [(0, .b true), (9, ca (.c (.d (.bool false))))] (fun _ f => o (decide_eq_true h0) (o (o h1 h2) (o (report_right.does h3) f))) (by kernel_rfl)
        · rw [if_pos rfl] at h
          obtain ⟨v13, h5, h⟩ := bnd h
          obtain ⟨h6, h⟩ := ifp h
          obtain ⟨h7, h⟩ := ifp h
          obtain ⟨v18, h8, h⟩ := bnd h
          obtain ⟨h9, h⟩ := ifp h
          obtain ⟨h10, h⟩ := ifp h
          obtain ⟨v21, h11, h⟩ := bnd h
          by_cases h12 : (gt (0, 0, 0, []) x20 x22).2.2.1 ≠ 0
          · rw [if_pos h12] at h
            obtain ⟨v27, h13, h⟩ := bnd h
            obtain ⟨h14, h⟩ := ifp h
            obtain ⟨h15, h⟩ := ifp h
            obtain ⟨v30, h16, h⟩ := bnd h
            exact Til.mid Tryd.func8 6 [(0, .b true), (9, ca (.c (.d (.bool true)))), (13, ca (.c (.d (.str v13)))), (18, ca (.c (.d (.str v18)))), (21, .call [] [0] (.c (.u)) none [(0, some (.bld v21))] []), (24, .b true), (27, ca (.c (.d (.str v27)))), (30, .call [] [0] (.c (.u)) none [(0, some (.bld v30))] [])] (fun _ f => o (decide_eq_true h0) (o (o h1 h2) (o (report_right.does h3) (o (report_digits.does h5) (o h6 (o h7 (o (report_digits.does h8) (o h9 (o h10 (o (strings_Builder_WriteString.does h11) (o (bne_iff_ne.2 h12) (o (report_digits.does h13) (o h14 (o h15 (o (strings_Builder_WriteString.does h16) f))))))))))))))) (by kernel_rfl) (ih.1 _ _ _ _ _ h)
          · rw [if_neg h12] at h
            obtain ⟨v28, h13, h⟩ := bnd h
            obtain ⟨h14, h⟩ := ifp h
            obtain ⟨h15, h⟩ := ifp h
            obtain ⟨v31, h16, h⟩ := bnd h
            exact Til.mid Tryd.func8 15 [(0, .b true), (9, ca (.c (.d (.bool true)))), (13, ca (.c (.d (.str v13)))), (18, ca (.c (.d (.str v18)))), (21, .call [] [0] (.c (.u)) none [(0, some (.bld v21))] []), (24, .b false), (28, ca (.c (.d (.str v28)))), (31, .call [] [0] (.c (.u)) none [(0, some (.bld v31))] [])] (fun _ f => o (decide_eq_true h0) (o (o h1 h2) (o (report_right.does h3) (o (report_digits.does h5) (o h6 (o h7 (o (report_digits.does h8) (o h9 (o h10 (o (strings_Builder_WriteString.does h11) (o (ne_f h12) (o (report_digits.does h13) (o h14 (o h15 (o (strings_Builder_WriteString.does h16) f))))))))))))))) (by kernel_rfl) (ih.2.1 _ _ _ _ _ _ _ _ h)
      · rw [if_neg h0] at h
        obtain ⟨v1, h1, h⟩ := bnd h
        obtain rfl := Option.some.inj h
        exact Til.fin Tryd.func8 [(0, .b false), (1, .call [] [0] (.c (.d (.str v1.1))) none [(0, some (.bld v1.2))] [])] (fun _ f => o (decide_eq_false h0) (o (strings_Builder_String.does h1) f)) (by kernel_rfl)
    · intro x20 x21 x22 x59 x60 x61 b4 r h
      rw [report_Write.l1] at h
      by_cases h0 : x61 < x60
      · rw [if_pos h0] at h
        obtain ⟨h1, h⟩ := ifp h
        obtain ⟨h2, h⟩ := ifp h
        obtain ⟨v6, h3, h⟩ := bnd h
        obtain ⟨h4, h⟩ := ifp h
        obtain ⟨v8, h5, h⟩ := bnd h
        exact Til.mid Tryd.func8 19 [(0, .b true), (6, ca (.c (.d (.str v6)))), (8, .call [] [0] (.c (.u)) none [(0, some (.bld v8))] [])] (fun _ f => o (decide_eq_true h0) (o (o h1 h2) (o (report_digits.does h3) (o h4 (o (strings_Builder_WriteString.does h5) f))))) (by kernel_rfl) (ih.2.2 _ _ _ _ _ _ _ _ _ _ _ h)
      · rw [if_neg h0] at h
        exact Til.mid Tryd.func8 6 [(0, .b false)] (fun _ f => o (decide_eq_false h0) f) (by kernel_rfl) (ih.1 _ _ _ _ _ h)
    · intro x20 x21 x22 x59 x60 x61 x70 x71 x72 b4 r h
      rw [report_Write.l2] at h
      by_cases h0 : x72 < x71
      · rw [if_pos h0] at h
        obtain ⟨h1, h⟩ := ifp h
        obtain ⟨h2, h⟩ := ifp h
        obtain ⟨v6, h3, h⟩ := bnd h
        obtain ⟨h4, h⟩ := ifp h
        obtain ⟨v8, h5, h⟩ := bnd h
        exact Til.mid Tryd.func8 19 [(0, .b true), (6, ca (.c (.d (.str v6)))), (8, .call [] [0] (.c (.u)) none [(0, some (.bld v8))] [])] (fun _ f => o (decide_eq_true h0) (o (o h1 h2) (o (ratio_Print.does h3) (o h4 (o (strings_Builder_WriteString.does h5) f))))) (by kernel_rfl) (ih.2.2 _ _ _ _ _ _ _ _ _ _ _ h)
      · rw [if_neg h0] at h
        obtain ⟨v1, h1, h⟩ := bnd h
        exact Til.mid Tryd.func8 15 [(0, .b false), (1, .call [] [0] (.c (.u)) none [(0, some (.bld v1))] [])] (fun _ f => o (decide_eq_false h0) (o (strings_Builder_WriteString.does h1) f)) (by kernel_rfl) (ih.2.1 _ _ _ _ _ _ _ _ h)
theorem report_Write.does {k : Nat} {l0 : List (Int × Int × Int × List (List (Bool × List Int × List Int)))} {r : ByteArray × Int} (h : report_Write.f k l0 = some r) :
    Does Tryd.prog 8 [.c (.d (L33 l0))] [] (.tup [.c (.d (.str r.1)), .c (.d (.int .i64 r.2))]) none [] := by
  refine does_fn Tryd.func8 (by kernel_rfl) rfl rfl ?_
  unfold report_Write.f at h
  have ih := report_Write.w k
  by_cases h0 : (l0.length : Int) > 16384
  · rw [if_pos h0] at h
    obtain rfl := Option.some.inj h
    exact Til.fin Tryd.func8 [(4, .b true)] (fun _ f => o (decide_eq_true h0) f) (by kernel_rfl)
  · rw [if_neg h0] at h
    obtain ⟨v8, h1, h⟩ := bnd h
    obtain ⟨h2, h⟩ := ifp h
    obtain ⟨h3, h⟩ := ifp h
    obtain ⟨v11, h4, h⟩ := bnd h
    exact Til.mid Tryd.func8 6 [(4, .b false), (8, ca (.c (.d (.str v8)))), (11, .call [] [0] (.c (.u)) none [(0, some (.bld v11))] [])] (fun _ f => o (decide_eq_false h0) (o (report_digits.does h1) (o h2 (o h3 (o (strings_Builder_WriteString.does h4) f))))) (by kernel_rfl) (ih.1 _ _ _ _ _ h)

theorem whole_Sign.does {k : Nat} {a0_0 : Bool} {l0_1 : List Int} {r : Int} (h : whole_Sign.f k a0_0 l0_1 = some r) :
    Does Tryd.prog 71 [.agg [.d (.bool a0_0), .d (L90 l0_1)]] [] (.c (.d (.int .i64 r))) none [] := by
  refine does_fn Tryd.func71 (by kernel_rfl) rfl rfl ?_
  unfold whole_Sign.f at h
  obtain ⟨v3, h0, h⟩ := bnd h
  by_cases h1 : v3.1 = true
  · rw [if_pos h1] at h
    obtain rfl := Option.some.inj h
    exact Til.fin Tryd.func71 [(3, ca (.agg [.d (.bool v3.1), .d (L90 v3.2)])), (6, .b true)] (fun _ f => o (whole_Clean.does h0) (o h1 f)) (by kernel_rfl)
  · rw [if_neg h1] at h
    by_cases h2 : (v3.2.length : Int) = 0
    · rw [if_pos h2] at h
      obtain rfl := Option.some.inj h
      exact Til.fin Tryd.func71 [(3, ca (.agg [.d (.bool v3.1), .d (L90 v3.2)])), (6, .b false), (11, .b true)] (fun _ f => o (whole_Clean.does h0) (o (Bool.eq_false_iff.2 h1) (o (beq_iff_eq.2 h2) f))) (by kernel_rfl)
    · rw [if_neg h2] at h
      obtain rfl := Option.some.inj h
      exact Til.fin Tryd.func71 [(3, ca (.agg [.d (.bool v3.1), .d (L90 v3.2)])), (6, .b false), (11, .b false)] (fun _ f => o (whole_Clean.does h0) (o (Bool.eq_false_iff.2 h1) (o (beq_false_of_ne h2) f))) (by kernel_rfl)

theorem whole_Neg.does {k : Nat} {a0_0 : Bool} {l0_1 : List Int} {r : Bool × List Int} (h : whole_Neg.f k a0_0 l0_1 = some r) :
    Does Tryd.prog 72 [.agg [.d (.bool a0_0), .d (L90 l0_1)]] [] (.agg [.d (.bool r.1), .d (L90 r.2)]) none [] := by
  refine does_fn Tryd.func72 (by kernel_rfl) rfl rfl ?_
  unfold whole_Neg.f at h
  obtain ⟨v3, h0, h⟩ := bnd h
  obtain ⟨v10, h1, h⟩ := bnd h
  obtain rfl := Option.some.inj h
  exact Til.fin Tryd.func72 [(3, ca (.agg [.d (.bool v3.1), .d (L90 v3.2)])), (10, ca (.agg [.d (.bool v10.1), .d (L90 v10.2)]))] (fun _ f => o (whole_Clean.does h0) (o (whole_sign.does h1) f)) (by kernel_rfl)

theorem ratio_Make.does {k : Nat} {a0_0 : Bool} {l0_1 : List Int} {a1_0 : Bool} {l1_1 : List Int} {r : Bool × List Int × List Int × Int} (h : ratio_Make.f k a0_0 l0_1 a1_0 l1_1 = some r) :
    Does Tryd.prog 45 [.agg [.d (.bool a0_0), .d (L90 l0_1)], .agg [.d (.bool a1_0), .d (L90 l1_1)]] [] (.tup [.agg [.d (.bool r.1), .d (L90 r.2.1), .d (L90 r.2.2.1)], .c (.d (.int .i64 r.2.2.2))]) none [] := by
  refine does_fn Tryd.func45 (by kernel_rfl) rfl rfl ?_
  unfold ratio_Make.f at h
  obtain ⟨v5, h0, h⟩ := bnd h
  obtain ⟨v7, h1, h⟩ := bnd h
  obtain ⟨v11, h2, h⟩ := bnd h
  by_cases h3 : v11 = 0
  · rw [if_pos h3] at h
    obtain rfl := Option.some.inj h
    exact Til.fin Tryd.func45 [(5, ca (.agg [.d (.bool v5.1), .d (L90 v5.2)])), (7, ca (.agg [.d (.bool v7.1), .d (L90 v7.2)])), (11, ca (.c (.d (.int .i64 v11)))), (12, .b true)] (fun _ f => o (whole_Clean.does h0) (o (whole_Clean.does h1) (o (whole_Sign.does h2) (o (beq_iff_eq.2 h3) f)))) (by kernel_rfl)
  · rw [if_neg h3] at h
    by_cases h4 : v7.1 = true
    · rw [if_pos h4] at h
      obtain ⟨v16, h5, h⟩ := bnd h
      obtain ⟨v21, h6, h⟩ := bnd h
      obtain rfl := Option.some.inj h
      exact Til.fin Tryd.func45 [(5, ca (.agg [.d (.bool v5.1), .d (L90 v5.2)])), (7, ca (.agg [.d (.bool v7.1), .d (L90 v7.2)])), (11, ca (.c (.d (.int .i64 v11)))), (12, .b false), (14, .b true), (16, ca (.agg [.d (.bool v16.1), .d (L90 v16.2)])), (21, ca (.agg [.d (.bool v21.1), .d (L90 v21.2.1), .d (L90 v21.2.2)]))] (fun _ f => o (whole_Clean.does h0) (o (whole_Clean.does h1) (o (whole_Sign.does h2) (o (beq_false_of_ne h3) (o h4 (o (whole_Neg.does h5) (o (ratio_form.does h6) f))))))) (by kernel_rfl)
    · rw [if_neg h4] at h
      obtain ⟨v18, h5, h⟩ := bnd h
      obtain rfl := Option.some.inj h
      exact Til.fin Tryd.func45 [(5, ca (.agg [.d (.bool v5.1), .d (L90 v5.2)])), (7, ca (.agg [.d (.bool v7.1), .d (L90 v7.2)])), (11, ca (.c (.d (.int .i64 v11)))), (12, .b false), (14, .b false), (18, ca (.agg [.d (.bool v18.1), .d (L90 v18.2.1), .d (L90 v18.2.2)]))] (fun _ f => o (whole_Clean.does h0) (o (whole_Clean.does h1) (o (whole_Sign.does h2) (o (beq_false_of_ne h3) (o (Bool.eq_false_iff.2 h4) (o (ratio_form.does h5) f)))))) (by kernel_rfl)

theorem ratio_Frac.does {k : Nat} {a0 : Int} {a1 : Int} {r : Bool × List Int × List Int} (h : ratio_Frac.f k a0 a1 = some r) :
    Does Tryd.prog 26 [.c (.d (.int .i64 a0)), .c (.d (.int .i64 a1))] [] (.agg [.d (.bool r.1), .d (L90 r.2.1), .d (L90 r.2.2)]) none [] := by
  refine does_fn Tryd.func26 (by kernel_rfl) rfl rfl ?_
  unfold ratio_Frac.f at h
  obtain ⟨v2, h0, h⟩ := bnd h
  obtain ⟨v4, h1, h⟩ := bnd h
  obtain ⟨v5, h2, h⟩ := bnd h
  obtain ⟨v13, h3, h⟩ := bnd h
  obtain rfl := Option.some.inj h
  exact Til.fin Tryd.func26 [(2, ca (.agg [.d (.bool v2.1), .d (L90 v2.2)])), (4, ca (.agg [.d (.bool v4.1), .d (L90 v4.2)])), (5, ca (.tup [.agg [.d (.bool v5.1), .d (L90 v5.2.1), .d (L90 v5.2.2.1)], .c (.d (.int .i64 v5.2.2.2))])), (13, ca (.agg [.d (.bool v13.1), .d (L90 v13.2.1), .d (L90 v13.2.2)]))] (fun _ f => o (whole_Of.does h0) (o (whole_Of.does h1) (o (ratio_Make.does h2) (o (ratio_Clean.does h3) f)))) (by kernel_rfl)

theorem dendronlaw29_awake.does {k : Nat}  {r : Bool} (h : dendronlaw29_awake.f k = some r) :
    Does Tryd.prog 10 [] [] (.c (.d (.bool r))) none [] := by
  refine does_fn Tryd.func10 (by kernel_rfl) rfl rfl ?_
  unfold dendronlaw29_awake.f at h
  obtain ⟨v1, h0, h⟩ := bnd h
  obtain ⟨v6, h1, h⟩ := bnd h
  by_cases h2 : v6.1 = cst_0edf54b5
  · rw [if_pos h2] at h
    by_cases h3 : v6.2 = 0
    · rw [if_pos h3] at h
      obtain rfl := Option.some.inj h
      exact Til.fin Tryd.func10 [(1, ca (.agg [.d (.bool v1.1), .d (L90 v1.2.1), .d (L90 v1.2.2)])), (2, Z55 ([(v1.1, v1.2.1, v1.2.2)] : List (Bool × List Int × List Int))), (3, Z47 ([([(v1.1, v1.2.1, v1.2.2)] : List (Bool × List Int × List Int))] : List (List (Bool × List Int × List Int)))), (5, Z33 ([(0, 2, 0, ([([(v1.1, v1.2.1, v1.2.2)] : List (Bool × List Int × List Int))] : List (List (Bool × List Int × List Int))))] : List (Int × Int × Int × List (List (Bool × List Int × List Int))))), (6, ca (.tup [.c (.d (.str v6.1)), .c (.d (.int .i64 v6.2))])), (13, .b true), (16, .b true)] (fun _ f => o (ratio_Frac.does h0) (o (lit_ok c55 (false, [], []) ([(v1.1, v1.2.1, v1.2.2)] : List (Bool × List Int × List Int))) (o (lit_ok c47 [] ([([(v1.1, v1.2.1, v1.2.2)] : List (Bool × List Int × List Int))] : List (List (Bool × List Int × List Int)))) (o (lit_ok c33 (0, 0, 0, []) ([(0, 2, 0, ([([(v1.1, v1.2.1, v1.2.2)] : List (Bool × List Int × List Int))] : List (List (Bool × List Int × List Int))))] : List (Int × Int × Int × List (List (Bool × List Int × List Int))))) (o (report_Write.does h1) (o (str_t h2) (o (beq_iff_eq.2 h3) f))))))) (by kernel_rfl)
    · rw [if_neg h3] at h
      obtain rfl := Option.some.inj h
      exact Til.fin Tryd.func10 [(1, ca (.agg [.d (.bool v1.1), .d (L90 v1.2.1), .d (L90 v1.2.2)])), (2, Z55 ([(v1.1, v1.2.1, v1.2.2)] : List (Bool × List Int × List Int))), (3, Z47 ([([(v1.1, v1.2.1, v1.2.2)] : List (Bool × List Int × List Int))] : List (List (Bool × List Int × List Int)))), (5, Z33 ([(0, 2, 0, ([([(v1.1, v1.2.1, v1.2.2)] : List (Bool × List Int × List Int))] : List (List (Bool × List Int × List Int))))] : List (Int × Int × Int × List (List (Bool × List Int × List Int))))), (6, ca (.tup [.c (.d (.str v6.1)), .c (.d (.int .i64 v6.2))])), (13, .b true), (16, .b false)] (fun _ f => o (ratio_Frac.does h0) (o (lit_ok c55 (false, [], []) ([(v1.1, v1.2.1, v1.2.2)] : List (Bool × List Int × List Int))) (o (lit_ok c47 [] ([([(v1.1, v1.2.1, v1.2.2)] : List (Bool × List Int × List Int))] : List (List (Bool × List Int × List Int)))) (o (lit_ok c33 (0, 0, 0, []) ([(0, 2, 0, ([([(v1.1, v1.2.1, v1.2.2)] : List (Bool × List Int × List Int))] : List (List (Bool × List Int × List Int))))] : List (Int × Int × Int × List (List (Bool × List Int × List Int))))) (o (report_Write.does h1) (o (str_t h2) (o (beq_false_of_ne h3) f))))))) (by kernel_rfl)
  · rw [if_neg h2] at h
    obtain rfl := Option.some.inj h
    exact Til.fin Tryd.func10 [(1, ca (.agg [.d (.bool v1.1), .d (L90 v1.2.1), .d (L90 v1.2.2)])), (2, Z55 ([(v1.1, v1.2.1, v1.2.2)] : List (Bool × List Int × List Int))), (3, Z47 ([([(v1.1, v1.2.1, v1.2.2)] : List (Bool × List Int × List Int))] : List (List (Bool × List Int × List Int)))), (5, Z33 ([(0, 2, 0, ([([(v1.1, v1.2.1, v1.2.2)] : List (Bool × List Int × List Int))] : List (List (Bool × List Int × List Int))))] : List (Int × Int × Int × List (List (Bool × List Int × List Int))))), (6, ca (.tup [.c (.d (.str v6.1)), .c (.d (.int .i64 v6.2))])), (13, .b false)] (fun _ f => o (ratio_Frac.does h0) (o (lit_ok c55 (false, [], []) ([(v1.1, v1.2.1, v1.2.2)] : List (Bool × List Int × List Int))) (o (lit_ok c47 [] ([([(v1.1, v1.2.1, v1.2.2)] : List (Bool × List Int × List Int))] : List (List (Bool × List Int × List Int)))) (o (lit_ok c33 (0, 0, 0, []) ([(0, 2, 0, ([([(v1.1, v1.2.1, v1.2.2)] : List (Bool × List Int × List Int))] : List (List (Bool × List Int × List Int))))] : List (Int × Int × Int × List (List (Bool × List Int × List Int))))) (o (report_Write.does h1) (o (str_f h2) f)))))) (by kernel_rfl)

theorem report_Fault.does {k : Nat} {a0_0 : Int} {a0_1 : Int} {a0_2 : Int} {a0_3 : Int} {r : ByteArray × Int} (h : report_Fault.f k a0_0 a0_1 a0_2 a0_3 = some r) :
    Does Tryd.prog 17 [.agg [.d (.int .i64 a0_0), .d (.int .i64 a0_1), .d (.int .i64 a0_2), .d (.int .i64 a0_3)]] [] (.tup [.c (.d (.str r.1)), .c (.d (.int .i64 r.2))]) none [] := by
  refine does_fn Tryd.func17 (by kernel_rfl) rfl rfl ?_
  unfold report_Fault.f at h
  by_cases h0 : a0_0 < 1
  · rw [if_pos h0] at h
    obtain rfl := Option.some.inj h
    exact Til.fin Tryd.func17 [(5, .b true)] (fun _ f => o (decide_eq_true h0) f) (by kernel_rfl)
  · rw [if_neg h0] at h
    by_cases h1 : a0_0 > 999
    · rw [if_pos h1] at h
      obtain rfl := Option.some.inj h
      exact Til.fin Tryd.func17 [(5, .b false), (9, .b true)] (fun _ f => o (decide_eq_false h0) (o (decide_eq_true h1) f)) (by kernel_rfl)
    · rw [if_neg h1] at h
      by_cases h2 : a0_1 < 0
      · rw [if_pos h2] at h
        obtain rfl := Option.some.inj h
        exact Til.fin Tryd.func17 [(5, .b false), (9, .b false), (14, .b true)] (fun _ f => o (decide_eq_false h0) (o (decide_eq_false h1) (o (decide_eq_true h2) f))) (by kernel_rfl)
      · rw [if_neg h2] at h
        by_cases h3 : a0_1 > 1048576
        · rw [if_pos h3] at h
          obtain rfl := Option.some.inj h
          exact Til.fin Tryd.func17 [(5, .b false), (9, .b false), (14, .b false), (19, .b true)] (fun _ f => o (decide_eq_false h0) (o (decide_eq_false h1) (o (decide_eq_false h2) (o (decide_eq_true h3) f)))) (by kernel_rfl)
        · rw [if_neg h3] at h
          by_cases h4 : a0_2 < 0
          · rw [if_pos h4] at h
            obtain rfl := Option.some.inj h
            exact Til.fin Tryd.func17 [(5, .b false), (9, .b false), (14, .b false), (19, .b false), (24, .b true)] (fun _ f => o (decide_eq_false h0) (o (decide_eq_false h1) (o (decide_eq_false h2) (o (decide_eq_false h3) (o (decide_eq_true h4) f))))) (by kernel_rfl)
          · rw [if_neg h4] at h
            by_cases h5 : a0_2 > 64
            · rw [if_pos h5] at h
              obtain rfl := Option.some.inj h
              exact Til.fin Tryd.func17 [(5, .b false), (9, .b false), (14, .b false), (19, .b false), (24, .b false), (29, .b true)] (fun _ f => o (decide_eq_false h0) (o (decide_eq_false h1) (o (decide_eq_false h2) (o (decide_eq_false h3) (o (decide_eq_false h4) (o (decide_eq_true h5) f)))))) (by kernel_rfl)
            · rw [if_neg h5] at h
              by_cases h6 : a0_3 < 0
              · rw [if_pos h6] at h
                obtain rfl := Option.some.inj h
                exact Til.fin Tryd.func17 [(5, .b false), (9, .b false), (14, .b false), (19, .b false), (24, .b false), (29, .b false), (34, .b true)] (fun _ f => o (decide_eq_false h0) (o (decide_eq_false h1) (o (decide_eq_false h2) (o (decide_eq_false h3) (o (decide_eq_false h4) (o (decide_eq_false h5) (o (decide_eq_true h6) f))))))) (by kernel_rfl)
              · rw [if_neg h6] at h
                by_cases h7 : a0_3 > 255
                · rw [if_pos h7] at h
                  obtain rfl := Option.some.inj h
                  exact Til.fin Tryd.func17 [(5, .b false), (9, .b false), (14, .b false), (19, .b false), (24, .b false), (29, .b false), (34, .b false), (39, .b true)] (fun _ f => o (decide_eq_false h0) (o (decide_eq_false h1) (o (decide_eq_false h2) (o (decide_eq_false h3) (o (decide_eq_false h4) (o (decide_eq_false h5) (o (decide_eq_false h6) (o (decide_eq_true h7) f)))))))) (by kernel_rfl)
                · rw [if_neg h7] at h
                  obtain ⟨v43, h8, h⟩ := bnd h
                  obtain ⟨h9, h⟩ := ifp h
                  obtain ⟨h10, h⟩ := ifp h
                  obtain ⟨v48, h11, h⟩ := bnd h
                  obtain ⟨h12, h⟩ := ifp h
                  obtain ⟨h13, h⟩ := ifp h
                  obtain ⟨v53, h14, h⟩ := bnd h
                  obtain ⟨h15, h⟩ := ifp h
                  obtain ⟨h16, h⟩ := ifp h
                  obtain ⟨v58, h17, h⟩ := bnd h
                  obtain ⟨h18, h⟩ := ifp h
                  obtain ⟨h19, h⟩ := ifp h
                  obtain rfl := Option.some.inj h
                  exact Til.fin Tryd.func17 [(5, .b false), (9, .b false), (14, .b false), (19, .b false), (24, .b false), (29, .b false), (34, .b false), (39, .b false), (43, ca (.c (.d (.str v43)))), (48, ca (.c (.d (.str v48)))), (53, ca (.c (.d (.str v53)))), (58, ca (.c (.d (.str v58))))] (fun _ f => o (decide_eq_false h0) (o (decide_eq_false h1) (o (decide_eq_false h2) (o (decide_eq_false h3) (o (decide_eq_false h4) (o (decide_eq_false h5) (o (decide_eq_false h6) (o (decide_eq_false h7) (o (report_digits.does h8) (o h9 (o h10 (o (report_digits.does h11) (o h12 (o h13 (o (report_digits.does h14) (o h15 (o h16 (o (report_digits.does h17) (o h18 (o h19 f)))))))))))))))))))) (by kernel_rfl)

theorem lex_blank.does {a0 : Int} {r : Bool} (h : lex_blank.f a0 = some r) :
    Does Tryd.prog 89 [.c (.d (.int .u8 a0))] [] (.c (.d (.bool r))) none [] := by
  refine does_fn Tryd.func89 (by kernel_rfl) rfl rfl ?_
  unfold lex_blank.f at h
  by_cases h0 : a0 = 32
  · rw [if_pos h0] at h
    obtain rfl := Option.some.inj h
    exact Til.fin Tryd.func89 [(2, .b true)] (fun _ f => o (beq_iff_eq.2 h0) f) (by kernel_rfl)
  · rw [if_neg h0] at h
    by_cases h1 : a0 = 9
    · rw [if_pos h1] at h
      obtain rfl := Option.some.inj h
      exact Til.fin Tryd.func89 [(2, .b false), (5, .b true)] (fun _ f => o (beq_false_of_ne h0) (o (beq_iff_eq.2 h1) f)) (by kernel_rfl)
    · rw [if_neg h1] at h
      obtain rfl := Option.some.inj h
      exact Til.fin Tryd.func89 [(2, .b false), (5, .b false)] (fun _ f => o (beq_false_of_ne h0) (o (beq_false_of_ne h1) f)) (by kernel_rfl)

theorem lex_plain.does {a0 : Int} {r : Bool} (h : lex_plain.f a0 = some r) :
    Does Tryd.prog 90 [.c (.d (.int .u8 a0))] [] (.c (.d (.bool r))) none [] := by
  refine does_fn Tryd.func90 (by kernel_rfl) rfl rfl ?_
  unfold lex_plain.f at h
  by_cases h0 : a0 > 32
  · rw [if_pos h0] at h
    obtain rfl := Option.some.inj h
    exact Til.fin Tryd.func90 [(2, .b true)] (fun _ f => o (decide_eq_true h0) f) (by kernel_rfl)
  · rw [if_neg h0] at h
    obtain rfl := Option.some.inj h
    exact Til.fin Tryd.func90 [(2, .b false)] (fun _ f => o (decide_eq_false h0) f) (by kernel_rfl)

def c136 (x : Int × Int × ByteArray) : List Dat := [.int .i64 x.1, .int .i64 x.2.1, .str x.2.2]
def L136 (xs : List (Int × Int × ByteArray)) : Dat := fr 3 c136 (0, 0, ByteArray.empty) xs
def Z136 (xs : List (Int × Int × ByteArray)) : Sup := .r xs.length (enc c136 (0, 0, ByteArray.empty) xs)
def O136 (k : RK) (xs : List (Int × Int × ByteArray)) : Ob := .row k 136 3 xs.length (enc c136 (0, 0, ByteArray.empty) xs)

def lex_Words.l0E (x0 : ByteArray) (x5 : List (Int × Int × ByteArray)) (x6 : Int) : Env := [(0, .c (.d (.str x0))), (5, .c (.own 5)), (6, .c (.d (.int .i64 x6)))]
def lex_Words.l0B (x0 : ByteArray) (x5 : List (Int × Int × ByteArray)) (x6 : Int) : Obs := [(5, some (O136 .own x5))]
def lex_Words.l1E (x0 : ByteArray) (x5 : List (Int × Int × ByteArray)) (x6 : Int) (x8 : Int) : Env := [(0, .c (.d (.str x0))), (5, .c (.own 5)), (6, .c (.d (.int .i64 x6))), (8, .c (.d (.int .i64 x8)))]
def lex_Words.l1B (x0 : ByteArray) (x5 : List (Int × Int × ByteArray)) (x6 : Int) (x8 : Int) : Obs := [(5, some (O136 .own x5))]
theorem lex_Words.w (k : Nat) : (∀  (x0 : ByteArray) (x5 : List (Int × Int × ByteArray)) (x6 : Int) (r : List (Int × Int × ByteArray) × Int × Int), lex_Words.l0 k x0 x5 x6 = some r → Til Tryd.prog 83 [] (.tup [.c (.own newName), .c (.d (.int .i64 r.2.1)), .c (.d (.int .i64 r.2.2))]) (some (O136 .own r.1)) [] (at_ Tryd.f83 3) (lex_Words.l0E x0 x5 x6) (lex_Words.l0B x0 x5 x6)) ∧
    (∀  (x0 : ByteArray) (x5 : List (Int × Int × ByteArray)) (x6 : Int) (x8 : Int) (r : List (Int × Int × ByteArray) × Int × Int), lex_Words.l1 k x0 x5 x6 x8 = some r → Til Tryd.prog 83 [] (.tup [.c (.own newName), .c (.d (.int .i64 r.2.1)), .c (.d (.int .i64 r.2.2))]) (some (O136 .own r.1)) [] (at_ Tryd.f83 13) (lex_Words.l1E x0 x5 x6 x8) (lex_Words.l1B x0 x5 x6 x8)) := by
  induction k with
  | zero =>
    exact ⟨fun _ _ _ _ h => (by cases h), fun _ _ _ _ _ h => (by cases h)⟩
  | succ k ih =>
    refine ⟨?_, ?_⟩
    · intro x0 x5 x6 r h
      rw [lex_Words.l0] at h
      by_cases h0 : x6 < (x0.size : Int)
      · rw [if_pos h0] at h
        obtain ⟨h1, h⟩ := ifp h
        obtain ⟨v9, h2, h⟩ := bnd h
        cases v9
        · rw [if_neg (by decide)] at h
          by_cases h4 : (bt x0 x6) = 35
          · rw [if_pos h4] at h
            obtain rfl := Option.some.inj h
            exact Til.fin Tryd.func83 [(3, .b true), (9, ca (.c (.d (.bool false)))), (12, .b true)] (fun _ f => o (decide_eq_true h0) (o (o h1 h0) (o (lex_blank.does h2) (o (beq_iff_eq.2 h4) f)))) (by kernel_rfl)
          · rw [if_neg h4] at h
            obtain ⟨v15, h5, h⟩ := bnd h
            cases v15
            · rw [if_neg (by decide)] at h
              obtain rfl := Option.some.inj h
              exact Til.fin Tryd.func83 [(3, .b true), (9, ca (.c (.d (.bool false)))), (12, .b false), (15, ca (.c (.d (.bool false))))] (fun _ f => o (decide_eq_true h0) (o (o h1 h0) (o (lex_blank.does h2) (o (beq_false_of_ne h4) (o (lex_plain.does h5) f))))) (by kernel_rfl)
            · rw [if_pos rfl] at h
              by_cases h7 : (x5.length : Int) ≥ 4096
              · rw [if_pos h7] at h
                obtain rfl := Option.some.inj h
                exact Til.fin Tryd.func83 [(3, .b true), (9, ca (.c (.d (.bool false)))), (12, .b false), (15, ca (.c (.d (.bool true)))), (20, .b true)] (fun _ f => o (decide_eq_true h0) (o (o h1 h0) (o (lex_blank.does h2) (o (beq_false_of_ne h4) (o (lex_plain.does h5) (o (decide_eq_true h7) f)))))) (by kernel_rfl)
              · rw [if_neg h7] at h
                exact Til.mid Tryd.func83 13 [(3, .b true), (9, ca (.c (.d (.bool false)))), (12, .b false), (15, ca (.c (.d (.bool true)))), (20, .b false)] (fun _ f => o (decide_eq_true h0) (o (o h1 h0) (o (lex_blank.does h2) (o (beq_false_of_ne h4) (o (lex_plain.does h5) (o (decide_eq_false h7) f)))))) (by kernel_rfl) (ih.2 _ _ _ _ _ h)
        · rw [if_pos rfl] at h
          exact Til.mid Tryd.func83 3 [(3, .b true), (9, ca (.c (.d (.bool true))))] (fun _ f => o (decide_eq_true h0) (o (o h1 h0) (o (lex_blank.does h2) f))) (by kernel_rfl) (ih.1 _ _ _ _ h)
      · rw [if_neg h0] at h
        obtain rfl := Option.some.inj h
        exact Til.fin Tryd.func83 [(3, .b false)] (fun _ f => o (decide_eq_false h0) f) (by kernel_rfl)
    · intro x0 x5 x6 x8 r h
      rw [lex_Words.l1] at h
      by_cases h0 : x8 < (x0.size : Int)
      · rw [if_pos h0] at h
        obtain ⟨h1, h⟩ := ifp h
        obtain ⟨v8, h2, h⟩ := bnd h
        cases v8
        · rw [if_neg (by decide)] at h
          obtain ⟨h4, h⟩ := ifp h
          obtain ⟨h5, h⟩ := ifp h
          obtain ⟨h6, h⟩ := ifp h
          obtain ⟨h7, h⟩ := ifp h
          exact Til.mid Tryd.func83 3 [(3, .b true), (8, ca (.c (.d (.bool false)))), (23, Z136 ([(x6, 0, (x0.extract ((x6 : Int).toNat) ((x8 : Int).toNat)))] : List (Int × Int × ByteArray))), (24, Z136 (x5 ++ [(x6, 0, (x0.extract ((x6 : Int).toNat) ((x8 : Int).toNat)))]))] (fun _ f => o (decide_eq_true h0) (o (o h1 h0) (o (lex_plain.does h2) (o (o h4 (o h5 h6)) (o (lit_ok c136 (0, 0, ByteArray.empty) ([(x6, 0, (x0.extract ((x6 : Int).toNat) ((x8 : Int).toNat)))] : List (Int × Int × ByteArray))) (o (app1 c136 (0, 0, ByteArray.empty) x5 (x6, 0, (x0.extract ((x6 : Int).toNat) ((x8 : Int).toNat))) 32 4398046511104 (by decide) h7) f)))))) (by kernel_rfl) (ih.1 _ _ _ _ h)
        · rw [if_pos rfl] at h
          by_cases h4 : (bt x0 x8) ≠ 35
          · rw [if_pos h4] at h
            exact Til.mid Tryd.func83 13 [(3, .b true), (8, ca (.c (.d (.bool true)))), (14, .b true)] (fun _ f => o (decide_eq_true h0) (o (o h1 h0) (o (lex_plain.does h2) (o (o h1 h0) (o (bne_iff_ne.2 h4) f))))) (by kernel_rfl) (ih.2 _ _ _ _ _ h)
          · rw [if_neg h4] at h
            obtain ⟨h5, h⟩ := ifp h
            obtain ⟨h6, h⟩ := ifp h
            obtain ⟨h7, h⟩ := ifp h
            obtain ⟨h8, h⟩ := ifp h
            exact Til.mid Tryd.func83 3 [(3, .b true), (8, ca (.c (.d (.bool true)))), (14, .b false), (23, Z136 ([(x6, 0, (x0.extract ((x6 : Int).toNat) ((x8 : Int).toNat)))] : List (Int × Int × ByteArray))), (24, Z136 (x5 ++ [(x6, 0, (x0.extract ((x6 : Int).toNat) ((x8 : Int).toNat)))]))] (fun _ f => o (decide_eq_true h0) (o (o h1 h0) (o (lex_plain.does h2) (o (o h1 h0) (o (ne_f h4) (o (o h5 (o h6 h7)) (o (lit_ok c136 (0, 0, ByteArray.empty) ([(x6, 0, (x0.extract ((x6 : Int).toNat) ((x8 : Int).toNat)))] : List (Int × Int × ByteArray))) (o (app1 c136 (0, 0, ByteArray.empty) x5 (x6, 0, (x0.extract ((x6 : Int).toNat) ((x8 : Int).toNat))) 32 4398046511104 (by decide) h8) f)))))))) (by kernel_rfl) (ih.1 _ _ _ _ h)
      · rw [if_neg h0] at h
        obtain ⟨h1, h⟩ := ifp h
        obtain ⟨h2, h⟩ := ifp h
        obtain ⟨h3, h⟩ := ifp h
        obtain ⟨h4, h⟩ := ifp h
        exact Til.mid Tryd.func83 3 [(3, .b false), (23, Z136 ([(x6, 0, (x0.extract ((x6 : Int).toNat) ((x8 : Int).toNat)))] : List (Int × Int × ByteArray))), (24, Z136 (x5 ++ [(x6, 0, (x0.extract ((x6 : Int).toNat) ((x8 : Int).toNat)))]))] (fun _ f => o (decide_eq_false h0) (o (o h1 (o h2 h3)) (o (lit_ok c136 (0, 0, ByteArray.empty) ([(x6, 0, (x0.extract ((x6 : Int).toNat) ((x8 : Int).toNat)))] : List (Int × Int × ByteArray))) (o (app1 c136 (0, 0, ByteArray.empty) x5 (x6, 0, (x0.extract ((x6 : Int).toNat) ((x8 : Int).toNat))) 32 4398046511104 (by decide) h4) f)))) (by kernel_rfl) (ih.1 _ _ _ _ h)
theorem lex_Words.does {k : Nat} {a0 : ByteArray} {r : List (Int × Int × ByteArray) × Int × Int} (h : lex_Words.f k a0 = some r) :
    Does Tryd.prog 83 [.c (.d (.str a0))] [] (.tup [.c (.own newName), .c (.d (.int .i64 r.2.1)), .c (.d (.int .i64 r.2.2))]) (some (O136 .own r.1)) [] := by
  refine does_fn Tryd.func83 (by kernel_rfl) rfl rfl ?_
  unfold lex_Words.f at h
  have ih := lex_Words.w k
  exact Til.mid Tryd.func83 3 [] (fun _ f => f) (by kernel_rfl) (ih.1 _ _ _ _ h)

def c132 (x : List (Int × Int × ByteArray)) : List Dat := [L136 x]
def L132 (xs : List (List (Int × Int × ByteArray))) : Dat := fr 1 c132 [] xs
def Z132 (xs : List (List (Int × Int × ByteArray))) : Sup := .r xs.length (enc c132 [] xs)
def O132 (k : RK) (xs : List (List (Int × Int × ByteArray))) : Ob := .row k 132 1 xs.length (enc c132 [] xs)

def lex_Lines.l0E (x0 : ByteArray) (x5 : List (List (Int × Int × ByteArray))) (x6 : Int) (x7 : Int) : Env := [(0, .c (.d (.str x0))), (5, .c (.own 5)), (6, .c (.d (.int .i64 x6))), (7, .c (.d (.int .i64 x7)))]
def lex_Lines.l0B (x0 : ByteArray) (x5 : List (List (Int × Int × ByteArray))) (x6 : Int) (x7 : Int) : Obs := [(5, some (O132 .own x5))]
def lex_Lines.l1E (x0 : ByteArray) (x5 : List (List (Int × Int × ByteArray))) (x6 : Int) (x7 : Int) (x8 : Int) : Env := [(0, .c (.d (.str x0))), (5, .c (.own 5)), (6, .c (.d (.int .i64 x6))), (7, .c (.d (.int .i64 x7))), (8, .c (.d (.int .i64 x8)))]
def lex_Lines.l1B (x0 : ByteArray) (x5 : List (List (Int × Int × ByteArray))) (x6 : Int) (x7 : Int) (x8 : Int) : Obs := [(5, some (O132 .own x5))]
def lex_Lines.l2E (x0 : ByteArray) (x5 : List (List (Int × Int × ByteArray))) (x6 : Int) (x7 : Int) (x8 : Int) (x9 : List (Int × Int × ByteArray)) (x54 : Int) (x55 : Int) : Env := [(0, .c (.d (.str x0))), (5, .c (.own 5)), (6, .c (.d (.int .i64 x6))), (7, .c (.d (.int .i64 x7))), (8, .c (.d (.int .i64 x8))), (9, .c (.own 9)), (54, .c (.d (.int .i64 x54))), (55, .c (.d (.int .i64 x55)))]
def lex_Lines.l2B (x0 : ByteArray) (x5 : List (List (Int × Int × ByteArray))) (x6 : Int) (x7 : Int) (x8 : Int) (x9 : List (Int × Int × ByteArray)) (x54 : Int) (x55 : Int) : Obs := [(5, some (O132 .own x5)), (9, some (O136 .own x9))]
theorem lex_Lines.w (k : Nat) : (∀  (x0 : ByteArray) (x5 : List (List (Int × Int × ByteArray))) (x6 : Int) (x7 : Int) (r : List (List (Int × Int × ByteArray)) × Int × Int), lex_Lines.l0 k x0 x5 x6 x7 = some r → Til Tryd.prog 54 [] (.tup [.c (.d (L132 r.1)), .c (.d (.int .i64 r.2.1)), .c (.d (.int .i64 r.2.2))]) none [] (at_ Tryd.f54 6) (lex_Lines.l0E x0 x5 x6 x7) (lex_Lines.l0B x0 x5 x6 x7)) ∧
    (∀  (x0 : ByteArray) (x5 : List (List (Int × Int × ByteArray))) (x6 : Int) (x7 : Int) (x8 : Int) (r : List (List (Int × Int × ByteArray)) × Int × Int), lex_Lines.l1 k x0 x5 x6 x7 x8 = some r → Til Tryd.prog 54 [] (.tup [.c (.d (L132 r.1)), .c (.d (.int .i64 r.2.1)), .c (.d (.int .i64 r.2.2))]) none [] (at_ Tryd.f54 11) (lex_Lines.l1E x0 x5 x6 x7 x8) (lex_Lines.l1B x0 x5 x6 x7 x8)) ∧
    (∀  (x0 : ByteArray) (x5 : List (List (Int × Int × ByteArray))) (x6 : Int) (x7 : Int) (x8 : Int) (x9 : List (Int × Int × ByteArray)) (x54 : Int) (x55 : Int) (r : List (List (Int × Int × ByteArray)) × Int × Int), lex_Lines.l2 k x0 x5 x6 x7 x8 x9 x54 x55 = some r → Til Tryd.prog 54 [] (.tup [.c (.d (L132 r.1)), .c (.d (.int .i64 r.2.1)), .c (.d (.int .i64 r.2.2))]) none [] (at_ Tryd.f54 17) (lex_Lines.l2E x0 x5 x6 x7 x8 x9 x54 x55) (lex_Lines.l2B x0 x5 x6 x7 x8 x9 x54 x55)) := by
  induction k with
  | zero =>
    exact ⟨fun _ _ _ _ _ h => (by cases h), fun _ _ _ _ _ _ h => (by cases h), fun _ _ _ _ _ _ _ _ _ h => (by cases h)⟩
  | succ k ih =>
    refine ⟨?_, ?_, ?_⟩
    · intro x0 x5 x6 x7 r h
      rw [lex_Lines.l0] at h
      by_cases h0 : x7 ≤ (x0.size : Int)
      · rw [if_pos h0] at h
        by_cases h1 : x6 ≥ 16384
        · rw [if_pos h1] at h
          obtain rfl := Option.some.inj h
          exact Til.fin Tryd.func54 [(3, .b true), (5, .b true)] (fun _ f => o (decide_eq_true h0) (o (decide_eq_true h1) f)) (by kernel_rfl)
        · rw [if_neg h1] at h
          exact Til.mid Tryd.func54 11 [(3, .b true), (5, .b false)] (fun _ f => o (decide_eq_true h0) (o (decide_eq_false h1) f)) (by kernel_rfl) (ih.2.1 _ _ _ _ _ _ h)
      · rw [if_neg h0] at h
        obtain rfl := Option.some.inj h
        exact Til.fin Tryd.func54 [(3, .b false)] (fun _ f => o (decide_eq_false h0) f) (by kernel_rfl)
    · intro x0 x5 x6 x7 x8 r h
      rw [lex_Lines.l1] at h
      by_cases h0 : x8 < (x0.size : Int)
      · rw [if_pos h0] at h
        obtain ⟨h1, h⟩ := ifp h
        by_cases h2 : (bt x0 x8) ≠ 10
        · rw [if_pos h2] at h
          exact Til.mid Tryd.func54 11 [(3, .b true), (8, .b true)] (fun _ f => o (decide_eq_true h0) (o (o h1 h0) (o (bne_iff_ne.2 h2) f))) (by kernel_rfl) (ih.2.1 _ _ _ _ _ _ h)
        · rw [if_neg h2] at h
          obtain ⟨h3, h⟩ := ifp h
          obtain ⟨h4, h⟩ := ifp h
          obtain ⟨h5, h⟩ := ifp h
          obtain ⟨v14, h6, h⟩ := bnd h
          by_cases h7 : v14.2.2 ≠ 0
          · rw [if_pos h7] at h
            obtain rfl := Option.some.inj h
            exact Til.fin Tryd.func54 [(3, .b true), (8, .b false), (14, .call [] [] (.tup [.c (.own 43), .c (.d (.int .i64 v14.2.1)), .c (.d (.int .i64 v14.2.2))]) (some (O136 .own v14.1)) [] []), (23, .b true)] (fun _ f => o (decide_eq_true h0) (o (o h1 h0) (o (ne_f h2) (o (o h3 (o h4 h5)) (o (lex_Words.does h6) (o (bne_iff_ne.2 h7) f)))))) (by kernel_rfl)
          · rw [if_neg h7] at h
            exact Til.mid Tryd.func54 17 [(3, .b true), (8, .b false), (14, .call [] [] (.tup [.c (.own 43), .c (.d (.int .i64 v14.2.1)), .c (.d (.int .i64 v14.2.2))]) (some (O136 .own v14.1)) [] []), (23, .b false)] (fun _ f => o (decide_eq_true h0) (o (o h1 h0) (o (ne_f h2) (o (o h3 (o h4 h5)) (o (lex_Words.does h6) (o (ne_f h7) f)))))) (by kernel_rfl) (ih.2.2 _ _ _ _ _ _ _ _ _ h)
      · rw [if_neg h0] at h
        obtain ⟨h1, h⟩ := ifp h
        obtain ⟨h2, h⟩ := ifp h
        obtain ⟨h3, h⟩ := ifp h
        obtain ⟨v14, h4, h⟩ := bnd h
        by_cases h5 : v14.2.2 ≠ 0
        · rw [if_pos h5] at h
          obtain rfl := Option.some.inj h
          exact Til.fin Tryd.func54 [(3, .b false), (14, .call [] [] (.tup [.c (.own 43), .c (.d (.int .i64 v14.2.1)), .c (.d (.int .i64 v14.2.2))]) (some (O136 .own v14.1)) [] []), (23, .b true)] (fun _ f => o (decide_eq_false h0) (o (o h1 (o h2 h3)) (o (lex_Words.does h4) (o (bne_iff_ne.2 h5) f)))) (by kernel_rfl)
        · rw [if_neg h5] at h
          exact Til.mid Tryd.func54 17 [(3, .b false), (14, .call [] [] (.tup [.c (.own 43), .c (.d (.int .i64 v14.2.1)), .c (.d (.int .i64 v14.2.2))]) (some (O136 .own v14.1)) [] []), (23, .b false)] (fun _ f => o (decide_eq_false h0) (o (o h1 (o h2 h3)) (o (lex_Words.does h4) (o (ne_f h5) f)))) (by kernel_rfl) (ih.2.2 _ _ _ _ _ _ _ _ _ h)
    · intro x0 x5 x6 x7 x8 x9 x54 x55 r h
      rw [lex_Lines.l2] at h
      by_cases h0 : x55 < x54
      · rw [if_pos h0] at h
        obtain ⟨h1, h⟩ := ifp h
        obtain ⟨h2, h⟩ := ifp h
        obtain ⟨h3, h⟩ := ifp h
        exact Til.mid Tryd.func54 17 [(0, .b true), (17, Z136 (x9.set ((x55 : Int).toNat) ((wrap64 ((x9.getD ((x55 : Int).toNat) (0, 0, ByteArray.empty)).1 + x7)), (x9.getD ((x55 : Int).toNat) (0, 0, ByteArray.empty)).2.1, (x9.getD ((x55 : Int).toNat) (0, 0, ByteArray.empty)).2.2))), (20, Z136 ((x9.set ((x55 : Int).toNat) ((wrap64 ((x9.getD ((x55 : Int).toNat) (0, 0, ByteArray.empty)).1 + x7)), (x9.getD ((x55 : Int).toNat) (0, 0, ByteArray.empty)).2.1, (x9.getD ((x55 : Int).toNat) (0, 0, ByteArray.empty)).2.2)).set ((x55 : Int).toNat) (((x9.set ((x55 : Int).toNat) ((wrap64 ((x9.getD ((x55 : Int).toNat) (0, 0, ByteArray.empty)).1 + x7)), (x9.getD ((x55 : Int).toNat) (0, 0, ByteArray.empty)).2.1, (x9.getD ((x55 : Int).toNat) (0, 0, ByteArray.empty)).2.2)).getD ((x55 : Int).toNat) (0, 0, ByteArray.empty)).1, x6, ((x9.set ((x55 : Int).toNat) ((wrap64 ((x9.getD ((x55 : Int).toNat) (0, 0, ByteArray.empty)).1 + x7)), (x9.getD ((x55 : Int).toNat) (0, 0, ByteArray.empty)).2.1, (x9.getD ((x55 : Int).toNat) (0, 0, ByteArray.empty)).2.2)).getD ((x55 : Int).toNat) (0, 0, ByteArray.empty)).2.2)))] (fun _ f => o (decide_eq_true h0) (o (o h1 h2) (o (o h1 h2) (o (set_okp c136 (0, 0, ByteArray.empty) x9 ((x55 : Int).toNat) ((wrap64 ((x9.getD ((x55 : Int).toNat) (0, 0, ByteArray.empty)).1 + x7)), (x9.getD ((x55 : Int).toNat) (0, 0, ByteArray.empty)).2.1, (x9.getD ((x55 : Int).toNat) (0, 0, ByteArray.empty)).2.2) 0 [.int .i64 (wrap64 ((x9.getD ((x55 : Int).toNat) (0, 0, ByteArray.empty)).1 + x7))] (lt_ok h1 h2) rfl) (o (o h1 h3) (o (set_okp c136 (0, 0, ByteArray.empty) (x9.set ((x55 : Int).toNat) ((wrap64 ((x9.getD ((x55 : Int).toNat) (0, 0, ByteArray.empty)).1 + x7)), (x9.getD ((x55 : Int).toNat) (0, 0, ByteArray.empty)).2.1, (x9.getD ((x55 : Int).toNat) (0, 0, ByteArray.empty)).2.2)) ((x55 : Int).toNat) (((x9.set ((x55 : Int).toNat) ((wrap64 ((x9.getD ((x55 : Int).toNat) (0, 0, ByteArray.empty)).1 + x7)), (x9.getD ((x55 : Int).toNat) (0, 0, ByteArray.empty)).2.1, (x9.getD ((x55 : Int).toNat) (0, 0, ByteArray.empty)).2.2)).getD ((x55 : Int).toNat) (0, 0, ByteArray.empty)).1, x6, ((x9.set ((x55 : Int).toNat) ((wrap64 ((x9.getD ((x55 : Int).toNat) (0, 0, ByteArray.empty)).1 + x7)), (x9.getD ((x55 : Int).toNat) (0, 0, ByteArray.empty)).2.1, (x9.getD ((x55 : Int).toNat) (0, 0, ByteArray.empty)).2.2)).getD ((x55 : Int).toNat) (0, 0, ByteArray.empty)).2.2) 1 [.int .i64 x6] (lt_ok h1 h3) rfl) f)))))) (by kernel_rfl) (ih.2.2 _ _ _ _ _ _ _ _ _ h)
      · rw [if_neg h0] at h
        by_cases h1 : (x9.length : Int) > 0
        · rw [if_pos h1] at h
          obtain ⟨h2, h⟩ := ifp h
          exact Til.mid Tryd.func54 6 [(0, .b false), (3, .b true), (6, Z132 ([x9] : List (List (Int × Int × ByteArray)))), (7, Z132 (x5 ++ [x9]))] (fun _ f => o (decide_eq_false h0) (o (decide_eq_true h1) (o (lit_ok c132 [] ([x9] : List (List (Int × Int × ByteArray)))) (o (app1 c132 [] x5 x9 24 5864062014805 (by decide) h2) f)))) (by kernel_rfl) (ih.1 _ _ _ _ _ h)
        · rw [if_neg h1] at h
          exact Til.mid Tryd.func54 6 [(0, .b false), (3, .b false)] (fun _ f => o (decide_eq_false h0) (o (decide_eq_false h1) f)) (by kernel_rfl) (ih.1 _ _ _ _ _ h)
theorem lex_Lines.does {k : Nat} {a0 : ByteArray} {r : List (List (Int × Int × ByteArray)) × Int × Int} (h : lex_Lines.f k a0 = some r) :
    Does Tryd.prog 54 [.c (.d (.str a0))] [] (.tup [.c (.d (L132 r.1)), .c (.d (.int .i64 r.2.1)), .c (.d (.int .i64 r.2.2))]) none [] := by
  refine does_fn Tryd.func54 (by kernel_rfl) rfl rfl ?_
  unfold lex_Lines.f at h
  have ih := lex_Lines.w k
  by_cases h0 : (a0.size : Int) > 1048576
  · rw [if_pos h0] at h
    obtain rfl := Option.some.inj h
    exact Til.fin Tryd.func54 [(5, .b true)] (fun _ f => o (decide_eq_true h0) f) (by kernel_rfl)
  · rw [if_neg h0] at h
    exact Til.mid Tryd.func54 6 [(5, .b false)] (fun _ f => o (decide_eq_false h0) f) (by kernel_rfl) (ih.1 _ _ _ _ _ h)

theorem lex_Read.does {k : Nat} {a0 : ByteArray} {r : List (List (Int × Int × ByteArray)) × Int × Int × Int × Int × Int} (h : lex_Read.f k a0 = some r) :
    Does Tryd.prog 30 [.c (.d (.str a0))] [] (.c (.ptr newName 0)) (some (.box [.d (L132 r.1), .d (.int .i64 r.2.1), .d (.int .i64 r.2.2.1), .d (.int .i64 r.2.2.2.1), .d (.int .i64 r.2.2.2.2.1), .d (.int .i64 r.2.2.2.2.2)])) [] := by
  refine does_fn Tryd.func30 (by kernel_rfl) rfl rfl ?_
  unfold lex_Read.f at h
  obtain ⟨v2, h0, h⟩ := bnd h
  obtain rfl := Option.some.inj h
  exact Til.fin Tryd.func30 [(2, ca (.tup [.c (.d (L132 v2.1)), .c (.d (.int .i64 v2.2.1)), .c (.d (.int .i64 v2.2.2))]))] (fun _ f => o (lex_Lines.does h0) f) (by kernel_rfl)

theorem lex_Reader_off.does {l0_0 : List (List (Int × Int × ByteArray))} {a0_1 : Int} {a0_2 : Int} {a0_3 : Int} {a0_4 : Int} {a0_5 : Int} {r : Bool × List (List (Int × Int × ByteArray)) × Int × Int × Int × Int × Int} (h : lex_Reader_off.f l0_0 a0_1 a0_2 a0_3 a0_4 a0_5 = some r) :
    Does Tryd.prog 57 [.c (.ptr 0 0)] [(0, some (.box [.d (L132 l0_0), .d (.int .i64 a0_1), .d (.int .i64 a0_2), .d (.int .i64 a0_3), .d (.int .i64 a0_4), .d (.int .i64 a0_5)]))] (.c (.d (.bool r.1))) none [(0, some (.box [.d (L132 r.2.1), .d (.int .i64 r.2.2.1), .d (.int .i64 r.2.2.2.1), .d (.int .i64 r.2.2.2.2.1), .d (.int .i64 r.2.2.2.2.2.1), .d (.int .i64 r.2.2.2.2.2.2)]))] := by
  refine does_fn Tryd.func57 (by kernel_rfl) rfl rfl ?_
  unfold lex_Reader_off.f at h
  obtain rfl := Option.some.inj h
  exact Til.fin Tryd.func57 [] (fun _ f => f) (by kernel_rfl)

theorem lex_Reader_here.does {l0_0 : List (List (Int × Int × ByteArray))} {a0_1 : Int} {a0_2 : Int} {a0_3 : Int} {a0_4 : Int} {a0_5 : Int} {r : Int × List (List (Int × Int × ByteArray)) × Int × Int × Int × Int × Int} (h : lex_Reader_here.f l0_0 a0_1 a0_2 a0_3 a0_4 a0_5 = some r) :
    Does Tryd.prog 61 [.c (.ptr 0 0)] [(0, some (.box [.d (L132 l0_0), .d (.int .i64 a0_1), .d (.int .i64 a0_2), .d (.int .i64 a0_3), .d (.int .i64 a0_4), .d (.int .i64 a0_5)]))] (.c (.d (.int .i64 r.1))) none [(0, some (.box [.d (L132 r.2.1), .d (.int .i64 r.2.2.1), .d (.int .i64 r.2.2.2.1), .d (.int .i64 r.2.2.2.2.1), .d (.int .i64 r.2.2.2.2.2.1), .d (.int .i64 r.2.2.2.2.2.2)]))] := by
  refine does_fn Tryd.func61 (by kernel_rfl) rfl rfl ?_
  unfold lex_Reader_here.f at h
  by_cases h0 : a0_1 ≥ (l0_0.length : Int)
  · rw [if_pos h0] at h
    obtain rfl := Option.some.inj h
    exact Til.fin Tryd.func61 [(10, .b true)] (fun _ f => o (decide_eq_true h0) f) (by kernel_rfl)
  · rw [if_neg h0] at h
    obtain ⟨h1, h⟩ := ifp h
    obtain ⟨h2, h⟩ := ifp h
    by_cases h3 : a0_2 < ((gt [] l0_0 a0_1).length : Int)
    · rw [if_pos h3] at h
      obtain ⟨h4, h⟩ := ifp h
      obtain rfl := Option.some.inj h
      exact Til.fin Tryd.func61 [(10, .b false), (28, .b true)] (fun _ f => o (decide_eq_false h0) (o (o h1 h2) (o (decide_eq_true h3) (o (o h4 h3) f)))) (by kernel_rfl)
    · rw [if_neg h3] at h
      obtain ⟨h4, h⟩ := ifp h
      obtain ⟨h5, h⟩ := ifp h
      obtain rfl := Option.some.inj h
      exact Til.fin Tryd.func61 [(10, .b false), (28, .b false)] (fun _ f => o (decide_eq_false h0) (o (o h1 h2) (o (decide_eq_false h3) (o (o h4 h5) f)))) (by kernel_rfl)

theorem lex_Reader_place.does {l0_0 : List (List (Int × Int × ByteArray))} {a0_1 : Int} {a0_2 : Int} {a0_3 : Int} {a0_4 : Int} {a0_5 : Int} {r : Int × List (List (Int × Int × ByteArray)) × Int × Int × Int × Int × Int} (h : lex_Reader_place.f l0_0 a0_1 a0_2 a0_3 a0_4 a0_5 = some r) :
    Does Tryd.prog 55 [.c (.ptr 0 0)] [(0, some (.box [.d (L132 l0_0), .d (.int .i64 a0_1), .d (.int .i64 a0_2), .d (.int .i64 a0_3), .d (.int .i64 a0_4), .d (.int .i64 a0_5)]))] (.c (.d (.int .i64 r.1))) none [(0, some (.box [.d (L132 r.2.1), .d (.int .i64 r.2.2.1), .d (.int .i64 r.2.2.2.1), .d (.int .i64 r.2.2.2.2.1), .d (.int .i64 r.2.2.2.2.2.1), .d (.int .i64 r.2.2.2.2.2.2)]))] := by
  refine does_fn Tryd.func55 (by kernel_rfl) rfl rfl ?_
  unfold lex_Reader_place.f at h
  obtain ⟨⟨v2_0, ⟨v2_1, ⟨v2_2, ⟨v2_3, ⟨v2_4, ⟨v2_5, v2_6⟩⟩⟩⟩⟩⟩, h0, h⟩ := bnd h
  dsimp only at h
  cases v2_0
  · rw [if_neg (by decide)] at h
    obtain ⟨v4, h2, h⟩ := bnd h
    obtain rfl := Option.some.inj h
    exact Til.fin Tryd.func55 [(2, .call [] [0] (.c (.d (.bool false))) none [(0, some (.box [.d (L132 v2_1), .d (.int .i64 v2_2), .d (.int .i64 v2_3), .d (.int .i64 v2_4), .d (.int .i64 v2_5), .d (.int .i64 v2_6)]))] []), (4, .call [] [0] (.c (.d (.int .i64 v4.1))) none [(0, some (.box [.d (L132 v4.2.1), .d (.int .i64 v4.2.2.1), .d (.int .i64 v4.2.2.2.1), .d (.int .i64 v4.2.2.2.2.1), .d (.int .i64 v4.2.2.2.2.2.1), .d (.int .i64 v4.2.2.2.2.2.2)]))] [])] (fun _ f => o (lex_Reader_off.does h0) (o (lex_Reader_here.does h2) f)) (by kernel_rfl)
  · rw [if_pos rfl] at h
    obtain rfl := Option.some.inj h
    exact Til.fin Tryd.func55 [(2, .call [] [0] (.c (.d (.bool true))) none [(0, some (.box [.d (L132 v2_1), .d (.int .i64 v2_2), .d (.int .i64 v2_3), .d (.int .i64 v2_4), .d (.int .i64 v2_5), .d (.int .i64 v2_6)]))] [])] (fun _ f => o (lex_Reader_off.does h0) f) (by kernel_rfl)

theorem lex_Reader_fail.does {l0_0 : List (List (Int × Int × ByteArray))} {a0_1 : Int} {a0_2 : Int} {a0_3 : Int} {a0_4 : Int} {a0_5 : Int} {a1 : Int} {a2 : Int} {r : List (List (Int × Int × ByteArray)) × Int × Int × Int × Int × Int} (h : lex_Reader_fail.f l0_0 a0_1 a0_2 a0_3 a0_4 a0_5 a1 a2 = some r) :
    Does Tryd.prog 58 [.c (.ptr 0 0), .c (.d (.int .i64 a1)), .c (.d (.int .i64 a2))] [(0, some (.box [.d (L132 l0_0), .d (.int .i64 a0_1), .d (.int .i64 a0_2), .d (.int .i64 a0_3), .d (.int .i64 a0_4), .d (.int .i64 a0_5)]))] (.tup []) none [(0, some (.box [.d (L132 r.1), .d (.int .i64 r.2.1), .d (.int .i64 r.2.2.1), .d (.int .i64 r.2.2.2.1), .d (.int .i64 r.2.2.2.2.1), .d (.int .i64 r.2.2.2.2.2)]))] := by
  refine does_fn Tryd.func58 (by kernel_rfl) rfl rfl ?_
  unfold lex_Reader_fail.f at h
  obtain ⟨⟨v1_0, ⟨v1_1, ⟨v1_2, ⟨v1_3, ⟨v1_4, ⟨v1_5, v1_6⟩⟩⟩⟩⟩⟩, h0, h⟩ := bnd h
  dsimp only at h
  cases v1_0
  · rw [if_neg (by decide)] at h
    obtain rfl := Option.some.inj h
    exact Til.fin Tryd.func58 [(1, .call [] [0] (.c (.d (.bool false))) none [(0, some (.box [.d (L132 v1_1), .d (.int .i64 v1_2), .d (.int .i64 v1_3), .d (.int .i64 v1_4), .d (.int .i64 v1_5), .d (.int .i64 v1_6)]))] [])] (fun _ f => o (lex_Reader_off.does h0) f) (by kernel_rfl)
  · rw [if_pos rfl] at h
    obtain rfl := Option.some.inj h
    exact Til.fin Tryd.func58 [(1, .call [] [0] (.c (.d (.bool true))) none [(0, some (.box [.d (L132 v1_1), .d (.int .i64 v1_2), .d (.int .i64 v1_3), .d (.int .i64 v1_4), .d (.int .i64 v1_5), .d (.int .i64 v1_6)]))] [])] (fun _ f => o (lex_Reader_off.does h0) f) (by kernel_rfl)

theorem lex_Reader_More.does {l0_0 : List (List (Int × Int × ByteArray))} {a0_1 : Int} {a0_2 : Int} {a0_3 : Int} {a0_4 : Int} {a0_5 : Int} {r : Bool × List (List (Int × Int × ByteArray)) × Int × Int × Int × Int × Int} (h : lex_Reader_More.f l0_0 a0_1 a0_2 a0_3 a0_4 a0_5 = some r) :
    Does Tryd.prog 60 [.c (.ptr 0 0)] [(0, some (.box [.d (L132 l0_0), .d (.int .i64 a0_1), .d (.int .i64 a0_2), .d (.int .i64 a0_3), .d (.int .i64 a0_4), .d (.int .i64 a0_5)]))] (.c (.d (.bool r.1))) none [(0, some (.box [.d (L132 r.2.1), .d (.int .i64 r.2.2.1), .d (.int .i64 r.2.2.2.1), .d (.int .i64 r.2.2.2.2.1), .d (.int .i64 r.2.2.2.2.2.1), .d (.int .i64 r.2.2.2.2.2.2)]))] := by
  refine does_fn Tryd.func60 (by kernel_rfl) rfl rfl ?_
  unfold lex_Reader_More.f at h
  obtain ⟨⟨v2_0, ⟨v2_1, ⟨v2_2, ⟨v2_3, ⟨v2_4, ⟨v2_5, v2_6⟩⟩⟩⟩⟩⟩, h0, h⟩ := bnd h
  dsimp only at h
  cases v2_0
  · rw [if_neg (by decide)] at h
    by_cases h2 : v2_2 < (v2_1.length : Int)
    · rw [if_pos h2] at h
      obtain ⟨h3, h⟩ := ifp h
      obtain rfl := Option.some.inj h
      exact Til.fin Tryd.func60 [(2, .call [] [0] (.c (.d (.bool false))) none [(0, some (.box [.d (L132 v2_1), .d (.int .i64 v2_2), .d (.int .i64 v2_3), .d (.int .i64 v2_4), .d (.int .i64 v2_5), .d (.int .i64 v2_6)]))] []), (14, .b true)] (fun _ f => o (lex_Reader_off.does h0) (o (decide_eq_true h2) (o (o h3 h2) f))) (by kernel_rfl)
    · rw [if_neg h2] at h
      obtain rfl := Option.some.inj h
      exact Til.fin Tryd.func60 [(2, .call [] [0] (.c (.d (.bool false))) none [(0, some (.box [.d (L132 v2_1), .d (.int .i64 v2_2), .d (.int .i64 v2_3), .d (.int .i64 v2_4), .d (.int .i64 v2_5), .d (.int .i64 v2_6)]))] []), (14, .b false)] (fun _ f => o (lex_Reader_off.does h0) (o (decide_eq_false h2) f)) (by kernel_rfl)
  · rw [if_pos rfl] at h
    obtain rfl := Option.some.inj h
    exact Til.fin Tryd.func60 [(2, .call [] [0] (.c (.d (.bool true))) none [(0, some (.box [.d (L132 v2_1), .d (.int .i64 v2_2), .d (.int .i64 v2_3), .d (.int .i64 v2_4), .d (.int .i64 v2_5), .d (.int .i64 v2_6)]))] [])] (fun _ f => o (lex_Reader_off.does h0) f) (by kernel_rfl)

theorem lex_Reader_Word.does {l0_0 : List (List (Int × Int × ByteArray))} {a0_1 : Int} {a0_2 : Int} {a0_3 : Int} {a0_4 : Int} {a0_5 : Int} {r : ByteArray × List (List (Int × Int × ByteArray)) × Int × Int × Int × Int × Int} (h : lex_Reader_Word.f l0_0 a0_1 a0_2 a0_3 a0_4 a0_5 = some r) :
    Does Tryd.prog 56 [.c (.ptr 0 0)] [(0, some (.box [.d (L132 l0_0), .d (.int .i64 a0_1), .d (.int .i64 a0_2), .d (.int .i64 a0_3), .d (.int .i64 a0_4), .d (.int .i64 a0_5)]))] (.c (.d (.str r.1))) none [(0, some (.box [.d (L132 r.2.1), .d (.int .i64 r.2.2.1), .d (.int .i64 r.2.2.2.1), .d (.int .i64 r.2.2.2.2.1), .d (.int .i64 r.2.2.2.2.2.1), .d (.int .i64 r.2.2.2.2.2.2)]))] := by
  refine does_fn Tryd.func56 (by kernel_rfl) rfl rfl ?_
  unfold lex_Reader_Word.f at h
  obtain ⟨⟨v2_0, ⟨v2_1, ⟨v2_2, ⟨v2_3, ⟨v2_4, ⟨v2_5, v2_6⟩⟩⟩⟩⟩⟩, h0, h⟩ := bnd h
  dsimp only at h
  cases v2_0
  · rw [if_neg (by decide)] at h
    obtain ⟨⟨v4_0, ⟨v4_1, ⟨v4_2, ⟨v4_3, ⟨v4_4, ⟨v4_5, v4_6⟩⟩⟩⟩⟩⟩, h2, h⟩ := bnd h
    dsimp only at h
    cases v4_0
    · rw [if_neg (by decide)] at h
      obtain ⟨v8, h4, h⟩ := bnd h
      obtain ⟨v9, h5, h⟩ := bnd h
      obtain rfl := Option.some.inj h
      exact Til.fin Tryd.func56 [(2, .call [] [0] (.c (.d (.bool false))) none [(0, some (.box [.d (L132 v2_1), .d (.int .i64 v2_2), .d (.int .i64 v2_3), .d (.int .i64 v2_4), .d (.int .i64 v2_5), .d (.int .i64 v2_6)]))] []), (4, .call [] [0] (.c (.d (.bool false))) none [(0, some (.box [.d (L132 v4_1), .d (.int .i64 v4_2), .d (.int .i64 v4_3), .d (.int .i64 v4_4), .d (.int .i64 v4_5), .d (.int .i64 v4_6)]))] []), (8, .call [] [0] (.c (.d (.int .i64 v8.1))) none [(0, some (.box [.d (L132 v8.2.1), .d (.int .i64 v8.2.2.1), .d (.int .i64 v8.2.2.2.1), .d (.int .i64 v8.2.2.2.2.1), .d (.int .i64 v8.2.2.2.2.2.1), .d (.int .i64 v8.2.2.2.2.2.2)]))] []), (9, .call [] [0] (.tup []) none [(0, some (.box [.d (L132 v9.1), .d (.int .i64 v9.2.1), .d (.int .i64 v9.2.2.1), .d (.int .i64 v9.2.2.2.1), .d (.int .i64 v9.2.2.2.2.1), .d (.int .i64 v9.2.2.2.2.2)]))] [])] (fun _ f => o (lex_Reader_off.does h0) (o (lex_Reader_More.does h2) (o (lex_Reader_here.does h4) (o (lex_Reader_fail.does h5) f)))) (by kernel_rfl)
    · rw [if_pos rfl] at h
      obtain ⟨h4, h⟩ := ifp h
      obtain ⟨h5, h⟩ := ifp h
      obtain ⟨h6, h⟩ := ifp h
      obtain ⟨h7, h⟩ := ifp h
      obtain rfl := Option.some.inj h
      exact Til.fin Tryd.func56 [(2, .call [] [0] (.c (.d (.bool false))) none [(0, some (.box [.d (L132 v2_1), .d (.int .i64 v2_2), .d (.int .i64 v2_3), .d (.int .i64 v2_4), .d (.int .i64 v2_5), .d (.int .i64 v2_6)]))] []), (4, .call [] [0] (.c (.d (.bool true))) none [(0, some (.box [.d (L132 v4_1), .d (.int .i64 v4_2), .d (.int .i64 v4_3), .d (.int .i64 v4_4), .d (.int .i64 v4_5), .d (.int .i64 v4_6)]))] [])] (fun _ f => o (lex_Reader_off.does h0) (o (lex_Reader_More.does h2) (o (o h4 h5) (o (o h6 h7) f)))) (by kernel_rfl)
  · rw [if_pos rfl] at h
    obtain rfl := Option.some.inj h
    exact Til.fin Tryd.func56 [(2, .call [] [0] (.c (.d (.bool true))) none [(0, some (.box [.d (L132 v2_1), .d (.int .i64 v2_2), .d (.int .i64 v2_3), .d (.int .i64 v2_4), .d (.int .i64 v2_5), .d (.int .i64 v2_6)]))] [])] (fun _ f => o (lex_Reader_off.does h0) f) (by kernel_rfl)

theorem lex_Reader_Take.does {l0_0 : List (List (Int × Int × ByteArray))} {a0_1 : Int} {a0_2 : Int} {a0_3 : Int} {a0_4 : Int} {a0_5 : Int} {a1 : ByteArray} {r : List (List (Int × Int × ByteArray)) × Int × Int × Int × Int × Int} (h : lex_Reader_Take.f l0_0 a0_1 a0_2 a0_3 a0_4 a0_5 a1 = some r) :
    Does Tryd.prog 31 [.c (.ptr 0 0), .c (.d (.str a1))] [(0, some (.box [.d (L132 l0_0), .d (.int .i64 a0_1), .d (.int .i64 a0_2), .d (.int .i64 a0_3), .d (.int .i64 a0_4), .d (.int .i64 a0_5)]))] (.tup []) none [(0, some (.box [.d (L132 r.1), .d (.int .i64 r.2.1), .d (.int .i64 r.2.2.1), .d (.int .i64 r.2.2.2.1), .d (.int .i64 r.2.2.2.2.1), .d (.int .i64 r.2.2.2.2.2)]))] := by
  refine does_fn Tryd.func31 (by kernel_rfl) rfl rfl ?_
  unfold lex_Reader_Take.f at h
  obtain ⟨v1, h0, h⟩ := bnd h
  obtain ⟨v4, h1, h⟩ := bnd h
  obtain ⟨⟨v7_0, ⟨v7_1, ⟨v7_2, ⟨v7_3, ⟨v7_4, ⟨v7_5, v7_6⟩⟩⟩⟩⟩⟩, h2, h⟩ := bnd h
  dsimp only at h
  cases v7_0
  · rw [if_neg (by decide)] at h
    by_cases h4 : v4.1 ≠ a1
    · rw [if_pos h4] at h
      obtain ⟨v16, h5, h⟩ := bnd h
      obtain rfl := Option.some.inj h
      exact Til.fin Tryd.func31 [(1, .call [] [0] (.c (.d (.int .i64 v1.1))) none [(0, some (.box [.d (L132 v1.2.1), .d (.int .i64 v1.2.2.1), .d (.int .i64 v1.2.2.2.1), .d (.int .i64 v1.2.2.2.2.1), .d (.int .i64 v1.2.2.2.2.2.1), .d (.int .i64 v1.2.2.2.2.2.2)]))] []), (4, .call [] [0] (.c (.d (.str v4.1))) none [(0, some (.box [.d (L132 v4.2.1), .d (.int .i64 v4.2.2.1), .d (.int .i64 v4.2.2.2.1), .d (.int .i64 v4.2.2.2.2.1), .d (.int .i64 v4.2.2.2.2.2.1), .d (.int .i64 v4.2.2.2.2.2.2)]))] []), (7, .call [] [0] (.c (.d (.bool false))) none [(0, some (.box [.d (L132 v7_1), .d (.int .i64 v7_2), .d (.int .i64 v7_3), .d (.int .i64 v7_4), .d (.int .i64 v7_5), .d (.int .i64 v7_6)]))] []), (12, .b true), (16, .call [] [0] (.tup []) none [(0, some (.box [.d (L132 v16.1), .d (.int .i64 v16.2.1), .d (.int .i64 v16.2.2.1), .d (.int .i64 v16.2.2.2.1), .d (.int .i64 v16.2.2.2.2.1), .d (.int .i64 v16.2.2.2.2.2)]))] [])] (fun _ f => o (lex_Reader_place.does h0) (o (lex_Reader_Word.does h1) (o (lex_Reader_off.does h2) (o (str_nt h4) (o (lex_Reader_fail.does h5) f))))) (by kernel_rfl)
    · rw [if_neg h4] at h
      obtain rfl := Option.some.inj h
      exact Til.fin Tryd.func31 [(1, .call [] [0] (.c (.d (.int .i64 v1.1))) none [(0, some (.box [.d (L132 v1.2.1), .d (.int .i64 v1.2.2.1), .d (.int .i64 v1.2.2.2.1), .d (.int .i64 v1.2.2.2.2.1), .d (.int .i64 v1.2.2.2.2.2.1), .d (.int .i64 v1.2.2.2.2.2.2)]))] []), (4, .call [] [0] (.c (.d (.str v4.1))) none [(0, some (.box [.d (L132 v4.2.1), .d (.int .i64 v4.2.2.1), .d (.int .i64 v4.2.2.2.1), .d (.int .i64 v4.2.2.2.2.1), .d (.int .i64 v4.2.2.2.2.2.1), .d (.int .i64 v4.2.2.2.2.2.2)]))] []), (7, .call [] [0] (.c (.d (.bool false))) none [(0, some (.box [.d (L132 v7_1), .d (.int .i64 v7_2), .d (.int .i64 v7_3), .d (.int .i64 v7_4), .d (.int .i64 v7_5), .d (.int .i64 v7_6)]))] []), (12, .b false)] (fun _ f => o (lex_Reader_place.does h0) (o (lex_Reader_Word.does h1) (o (lex_Reader_off.does h2) (o (str_nf h4) f)))) (by kernel_rfl)
  · rw [if_pos rfl] at h
    obtain rfl := Option.some.inj h
    exact Til.fin Tryd.func31 [(1, .call [] [0] (.c (.d (.int .i64 v1.1))) none [(0, some (.box [.d (L132 v1.2.1), .d (.int .i64 v1.2.2.1), .d (.int .i64 v1.2.2.2.1), .d (.int .i64 v1.2.2.2.2.1), .d (.int .i64 v1.2.2.2.2.2.1), .d (.int .i64 v1.2.2.2.2.2.2)]))] []), (4, .call [] [0] (.c (.d (.str v4.1))) none [(0, some (.box [.d (L132 v4.2.1), .d (.int .i64 v4.2.2.1), .d (.int .i64 v4.2.2.2.1), .d (.int .i64 v4.2.2.2.2.1), .d (.int .i64 v4.2.2.2.2.2.1), .d (.int .i64 v4.2.2.2.2.2.2)]))] []), (7, .call [] [0] (.c (.d (.bool true))) none [(0, some (.box [.d (L132 v7_1), .d (.int .i64 v7_2), .d (.int .i64 v7_3), .d (.int .i64 v7_4), .d (.int .i64 v7_5), .d (.int .i64 v7_6)]))] [])] (fun _ f => o (lex_Reader_place.does h0) (o (lex_Reader_Word.does h1) (o (lex_Reader_off.does h2) f))) (by kernel_rfl)

def lex_small.l0E (x4 : Int) (x20 : List Int) (x21 : Int) (x22 : Int) : Env := [(4, .c (.d (.int .i64 x4))), (20, .c (.d (L5 x20))), (21, .c (.d (.int .i64 x21))), (22, .c (.d (.int .i64 x22)))]
theorem lex_small.w (k : Nat) : (∀  (x4 : Int) (x20 : List Int) (x21 : Int) (x22 : Int) (r : Int × Bool), lex_small.l0 k x4 x20 x21 x22 = some r → Til Tryd.prog 59 [] (.tup [.c (.d (.int .i64 r.1)), .c (.d (.bool r.2))]) none [] (at_ Tryd.f59 5) (lex_small.l0E x4 x20 x21 x22) []) := by
  induction k with
  | zero =>
    exact fun _ _ _ _ _ h => (by cases h)
  | succ k ih =>
    intro x4 x20 x21 x22 r h
    rw [lex_small.l0] at h
    by_cases h0 : x22 < x21
    · rw [if_pos h0] at h
      obtain ⟨h1, h⟩ := ifp h
      obtain ⟨h2, h⟩ := ifp h
      by_cases h3 : (rd x20 x22) < 48
      · rw [if_pos h3] at h
        obtain rfl := Option.some.inj h
        exact Til.fin Tryd.func59 [(0, .b true), (5, .b true)] (fun _ f => o (decide_eq_true h0) (o (o h1 h2) (o (decide_eq_true h3) f))) (by kernel_rfl)
      · rw [if_neg h3] at h
        by_cases h4 : (rd x20 x22) > 57
        · rw [if_pos h4] at h
          obtain rfl := Option.some.inj h
          exact Til.fin Tryd.func59 [(0, .b true), (5, .b false), (8, .b true)] (fun _ f => o (decide_eq_true h0) (o (o h1 h2) (o (decide_eq_false h3) (o (decide_eq_true h4) f)))) (by kernel_rfl)
        · rw [if_neg h4] at h
          by_cases h5 : (wrap64 ((wrap64 (10 * x4)) + (wrap64 ((IntKind.u8.wrap ((rd x20 x22) - 48)))))) > 1000000000
          · rw [if_pos h5] at h
            exact Til.mid Tryd.func59 5 [(0, .b true), (5, .b false), (8, .b false), (18, .b true)] (fun _ f => o (decide_eq_true h0) (o (o h1 h2) (o (decide_eq_false h3) (o (decide_eq_false h4) (o (decide_eq_true h5) f))))) (by kernel_rfl) (ih _ _ _ _ _ h)
          · rw [if_neg h5] at h
            exact Til.mid Tryd.func59 5 [(0, .b true), (5, .b false), (8, .b false), (18, .b false)] (fun _ f => o (decide_eq_true h0) (o (o h1 h2) (o (decide_eq_false h3) (o (decide_eq_false h4) (o (decide_eq_false h5) f))))) (by kernel_rfl) (ih _ _ _ _ _ h)
    · rw [if_neg h0] at h
      obtain rfl := Option.some.inj h
      exact Til.fin Tryd.func59 [(0, .b false)] (fun _ f => o (decide_eq_false h0) f) (by kernel_rfl)
theorem lex_small.does {k : Nat} {a0 : ByteArray} {r : Int × Bool} (h : lex_small.f k a0 = some r) :
    Does Tryd.prog 59 [.c (.d (.str a0))] [] (.tup [.c (.d (.int .i64 r.1)), .c (.d (.bool r.2))]) none [] := by
  refine does_fn Tryd.func59 (by kernel_rfl) rfl rfl ?_
  unfold lex_small.f at h
  have ih := lex_small.w k
  by_cases h0 : a0 = ByteArray.empty
  · rw [if_pos h0] at h
    obtain rfl := Option.some.inj h
    exact Til.fin Tryd.func59 [(3, .b true)] (fun _ f => o (str_t h0) f) (by kernel_rfl)
  · rw [if_neg h0] at h
    by_cases h1 : (a0.size : Int) > 1
    · rw [if_pos h1] at h
      obtain ⟨h2, h⟩ := ifp h
      by_cases h3 : (bt a0 0) = 48
      · rw [if_pos h3] at h
        obtain rfl := Option.some.inj h
        exact Til.fin Tryd.func59 [(3, .b false), (7, .b true), (11, .b true)] (fun _ f => o (str_f h0) (o (decide_eq_true h1) (o (o (nn 0) h2) (o (beq_iff_eq.2 h3) f)))) (by kernel_rfl)
      · rw [if_neg h3] at h
        obtain ⟨h4, h⟩ := ifp h
        exact Til.mid Tryd.func59 5 [(3, .b false), (7, .b true), (11, .b false), (16, Z5 (toBytes a0))] (fun _ f => o (str_f h0) (o (decide_eq_true h1) (o (o (nn 0) h2) (o (beq_false_of_ne h3) (o (bytes_ok c5 a0 (fun _ => rfl) h4) f))))) (by kernel_rfl) (ih _ _ _ _ _ h)
    · rw [if_neg h1] at h
      obtain ⟨h2, h⟩ := ifp h
      exact Til.mid Tryd.func59 5 [(3, .b false), (7, .b false), (16, Z5 (toBytes a0))] (fun _ f => o (str_f h0) (o (decide_eq_false h1) (o (bytes_ok c5 a0 (fun _ => rfl) h2) f))) (by kernel_rfl) (ih _ _ _ _ _ h)

theorem lex_Reader_Count.does {k : Nat} {l0_0 : List (List (Int × Int × ByteArray))} {a0_1 : Int} {a0_2 : Int} {a0_3 : Int} {a0_4 : Int} {a0_5 : Int} {a1 : Int} {a2 : Int} {r : Int × List (List (Int × Int × ByteArray)) × Int × Int × Int × Int × Int} (h : lex_Reader_Count.f k l0_0 a0_1 a0_2 a0_3 a0_4 a0_5 a1 a2 = some r) :
    Does Tryd.prog 32 [.c (.ptr 0 0), .c (.d (.int .i64 a1)), .c (.d (.int .i64 a2))] [(0, some (.box [.d (L132 l0_0), .d (.int .i64 a0_1), .d (.int .i64 a0_2), .d (.int .i64 a0_3), .d (.int .i64 a0_4), .d (.int .i64 a0_5)]))] (.c (.d (.int .i64 r.1))) none [(0, some (.box [.d (L132 r.2.1), .d (.int .i64 r.2.2.1), .d (.int .i64 r.2.2.2.1), .d (.int .i64 r.2.2.2.2.1), .d (.int .i64 r.2.2.2.2.2.1), .d (.int .i64 r.2.2.2.2.2.2)]))] := by
  refine does_fn Tryd.func32 (by kernel_rfl) rfl rfl ?_
  unfold lex_Reader_Count.f at h
  obtain ⟨v2, h0, h⟩ := bnd h
  obtain ⟨v5, h1, h⟩ := bnd h
  obtain ⟨⟨v8_0, ⟨v8_1, ⟨v8_2, ⟨v8_3, ⟨v8_4, ⟨v8_5, v8_6⟩⟩⟩⟩⟩⟩, h2, h⟩ := bnd h
  dsimp only at h
  cases v8_0
  · rw [if_neg (by decide)] at h
    obtain ⟨v10, h4, h⟩ := bnd h
    by_cases h5 : v10.2 = true
    · rw [if_pos h5] at h
      by_cases h6 : v10.1 < a1
      · rw [if_pos h6] at h
        obtain ⟨v30, h7, h⟩ := bnd h
        obtain rfl := Option.some.inj h
        exact Til.fin Tryd.func32 [(2, .call [] [0] (.c (.d (.int .i64 v2.1))) none [(0, some (.box [.d (L132 v2.2.1), .d (.int .i64 v2.2.2.1), .d (.int .i64 v2.2.2.2.1), .d (.int .i64 v2.2.2.2.2.1), .d (.int .i64 v2.2.2.2.2.2.1), .d (.int .i64 v2.2.2.2.2.2.2)]))] []), (5, .call [] [0] (.c (.d (.str v5.1))) none [(0, some (.box [.d (L132 v5.2.1), .d (.int .i64 v5.2.2.1), .d (.int .i64 v5.2.2.2.1), .d (.int .i64 v5.2.2.2.2.1), .d (.int .i64 v5.2.2.2.2.2.1), .d (.int .i64 v5.2.2.2.2.2.2)]))] []), (8, .call [] [0] (.c (.d (.bool false))) none [(0, some (.box [.d (L132 v8_1), .d (.int .i64 v8_2), .d (.int .i64 v8_3), .d (.int .i64 v8_4), .d (.int .i64 v8_5), .d (.int .i64 v8_6)]))] []), (10, ca (.tup [.c (.d (.int .i64 v10.1)), .c (.d (.bool v10.2))])), (13, .b true), (21, .b true), (30, .call [] [0] (.tup []) none [(0, some (.box [.d (L132 v30.1), .d (.int .i64 v30.2.1), .d (.int .i64 v30.2.2.1), .d (.int .i64 v30.2.2.2.1), .d (.int .i64 v30.2.2.2.2.1), .d (.int .i64 v30.2.2.2.2.2)]))] [])] (fun _ f => o (lex_Reader_place.does h0) (o (lex_Reader_Word.does h1) (o (lex_Reader_off.does h2) (o (lex_small.does h4) (o h5 (o (decide_eq_true h6) (o (lex_Reader_fail.does h7) f))))))) (by kernel_rfl)
      · rw [if_neg h6] at h
        by_cases h7 : v10.1 > a2
        · rw [if_pos h7] at h
          obtain ⟨v30, h8, h⟩ := bnd h
          obtain rfl := Option.some.inj h
          exact Til.fin Tryd.func32 [(2, .call [] [0] (.c (.d (.int .i64 v2.1))) none [(0, some (.box [.d (L132 v2.2.1), .d (.int .i64 v2.2.2.1), .d (.int .i64 v2.2.2.2.1), .d (.int .i64 v2.2.2.2.2.1), .d (.int .i64 v2.2.2.2.2.2.1), .d (.int .i64 v2.2.2.2.2.2.2)]))] []), (5, .call [] [0] (.c (.d (.str v5.1))) none [(0, some (.box [.d (L132 v5.2.1), .d (.int .i64 v5.2.2.1), .d (.int .i64 v5.2.2.2.1), .d (.int .i64 v5.2.2.2.2.1), .d (.int .i64 v5.2.2.2.2.2.1), .d (.int .i64 v5.2.2.2.2.2.2)]))] []), (8, .call [] [0] (.c (.d (.bool false))) none [(0, some (.box [.d (L132 v8_1), .d (.int .i64 v8_2), .d (.int .i64 v8_3), .d (.int .i64 v8_4), .d (.int .i64 v8_5), .d (.int .i64 v8_6)]))] []), (10, ca (.tup [.c (.d (.int .i64 v10.1)), .c (.d (.bool v10.2))])), (13, .b true), (21, .b false), (25, .b true), (30, .call [] [0] (.tup []) none [(0, some (.box [.d (L132 v30.1), .d (.int .i64 v30.2.1), .d (.int .i64 v30.2.2.1), .d (.int .i64 v30.2.2.2.1), .d (.int .i64 v30.2.2.2.2.1), .d (.int .i64 v30.2.2.2.2.2)]))] [])] (fun _ f => o (lex_Reader_place.does h0) (o (lex_Reader_Word.does h1) (o (lex_Reader_off.does h2) (o (lex_small.does h4) (o h5 (o (decide_eq_false h6) (o (decide_eq_true h7) (o (lex_Reader_fail.does h8) f)))))))) (by kernel_rfl)
        · rw [if_neg h7] at h
          obtain rfl := Option.some.inj h
          exact Til.fin Tryd.func32 [(2, .call [] [0] (.c (.d (.int .i64 v2.1))) none [(0, some (.box [.d (L132 v2.2.1), .d (.int .i64 v2.2.2.1), .d (.int .i64 v2.2.2.2.1), .d (.int .i64 v2.2.2.2.2.1), .d (.int .i64 v2.2.2.2.2.2.1), .d (.int .i64 v2.2.2.2.2.2.2)]))] []), (5, .call [] [0] (.c (.d (.str v5.1))) none [(0, some (.box [.d (L132 v5.2.1), .d (.int .i64 v5.2.2.1), .d (.int .i64 v5.2.2.2.1), .d (.int .i64 v5.2.2.2.2.1), .d (.int .i64 v5.2.2.2.2.2.1), .d (.int .i64 v5.2.2.2.2.2.2)]))] []), (8, .call [] [0] (.c (.d (.bool false))) none [(0, some (.box [.d (L132 v8_1), .d (.int .i64 v8_2), .d (.int .i64 v8_3), .d (.int .i64 v8_4), .d (.int .i64 v8_5), .d (.int .i64 v8_6)]))] []), (10, ca (.tup [.c (.d (.int .i64 v10.1)), .c (.d (.bool v10.2))])), (13, .b true), (21, .b false), (25, .b false)] (fun _ f => o (lex_Reader_place.does h0) (o (lex_Reader_Word.does h1) (o (lex_Reader_off.does h2) (o (lex_small.does h4) (o h5 (o (decide_eq_false h6) (o (decide_eq_false h7) f))))))) (by kernel_rfl)
    · rw [if_neg h5] at h
      obtain ⟨v21, h6, h⟩ := bnd h
      obtain rfl := Option.some.inj h
      exact Til.fin Tryd.func32 [(2, .call [] [0] (.c (.d (.int .i64 v2.1))) none [(0, some (.box [.d (L132 v2.2.1), .d (.int .i64 v2.2.2.1), .d (.int .i64 v2.2.2.2.1), .d (.int .i64 v2.2.2.2.2.1), .d (.int .i64 v2.2.2.2.2.2.1), .d (.int .i64 v2.2.2.2.2.2.2)]))] []), (5, .call [] [0] (.c (.d (.str v5.1))) none [(0, some (.box [.d (L132 v5.2.1), .d (.int .i64 v5.2.2.1), .d (.int .i64 v5.2.2.2.1), .d (.int .i64 v5.2.2.2.2.1), .d (.int .i64 v5.2.2.2.2.2.1), .d (.int .i64 v5.2.2.2.2.2.2)]))] []), (8, .call [] [0] (.c (.d (.bool false))) none [(0, some (.box [.d (L132 v8_1), .d (.int .i64 v8_2), .d (.int .i64 v8_3), .d (.int .i64 v8_4), .d (.int .i64 v8_5), .d (.int .i64 v8_6)]))] []), (10, ca (.tup [.c (.d (.int .i64 v10.1)), .c (.d (.bool v10.2))])), (13, .b false), (21, .call [] [0] (.tup []) none [(0, some (.box [.d (L132 v21.1), .d (.int .i64 v21.2.1), .d (.int .i64 v21.2.2.1), .d (.int .i64 v21.2.2.2.1), .d (.int .i64 v21.2.2.2.2.1), .d (.int .i64 v21.2.2.2.2.2)]))] [])] (fun _ f => o (lex_Reader_place.does h0) (o (lex_Reader_Word.does h1) (o (lex_Reader_off.does h2) (o (lex_small.does h4) (o (Bool.eq_false_iff.2 h5) (o (lex_Reader_fail.does h6) f)))))) (by kernel_rfl)
  · rw [if_pos rfl] at h
    obtain rfl := Option.some.inj h
    exact Til.fin Tryd.func32 [(2, .call [] [0] (.c (.d (.int .i64 v2.1))) none [(0, some (.box [.d (L132 v2.2.1), .d (.int .i64 v2.2.2.1), .d (.int .i64 v2.2.2.2.1), .d (.int .i64 v2.2.2.2.2.1), .d (.int .i64 v2.2.2.2.2.2.1), .d (.int .i64 v2.2.2.2.2.2.2)]))] []), (5, .call [] [0] (.c (.d (.str v5.1))) none [(0, some (.box [.d (L132 v5.2.1), .d (.int .i64 v5.2.2.1), .d (.int .i64 v5.2.2.2.1), .d (.int .i64 v5.2.2.2.2.1), .d (.int .i64 v5.2.2.2.2.2.1), .d (.int .i64 v5.2.2.2.2.2.2)]))] []), (8, .call [] [0] (.c (.d (.bool true))) none [(0, some (.box [.d (L132 v8_1), .d (.int .i64 v8_2), .d (.int .i64 v8_3), .d (.int .i64 v8_4), .d (.int .i64 v8_5), .d (.int .i64 v8_6)]))] [])] (fun _ f => o (lex_Reader_place.does h0) (o (lex_Reader_Word.does h1) (o (lex_Reader_off.does h2) f))) (by kernel_rfl)

theorem lex_Reader_Next.does {l0_0 : List (List (Int × Int × ByteArray))} {a0_1 : Int} {a0_2 : Int} {a0_3 : Int} {a0_4 : Int} {a0_5 : Int} {r : List (List (Int × Int × ByteArray)) × Int × Int × Int × Int × Int} (h : lex_Reader_Next.f l0_0 a0_1 a0_2 a0_3 a0_4 a0_5 = some r) :
    Does Tryd.prog 33 [.c (.ptr 0 0)] [(0, some (.box [.d (L132 l0_0), .d (.int .i64 a0_1), .d (.int .i64 a0_2), .d (.int .i64 a0_3), .d (.int .i64 a0_4), .d (.int .i64 a0_5)]))] (.tup []) none [(0, some (.box [.d (L132 r.1), .d (.int .i64 r.2.1), .d (.int .i64 r.2.2.1), .d (.int .i64 r.2.2.2.1), .d (.int .i64 r.2.2.2.2.1), .d (.int .i64 r.2.2.2.2.2)]))] := by
  refine does_fn Tryd.func33 (by kernel_rfl) rfl rfl ?_
  unfold lex_Reader_Next.f at h
  obtain ⟨⟨v1_0, ⟨v1_1, ⟨v1_2, ⟨v1_3, ⟨v1_4, ⟨v1_5, v1_6⟩⟩⟩⟩⟩⟩, h0, h⟩ := bnd h
  dsimp only at h
  cases v1_0
  · rw [if_neg (by decide)] at h
    obtain ⟨⟨v3_0, ⟨v3_1, ⟨v3_2, ⟨v3_3, ⟨v3_4, ⟨v3_5, v3_6⟩⟩⟩⟩⟩⟩, h2, h⟩ := bnd h
    dsimp only at h
    cases v3_0
    · rw [if_neg (by decide)] at h
      by_cases h4 : v3_2 ≥ (v3_1.length : Int)
      · rw [if_pos h4] at h
        obtain ⟨v19, h5, h⟩ := bnd h
        obtain rfl := Option.some.inj h
        exact Til.fin Tryd.func33 [(1, .call [] [0] (.c (.d (.bool false))) none [(0, some (.box [.d (L132 v1_1), .d (.int .i64 v1_2), .d (.int .i64 v1_3), .d (.int .i64 v1_4), .d (.int .i64 v1_5), .d (.int .i64 v1_6)]))] []), (3, .call [] [0] (.c (.d (.bool false))) none [(0, some (.box [.d (L132 v3_1), .d (.int .i64 v3_2), .d (.int .i64 v3_3), .d (.int .i64 v3_4), .d (.int .i64 v3_5), .d (.int .i64 v3_6)]))] []), (13, .b true), (19, .call [] [0] (.tup []) none [(0, some (.box [.d (L132 v19.1), .d (.int .i64 v19.2.1), .d (.int .i64 v19.2.2.1), .d (.int .i64 v19.2.2.2.1), .d (.int .i64 v19.2.2.2.2.1), .d (.int .i64 v19.2.2.2.2.2)]))] [])] (fun _ f => o (lex_Reader_off.does h0) (o (lex_Reader_More.does h2) (o (decide_eq_true h4) (o (lex_Reader_fail.does h5) f)))) (by kernel_rfl)
      · rw [if_neg h4] at h
        obtain rfl := Option.some.inj h
        exact Til.fin Tryd.func33 [(1, .call [] [0] (.c (.d (.bool false))) none [(0, some (.box [.d (L132 v1_1), .d (.int .i64 v1_2), .d (.int .i64 v1_3), .d (.int .i64 v1_4), .d (.int .i64 v1_5), .d (.int .i64 v1_6)]))] []), (3, .call [] [0] (.c (.d (.bool false))) none [(0, some (.box [.d (L132 v3_1), .d (.int .i64 v3_2), .d (.int .i64 v3_3), .d (.int .i64 v3_4), .d (.int .i64 v3_5), .d (.int .i64 v3_6)]))] []), (13, .b false)] (fun _ f => o (lex_Reader_off.does h0) (o (lex_Reader_More.does h2) (o (decide_eq_false h4) f))) (by kernel_rfl)
    · rw [if_pos rfl] at h
      obtain ⟨v6, h4, h⟩ := bnd h
      obtain ⟨v7, h5, h⟩ := bnd h
      obtain rfl := Option.some.inj h
      exact Til.fin Tryd.func33 [(1, .call [] [0] (.c (.d (.bool false))) none [(0, some (.box [.d (L132 v1_1), .d (.int .i64 v1_2), .d (.int .i64 v1_3), .d (.int .i64 v1_4), .d (.int .i64 v1_5), .d (.int .i64 v1_6)]))] []), (3, .call [] [0] (.c (.d (.bool true))) none [(0, some (.box [.d (L132 v3_1), .d (.int .i64 v3_2), .d (.int .i64 v3_3), .d (.int .i64 v3_4), .d (.int .i64 v3_5), .d (.int .i64 v3_6)]))] []), (6, .call [] [0] (.c (.d (.int .i64 v6.1))) none [(0, some (.box [.d (L132 v6.2.1), .d (.int .i64 v6.2.2.1), .d (.int .i64 v6.2.2.2.1), .d (.int .i64 v6.2.2.2.2.1), .d (.int .i64 v6.2.2.2.2.2.1), .d (.int .i64 v6.2.2.2.2.2.2)]))] []), (7, .call [] [0] (.tup []) none [(0, some (.box [.d (L132 v7.1), .d (.int .i64 v7.2.1), .d (.int .i64 v7.2.2.1), .d (.int .i64 v7.2.2.2.1), .d (.int .i64 v7.2.2.2.2.1), .d (.int .i64 v7.2.2.2.2.2)]))] [])] (fun _ f => o (lex_Reader_off.does h0) (o (lex_Reader_More.does h2) (o (lex_Reader_here.does h4) (o (lex_Reader_fail.does h5) f)))) (by kernel_rfl)
  · rw [if_pos rfl] at h
    obtain rfl := Option.some.inj h
    exact Til.fin Tryd.func33 [(1, .call [] [0] (.c (.d (.bool true))) none [(0, some (.box [.d (L132 v1_1), .d (.int .i64 v1_2), .d (.int .i64 v1_3), .d (.int .i64 v1_4), .d (.int .i64 v1_5), .d (.int .i64 v1_6)]))] [])] (fun _ f => o (lex_Reader_off.does h0) f) (by kernel_rfl)

theorem lex_Reader_End.does {l0_0 : List (List (Int × Int × ByteArray))} {a0_1 : Int} {a0_2 : Int} {a0_3 : Int} {a0_4 : Int} {a0_5 : Int} {r : List (List (Int × Int × ByteArray)) × Int × Int × Int × Int × Int} (h : lex_Reader_End.f l0_0 a0_1 a0_2 a0_3 a0_4 a0_5 = some r) :
    Does Tryd.prog 34 [.c (.ptr 0 0)] [(0, some (.box [.d (L132 l0_0), .d (.int .i64 a0_1), .d (.int .i64 a0_2), .d (.int .i64 a0_3), .d (.int .i64 a0_4), .d (.int .i64 a0_5)]))] (.tup []) none [(0, some (.box [.d (L132 r.1), .d (.int .i64 r.2.1), .d (.int .i64 r.2.2.1), .d (.int .i64 r.2.2.2.1), .d (.int .i64 r.2.2.2.2.1), .d (.int .i64 r.2.2.2.2.2)]))] := by
  refine does_fn Tryd.func34 (by kernel_rfl) rfl rfl ?_
  unfold lex_Reader_End.f at h
  obtain ⟨⟨v1_0, ⟨v1_1, ⟨v1_2, ⟨v1_3, ⟨v1_4, ⟨v1_5, v1_6⟩⟩⟩⟩⟩⟩, h0, h⟩ := bnd h
  dsimp only at h
  cases v1_0
  · rw [if_neg (by decide)] at h
    by_cases h2 : v1_2 < (v1_1.length : Int)
    · rw [if_pos h2] at h
      obtain ⟨v17, h3, h⟩ := bnd h
      obtain ⟨v18, h4, h⟩ := bnd h
      obtain rfl := Option.some.inj h
      exact Til.fin Tryd.func34 [(1, .call [] [0] (.c (.d (.bool false))) none [(0, some (.box [.d (L132 v1_1), .d (.int .i64 v1_2), .d (.int .i64 v1_3), .d (.int .i64 v1_4), .d (.int .i64 v1_5), .d (.int .i64 v1_6)]))] []), (13, .b true), (17, .call [] [0] (.c (.d (.int .i64 v17.1))) none [(0, some (.box [.d (L132 v17.2.1), .d (.int .i64 v17.2.2.1), .d (.int .i64 v17.2.2.2.1), .d (.int .i64 v17.2.2.2.2.1), .d (.int .i64 v17.2.2.2.2.2.1), .d (.int .i64 v17.2.2.2.2.2.2)]))] []), (18, .call [] [0] (.tup []) none [(0, some (.box [.d (L132 v18.1), .d (.int .i64 v18.2.1), .d (.int .i64 v18.2.2.1), .d (.int .i64 v18.2.2.2.1), .d (.int .i64 v18.2.2.2.2.1), .d (.int .i64 v18.2.2.2.2.2)]))] [])] (fun _ f => o (lex_Reader_off.does h0) (o (decide_eq_true h2) (o (lex_Reader_here.does h3) (o (lex_Reader_fail.does h4) f)))) (by kernel_rfl)
    · rw [if_neg h2] at h
      obtain rfl := Option.some.inj h
      exact Til.fin Tryd.func34 [(1, .call [] [0] (.c (.d (.bool false))) none [(0, some (.box [.d (L132 v1_1), .d (.int .i64 v1_2), .d (.int .i64 v1_3), .d (.int .i64 v1_4), .d (.int .i64 v1_5), .d (.int .i64 v1_6)]))] []), (13, .b false)] (fun _ f => o (lex_Reader_off.does h0) (o (decide_eq_false h2) f)) (by kernel_rfl)
  · rw [if_pos rfl] at h
    obtain rfl := Option.some.inj h
    exact Til.fin Tryd.func34 [(1, .call [] [0] (.c (.d (.bool true))) none [(0, some (.box [.d (L132 v1_1), .d (.int .i64 v1_2), .d (.int .i64 v1_3), .d (.int .i64 v1_4), .d (.int .i64 v1_5), .d (.int .i64 v1_6)]))] [])] (fun _ f => o (lex_Reader_off.does h0) f) (by kernel_rfl)

theorem lex_Reader_Err.does {l0_0 : List (List (Int × Int × ByteArray))} {a0_1 : Int} {a0_2 : Int} {a0_3 : Int} {a0_4 : Int} {a0_5 : Int} {r : Int × Int × List (List (Int × Int × ByteArray)) × Int × Int × Int × Int × Int} (h : lex_Reader_Err.f l0_0 a0_1 a0_2 a0_3 a0_4 a0_5 = some r) :
    Does Tryd.prog 35 [.c (.ptr 0 0)] [(0, some (.box [.d (L132 l0_0), .d (.int .i64 a0_1), .d (.int .i64 a0_2), .d (.int .i64 a0_3), .d (.int .i64 a0_4), .d (.int .i64 a0_5)]))] (.tup [.c (.d (.int .i64 r.1)), .c (.d (.int .i64 r.2.1))]) none [(0, some (.box [.d (L132 r.2.2.1), .d (.int .i64 r.2.2.2.1), .d (.int .i64 r.2.2.2.2.1), .d (.int .i64 r.2.2.2.2.2.1), .d (.int .i64 r.2.2.2.2.2.2.1), .d (.int .i64 r.2.2.2.2.2.2.2)]))] := by
  refine does_fn Tryd.func35 (by kernel_rfl) rfl rfl ?_
  unfold lex_Reader_Err.f at h
  obtain rfl := Option.some.inj h
  exact Til.fin Tryd.func35 [] (fun _ f => f) (by kernel_rfl)

theorem report_same.does {a0 : ByteArray} {a1 : ByteArray} {a2 : Int} {r : Int} (h : report_same.f a0 a1 a2 = some r) :
    Does Tryd.prog 36 [.c (.d (.str a0)), .c (.d (.str a1)), .c (.d (.int .i64 a2))] [] (.c (.d (.int .i64 r))) none [] := by
  refine does_fn Tryd.func36 (by kernel_rfl) rfl rfl ?_
  unfold report_same.f at h
  by_cases h0 : a2 = 0
  · rw [if_pos h0] at h
    by_cases h1 : a0 ≠ a1
    · rw [if_pos h1] at h
      obtain rfl := Option.some.inj h
      exact Til.fin Tryd.func36 [(2, .b true), (6, .b true)] (fun _ f => o (beq_iff_eq.2 h0) (o (str_nt h1) f)) (by kernel_rfl)
    · rw [if_neg h1] at h
      obtain rfl := Option.some.inj h
      exact Til.fin Tryd.func36 [(2, .b true), (6, .b false)] (fun _ f => o (beq_iff_eq.2 h0) (o (str_nf h1) f)) (by kernel_rfl)
  · rw [if_neg h0] at h
    obtain rfl := Option.some.inj h
    exact Til.fin Tryd.func36 [(2, .b false)] (fun _ f => o (beq_false_of_ne h0) f) (by kernel_rfl)

theorem report_ReadFault.does {k : Nat} {a0 : ByteArray} {r : Int × Int × Int × Int × Int} (h : report_ReadFault.f k a0 = some r) :
    Does Tryd.prog 18 [.c (.d (.str a0))] [] (.tup [.agg [.d (.int .i64 r.1), .d (.int .i64 r.2.1), .d (.int .i64 r.2.2.1), .d (.int .i64 r.2.2.2.1)], .c (.d (.int .i64 r.2.2.2.2))]) none [] := by
  refine does_fn Tryd.func18 (by kernel_rfl) rfl rfl ?_
  unfold report_ReadFault.f at h
  obtain ⟨v3, h0, h⟩ := bnd h
  obtain ⟨v6, h1, h⟩ := bnd h
  obtain ⟨v8, h2, h⟩ := bnd h
  obtain ⟨v10, h3, h⟩ := bnd h
  obtain ⟨v12, h4, h⟩ := bnd h
  obtain ⟨v14, h5, h⟩ := bnd h
  obtain ⟨v19, h6, h⟩ := bnd h
  obtain ⟨v21, h7, h⟩ := bnd h
  obtain ⟨v23, h8, h⟩ := bnd h
  by_cases h9 : v23.1 ≠ 0
  · rw [if_pos h9] at h
    obtain rfl := Option.some.inj h
    exact Til.fin Tryd.func18 [(3, .call [] [] (.c (.ptr 0 0)) (some (.box [.d (L132 v3.1), .d (.int .i64 v3.2.1), .d (.int .i64 v3.2.2.1), .d (.int .i64 v3.2.2.2.1), .d (.int .i64 v3.2.2.2.2.1), .d (.int .i64 v3.2.2.2.2.2)])) [] []), (6, .call [] [0] (.tup []) none [(0, some (.box [.d (L132 v6.1), .d (.int .i64 v6.2.1), .d (.int .i64 v6.2.2.1), .d (.int .i64 v6.2.2.2.1), .d (.int .i64 v6.2.2.2.2.1), .d (.int .i64 v6.2.2.2.2.2)]))] []), (8, .call [] [0] (.c (.d (.int .i64 v8.1))) none [(0, some (.box [.d (L132 v8.2.1), .d (.int .i64 v8.2.2.1), .d (.int .i64 v8.2.2.2.1), .d (.int .i64 v8.2.2.2.2.1), .d (.int .i64 v8.2.2.2.2.2.1), .d (.int .i64 v8.2.2.2.2.2.2)]))] []), (10, .call [] [0] (.c (.d (.int .i64 v10.1))) none [(0, some (.box [.d (L132 v10.2.1), .d (.int .i64 v10.2.2.1), .d (.int .i64 v10.2.2.2.1), .d (.int .i64 v10.2.2.2.2.1), .d (.int .i64 v10.2.2.2.2.2.1), .d (.int .i64 v10.2.2.2.2.2.2)]))] []), (12, .call [] [0] (.c (.d (.int .i64 v12.1))) none [(0, some (.box [.d (L132 v12.2.1), .d (.int .i64 v12.2.2.1), .d (.int .i64 v12.2.2.2.1), .d (.int .i64 v12.2.2.2.2.1), .d (.int .i64 v12.2.2.2.2.2.1), .d (.int .i64 v12.2.2.2.2.2.2)]))] []), (14, .call [] [0] (.c (.d (.int .i64 v14.1))) none [(0, some (.box [.d (L132 v14.2.1), .d (.int .i64 v14.2.2.1), .d (.int .i64 v14.2.2.2.1), .d (.int .i64 v14.2.2.2.2.1), .d (.int .i64 v14.2.2.2.2.2.1), .d (.int .i64 v14.2.2.2.2.2.2)]))] []), (19, .call [] [0] (.tup []) none [(0, some (.box [.d (L132 v19.1), .d (.int .i64 v19.2.1), .d (.int .i64 v19.2.2.1), .d (.int .i64 v19.2.2.2.1), .d (.int .i64 v19.2.2.2.2.1), .d (.int .i64 v19.2.2.2.2.2)]))] []), (21, .call [] [0] (.tup []) none [(0, some (.box [.d (L132 v21.1), .d (.int .i64 v21.2.1), .d (.int .i64 v21.2.2.1), .d (.int .i64 v21.2.2.2.1), .d (.int .i64 v21.2.2.2.2.1), .d (.int .i64 v21.2.2.2.2.2)]))] []), (23, .call [] [0] (.tup [.c (.d (.int .i64 v23.1)), .c (.d (.int .i64 v23.2.1))]) none [(0, some (.box [.d (L132 v23.2.2.1), .d (.int .i64 v23.2.2.2.1), .d (.int .i64 v23.2.2.2.2.1), .d (.int .i64 v23.2.2.2.2.2.1), .d (.int .i64 v23.2.2.2.2.2.2.1), .d (.int .i64 v23.2.2.2.2.2.2.2)]))] []), (30, .b true)] (fun _ f => o (lex_Read.does h0) (o (lex_Reader_Take.does h1) (o (lex_Reader_Count.does h2) (o (lex_Reader_Count.does h3) (o (lex_Reader_Count.does h4) (o (lex_Reader_Count.does h5) (o (lex_Reader_Next.does h6) (o (lex_Reader_End.does h7) (o (lex_Reader_Err.does h8) (o (bne_iff_ne.2 h9) f)))))))))) (by kernel_rfl)
  · rw [if_neg h9] at h
    obtain ⟨v32, h10, h⟩ := bnd h
    obtain ⟨v41, h11, h⟩ := bnd h
    by_cases h12 : v41 ≠ 0
    · rw [if_pos h12] at h
      obtain rfl := Option.some.inj h
      exact Til.fin Tryd.func18 [(3, .call [] [] (.c (.ptr 0 0)) (some (.box [.d (L132 v3.1), .d (.int .i64 v3.2.1), .d (.int .i64 v3.2.2.1), .d (.int .i64 v3.2.2.2.1), .d (.int .i64 v3.2.2.2.2.1), .d (.int .i64 v3.2.2.2.2.2)])) [] []), (6, .call [] [0] (.tup []) none [(0, some (.box [.d (L132 v6.1), .d (.int .i64 v6.2.1), .d (.int .i64 v6.2.2.1), .d (.int .i64 v6.2.2.2.1), .d (.int .i64 v6.2.2.2.2.1), .d (.int .i64 v6.2.2.2.2.2)]))] []), (8, .call [] [0] (.c (.d (.int .i64 v8.1))) none [(0, some (.box [.d (L132 v8.2.1), .d (.int .i64 v8.2.2.1), .d (.int .i64 v8.2.2.2.1), .d (.int .i64 v8.2.2.2.2.1), .d (.int .i64 v8.2.2.2.2.2.1), .d (.int .i64 v8.2.2.2.2.2.2)]))] []), (10, .call [] [0] (.c (.d (.int .i64 v10.1))) none [(0, some (.box [.d (L132 v10.2.1), .d (.int .i64 v10.2.2.1), .d (.int .i64 v10.2.2.2.1), .d (.int .i64 v10.2.2.2.2.1), .d (.int .i64 v10.2.2.2.2.2.1), .d (.int .i64 v10.2.2.2.2.2.2)]))] []), (12, .call [] [0] (.c (.d (.int .i64 v12.1))) none [(0, some (.box [.d (L132 v12.2.1), .d (.int .i64 v12.2.2.1), .d (.int .i64 v12.2.2.2.1), .d (.int .i64 v12.2.2.2.2.1), .d (.int .i64 v12.2.2.2.2.2.1), .d (.int .i64 v12.2.2.2.2.2.2)]))] []), (14, .call [] [0] (.c (.d (.int .i64 v14.1))) none [(0, some (.box [.d (L132 v14.2.1), .d (.int .i64 v14.2.2.1), .d (.int .i64 v14.2.2.2.1), .d (.int .i64 v14.2.2.2.2.1), .d (.int .i64 v14.2.2.2.2.2.1), .d (.int .i64 v14.2.2.2.2.2.2)]))] []), (19, .call [] [0] (.tup []) none [(0, some (.box [.d (L132 v19.1), .d (.int .i64 v19.2.1), .d (.int .i64 v19.2.2.1), .d (.int .i64 v19.2.2.2.1), .d (.int .i64 v19.2.2.2.2.1), .d (.int .i64 v19.2.2.2.2.2)]))] []), (21, .call [] [0] (.tup []) none [(0, some (.box [.d (L132 v21.1), .d (.int .i64 v21.2.1), .d (.int .i64 v21.2.2.1), .d (.int .i64 v21.2.2.2.1), .d (.int .i64 v21.2.2.2.2.1), .d (.int .i64 v21.2.2.2.2.2)]))] []), (23, .call [] [0] (.tup [.c (.d (.int .i64 v23.1)), .c (.d (.int .i64 v23.2.1))]) none [(0, some (.box [.d (L132 v23.2.2.1), .d (.int .i64 v23.2.2.2.1), .d (.int .i64 v23.2.2.2.2.1), .d (.int .i64 v23.2.2.2.2.2.1), .d (.int .i64 v23.2.2.2.2.2.2.1), .d (.int .i64 v23.2.2.2.2.2.2.2)]))] []), (30, .b false), (32, ca (.tup [.c (.d (.str v32.1)), .c (.d (.int .i64 v32.2))])), (41, ca (.c (.d (.int .i64 v41)))), (44, .b true)] (fun _ f => o (lex_Read.does h0) (o (lex_Reader_Take.does h1) (o (lex_Reader_Count.does h2) (o (lex_Reader_Count.does h3) (o (lex_Reader_Count.does h4) (o (lex_Reader_Count.does h5) (o (lex_Reader_Next.does h6) (o (lex_Reader_End.does h7) (o (lex_Reader_Err.does h8) (o (ne_f h9) (o (report_Fault.does h10) (o (report_same.does h11) (o (bne_iff_ne.2 h12) f))))))))))))) (by kernel_rfl)
    · rw [if_neg h12] at h
      obtain rfl := Option.some.inj h
      exact Til.fin Tryd.func18 [(3, .call [] [] (.c (.ptr 0 0)) (some (.box [.d (L132 v3.1), .d (.int .i64 v3.2.1), .d (.int .i64 v3.2.2.1), .d (.int .i64 v3.2.2.2.1), .d (.int .i64 v3.2.2.2.2.1), .d (.int .i64 v3.2.2.2.2.2)])) [] []), (6, .call [] [0] (.tup []) none [(0, some (.box [.d (L132 v6.1), .d (.int .i64 v6.2.1), .d (.int .i64 v6.2.2.1), .d (.int .i64 v6.2.2.2.1), .d (.int .i64 v6.2.2.2.2.1), .d (.int .i64 v6.2.2.2.2.2)]))] []), (8, .call [] [0] (.c (.d (.int .i64 v8.1))) none [(0, some (.box [.d (L132 v8.2.1), .d (.int .i64 v8.2.2.1), .d (.int .i64 v8.2.2.2.1), .d (.int .i64 v8.2.2.2.2.1), .d (.int .i64 v8.2.2.2.2.2.1), .d (.int .i64 v8.2.2.2.2.2.2)]))] []), (10, .call [] [0] (.c (.d (.int .i64 v10.1))) none [(0, some (.box [.d (L132 v10.2.1), .d (.int .i64 v10.2.2.1), .d (.int .i64 v10.2.2.2.1), .d (.int .i64 v10.2.2.2.2.1), .d (.int .i64 v10.2.2.2.2.2.1), .d (.int .i64 v10.2.2.2.2.2.2)]))] []), (12, .call [] [0] (.c (.d (.int .i64 v12.1))) none [(0, some (.box [.d (L132 v12.2.1), .d (.int .i64 v12.2.2.1), .d (.int .i64 v12.2.2.2.1), .d (.int .i64 v12.2.2.2.2.1), .d (.int .i64 v12.2.2.2.2.2.1), .d (.int .i64 v12.2.2.2.2.2.2)]))] []), (14, .call [] [0] (.c (.d (.int .i64 v14.1))) none [(0, some (.box [.d (L132 v14.2.1), .d (.int .i64 v14.2.2.1), .d (.int .i64 v14.2.2.2.1), .d (.int .i64 v14.2.2.2.2.1), .d (.int .i64 v14.2.2.2.2.2.1), .d (.int .i64 v14.2.2.2.2.2.2)]))] []), (19, .call [] [0] (.tup []) none [(0, some (.box [.d (L132 v19.1), .d (.int .i64 v19.2.1), .d (.int .i64 v19.2.2.1), .d (.int .i64 v19.2.2.2.1), .d (.int .i64 v19.2.2.2.2.1), .d (.int .i64 v19.2.2.2.2.2)]))] []), (21, .call [] [0] (.tup []) none [(0, some (.box [.d (L132 v21.1), .d (.int .i64 v21.2.1), .d (.int .i64 v21.2.2.1), .d (.int .i64 v21.2.2.2.1), .d (.int .i64 v21.2.2.2.2.1), .d (.int .i64 v21.2.2.2.2.2)]))] []), (23, .call [] [0] (.tup [.c (.d (.int .i64 v23.1)), .c (.d (.int .i64 v23.2.1))]) none [(0, some (.box [.d (L132 v23.2.2.1), .d (.int .i64 v23.2.2.2.1), .d (.int .i64 v23.2.2.2.2.1), .d (.int .i64 v23.2.2.2.2.2.1), .d (.int .i64 v23.2.2.2.2.2.2.1), .d (.int .i64 v23.2.2.2.2.2.2.2)]))] []), (30, .b false), (32, ca (.tup [.c (.d (.str v32.1)), .c (.d (.int .i64 v32.2))])), (41, ca (.c (.d (.int .i64 v41)))), (44, .b false)] (fun _ f => o (lex_Read.does h0) (o (lex_Reader_Take.does h1) (o (lex_Reader_Count.does h2) (o (lex_Reader_Count.does h3) (o (lex_Reader_Count.does h4) (o (lex_Reader_Count.does h5) (o (lex_Reader_Next.does h6) (o (lex_Reader_End.does h7) (o (lex_Reader_Err.does h8) (o (ne_f h9) (o (report_Fault.does h10) (o (report_same.does h11) (o (ne_f h12) f))))))))))))) (by kernel_rfl)

theorem dendronlaw29_digits.does {k : Nat} {a0 : Int} {r : ByteArray} (h : dendronlaw29_digits.f k a0 = some r) :
    Does Tryd.prog 19 [.c (.d (.int .i64 a0))] [] (.c (.d (.str r))) none [] := by
  refine does_fn Tryd.func19 (by kernel_rfl) rfl rfl ?_
  unfold dendronlaw29_digits.f at h
  obtain ⟨v2, h0, h⟩ := bnd h
  obtain ⟨v3, h1, h⟩ := bnd h
  obtain rfl := Option.some.inj h
  exact Til.fin Tryd.func19 [(2, ca (.agg [.d (.bool v2.1), .d (L90 v2.2.1), .d (L90 v2.2.2)])), (3, ca (.c (.d (.str v3))))] (fun _ f => o (ratio_Of.does h0) (o (ratio_Print.does h1) f)) (by kernel_rfl)
end Go.DI
