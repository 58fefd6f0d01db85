/- RowsTurns answers true, whatever it is given, and what it is given reads as before. No condition. -/
import Derived.Test.YtnmpjinieiopaaaDoorWRowsTurns1
import Derived.Test.YtnmpjinieiopaaaDoorTh1
import Derived.Test.YtnmpjinieiopaaaDoorCards
import Derived.Test.YtnmpjinieiopaaaDoorTie
import Derived.WalkKit
import Derived.ProofKit
import Derived.OpenShut
import Derived.Deep.DeepHandedRow
import Derived.Lib.LaidTab
import Derived.Below
import Derived.Carry
import Derived.SizedLaws
set_option linter.all false
namespace Go.DI
open Go Go.RowKit Go.Proofs
set_option linter.unusedVariables false
def wf4 (_ : Bool) : Prop := True
theorem op4 : Opens Tryd.prog 4 c4 wf4 := opens_bool Tryd.underlying4
def wf49 (n : Int) : Prop := (Lit.int .u64 n).wf = true
theorem op49 : Opens Tryd.prog 49 c49 wf49 := opens_int .u64 Tryd.underlying49
def wf42 (l : List Int) : Prop := l.length ≤ 9223372036854775807 ∧ ∀ x ∈ l, wf49 x
theorem op42 : Opens Tryd.prog 42 c42 wf42 := opens_slice (c := c49) 1 0 Tryd.underlying42 (by kernel_rfl) (by decide) op49
def wf44 (x : Bool × List Int) : Prop := wf4 x.1 ∧ wf42 x.2
theorem op44 : Opens Tryd.prog 44 c44 wf44 := opens_map (c := fun (x : (Bool) × (List Int)) => c4 x.1 ++ (c42 x.2)) (wf := fun (x : (Bool) × (List Int)) => wf4 x.1 ∧ wf42 x.2) (fun (x : (Bool) × (List Int)) => (x.1, x.2)) (fun _ => rfl) (fun _ h => h) (opens_struct (n := 1 + (1)) Tryd.underlying44 (by kernel_rfl) (opensF_cons (m := 1) (n := 1) rfl (by kernel_rfl) op4 (opensF_one (n := 1) rfl (by kernel_rfl) op42)))
def wf46 (x : Bool × List Int × List Int) : Prop := wf44 (x.1, x.2.1) ∧ wf42 x.2.2
theorem op46 : Opens Tryd.prog 46 c46 wf46 := opens_map (c := fun (x : (Bool × List Int) × (List Int)) => c44 x.1 ++ (c42 x.2)) (wf := fun (x : (Bool × List Int) × (List Int)) => wf44 x.1 ∧ wf42 x.2) (fun (x : (Bool × List Int) × (List Int)) => (x.1.1, x.1.2, x.2)) (fun _ => rfl) (fun _ h => h) (opens_struct (n := 2 + (1)) Tryd.underlying46 (by kernel_rfl) (opensF_cons (m := 2) (n := 1) rfl (by kernel_rfl) op44 (opensF_one (n := 1) rfl (by kernel_rfl) op42)))
def wf48 (x : Bool × Bool × List Int × List Int) : Prop := wf4 x.1 ∧ wf46 (x.2.1, x.2.2.1, x.2.2.2)
theorem op48 : Opens Tryd.prog 48 c48 wf48 := opens_map (c := fun (x : (Bool) × (Bool × List Int × List Int)) => c4 x.1 ++ (c46 x.2)) (wf := fun (x : (Bool) × (Bool × List Int × List Int)) => wf4 x.1 ∧ wf46 x.2) (fun (x : (Bool) × (Bool × List Int × List Int)) => (x.1, x.2.1, x.2.2.1, x.2.2.2)) (fun _ => rfl) (fun _ h => h) (opens_struct (n := 1 + (3)) Tryd.underlying48 (by kernel_rfl) (opensF_cons (m := 1) (n := 3) rfl (by kernel_rfl) op4 (opensF_one (n := 3) rfl (by kernel_rfl) op46)))
def wf22 (l : List (Bool × Bool × List Int × List Int)) : Prop := l.length ≤ 9223372036854775807 ∧ ∀ x ∈ l, wf48 x
theorem op22 : Opens Tryd.prog 22 c22 wf22 := opens_slice (c := c48) 4 (false, false, [], []) Tryd.underlying22 (by kernel_rfl) (by decide) op48
def wf3 (n : Int) : Prop := (Lit.int .i64 n).wf = true
theorem op3 : Opens Tryd.prog 3 c3 wf3 := opens_int .i64 Tryd.underlying3
def dendronlaw09_RowsTurns.Pure : Prop := ∀ (y0 : List (Bool × Bool × List Int × List Int)) (y1 : List (Bool × Bool × List Int × List Int)) (y2 : Int) (y3 : Bool × Bool × List Int × List Int) (y4 : Int) (w0 : wf22 y0) (w1 : wf22 y1) (w2 : wf3 y2) (w3 : wf48 y3) (w4 : wf49 y4), ∃ k, dendronlaw09_RowsTurns.f k y0 y1 y2 y3.1 y3.2.1 y3.2.2.1 y3.2.2.2 y4 = some true
end Go.DI
namespace Go.DI.Th
open Go Go.RowKit Go.DI
theorem wf_u64 {n : Int} (h : (Lit.int .u64 n).wf = true) : 0 ≤ n ∧ n < 18446744073709551616 := by
  unfold Lit.wf at h
  simp only [Bool.and_eq_true, decide_eq_true_eq] at h
  have h2 : n ≤ 18446744073709551615 := h.2
  exact ⟨h.1, by omega⟩
theorem ceU {x : Ce} (h : wf48 x) : CeU x := ⟨fun y hy => wf_u64 (h.2.1.2.2 y hy), fun y hy => wf_u64 (h.2.2.2 y hy)⟩
theorem rowsTurns_pure : dendronlaw09_RowsTurns.Pure := fun a b i c s h h' _ hc hs => (rowsTurns_ev0 awake09_ev a b i c s (fun c hc => ceU (h.2 c hc)) (fun c hc => ceU (h'.2 c hc)) (ceU hc) (wf_u64 hs).1 (wf_u64 hs).2).rounds
end Go.DI.Th

namespace Go.Proofs.YtnmpjinieiopaaaDoor.rowsTurns
open Go.ChangeShapes Go.WideShapes Go.ChangeAt Go.RowKit Go.DI
set_option linter.unusedVariables false
theorem own : ownKnob Tryd.prog.godebug = none := by kernel_rfl
theorem laidOut : laidOutB Tryd.prog = true := by kernel_rfl
theorem gTab : Tryd.prog.globalNamed "math/bits.deBruijn64tab" = some 1 := by kernel_rfl
theorem gTabType : (Tryd.prog.globals[1]?).map (·.type) = some 129 := by kernel_rfl
theorem table {W : World} (h : laidMetH Tryd.prog Rows.rowsTurnsRow.laid W) : Lib.TabIs Tryd.prog W "math/bits.deBruijn64tab" .u8 tab_deBruijn64tab :=
  Lib.tabIs_of_head (rest := []) gTab gTabType Tryd.underlying129 Tryd.underlying5 (by kernel_rfl) (by kernel_rfl) h
theorem tables {W : World} (h : laidMetH Tryd.prog Rows.rowsTurnsRow.laid W) : TabOk W (Fz W) := tabOk_one rfl (by decide) (fun i hi => (table h).cell gTab i hi)
noncomputable def laidWorld (os : Os) : World :=
  { World.holding Tryd.prog os ⟨#[], #[], []⟩ with heap := (World.holding Tryd.prog os ⟨#[], #[], []⟩).heap.modify 1 fun
      | .cells _ t frozen => .cells #[.int .u8 0, .int .u8 1, .int .u8 56, .int .u8 2, .int .u8 57, .int .u8 49, .int .u8 28, .int .u8 3, .int .u8 61, .int .u8 58, .int .u8 42, .int .u8 50, .int .u8 38, .int .u8 29, .int .u8 17, .int .u8 4, .int .u8 62, .int .u8 47, .int .u8 59, .int .u8 36, .int .u8 45, .int .u8 43, .int .u8 51, .int .u8 22, .int .u8 53, .int .u8 39, .int .u8 33, .int .u8 30, .int .u8 24, .int .u8 18, .int .u8 12, .int .u8 5, .int .u8 63, .int .u8 55, .int .u8 48, .int .u8 27, .int .u8 60, .int .u8 41, .int .u8 37, .int .u8 16, .int .u8 46, .int .u8 35, .int .u8 44, .int .u8 21, .int .u8 52, .int .u8 32, .int .u8 23, .int .u8 11, .int .u8 54, .int .u8 26, .int .u8 40, .int .u8 15, .int .u8 34, .int .u8 20, .int .u8 31, .int .u8 10, .int .u8 25, .int .u8 14, .int .u8 19, .int .u8 9, .int .u8 13, .int .u8 8, .int .u8 7, .int .u8 6] t frozen
      | o => o }
theorem laid_met (os : Os) : laidMet Tryd.prog Rows.rowsTurnsRow.laid ((laidWorld os).forCall (fun _ _ => 0) ⟨#[], #[.slice none 0 0, .slice none 0 0, .int .i64 0, .agg #[.bool false, .bool false, .slice none 0 0, .slice none 0 0], .int .u64 0], []⟩).memory :=
  laidMet_of_run' 8 (by kernel_rfl) (by kernel_rfl)
theorem reads (os : Os) {H : Type} (enc : TypeId × Value → H) : ∃ places, DataW.whole enc Tryd.prog ((laidWorld os).forCall (fun _ _ => 0) ⟨#[], #[.slice none 0 0, .slice none 0 0, .int .i64 0, .agg #[.bool false, .bool false, .slice none 0 0, .slice none 0 0], .int .u64 0], []⟩).memory Tryd.f5.params.toList Rows.rowsTurnsSpec.vars false (#[.slice none 0 0, .slice none 0 0, .int .i64 0, .agg #[.bool false, .bool false, .slice none 0 0, .slice none 0 0], .int .u64 0] : Array Value).toList 8 = some ([.nil, .nil, .lit (.int .i64 0), .agg [.lit (.bool false), .agg [.agg [.lit (.bool false), .nil], .nil]], .lit (.int .u64 0)], [], places) :=
  ⟨[], by kernel_rfl⟩
set_option maxRecDepth 100000 in
theorem contract (pure : dendronlaw09_RowsTurns.Pure) (H : Type) (enc : TypeId × Value → H) (W : World) (base : Nat) (args : Array Value) (ds gs : List (DataW H)) (before : List MemPlace)
    (hval : ∀ (j : Nat) t v, Tryd.f5.params[j]? = some t → args[j]? = some v → Value.okWide Tryd.prog W .any base t v)
    (hW : DataW.Whole enc Tryd.prog Tryd.f5.params.toList Rows.rowsTurnsSpec.vars false W args.toList ds gs before) (hL : laidMetH Tryd.prog Rows.rowsTurnsRow.laid W) :
    Calls Tryd.prog 5 args W fun e W' => ∃ v, e = .returned v ∧ Rows.rowsTurnsSpec.post enc Tryd.prog Tryd.f5 false true false false W args v W' := by
  have hW' := hW
  obtain ⟨p, q, hA0, hV, rfl, hfz, hnd⟩ := hW
  have hA : DataW.TrodAll enc Tryd.prog W 0 (fun _ => true) true Tryd.f5.params.toList args.toList ds p := hA0
  rw [Tryd.params5] at hA hval
  obtain ⟨v0, vs0, d0, ds0, p0, q0, hargs, rfl, rfl, h0, r0⟩ := trodAll_cons hA
  obtain ⟨v1, vs1, d1, ds1, p1, q1, rfl, rfl, rfl, h1, r1⟩ := trodAll_cons r0
  obtain ⟨v2, vs2, d2, ds2, p2, q2, rfl, rfl, rfl, h2, r2⟩ := trodAll_cons r1
  obtain ⟨v3, vs3, d3, ds3, p3, q3, rfl, rfl, rfl, h3, r3⟩ := trodAll_cons r2
  obtain ⟨v4, vs4, d4, ds4, p4, q4, rfl, rfl, rfl, h4, r4⟩ := trodAll_cons r3
  obtain ⟨rfl, rfl, rfl⟩ := trodAll_nil r4
  obtain rfl : args = #[v0, v1, v2, v3, v4] := by cases args; simp_all
  obtain ⟨rfl, rfl⟩ := trodVars_none hV
  have lt0 : ∀ x ∈ p0, x.block < W.heap.size := by obtain ⟨m, hm⟩ := h0; exact DataW.trod_lt m _ _ _ hm
  obtain ⟨a0, n0, k0, rfl⟩ := okWide_slice Tryd.underlying22 (hval 0 22 v0 rfl rfl)
  obtain ⟨y0, t0, w0⟩ := opens_cell (c := fun y => L48 y) op22 rfl h0 (fun _ => none) (lookO [])
  have lt1 : ∀ x ∈ p1, x.block < W.heap.size := by obtain ⟨m, hm⟩ := h1; exact DataW.trod_lt m _ _ _ hm
  obtain ⟨a1, n1, k1, rfl⟩ := okWide_slice Tryd.underlying22 (hval 1 22 v1 rfl rfl)
  obtain ⟨y1, t1, w1⟩ := opens_cell (c := fun y => L48 y) op22 rfl h1 (fun _ => none) (lookO [])
  have lt2 : ∀ x ∈ p2, x.block < W.heap.size := by obtain ⟨m, hm⟩ := h2; exact DataW.trod_lt m _ _ _ hm
  obtain ⟨a2, rfl⟩ := okWide_int Tryd.underlying3 (hval 2 3 v2 rfl rfl)
  obtain ⟨y2, t2, w2⟩ := opens_cell (c := fun y => .int .i64 y) op3 rfl h2 (fun _ => none) (lookO [])
  have lt3 : ∀ x ∈ p3, x.block < W.heap.size := by obtain ⟨m, hm⟩ := h3; exact DataW.trod_lt m _ _ _ hm
  obtain ⟨a3, rfl, _⟩ := okWide_struct Tryd.underlying48 (hval 3 48 v3 rfl rfl)
  obtain ⟨y3, t3, w3⟩ := opens_agg op48 h3 (fun _ => none) (lookO [])
  have lt4 : ∀ x ∈ p4, x.block < W.heap.size := by obtain ⟨m, hm⟩ := h4; exact DataW.trod_lt m _ _ _ hm
  obtain ⟨a4, rfl⟩ := okWide_int Tryd.underlying49 (hval 4 49 v4 rfl rfl)
  obtain ⟨y4, t4, w4⟩ := opens_cell (c := fun y => .int .u64 y) op49 rfl h4 (fun _ => none) (lookO [])
  obtain ⟨k, hk⟩ := pure y0 y1 y2 y3 y4 w0 w1 w2 w3 w4
  refine (law_calls (dendronlaw09_RowsTurns.does hk) W (tables hL) _ (tsrel_cons_mk t0 (tsrel_cons_mk t1 (tsrel_cons_mk t2 (tsrel_cons_mk t3 (tsrel_cons_mk t4 tsrel_nil_mk)))))).mono fun e W' ⟨he, bel⟩ => ?_
  subst he
  exact ⟨_, rfl, _, _, _, [], _, [], hW', trodAll_mk1 (shut_bool Tryd.underlying4 _), (trodAll_cons_mk (Below.trod laidOut (by kernel_rfl) (of_decide_eq_true (by kernel_rfl)) h0 bel lt0) (trodAll_cons_mk (Below.trod laidOut (by kernel_rfl) (of_decide_eq_true (by kernel_rfl)) h1 bel lt1) (trodAll_cons_mk (Below.trod laidOut (by kernel_rfl) (of_decide_eq_true (by kernel_rfl)) h2 bel lt2) (trodAll_cons_mk (Below.trod laidOut (by kernel_rfl) (of_decide_eq_true (by kernel_rfl)) h3 bel lt3) (trodAll_cons_mk (Below.trod laidOut (by kernel_rfl) (of_decide_eq_true (by kernel_rfl)) h4 bel lt4) trodAll_mk0))))), rfl, bel.frame _, fun h => by cases h⟩
set_option maxRecDepth 100000 in
theorem lifted (pure : dendronlaw09_RowsTurns.Pure) (os : Os) (started : os.Started) (H : Type) (enc : TypeId × Value → H) (F : Stop.Interp) :
    ReturnsInHanded {} Tryd.checked os 5 .any ((OpenSpec.ofChange Rows.rowsTurnsSpec).preRow enc Tryd.prog Tryd.f5 Rows.rowsTurnsRow.domain false Rows.rowsTurnsRow.laid) (((OpenSpec.ofChange Rows.rowsTurnsSpec).at F).post enc Tryd.prog Tryd.f5 false true false false) := by
  obtain ⟨places, hx⟩ := reads os enc
  refine returnsInHanded_of_row (C := Tryd.checked) (s := OpenSpec.ofChange Rows.rowsTurnsSpec) own started (by kernel_rfl) Tryd.func5
    (witness_row_at (enc := enc) (C := Tryd.checked) false (laidWorld os) #[.slice none 0 0, .slice none 0 0, .int .i64 0, .agg #[.bool false, .bool false, .slice none 0 0, .slice none 0 0], .int .u64 0] rfl (by kernel_rfl) (by kernel_rfl) (by kernel_rfl)
      (OpenSpec.preRow_of_cond 8 hx (by kernel_rfl) (fun k hk => by cases hk) (by kernel_rfl) (laid_met os))) ?_
  intro W base args ds gs before hval hW _ _ _ hL _ _
  exact contract pure H enc W base args ds gs before hval hW hL
theorem said (pure : dendronlaw09_RowsTurns.Pure) : Rows.RowsTurnsSaid :=
  OpenClaim.holds_of_cond 5 Tryd.f5 rfl rfl rfl rfl rfl rfl rfl ⟨rfl, rfl, rfl, rfl, rfl⟩ rfl rfl rfl rfl rfl (by kernel_rfl) Tryd.func5 (by kernel_rfl)
    (of_decide_eq_true (by kernel_rfl)) (by unfold Func.isWrapper; first | (rw [if_pos (by decide +kernel)]; kernel_rfl) | (rw [if_neg (by decide +kernel)]; exact ⟨rfl, rfl⟩))
    (fun os started H enc _ F => by rw [OpenClaim.pre_eq_preRow]; exact lifted pure os started H enc F)
theorem plain (f : FuncId) (fn : Func) (hf : Tryd.pinned.checked.prog.funcNamed "dendron/dendronlaw09.RowsTurns" = some f) (hfn : Tryd.pinned.checked.prog.funcs[f]? = some fn) :
    false = Tryd.pinned.checked.prog.looks [] ∧ ∀ (j : Nat) t, fn.params[j]? = some t → Tryd.pinned.checked.prog.wantsStandIn t = false := by
  obtain rfl : f = 5 := Option.some.inj ((show Tryd.prog.funcNamed "dendron/dendronlaw09.RowsTurns" = some 5 by kernel_rfl).symm.trans hf) |>.symm
  obtain rfl : fn = Tryd.f5 := (Option.some.inj (Tryd.func5.symm.trans hfn)).symm
  refine ⟨by kernel_rfl, fun j t ht => ?_⟩
  rw [Tryd.params5] at ht
  have ht2 := Array.mem_of_getElem? ht
  have hall : ∀ t ∈ (#[22, 22, 3, 48, 49] : Array TypeId), Tryd.prog.wantsStandIn t = false := by
    intro t ht
    simp only [List.mem_toArray, List.mem_cons, List.not_mem_nil, or_false] at ht
    rcases ht with rfl | rfl | rfl | rfl | rfl
    all_goals kernel_rfl
  exact hall t ht2
theorem card (pure : dendronlaw09_RowsTurns.Pure) : Rows.RowsTurnsCardSaid :=
  Claim7.holds_tied_plain_at .later [] _ _ _ _ (said pure) (fun _ h => by cases h) (by kernel_rfl) (fun _ h => by cases h) rowsTurns_row_tie rfl ⟨rfl, rfl⟩ (by kernel_rfl) rfl plain (by kernel_rfl)
end Go.Proofs.YtnmpjinieiopaaaDoor.rowsTurns
namespace Go.Proofs.YtnmpjinieiopaaaDoor
/-- The card. -/
theorem rowsTurns_holds : Rows.RowsTurnsCardSaid := rowsTurns.card Go.DI.Th.rowsTurns_pure
#print axioms rowsTurns_holds
end Go.Proofs.YtnmpjinieiopaaaDoor
