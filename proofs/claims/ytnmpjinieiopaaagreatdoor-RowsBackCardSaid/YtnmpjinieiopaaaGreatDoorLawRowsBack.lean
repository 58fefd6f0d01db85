/- RowsBack answers true, whatever it is given, and what it is given reads as before. No condition. -/
import Derived.Test.YtnmpjinieiopaaaGreatDoorWRowsBack1
import Derived.Test.YtnmpjinieiopaaaGreatDoorTh2
import Derived.Test.YtnmpjinieiopaaaGreatDoorCards
import Derived.Test.YtnmpjinieiopaaaGreatDoorTie
import Derived.WalkKit
import Derived.ProofKit
import Derived.OpenShut
import Derived.Deep.DeepHandedRow
import Derived.Lib.LaidTab
import Derived.Below
import Derived.Carry
import Derived.SizedLaws
set_option linter.all false
namespace Go.DI
open Go Go.RowKit Go.Proofs
set_option linter.unusedVariables false
def wf4 (_ : Bool) : Prop := True
theorem op4 : Opens Tryz.prog 4 c4 wf4 := opens_bool Tryz.underlying4
def wf85 (n : Int) : Prop := (Lit.int .u64 n).wf = true
theorem op85 : Opens Tryz.prog 85 c85 wf85 := opens_int .u64 Tryz.underlying85
def wf37 (l : List Int) : Prop := l.length ≤ 9223372036854775807 ∧ ∀ x ∈ l, wf85 x
theorem op37 : Opens Tryz.prog 37 c37 wf37 := opens_slice (c := c85) 1 0 Tryz.underlying37 (by kernel_rfl) (by decide) op85
def wf39 (x : Bool × List Int) : Prop := wf4 x.1 ∧ wf37 x.2
theorem op39 : Opens Tryz.prog 39 c39 wf39 := opens_map (c := fun (x : (Bool) × (List Int)) => c4 x.1 ++ (c37 x.2)) (wf := fun (x : (Bool) × (List Int)) => wf4 x.1 ∧ wf37 x.2) (fun (x : (Bool) × (List Int)) => (x.1, x.2)) (fun _ => rfl) (fun _ h => h) (opens_struct (n := 1 + (1)) Tryz.underlying39 (by kernel_rfl) (opensF_cons (m := 1) (n := 1) rfl (by kernel_rfl) op4 (opensF_one (n := 1) rfl (by kernel_rfl) op37)))
def wf41 (x : Bool × List Int × List Int) : Prop := wf39 (x.1, x.2.1) ∧ wf37 x.2.2
theorem op41 : Opens Tryz.prog 41 c41 wf41 := opens_map (c := fun (x : (Bool × List Int) × (List Int)) => c39 x.1 ++ (c37 x.2)) (wf := fun (x : (Bool × List Int) × (List Int)) => wf39 x.1 ∧ wf37 x.2) (fun (x : (Bool × List Int) × (List Int)) => (x.1.1, x.1.2, x.2)) (fun _ => rfl) (fun _ h => h) (opens_struct (n := 2 + (1)) Tryz.underlying41 (by kernel_rfl) (opensF_cons (m := 2) (n := 1) rfl (by kernel_rfl) op39 (opensF_one (n := 1) rfl (by kernel_rfl) op37)))
def wf43 (x : Bool × Bool × List Int × List Int) : Prop := wf4 x.1 ∧ wf41 (x.2.1, x.2.2.1, x.2.2.2)
theorem op43 : Opens Tryz.prog 43 c43 wf43 := opens_map (c := fun (x : (Bool) × (Bool × List Int × List Int)) => c4 x.1 ++ (c41 x.2)) (wf := fun (x : (Bool) × (Bool × List Int × List Int)) => wf4 x.1 ∧ wf41 x.2) (fun (x : (Bool) × (Bool × List Int × List Int)) => (x.1, x.2.1, x.2.2.1, x.2.2.2)) (fun _ => rfl) (fun _ h => h) (opens_struct (n := 1 + (3)) Tryz.underlying43 (by kernel_rfl) (opensF_cons (m := 1) (n := 3) rfl (by kernel_rfl) op4 (opensF_one (n := 3) rfl (by kernel_rfl) op41)))
def wf22 (l : List (Bool × Bool × List Int × List Int)) : Prop := l.length ≤ 9223372036854775807 ∧ ∀ x ∈ l, wf43 x
theorem op22 : Opens Tryz.prog 22 c22 wf22 := opens_slice (c := c43) 4 (false, false, [], []) Tryz.underlying22 (by kernel_rfl) (by decide) op43
def wf23 (l : List (List (Bool × Bool × List Int × List Int))) : Prop := l.length ≤ 9223372036854775807 ∧ ∀ x ∈ l, wf22 x
theorem op23 : Opens Tryz.prog 23 c23 wf23 := opens_slice (c := c22) 1 [] Tryz.underlying23 (by kernel_rfl) (by decide) op22
def dendronlaw09_RowsBack.Pure : Prop := ∀ (y0 : List (Bool × Bool × List Int × List Int)) (y1 : List (List (Bool × Bool × List Int × List Int))) (w0 : wf22 y0) (w1 : wf23 y1), ∃ k, dendronlaw09_RowsBack.f k y0 y1 = some true
end Go.DI
namespace Go.DI.Th
open Go Go.RowKit Go.DI
theorem wf_u64 {n : Int} (h : (Lit.int .u64 n).wf = true) : 0 ≤ n ∧ n < 18446744073709551616 := by
  unfold Lit.wf at h
  simp only [Bool.and_eq_true, decide_eq_true_eq] at h
  have h2 : n ≤ 18446744073709551615 := h.2
  exact ⟨h.1, by omega⟩
theorem ceU {x : Ce} (h : wf43 x) : CeU x := ⟨fun y hy => wf_u64 (h.2.1.2.2 y hy), fun y hy => wf_u64 (h.2.2.2 y hy)⟩
theorem rowsBack_pure : dendronlaw09_RowsBack.Pure := fun a b h h' => (rowsBack_ev0 awake09_ev a b (fun c hc => ceU (h.2 c hc)) (fun r hr c hc => ceU ((h'.2 r hr).2 c hc))).rounds
end Go.DI.Th

namespace Go.Proofs.YtnmpjinieiopaaaGreatDoor.rowsBack
open Go.ChangeShapes Go.WideShapes Go.ChangeAt Go.RowKit Go.DI
set_option linter.unusedVariables false
theorem own : ownKnob Tryz.prog.godebug = none := by kernel_rfl
theorem laidOut : laidOutB Tryz.prog = true := by kernel_rfl
theorem gTab : Tryz.prog.globalNamed "math/bits.deBruijn64tab" = some 1 := by kernel_rfl
theorem gTabType : (Tryz.prog.globals[1]?).map (·.type) = some 141 := by kernel_rfl
theorem table {W : World} (h : laidMetH Tryz.prog Rows.rowsBackRow.laid W) : Lib.TabIs Tryz.prog W "math/bits.deBruijn64tab" .u8 tab_deBruijn64tab :=
  Lib.tabIs_of_head (rest := []) gTab gTabType Tryz.underlying141 Tryz.underlying5 (by kernel_rfl) (by kernel_rfl) h
theorem tables {W : World} (h : laidMetH Tryz.prog Rows.rowsBackRow.laid W) : TabOk W (Fz W) := tabOk_one rfl (by decide) (fun i hi => (table h).cell gTab i hi)
noncomputable def laidWorld (os : Os) : World :=
  { World.holding Tryz.prog os ⟨#[], #[], []⟩ with heap := (World.holding Tryz.prog os ⟨#[], #[], []⟩).heap.modify 1 fun
      | .cells _ t frozen => .cells #[.int .u8 0, .int .u8 1, .int .u8 56, .int .u8 2, .int .u8 57, .int .u8 49, .int .u8 28, .int .u8 3, .int .u8 61, .int .u8 58, .int .u8 42, .int .u8 50, .int .u8 38, .int .u8 29, .int .u8 17, .int .u8 4, .int .u8 62, .int .u8 47, .int .u8 59, .int .u8 36, .int .u8 45, .int .u8 43, .int .u8 51, .int .u8 22, .int .u8 53, .int .u8 39, .int .u8 33, .int .u8 30, .int .u8 24, .int .u8 18, .int .u8 12, .int .u8 5, .int .u8 63, .int .u8 55, .int .u8 48, .int .u8 27, .int .u8 60, .int .u8 41, .int .u8 37, .int .u8 16, .int .u8 46, .int .u8 35, .int .u8 44, .int .u8 21, .int .u8 52, .int .u8 32, .int .u8 23, .int .u8 11, .int .u8 54, .int .u8 26, .int .u8 40, .int .u8 15, .int .u8 34, .int .u8 20, .int .u8 31, .int .u8 10, .int .u8 25, .int .u8 14, .int .u8 19, .int .u8 9, .int .u8 13, .int .u8 8, .int .u8 7, .int .u8 6] t frozen
      | o => o }
theorem laid_met (os : Os) : laidMet Tryz.prog Rows.rowsBackRow.laid ((laidWorld os).forCall (fun _ _ => 0) ⟨#[], #[.slice none 0 0, .slice none 0 0], []⟩).memory :=
  laidMet_of_run' 8 (by kernel_rfl) (by kernel_rfl)
theorem reads (os : Os) {H : Type} (enc : TypeId × Value → H) : ∃ places, DataW.whole enc Tryz.prog ((laidWorld os).forCall (fun _ _ => 0) ⟨#[], #[.slice none 0 0, .slice none 0 0], []⟩).memory Tryz.f3.params.toList Rows.rowsBackSpec.vars false (#[.slice none 0 0, .slice none 0 0] : Array Value).toList 8 = some ([.nil, .nil], [], places) :=
  ⟨[], by kernel_rfl⟩
set_option maxRecDepth 100000 in
theorem contract (pure : dendronlaw09_RowsBack.Pure) (H : Type) (enc : TypeId × Value → H) (W : World) (base : Nat) (args : Array Value) (ds gs : List (DataW H)) (before : List MemPlace)
    (hval : ∀ (j : Nat) t v, Tryz.f3.params[j]? = some t → args[j]? = some v → Value.okWide Tryz.prog W .any base t v)
    (hW : DataW.Whole enc Tryz.prog Tryz.f3.params.toList Rows.rowsBackSpec.vars false W args.toList ds gs before) (hL : laidMetH Tryz.prog Rows.rowsBackRow.laid W) :
    Calls Tryz.prog 3 args W fun e W' => ∃ v, e = .returned v ∧ Rows.rowsBackSpec.post enc Tryz.prog Tryz.f3 false true false false W args v W' := by
  have hW' := hW
  obtain ⟨p, q, hA0, hV, rfl, hfz, hnd⟩ := hW
  have hA : DataW.TrodAll enc Tryz.prog W 0 (fun _ => true) true Tryz.f3.params.toList args.toList ds p := hA0
  rw [Tryz.params3] at hA hval
  obtain ⟨v0, vs0, d0, ds0, p0, q0, hargs, rfl, rfl, h0, r0⟩ := trodAll_cons hA
  obtain ⟨v1, vs1, d1, ds1, p1, q1, rfl, rfl, rfl, h1, r1⟩ := trodAll_cons r0
  obtain ⟨rfl, rfl, rfl⟩ := trodAll_nil r1
  obtain rfl : args = #[v0, v1] := by cases args; simp_all
  obtain ⟨rfl, rfl⟩ := trodVars_none hV
  have lt0 : ∀ x ∈ p0, x.block < W.heap.size := by obtain ⟨m, hm⟩ := h0; exact DataW.trod_lt m _ _ _ hm
  obtain ⟨a0, n0, k0, rfl⟩ := okWide_slice Tryz.underlying22 (hval 0 22 v0 rfl rfl)
  obtain ⟨y0, t0, w0⟩ := opens_cell (c := fun y => L43 y) op22 rfl h0 (fun _ => none) (lookO [])
  have lt1 : ∀ x ∈ p1, x.block < W.heap.size := by obtain ⟨m, hm⟩ := h1; exact DataW.trod_lt m _ _ _ hm
  obtain ⟨a1, n1, k1, rfl⟩ := okWide_slice Tryz.underlying23 (hval 1 23 v1 rfl rfl)
  obtain ⟨y1, t1, w1⟩ := opens_cell (c := fun y => L22 y) op23 rfl h1 (fun _ => none) (lookO [])
  obtain ⟨k, hk⟩ := pure y0 y1 w0 w1
  refine (law_calls (dendronlaw09_RowsBack.does hk) W (tables hL) _ (tsrel_cons_mk t0 (tsrel_cons_mk t1 tsrel_nil_mk))).mono fun e W' ⟨he, bel⟩ => ?_
  subst he
  exact ⟨_, rfl, _, _, _, [], _, [], hW', trodAll_mk1 (shut_bool Tryz.underlying4 _), (trodAll_cons_mk (Below.trod laidOut (by kernel_rfl) (of_decide_eq_true (by kernel_rfl)) h0 bel lt0) (trodAll_cons_mk (Below.trod laidOut (by kernel_rfl) (of_decide_eq_true (by kernel_rfl)) h1 bel lt1) trodAll_mk0)), rfl, bel.frame _, fun h => by cases h⟩
set_option maxRecDepth 100000 in
theorem lifted (pure : dendronlaw09_RowsBack.Pure) (os : Os) (started : os.Started) (H : Type) (enc : TypeId × Value → H) (F : Stop.Interp) :
    ReturnsInHanded {} Tryz.checked os 3 .any ((OpenSpec.ofChange Rows.rowsBackSpec).preRow enc Tryz.prog Tryz.f3 Rows.rowsBackRow.domain false Rows.rowsBackRow.laid) (((OpenSpec.ofChange Rows.rowsBackSpec).at F).post enc Tryz.prog Tryz.f3 false true false false) := by
  obtain ⟨places, hx⟩ := reads os enc
  refine returnsInHanded_of_row (C := Tryz.checked) (s := OpenSpec.ofChange Rows.rowsBackSpec) own started (by kernel_rfl) Tryz.func3
    (witness_row_at (enc := enc) (C := Tryz.checked) false (laidWorld os) #[.slice none 0 0, .slice none 0 0] rfl (by kernel_rfl) (by kernel_rfl) (by kernel_rfl)
      (OpenSpec.preRow_of_cond 8 hx (by kernel_rfl) (fun k hk => by cases hk) (by kernel_rfl) (laid_met os))) ?_
  intro W base args ds gs before hval hW _ _ _ hL _ _
  exact contract pure H enc W base args ds gs before hval hW hL
theorem said (pure : dendronlaw09_RowsBack.Pure) : Rows.RowsBackSaid :=
  OpenClaim.holds_of_cond 3 Tryz.f3 rfl rfl rfl rfl rfl rfl rfl ⟨rfl, rfl, rfl, rfl, rfl⟩ rfl rfl rfl rfl rfl (by kernel_rfl) Tryz.func3 (by kernel_rfl)
    (of_decide_eq_true (by kernel_rfl)) (by unfold Func.isWrapper; first | (rw [if_pos (by decide +kernel)]; kernel_rfl) | (rw [if_neg (by decide +kernel)]; exact ⟨rfl, rfl⟩))
    (fun os started H enc _ F => by rw [OpenClaim.pre_eq_preRow]; exact lifted pure os started H enc F)
theorem plain (f : FuncId) (fn : Func) (hf : Tryz.pinned.checked.prog.funcNamed "dendron/dendronlaw09.RowsBack" = some f) (hfn : Tryz.pinned.checked.prog.funcs[f]? = some fn) :
    false = Tryz.pinned.checked.prog.looks [] ∧ ∀ (j : Nat) t, fn.params[j]? = some t → Tryz.pinned.checked.prog.wantsStandIn t = false := by
  obtain rfl : f = 3 := Option.some.inj ((show Tryz.prog.funcNamed "dendron/dendronlaw09.RowsBack" = some 3 by kernel_rfl).symm.trans hf) |>.symm
  obtain rfl : fn = Tryz.f3 := (Option.some.inj (Tryz.func3.symm.trans hfn)).symm
  refine ⟨by kernel_rfl, fun j t ht => ?_⟩
  rw [Tryz.params3] at ht
  have ht2 := Array.mem_of_getElem? ht
  have hall : ∀ t ∈ (#[22, 23] : Array TypeId), Tryz.prog.wantsStandIn t = false := by
    intro t ht
    simp only [List.mem_toArray, List.mem_cons, List.not_mem_nil, or_false] at ht
    rcases ht with rfl | rfl
    all_goals kernel_rfl
  exact hall t ht2
theorem card (pure : dendronlaw09_RowsBack.Pure) : Rows.RowsBackCardSaid :=
  Claim7.holds_tied_plain_at .later [] _ _ _ _ (said pure) (fun _ h => by cases h) (by kernel_rfl) (fun _ h => by cases h) rowsBack_row_tie rfl ⟨rfl, rfl⟩ (by kernel_rfl) rfl plain (by kernel_rfl)
end Go.Proofs.YtnmpjinieiopaaaGreatDoor.rowsBack
namespace Go.Proofs.YtnmpjinieiopaaaGreatDoor
/-- The card. -/
theorem rowsBack_holds : Rows.RowsBackCardSaid := rowsBack.card Go.DI.Th.rowsBack_pure
#print axioms rowsBack_holds
end Go.Proofs.YtnmpjinieiopaaaGreatDoor
