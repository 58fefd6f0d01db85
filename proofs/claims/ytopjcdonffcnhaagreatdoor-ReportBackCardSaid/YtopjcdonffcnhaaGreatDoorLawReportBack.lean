/- ReportBack answers true, whatever it is given, and what it is given reads as before. No condition. -/
import Derived.Test.YtopjcdonffcnhaaGreatDoorWReportBack2
import Derived.Test.YtopjcdonffcnhaaGreatDoorTh2
import Derived.Test.YtopjcdonffcnhaaGreatDoorCards
import Derived.Test.YtopjcdonffcnhaaGreatDoorTie
import Derived.WalkKit
import Derived.ProofKit
import Derived.OpenShut
import Derived.Deep.DeepHandedRow
import Derived.Lib.LaidTab
import Derived.Below
import Derived.Carry
import Derived.SizedLaws
set_option linter.all false
namespace Go.DI
open Go Go.RowKit Go.Proofs
set_option linter.unusedVariables false
def wf3 (n : Int) : Prop := (Lit.int .i64 n).wf = true
theorem op3 : Opens Tryz.prog 3 c3 wf3 := opens_int .i64 Tryz.underlying3
def wf23 (n : Int) : Prop := (Lit.int .i64 n).wf = true
theorem op23 : Opens Tryz.prog 23 c23 wf23 := opens_int .i64 Tryz.underlying23
def wf4 (_ : Bool) : Prop := True
theorem op4 : Opens Tryz.prog 4 c4 wf4 := opens_bool Tryz.underlying4
def wf77 (n : Int) : Prop := (Lit.int .u64 n).wf = true
theorem op77 : Opens Tryz.prog 77 c77 wf77 := opens_int .u64 Tryz.underlying77
def wf38 (l : List Int) : Prop := l.length ≤ 9223372036854775807 ∧ ∀ x ∈ l, wf77 x
theorem op38 : Opens Tryz.prog 38 c38 wf38 := opens_slice (c := c77) 1 0 Tryz.underlying38 (by kernel_rfl) (by decide) op77
def wf40 (x : Bool × List Int) : Prop := wf4 x.1 ∧ wf38 x.2
theorem op40 : Opens Tryz.prog 40 c40 wf40 := opens_map (c := fun (x : (Bool) × (List Int)) => c4 x.1 ++ (c38 x.2)) (wf := fun (x : (Bool) × (List Int)) => wf4 x.1 ∧ wf38 x.2) (fun (x : (Bool) × (List Int)) => (x.1, x.2)) (fun _ => rfl) (fun _ h => h) (opens_struct (n := 1 + (1)) Tryz.underlying40 (by kernel_rfl) (opensF_cons (m := 1) (n := 1) rfl (by kernel_rfl) op4 (opensF_one (n := 1) rfl (by kernel_rfl) op38)))
def wf42 (x : Bool × List Int × List Int) : Prop := wf40 (x.1, x.2.1) ∧ wf38 x.2.2
theorem op42 : Opens Tryz.prog 42 c42 wf42 := opens_map (c := fun (x : (Bool × List Int) × (List Int)) => c40 x.1 ++ (c38 x.2)) (wf := fun (x : (Bool × List Int) × (List Int)) => wf40 x.1 ∧ wf38 x.2) (fun (x : (Bool × List Int) × (List Int)) => (x.1.1, x.1.2, x.2)) (fun _ => rfl) (fun _ h => h) (opens_struct (n := 2 + (1)) Tryz.underlying42 (by kernel_rfl) (opensF_cons (m := 2) (n := 1) rfl (by kernel_rfl) op40 (opensF_one (n := 1) rfl (by kernel_rfl) op38)))
def wf35 (l : List (Bool × List Int × List Int)) : Prop := l.length ≤ 9223372036854775807 ∧ ∀ x ∈ l, wf42 x
theorem op35 : Opens Tryz.prog 35 c35 wf35 := opens_slice (c := c42) 3 (false, [], []) Tryz.underlying35 (by kernel_rfl) (by decide) op42
def wf32 (l : List (List (Bool × List Int × List Int))) : Prop := l.length ≤ 9223372036854775807 ∧ ∀ x ∈ l, wf35 x
theorem op32 : Opens Tryz.prog 32 c32 wf32 := opens_slice (c := c35) 1 [] Tryz.underlying32 (by kernel_rfl) (by decide) op35
def wf34 (x : Int × Int × Int × List (List (Bool × List Int × List Int))) : Prop := wf3 x.1 ∧ wf3 x.2.1 ∧ wf23 x.2.2.1 ∧ wf32 x.2.2.2
theorem op34 : Opens Tryz.prog 34 c34 wf34 := opens_map (c := fun (x : (Int) × (Int) × (Int) × (List (List (Bool × List Int × List Int)))) => c3 x.1 ++ (c3 x.2.1 ++ (c23 x.2.2.1 ++ (c32 x.2.2.2)))) (wf := fun (x : (Int) × (Int) × (Int) × (List (List (Bool × List Int × List Int)))) => wf3 x.1 ∧ wf3 x.2.1 ∧ wf23 x.2.2.1 ∧ wf32 x.2.2.2) (fun (x : (Int) × (Int) × (Int) × (List (List (Bool × List Int × List Int)))) => (x.1, x.2.1, x.2.2.1, x.2.2.2)) (fun _ => rfl) (fun _ h => h) (opens_struct (n := 1 + (1 + (1 + (1)))) Tryz.underlying34 (by kernel_rfl) (opensF_cons (m := 1) (n := 1 + (1 + (1))) rfl (by kernel_rfl) op3 (opensF_cons (m := 1) (n := 1 + (1)) rfl (by kernel_rfl) op3 (opensF_cons (m := 1) (n := 1) rfl (by kernel_rfl) op23 (opensF_one (n := 1) rfl (by kernel_rfl) op32)))))
def wf22 (l : List (Int × Int × Int × List (List (Bool × List Int × List Int)))) : Prop := l.length ≤ 9223372036854775807 ∧ ∀ x ∈ l, wf34 x
theorem op22 : Opens Tryz.prog 22 c22 wf22 := opens_slice (c := c34) 4 (0, 0, 0, []) Tryz.underlying22 (by kernel_rfl) (by decide) op34
def dendronlaw29_ReportBack.Pure : Prop := ∀ (y0 : List (Int × Int × Int × List (List (Bool × List Int × List Int)))) (w0 : wf22 y0), ∃ k, dendronlaw29_ReportBack.f k y0 = some true
end Go.DI
namespace Go.DI.Th
open Go Go.RowKit Go.DI
theorem wf_i64 {n : Int} (h : (Lit.int .i64 n).wf = true) : I64 n := by
  unfold Lit.wf at h
  simp only [Bool.and_eq_true, decide_eq_true_eq] at h
  exact h
theorem wf_u64 {n : Int} (h : (Lit.int .u64 n).wf = true) : 0 ≤ n ∧ n < 18446744073709551616 := by
  unfold Lit.wf at h
  simp only [Bool.and_eq_true, decide_eq_true_eq] at h
  have h2 : n ≤ 18446744073709551615 := h.2
  exact ⟨h.1, by omega⟩
theorem enW {x : En} (h : wf34 x) : EnW x :=
  ⟨wf_i64 h.1, wf_i64 h.2.1, wf_i64 h.2.2.1, fun r hr v hv => ⟨fun y hy => wf_u64 (((h.2.2.2.2 r hr).2 v hv).1.2.2 y hy), fun y hy => wf_u64 (((h.2.2.2.2 r hr).2 v hv).2.2 y hy)⟩⟩
theorem reportBack_pure : dendronlaw29_ReportBack.Pure := fun l h => (reportBack_ev l fun x hx => enW (h.2 x hx)).rounds
end Go.DI.Th

namespace Go.Proofs.YtopjcdonffcnhaaGreatDoor.reportBack
open Go.ChangeShapes Go.WideShapes Go.ChangeAt Go.RowKit Go.DI
set_option linter.unusedVariables false
theorem own : ownKnob Tryz.prog.godebug = none := by kernel_rfl
theorem laidOut : laidOutB Tryz.prog = true := by kernel_rfl
theorem gTab : Tryz.prog.globalNamed "math/bits.deBruijn64tab" = some 0 := by kernel_rfl
theorem gTabType : (Tryz.prog.globals[0]?).map (·.type) = some 164 := by kernel_rfl
theorem table {W : World} (h : laidMetH Tryz.prog Rows.reportBackRow.laid W) : Lib.TabIs Tryz.prog W "math/bits.deBruijn64tab" .u8 tab_deBruijn64tab :=
  Lib.tabIs_of_head (rest := []) gTab gTabType Tryz.underlying164 Tryz.underlying5 (by kernel_rfl) (by kernel_rfl) h
theorem tables {W : World} (h : laidMetH Tryz.prog Rows.reportBackRow.laid W) : TabOk W (Fz W) := tabOk_one rfl (by decide) (fun i hi => (table h).cell gTab i hi)
noncomputable def laidWorld (os : Os) : World :=
  { World.holding Tryz.prog os ⟨#[], #[], []⟩ with heap := (World.holding Tryz.prog os ⟨#[], #[], []⟩).heap.modify 0 fun
      | .cells _ t frozen => .cells #[.int .u8 0, .int .u8 1, .int .u8 56, .int .u8 2, .int .u8 57, .int .u8 49, .int .u8 28, .int .u8 3, .int .u8 61, .int .u8 58, .int .u8 42, .int .u8 50, .int .u8 38, .int .u8 29, .int .u8 17, .int .u8 4, .int .u8 62, .int .u8 47, .int .u8 59, .int .u8 36, .int .u8 45, .int .u8 43, .int .u8 51, .int .u8 22, .int .u8 53, .int .u8 39, .int .u8 33, .int .u8 30, .int .u8 24, .int .u8 18, .int .u8 12, .int .u8 5, .int .u8 63, .int .u8 55, .int .u8 48, .int .u8 27, .int .u8 60, .int .u8 41, .int .u8 37, .int .u8 16, .int .u8 46, .int .u8 35, .int .u8 44, .int .u8 21, .int .u8 52, .int .u8 32, .int .u8 23, .int .u8 11, .int .u8 54, .int .u8 26, .int .u8 40, .int .u8 15, .int .u8 34, .int .u8 20, .int .u8 31, .int .u8 10, .int .u8 25, .int .u8 14, .int .u8 19, .int .u8 9, .int .u8 13, .int .u8 8, .int .u8 7, .int .u8 6] t frozen
      | o => o }
theorem laid_met (os : Os) : laidMet Tryz.prog Rows.reportBackRow.laid ((laidWorld os).forCall (fun _ _ => 0) ⟨#[], #[.slice none 0 0], []⟩).memory :=
  laidMet_of_run' 8 (by kernel_rfl) (by kernel_rfl)
theorem reads (os : Os) {H : Type} (enc : TypeId × Value → H) : ∃ places, DataW.whole enc Tryz.prog ((laidWorld os).forCall (fun _ _ => 0) ⟨#[], #[.slice none 0 0], []⟩).memory Tryz.f5.params.toList Rows.reportBackSpec.vars false (#[.slice none 0 0] : Array Value).toList 8 = some ([.nil], [], places) :=
  ⟨[], by kernel_rfl⟩
set_option maxRecDepth 100000 in
theorem contract (pure : dendronlaw29_ReportBack.Pure) (H : Type) (enc : TypeId × Value → H) (W : World) (base : Nat) (args : Array Value) (ds gs : List (DataW H)) (before : List MemPlace)
    (hval : ∀ (j : Nat) t v, Tryz.f5.params[j]? = some t → args[j]? = some v → Value.okWide Tryz.prog W .any base t v)
    (hW : DataW.Whole enc Tryz.prog Tryz.f5.params.toList Rows.reportBackSpec.vars false W args.toList ds gs before) (hL : laidMetH Tryz.prog Rows.reportBackRow.laid W) :
    Calls Tryz.prog 5 args W fun e W' => ∃ v, e = .returned v ∧ Rows.reportBackSpec.post enc Tryz.prog Tryz.f5 false true false false W args v W' := by
  have hW' := hW
  obtain ⟨p, q, hA0, hV, rfl, hfz, hnd⟩ := hW
  have hA : DataW.TrodAll enc Tryz.prog W 0 (fun _ => true) true Tryz.f5.params.toList args.toList ds p := hA0
  rw [Tryz.params5] at hA hval
  obtain ⟨v0, vs0, d0, ds0, p0, q0, hargs, rfl, rfl, h0, r0⟩ := trodAll_cons hA
  obtain ⟨rfl, rfl, rfl⟩ := trodAll_nil r0
  obtain rfl : args = #[v0] := by cases args; simp_all
  obtain ⟨rfl, rfl⟩ := trodVars_none hV
  have lt0 : ∀ x ∈ p0, x.block < W.heap.size := by obtain ⟨m, hm⟩ := h0; exact DataW.trod_lt m _ _ _ hm
  obtain ⟨a0, n0, k0, rfl⟩ := okWide_slice Tryz.underlying22 (hval 0 22 v0 rfl rfl)
  obtain ⟨y0, t0, w0⟩ := opens_cell (c := fun y => L34 y) op22 rfl h0 (fun _ => none) (lookO [])
  obtain ⟨k, hk⟩ := pure y0 w0
  refine (law_calls (dendronlaw29_ReportBack.does hk) W (tables hL) _ (tsrel_cons_mk t0 tsrel_nil_mk)).mono fun e W' ⟨he, bel⟩ => ?_
  subst he
  exact ⟨_, rfl, _, _, _, [], _, [], hW', trodAll_mk1 (shut_bool Tryz.underlying4 _), (trodAll_cons_mk (Below.trod laidOut (by kernel_rfl) (of_decide_eq_true (by kernel_rfl)) h0 bel lt0) trodAll_mk0), rfl, bel.frame _, fun h => by cases h⟩
set_option maxRecDepth 100000 in
theorem lifted (pure : dendronlaw29_ReportBack.Pure) (os : Os) (started : os.Started) (H : Type) (enc : TypeId × Value → H) (F : Stop.Interp) :
    ReturnsInHanded {} Tryz.checked os 5 .any ((OpenSpec.ofChange Rows.reportBackSpec).preRow enc Tryz.prog Tryz.f5 Rows.reportBackRow.domain false Rows.reportBackRow.laid) (((OpenSpec.ofChange Rows.reportBackSpec).at F).post enc Tryz.prog Tryz.f5 false true false false) := by
  obtain ⟨places, hx⟩ := reads os enc
  refine returnsInHanded_of_row (C := Tryz.checked) (s := OpenSpec.ofChange Rows.reportBackSpec) own started (by kernel_rfl) Tryz.func5
    (witness_row_at (enc := enc) (C := Tryz.checked) false (laidWorld os) #[.slice none 0 0] rfl (by kernel_rfl) (by kernel_rfl) (by kernel_rfl)
      (OpenSpec.preRow_of_cond 8 hx (by kernel_rfl) (fun k hk => by cases hk) (by kernel_rfl) (laid_met os))) ?_
  intro W base args ds gs before hval hW _ _ _ hL _ _
  exact contract pure H enc W base args ds gs before hval hW hL
theorem said (pure : dendronlaw29_ReportBack.Pure) : Rows.ReportBackSaid :=
  OpenClaim.holds_of_cond 5 Tryz.f5 rfl rfl rfl rfl rfl rfl rfl ⟨rfl, rfl, rfl, rfl, rfl⟩ rfl rfl rfl rfl rfl (by kernel_rfl) Tryz.func5 (by kernel_rfl)
    (of_decide_eq_true (by kernel_rfl)) (by unfold Func.isWrapper; first | (rw [if_pos (by decide +kernel)]; kernel_rfl) | (rw [if_neg (by decide +kernel)]; exact ⟨rfl, rfl⟩))
    (fun os started H enc _ F => by rw [OpenClaim.pre_eq_preRow]; exact lifted pure os started H enc F)
theorem plain (f : FuncId) (fn : Func) (hf : Tryz.pinned.checked.prog.funcNamed "dendron/dendronlaw29.ReportBack" = some f) (hfn : Tryz.pinned.checked.prog.funcs[f]? = some fn) :
    true = Tryz.pinned.checked.prog.looks [] ∧ ∀ (j : Nat) t, fn.params[j]? = some t → Tryz.pinned.checked.prog.wantsStandIn t = false := by
  obtain rfl : f = 5 := Option.some.inj ((show Tryz.prog.funcNamed "dendron/dendronlaw29.ReportBack" = some 5 by kernel_rfl).symm.trans hf) |>.symm
  obtain rfl : fn = Tryz.f5 := (Option.some.inj (Tryz.func5.symm.trans hfn)).symm
  refine ⟨by kernel_rfl, fun j t ht => ?_⟩
  rw [Tryz.params5] at ht
  have ht2 := Array.mem_of_getElem? ht
  have hall : ∀ t ∈ (#[22] : Array TypeId), Tryz.prog.wantsStandIn t = false := by
    intro t ht
    simp only [List.mem_toArray, List.mem_cons, List.not_mem_nil, or_false] at ht
    rcases ht with rfl
    all_goals kernel_rfl
  exact hall t ht2
theorem card (pure : dendronlaw29_ReportBack.Pure) : Rows.ReportBackCardSaid :=
  Claim7.holds_tied_plain_at .later [] _ _ _ _ (said pure) (fun _ h => by cases h) (by kernel_rfl) (fun _ h => by cases h) reportBack_row_tie rfl ⟨rfl, rfl⟩ (by kernel_rfl) rfl plain (by kernel_rfl)
end Go.Proofs.YtopjcdonffcnhaaGreatDoor.reportBack
namespace Go.Proofs.YtopjcdonffcnhaaGreatDoor
/-- The card. -/
theorem reportBack_holds : Rows.ReportBackCardSaid := reportBack.card Go.DI.Th.reportBack_pure
#print axioms reportBack_holds
end Go.Proofs.YtopjcdonffcnhaaGreatDoor
