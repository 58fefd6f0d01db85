/- ValidUsed answers true, whatever it is given, and what it is given reads as before. No condition. -/
import Derived.Test.YtajagmmjkmmchaaDoorWValidUsed1
import Derived.Test.YtajagmmjkmmchaaDoorTh1
import Derived.Test.YtajagmmjkmmchaaDoorCards
import Derived.Test.YtajagmmjkmmchaaDoorTie
import Derived.WalkKit
import Derived.ProofKit
import Derived.OpenShut
import Derived.Deep.DeepHandedRow
import Derived.Lib.LaidTab
import Derived.Below
import Derived.Carry
import Derived.SizedLaws
set_option linter.all false
namespace Go.DI
open Go Go.RowKit Go.Proofs
set_option linter.unusedVariables false
def wf3 (n : Int) : Prop := (Lit.int .i64 n).wf = true
theorem op3 : Opens Tryd.prog 3 c3 wf3 := opens_int .i64 Tryd.underlying3
def wf4 (_ : Bool) : Prop := True
theorem op4 : Opens Tryd.prog 4 c4 wf4 := opens_bool Tryd.underlying4
def wf59 (n : Int) : Prop := (Lit.int .u64 n).wf = true
theorem op59 : Opens Tryd.prog 59 c59 wf59 := opens_int .u64 Tryd.underlying59
def wf37 (l : List Int) : Prop := l.length ≤ 9223372036854775807 ∧ ∀ x ∈ l, wf59 x
theorem op37 : Opens Tryd.prog 37 c37 wf37 := opens_slice (c := c59) 1 0 Tryd.underlying37 (by kernel_rfl) (by decide) op59
def wf39 (x : Bool × List Int) : Prop := wf4 x.1 ∧ wf37 x.2
theorem op39 : Opens Tryd.prog 39 c39 wf39 := opens_map (c := fun (x : (Bool) × (List Int)) => c4 x.1 ++ (c37 x.2)) (wf := fun (x : (Bool) × (List Int)) => wf4 x.1 ∧ wf37 x.2) (fun (x : (Bool) × (List Int)) => (x.1, x.2)) (fun _ => rfl) (fun _ h => h) (opens_struct (n := 1 + (1)) Tryd.underlying39 (by kernel_rfl) (opensF_cons (m := 1) (n := 1) rfl (by kernel_rfl) op4 (opensF_one (n := 1) rfl (by kernel_rfl) op37)))
def wf41 (x : Bool × List Int × List Int) : Prop := wf39 (x.1, x.2.1) ∧ wf37 x.2.2
theorem op41 : Opens Tryd.prog 41 c41 wf41 := opens_map (c := fun (x : (Bool × List Int) × (List Int)) => c39 x.1 ++ (c37 x.2)) (wf := fun (x : (Bool × List Int) × (List Int)) => wf39 x.1 ∧ wf37 x.2) (fun (x : (Bool × List Int) × (List Int)) => (x.1.1, x.1.2, x.2)) (fun _ => rfl) (fun _ h => h) (opens_struct (n := 2 + (1)) Tryd.underlying41 (by kernel_rfl) (opensF_cons (m := 2) (n := 1) rfl (by kernel_rfl) op39 (opensF_one (n := 1) rfl (by kernel_rfl) op37)))
def wf43 (x : Bool × Int × Bool × List Int × List Int × Int × Int × Bool × Bool × List Int × List Int × Bool × List Int × List Int) : Prop := wf4 x.1 ∧ wf3 x.2.1 ∧ wf41 (x.2.2.1, x.2.2.2.1, x.2.2.2.2.1) ∧ wf3 x.2.2.2.2.2.1 ∧ wf3 x.2.2.2.2.2.2.1 ∧ wf4 x.2.2.2.2.2.2.2.1 ∧ wf41 (x.2.2.2.2.2.2.2.2.1, x.2.2.2.2.2.2.2.2.2.1, x.2.2.2.2.2.2.2.2.2.2.1) ∧ wf41 (x.2.2.2.2.2.2.2.2.2.2.2.1, x.2.2.2.2.2.2.2.2.2.2.2.2.1, x.2.2.2.2.2.2.2.2.2.2.2.2.2)
theorem op43 : Opens Tryd.prog 43 c43 wf43 := opens_map (c := fun (x : (Bool) × (Int) × (Bool × List Int × List Int) × (Int) × (Int) × (Bool) × (Bool × List Int × List Int) × (Bool × List Int × List Int)) => c4 x.1 ++ (c3 x.2.1 ++ (c41 x.2.2.1 ++ (c3 x.2.2.2.1 ++ (c3 x.2.2.2.2.1 ++ (c4 x.2.2.2.2.2.1 ++ (c41 x.2.2.2.2.2.2.1 ++ (c41 x.2.2.2.2.2.2.2)))))))) (wf := fun (x : (Bool) × (Int) × (Bool × List Int × List Int) × (Int) × (Int) × (Bool) × (Bool × List Int × List Int) × (Bool × List Int × List Int)) => wf4 x.1 ∧ wf3 x.2.1 ∧ wf41 x.2.2.1 ∧ wf3 x.2.2.2.1 ∧ wf3 x.2.2.2.2.1 ∧ wf4 x.2.2.2.2.2.1 ∧ wf41 x.2.2.2.2.2.2.1 ∧ wf41 x.2.2.2.2.2.2.2) (fun (x : (Bool) × (Int) × (Bool × List Int × List Int) × (Int) × (Int) × (Bool) × (Bool × List Int × List Int) × (Bool × List Int × List Int)) => (x.1, x.2.1, x.2.2.1.1, x.2.2.1.2.1, x.2.2.1.2.2, x.2.2.2.1, x.2.2.2.2.1, x.2.2.2.2.2.1, x.2.2.2.2.2.2.1.1, x.2.2.2.2.2.2.1.2.1, x.2.2.2.2.2.2.1.2.2, x.2.2.2.2.2.2.2.1, x.2.2.2.2.2.2.2.2.1, x.2.2.2.2.2.2.2.2.2)) (fun _ => rfl) (fun _ h => h) (opens_struct (n := 1 + (1 + (3 + (1 + (1 + (1 + (3 + (3)))))))) Tryd.underlying43 (by kernel_rfl) (opensF_cons (m := 1) (n := 1 + (3 + (1 + (1 + (1 + (3 + (3))))))) rfl (by kernel_rfl) op4 (opensF_cons (m := 1) (n := 3 + (1 + (1 + (1 + (3 + (3)))))) rfl (by kernel_rfl) op3 (opensF_cons (m := 3) (n := 1 + (1 + (1 + (3 + (3))))) rfl (by kernel_rfl) op41 (opensF_cons (m := 1) (n := 1 + (1 + (3 + (3)))) rfl (by kernel_rfl) op3 (opensF_cons (m := 1) (n := 1 + (3 + (3))) rfl (by kernel_rfl) op3 (opensF_cons (m := 1) (n := 3 + (3)) rfl (by kernel_rfl) op4 (opensF_cons (m := 3) (n := 3) rfl (by kernel_rfl) op41 (opensF_one (n := 3) rfl (by kernel_rfl) op41)))))))))
def wf32 (l : List (Bool × Int × Bool × List Int × List Int × Int × Int × Bool × Bool × List Int × List Int × Bool × List Int × List Int)) : Prop := l.length ≤ 9223372036854775807 ∧ ∀ x ∈ l, wf43 x
theorem op32 : Opens Tryd.prog 32 c32 wf32 := opens_slice (c := c43) 14 (false, 0, false, [], [], 0, 0, false, false, [], [], false, [], []) Tryd.underlying32 (by kernel_rfl) (by decide) op43
def wf22 (l : List (List (Bool × Int × Bool × List Int × List Int × Int × Int × Bool × Bool × List Int × List Int × Bool × List Int × List Int))) : Prop := l.length ≤ 9223372036854775807 ∧ ∀ x ∈ l, wf32 x
theorem op22 : Opens Tryd.prog 22 c22 wf22 := opens_slice (c := c32) 1 [] Tryd.underlying22 (by kernel_rfl) (by decide) op32
def wf24 (x : Int × List (List (Bool × Int × Bool × List Int × List Int × Int × Int × Bool × Bool × List Int × List Int × Bool × List Int × List Int))) : Prop := wf3 x.1 ∧ wf22 x.2
theorem op24 : Opens Tryd.prog 24 c24 wf24 := opens_map (c := fun (x : (Int) × (List (List (Bool × Int × Bool × List Int × List Int × Int × Int × Bool × Bool × List Int × List Int × Bool × List Int × List Int)))) => c3 x.1 ++ (c22 x.2)) (wf := fun (x : (Int) × (List (List (Bool × Int × Bool × List Int × List Int × Int × Int × Bool × Bool × List Int × List Int × Bool × List Int × List Int)))) => wf3 x.1 ∧ wf22 x.2) (fun (x : (Int) × (List (List (Bool × Int × Bool × List Int × List Int × Int × Int × Bool × Bool × List Int × List Int × Bool × List Int × List Int)))) => (x.1, x.2)) (fun _ => rfl) (fun _ h => h) (opens_struct (n := 1 + (1)) Tryd.underlying24 (by kernel_rfl) (opensF_cons (m := 1) (n := 1) rfl (by kernel_rfl) op3 (opensF_one (n := 1) rfl (by kernel_rfl) op22)))
def dendronlaw08_ValidUsed.Pure : Prop := ∀ (y0 : Int × List (List (Bool × Int × Bool × List Int × List Int × Int × Int × Bool × Bool × List Int × List Int × Bool × List Int × List Int))) (w0 : wf24 y0), ∃ k, dendronlaw08_ValidUsed.f k y0.1 y0.2 = some true
end Go.DI
namespace Go.DI.Th
open Go Go.RowKit Go.DI
theorem wf_u64 {n : Int} (h : (Lit.int .u64 n).wf = true) : 0 ≤ n ∧ n < 18446744073709551616 := by
  unfold Lit.wf at h
  simp only [Bool.and_eq_true, decide_eq_true_eq] at h
  have h2 : n ≤ 18446744073709551615 := h.2
  exact ⟨h.1, by omega⟩
theorem ndW {x : Nd} (h : wf43 x) : NdW x :=
  ⟨⟨fun y hy => wf_u64 (h.2.2.1.1.2.2 y hy), fun y hy => wf_u64 (h.2.2.1.2.2 y hy)⟩, ⟨fun y hy => wf_u64 (h.2.2.2.2.2.2.1.1.2.2 y hy), fun y hy => wf_u64 (h.2.2.2.2.2.2.1.2.2 y hy)⟩, ⟨fun y hy => wf_u64 (h.2.2.2.2.2.2.2.1.2.2 y hy), fun y hy => wf_u64 (h.2.2.2.2.2.2.2.2.2 y hy)⟩⟩
theorem validUsed_pure : dendronlaw08_ValidUsed.Pure := fun y h => (validUsed_ev y.1 y.2 fun t ht n hn => ndW ((h.2.2 t ht).2 n hn)).rounds
end Go.DI.Th

namespace Go.Proofs.YtajagmmjkmmchaaDoor.validUsed
open Go.ChangeShapes Go.WideShapes Go.ChangeAt Go.RowKit Go.DI
set_option linter.unusedVariables false
theorem own : ownKnob Tryd.prog.godebug = none := by kernel_rfl
theorem laidOut : laidOutB Tryd.prog = true := by kernel_rfl
theorem gTab : Tryd.prog.globalNamed "math/bits.deBruijn64tab" = some 0 := by kernel_rfl
theorem gTabType : (Tryd.prog.globals[0]?).map (·.type) = some 92 := by kernel_rfl
theorem table {W : World} (h : laidMetH Tryd.prog Rows.validUsedRow.laid W) : Lib.TabIs Tryd.prog W "math/bits.deBruijn64tab" .u8 tab_deBruijn64tab :=
  Lib.tabIs_of_head (rest := []) gTab gTabType Tryd.underlying92 Tryd.underlying5 (by kernel_rfl) (by kernel_rfl) h
theorem tables {W : World} (h : laidMetH Tryd.prog Rows.validUsedRow.laid W) : TabOk W (Fz W) := tabOk_one rfl (by decide) (fun i hi => (table h).cell gTab i hi)
noncomputable def laidWorld (os : Os) : World :=
  { World.holding Tryd.prog os ⟨#[], #[], []⟩ with heap := (World.holding Tryd.prog os ⟨#[], #[], []⟩).heap.modify 0 fun
      | .cells _ t frozen => .cells #[.int .u8 0, .int .u8 1, .int .u8 56, .int .u8 2, .int .u8 57, .int .u8 49, .int .u8 28, .int .u8 3, .int .u8 61, .int .u8 58, .int .u8 42, .int .u8 50, .int .u8 38, .int .u8 29, .int .u8 17, .int .u8 4, .int .u8 62, .int .u8 47, .int .u8 59, .int .u8 36, .int .u8 45, .int .u8 43, .int .u8 51, .int .u8 22, .int .u8 53, .int .u8 39, .int .u8 33, .int .u8 30, .int .u8 24, .int .u8 18, .int .u8 12, .int .u8 5, .int .u8 63, .int .u8 55, .int .u8 48, .int .u8 27, .int .u8 60, .int .u8 41, .int .u8 37, .int .u8 16, .int .u8 46, .int .u8 35, .int .u8 44, .int .u8 21, .int .u8 52, .int .u8 32, .int .u8 23, .int .u8 11, .int .u8 54, .int .u8 26, .int .u8 40, .int .u8 15, .int .u8 34, .int .u8 20, .int .u8 31, .int .u8 10, .int .u8 25, .int .u8 14, .int .u8 19, .int .u8 9, .int .u8 13, .int .u8 8, .int .u8 7, .int .u8 6] t frozen
      | o => o }
theorem laid_met (os : Os) : laidMet Tryd.prog Rows.validUsedRow.laid ((laidWorld os).forCall (fun _ _ => 0) ⟨#[], #[.agg #[.int .i64 0, .slice none 0 0]], []⟩).memory :=
  laidMet_of_run' 8 (by kernel_rfl) (by kernel_rfl)
theorem reads (os : Os) {H : Type} (enc : TypeId × Value → H) : ∃ places, DataW.whole enc Tryd.prog ((laidWorld os).forCall (fun _ _ => 0) ⟨#[], #[.agg #[.int .i64 0, .slice none 0 0]], []⟩).memory Tryd.f5.params.toList Rows.validUsedSpec.vars false (#[.agg #[.int .i64 0, .slice none 0 0]] : Array Value).toList 8 = some ([.agg [.lit (.int .i64 0), .nil]], [], places) :=
  ⟨[], by kernel_rfl⟩
set_option maxRecDepth 100000 in
theorem contract (pure : dendronlaw08_ValidUsed.Pure) (H : Type) (enc : TypeId × Value → H) (W : World) (base : Nat) (args : Array Value) (ds gs : List (DataW H)) (before : List MemPlace)
    (hval : ∀ (j : Nat) t v, Tryd.f5.params[j]? = some t → args[j]? = some v → Value.okWide Tryd.prog W .any base t v)
    (hW : DataW.Whole enc Tryd.prog Tryd.f5.params.toList Rows.validUsedSpec.vars false W args.toList ds gs before) (hL : laidMetH Tryd.prog Rows.validUsedRow.laid W) :
    Calls Tryd.prog 5 args W fun e W' => ∃ v, e = .returned v ∧ Rows.validUsedSpec.post enc Tryd.prog Tryd.f5 false true false false W args v W' := by
  have hW' := hW
  obtain ⟨p, q, hA0, hV, rfl, hfz, hnd⟩ := hW
  have hA : DataW.TrodAll enc Tryd.prog W 0 (fun _ => true) true Tryd.f5.params.toList args.toList ds p := hA0
  rw [Tryd.params5] at hA hval
  obtain ⟨v0, vs0, d0, ds0, p0, q0, hargs, rfl, rfl, h0, r0⟩ := trodAll_cons hA
  obtain ⟨rfl, rfl, rfl⟩ := trodAll_nil r0
  obtain rfl : args = #[v0] := by cases args; simp_all
  obtain ⟨rfl, rfl⟩ := trodVars_none hV
  have lt0 : ∀ x ∈ p0, x.block < W.heap.size := by obtain ⟨m, hm⟩ := h0; exact DataW.trod_lt m _ _ _ hm
  obtain ⟨a0, rfl, _⟩ := okWide_struct Tryd.underlying24 (hval 0 24 v0 rfl rfl)
  obtain ⟨y0, t0, w0⟩ := opens_agg op24 h0 (fun _ => none) (lookO [])
  obtain ⟨k, hk⟩ := pure y0 w0
  refine (law_calls (dendronlaw08_ValidUsed.does hk) W (tables hL) _ (tsrel_cons_mk t0 tsrel_nil_mk)).mono fun e W' ⟨he, bel⟩ => ?_
  subst he
  exact ⟨_, rfl, _, _, _, [], _, [], hW', trodAll_mk1 (shut_bool Tryd.underlying4 _), (trodAll_cons_mk (Below.trod laidOut (by kernel_rfl) (of_decide_eq_true (by kernel_rfl)) h0 bel lt0) trodAll_mk0), rfl, bel.frame _, fun h => by cases h⟩
set_option maxRecDepth 100000 in
theorem lifted (pure : dendronlaw08_ValidUsed.Pure) (os : Os) (started : os.Started) (H : Type) (enc : TypeId × Value → H) (F : Stop.Interp) :
    ReturnsInHanded {} Tryd.checked os 5 .any ((OpenSpec.ofChange Rows.validUsedSpec).preRow enc Tryd.prog Tryd.f5 Rows.validUsedRow.domain false Rows.validUsedRow.laid) (((OpenSpec.ofChange Rows.validUsedSpec).at F).post enc Tryd.prog Tryd.f5 false true false false) := by
  obtain ⟨places, hx⟩ := reads os enc
  refine returnsInHanded_of_row (C := Tryd.checked) (s := OpenSpec.ofChange Rows.validUsedSpec) own started (by kernel_rfl) Tryd.func5
    (witness_row_at (enc := enc) (C := Tryd.checked) false (laidWorld os) #[.agg #[.int .i64 0, .slice none 0 0]] rfl (by kernel_rfl) (by kernel_rfl) (by kernel_rfl)
      (OpenSpec.preRow_of_cond 8 hx (by kernel_rfl) (fun k hk => by cases hk) (by kernel_rfl) (laid_met os))) ?_
  intro W base args ds gs before hval hW _ _ _ hL _ _
  exact contract pure H enc W base args ds gs before hval hW hL
theorem said (pure : dendronlaw08_ValidUsed.Pure) : Rows.ValidUsedSaid :=
  OpenClaim.holds_of_cond 5 Tryd.f5 rfl rfl rfl rfl rfl rfl rfl ⟨rfl, rfl, rfl, rfl, rfl⟩ rfl rfl rfl rfl rfl (by kernel_rfl) Tryd.func5 (by kernel_rfl)
    (of_decide_eq_true (by kernel_rfl)) (by unfold Func.isWrapper; first | (rw [if_pos (by decide +kernel)]; kernel_rfl) | (rw [if_neg (by decide +kernel)]; exact ⟨rfl, rfl⟩))
    (fun os started H enc _ F => by rw [OpenClaim.pre_eq_preRow]; exact lifted pure os started H enc F)
theorem plain (f : FuncId) (fn : Func) (hf : Tryd.pinned.checked.prog.funcNamed "dendron/dendronlaw08.ValidUsed" = some f) (hfn : Tryd.pinned.checked.prog.funcs[f]? = some fn) :
    false = Tryd.pinned.checked.prog.looks [] ∧ ∀ (j : Nat) t, fn.params[j]? = some t → Tryd.pinned.checked.prog.wantsStandIn t = false := by
  obtain rfl : f = 5 := Option.some.inj ((show Tryd.prog.funcNamed "dendron/dendronlaw08.ValidUsed" = some 5 by kernel_rfl).symm.trans hf) |>.symm
  obtain rfl : fn = Tryd.f5 := (Option.some.inj (Tryd.func5.symm.trans hfn)).symm
  refine ⟨by kernel_rfl, fun j t ht => ?_⟩
  rw [Tryd.params5] at ht
  have ht2 := Array.mem_of_getElem? ht
  have hall : ∀ t ∈ (#[24] : Array TypeId), Tryd.prog.wantsStandIn t = false := by
    intro t ht
    simp only [List.mem_toArray, List.mem_cons, List.not_mem_nil, or_false] at ht
    rcases ht with rfl
    all_goals kernel_rfl
  exact hall t ht2
theorem card (pure : dendronlaw08_ValidUsed.Pure) : Rows.ValidUsedCardSaid :=
  Claim7.holds_tied_plain_at .later [] _ _ _ _ (said pure) (fun _ h => by cases h) (by kernel_rfl) (fun _ h => by cases h) validUsed_row_tie rfl ⟨rfl, rfl⟩ (by kernel_rfl) rfl plain (by kernel_rfl)
end Go.Proofs.YtajagmmjkmmchaaDoor.validUsed
namespace Go.Proofs.YtajagmmjkmmchaaDoor
/-- The card. -/
theorem validUsed_holds : Rows.ValidUsedCardSaid := validUsed.card Go.DI.Th.validUsed_pure
#print axioms validUsed_holds
end Go.Proofs.YtajagmmjkmmchaaDoor
