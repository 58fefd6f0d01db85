/- What methods of the library do, told. No condition. -/
import Derived.Test.YtajagmmjkmmchaaGreatDoorDIc
import Derived.Test.YtajagmmjkmmchaaGreatDoorFn
import Derived.Test.YtajagmmjkmmchaaGreatDoorProg
import Derived.ProofKit
import Derived.Laws.Externs
import Derived.Laws.Entries
set_option linter.all false
namespace Go.DI
open Go.Lib
open Go Go.RowKit Go.Proofs
set_option linter.unusedVariables false
instance : Tabs := ⟨[(0, tab_deBruijn64tab.map fun x => .int .u8 x)], 999999, 5⟩
set_option maxHeartbeats 1000000 in
set_option maxRecDepth 100000 in
theorem idx_Byte (s : ByteArray) (c : Int) (w : World) :
    Calls Tryz.prog 98 #[.string s, .int .u8 c] w fun e w' => e = .returned (.int .i64 (fIdx s c.toNat.toUInt8)) ∧ Rests w w' := by
  go_enter Tryz.func98, Tryz.ntmps98
  go_wp2
  rw [run_callFunc_extern Tryz.func102 (by kernel_rfl) (by kernel_rfl) (by kernel_rfl) (e := Extern.BytealgIndexByte.indexByte) (by kernel_rfl)]
  rw [run_indexByte_string]
  simp only [Result.andThen]
  rw [Oper.upon_value]
  go_wp2
  go_ret
  exact ⟨rfl, Rests.rfl⟩
theorem stringslite_IndexByte.does {a0 : ByteArray} {a1 : Int} {r : Int} (h : stringslite_IndexByte.f a0 a1 = some r) :
    Does Tryz.prog 98 [.c (.d (.str a0)), .c (.d (.int .u8 a1))] [] (.c (.d (.int .i64 r))) none [] := by
  unfold stringslite_IndexByte.f at h
  obtain rfl := Option.some.inj h
  obtain ⟨c, hc⟩ := Option.isSome_iff_exists.1 (show Tryz.f98.body.isSome = true from rfl)
  refine does_data ⟨Tryz.f98, c, Tryz.func98, by kernel_rfl, hc⟩ (by simp) fun w F args hr => ?_
  obtain ⟨v, u, rfl, h1, h2⟩ := tsrel_two hr
  rw [TRel] at h1 h2
  cases h1
  cases h2
  refine (idx_Byte a0 a1 w).mono ?_
  rintro e w' ⟨rfl, h1⟩
  refine ⟨_, rfl, h1, fun _ _ _ _ => ?_⟩
  rw [TRel]
  exact .int _ _

end Go.DI
