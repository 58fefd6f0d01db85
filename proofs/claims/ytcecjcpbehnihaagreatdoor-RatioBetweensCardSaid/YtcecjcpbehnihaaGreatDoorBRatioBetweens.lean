/- What methods of the library do, told. No condition. -/
import Derived.Test.YtcecjcpbehnihaaGreatDoorDIc
import Derived.Test.YtcecjcpbehnihaaGreatDoorFn
import Derived.Test.YtcecjcpbehnihaaGreatDoorProg
import Derived.Test.YtcecjcpbehnihaaGreatDoorShfRatioBetweens
import Derived.ProofKit
import Derived.Laws.Externs
import Derived.Laws.Entries
set_option linter.all false
namespace Go.DI
open Go.Lib
open Go Go.RowKit Go.Proofs
set_option linter.unusedVariables false
instance : Tabs := ⟨[(0, tab_deBruijn64tab.map fun x => .int .u8 x)], 153, 5⟩
set_option maxHeartbeats 1000000 in
set_option maxRecDepth 100000 in
theorem idx_Byte (s : ByteArray) (c : Int) (w : World) :
    Calls Tryz.prog 169 #[.string s, .int .u8 c] w fun e w' => e = .returned (.int .i64 (fIdx s c.toNat.toUInt8)) ∧ Rests w w' := by
  go_enter Tryz.func169, Tryz.ntmps169
  go_wp2
  rw [run_callFunc_extern Tryz.func173 (by kernel_rfl) (by kernel_rfl) (by kernel_rfl) (e := Extern.BytealgIndexByte.indexByte) (by kernel_rfl)]
  rw [run_indexByte_string]
  simp only [Result.andThen]
  rw [Oper.upon_value]
  go_wp2
  go_ret
  exact ⟨rfl, Rests.rfl⟩
theorem stringslite_IndexByte.does {a0 : ByteArray} {a1 : Int} {r : Int} (h : stringslite_IndexByte.f a0 a1 = some r) :
    Does Tryz.prog 169 [.c (.d (.str a0)), .c (.d (.int .u8 a1))] [] (.c (.d (.int .i64 r))) none [] := by
  unfold stringslite_IndexByte.f at h
  obtain rfl := Option.some.inj h
  obtain ⟨c, hc⟩ := Option.isSome_iff_exists.1 (show Tryz.f169.body.isSome = true from rfl)
  refine does_data ⟨Tryz.f169, c, Tryz.func169, by kernel_rfl, hc⟩ (by simp) fun w F args hr => ?_
  obtain ⟨v, u, rfl, h1, h2⟩ := tsrel_two hr
  rw [TRel] at h1 h2
  cases h1
  cases h2
  refine (idx_Byte a0 a1 w).mono ?_
  rintro e w' ⟨rfl, h1⟩
  refine ⟨_, rfl, h1, fun _ _ _ _ => ?_⟩
  rw [TRel]
  exact .int _ _

theorem repL_eq (l : List UInt8) : ∀ n, repL l n = Lib.repeatL l n
  | 0 => rfl
  | n + 1 => by rw [repL, Lib.repeatL, repL_eq l n]
theorem strings_Repeat.does {a0 : ByteArray} {a1 : Int} {r : ByteArray} (h : strings_Repeat.f a0 a1 = some r) :
    Does Tryz.prog 112 [.c (.d (.str a0)), .c (.d (.int .i64 a1))] [] (.c (.d (.str r))) none [] := by
  unfold strings_Repeat.f at h
  obtain ⟨h0, h⟩ := ifp h
  obtain ⟨h1, h⟩ := ifp h
  obtain rfl := Option.some.inj h
  obtain ⟨c, hc⟩ := Option.isSome_iff_exists.1 (show Tryz.f112.body.isSome = true from rfl)
  refine does_data ⟨Tryz.f112, c, Tryz.func112, by kernel_rfl, hc⟩ (by simp) fun w F args hr => ?_
  obtain ⟨v, u, rfl, h2, h3⟩ := tsrel_two hr
  rw [TRel] at h2 h3
  cases h2
  cases h3
  obtain ⟨n, rfl⟩ : ∃ n : Nat, a1 = (n : Int) := ⟨a1.toNat, by omega⟩
  rw [Int.toNat_natCast] at h1 ⊢
  rw [repL_eq]
  refine (Tryz.strings_Repeat a0 n w (by omega) h1.2).mono ?_
  rintro e w' ⟨rfl, hb⟩
  refine ⟨_, rfl, .of_below hb, fun _ _ _ _ => ?_⟩
  rw [TRel]
  exact .str _

end Go.DI
