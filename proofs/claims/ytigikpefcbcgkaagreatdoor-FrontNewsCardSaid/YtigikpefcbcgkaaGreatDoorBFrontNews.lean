/- What methods of the library do, told. No condition. -/
import Derived.Test.YtigikpefcbcgkaaGreatDoorDIc
import Derived.Test.YtigikpefcbcgkaaGreatDoorFn
import Derived.Test.YtigikpefcbcgkaaGreatDoorProg
import Derived.Test.YtigikpefcbcgkaaGreatDoorShfFrontNews
import Derived.Laws.LoneSync
import Derived.Defers
import Derived.RegionCalls
import Derived.Laws.Rows
import Derived.Laws.NewBlocks
import Derived.ProofKit
import Derived.Laws.Externs
import Derived.Laws.Entries
set_option linter.all false
namespace Go.DI
open Go.Lib
open Go Go.RowKit Go.Proofs
set_option linter.unusedVariables false
instance : Tabs := ⟨[(0, tab_deBruijn64tab.map fun x => .int .u8 x)], 89, 5⟩
set_option maxHeartbeats 1000000 in
set_option maxRecDepth 100000 in
theorem idx_Byte (s : ByteArray) (c : Int) (w : World) :
    Calls Tryz.prog 257 #[.string s, .int .u8 c] w fun e w' => e = .returned (.int .i64 (fIdx s c.toNat.toUInt8)) /\ Rests w w' := by
  go_enter Tryz.func257, Tryz.ntmps257
  go_wp2
  rw [run_callFunc_extern Tryz.func275 (by kernel_rfl) (by kernel_rfl) (by kernel_rfl) (e := Extern.BytealgIndexByte.indexByte) (by kernel_rfl)]
  rw [run_indexByte_string]
  simp only [Result.andThen]
  rw [Oper.upon_value]
  go_wp2
  go_ret
  exact ⟨rfl, Rests.rfl⟩
theorem stringslite_IndexByte.does {a0 : ByteArray} {a1 : Int} {r : Int} (h : stringslite_IndexByte.f a0 a1 = some r) :
    Does Tryz.prog 257 [.c (.d (.str a0)), .c (.d (.int .u8 a1))] [] (.c (.d (.int .i64 r))) none [] := by
  unfold stringslite_IndexByte.f at h
  obtain rfl := zI h
  obtain ⟨c, hc⟩ := Option.isSome_iff_exists.1 (show Tryz.f257.body.isSome = true from rfl)
  refine does_data ⟨Tryz.f257, c, Tryz.func257, by kernel_rfl, hc⟩ (by simp) fun w F args hr => ?_
  obtain ⟨v, u, rfl, h1, h2⟩ := tsrel_two hr
  rw [TRel] at h1 h2
  cases h1
  cases h2
  refine (idx_Byte a0 a1 w).mono ?_
  rintro e w' ⟨rfl, h1⟩
  refine ⟨_, rfl, h1, fun _ _ _ _ => ?_⟩
  rw [TRel]
  exact .int _ _

set_option maxHeartbeats 1000000 in
set_option maxRecDepth 100000 in
theorem bld_copyCheck (b : Nat) (g : Option Nat) (s : ByteArray) (w : World) (h : BldIn w b g s) :
    Calls Tryz.prog 86 #[.pointer (some ⟨b, 0, none⟩)] w fun e w' => e = .returned (.tuple #[]) /\ BldUsed w b g s w' := by
  obtain ⟨j, hj, hjs⟩ := Option.map_eq_some_iff.1 (show (Tryz.prog.info? 89).map (·.size) = some 2 by kernel_rfl)
  obtain ⟨cells, el, p, n, cap, hb, rfl, hn, ⟨rfl, hp⟩, hrow⟩ := h
  have c0 : w.cell? ⟨b, 0, none⟩ = some p := by rw [Lib.cell_of_heap hb]; rfl
  have hlt : b < w.heap.size := (Array.getElem?_eq_some_iff.1 hb).1
  rcases hp with rfl | rfl
  · have hsh : w.shape? b = some (89, 2) := by simp [World.shape?, hb]; rfl
    have hfz : w.frozen? ⟨b, 0, none⟩ = false := by simp [World.frozen?, hb]
    go_enter Tryz.func86, Tryz.ntmps86
    go_wp2
    rw [Lib.run_to_unsafe w ⟨b, 0, none⟩ Tryz.underlying86 Tryz.underlying219 hj (by rw [hjs]; decide) hsh (Nat.zero_lt_succ 1)]
    simp only [Result.andThen]
    rw [Oper.upon_value]
    go_wp2
    rw [run_callFunc_extern Tryz.func148 (by kernel_rfl) (by kernel_rfl) (by kernel_rfl) (e := Extern.AbiNoEscape.same) (by kernel_rfl)]
    rw [Lib.run_noEscape]
    simp only [Result.andThen]
    rw [Oper.upon_value]
    go_wp2
    rw [Lib.run_from_unsafe w ⟨b, 0, none⟩ Tryz.underlying219 Tryz.underlying86 hj hsh (by kernel_rfl)]
    simp only [Result.andThen]
    rw [Oper.upon_value]
    go_wp2
    go_end0
    refine ⟨rfl, n, cap, ?_, hn, hrow, fun k hk => Below.heap_setCell _ _ _ _ hk, by simp [World.setCell], rfl, rfl, rfl⟩
    simp [World.setCell, Array.getElem?_modify, hb]
    rfl
  · go_enter Tryz.func86, Tryz.ntmps86
    go_wp2
    rw [Lib.run_neq_ptr_same w _ Tryz.underlying86 hj]
    go_wp2
    go_end0
    exact ⟨rfl, n, cap, hb, hn, hrow, fun k _ => rfl, rfl, rfl, rfl, rfl⟩

set_option maxHeartbeats 2000000 in
set_option maxRecDepth 100000 in
theorem bld_WriteString (b : Nat) (g : Option Nat) (s0 s : ByteArray) (w : World) (h : BldIn w b g s0) (hlen : s0.size + s.size <= 140737488355328) :
    Calls Tryz.prog 34 #[.pointer (some ⟨b, 0, none⟩), .string s] w fun e w' => e = .returned (.tuple #[.int .i64 s.size, .nilIface]) /\ BldNext w b g w' (s0 ++ s) := by
  obtain ⟨i, hi, hi2⟩ := Option.map_eq_some_iff.1 (show (Tryz.prog.info? 5).map (fun i => (i.zero, i.size, i.bytes)) = some (some (.int .u8 0), 1, 1) by kernel_rfl)
  simp only [Prod.mk.injEq] at hi2
  obtain ⟨z1, z2, z3⟩ := hi2
  have hblt : b < w.heap.size := by
    obtain ⟨_, _, _, _, _, hb, _⟩ := h
    exact (Array.getElem?_eq_some_iff.1 hb).1
  have hold : ∀ x, g = some x -> x < w.heap.size /\ x ≠ b := fun x hx => by
    obtain ⟨_, _, _, _, _, _, _, _, _, h6⟩ := h
    rcases h6 with ⟨h7, _⟩ | ⟨y, _, _, _, _, h7, h8, h9, _⟩
    · rw [h7] at hx; cases hx
    · rw [h7] at hx; cases hx; exact ⟨(Array.getElem?_eq_some_iff.1 h9).1, h8⟩
  have hbw : ∃ cells el, w.heap[b]? = some (.cells cells el (0, 0)) /\ cells.size = 2 /\ el = Tabs.bT := by
    obtain ⟨cells, el, p, n, cap, hb, rfl, hn, ⟨rfl, hp⟩, hrow⟩ := h
    exact ⟨_, _, hb, rfl, rfl⟩
  go_enter Tryz.func34, Tryz.ntmps34
  go_wp2_with (go_at_call 86; refine (bld_copyCheck b g s0 _ h).mono ?_)
  rintro e w1 ⟨rfl, n, cap, hb, hn, hrow, hk, hsz, ho1, ho2, ho3⟩
  subst hn
  have hrow1 := hrow.keep hk
  have c1 : w1.cell? ⟨b, 1, none⟩ = some (.slice (gAddr g) s0.size cap) := by rw [Lib.cell_of_heap hb]; rfl
  obtain ⟨g', cap', w2, a1, a2, a3, a4, a5, a6⟩ := bld_append (P := Tryz.prog) hrow1 rfl 87 9 87 i Tryz.underlying87 Tryz.underlying9 hi z1 z2 z3 (by omega) s (by omega)
  go_wp2_with (at_builtin; refine wpList_append_told rfl _ _ _ _ rfl rfl rfl a1 ?_)
  rintro _ w2 ⟨rfl, rfl⟩
  have hb2 : w2.heap[b]? = some (.cells #[.pointer (some ⟨b, 0, none⟩), .slice (gAddr g) s0.size cap] Tabs.bT (0, 0)) := by
    rw [a3.block b (by omega) (fun e => (hold b e.symm).2 rfl)]
    exact hb
  have d1 : w2.cell? ⟨b, 1, none⟩ = some (.slice (gAddr g) s0.size cap) := by rw [Lib.cell_of_heap hb2]; rfl
  have f1 : w2.frozen? ⟨b, 1, none⟩ = false := Lib.frozen_of_heap hb2 1
  go_wp2
  go_ret2
  refine ⟨rfl, g', ?_⟩
  have hset : (w2.setCell ⟨b, 1, none⟩ (.slice (gAddr g') (s0.size + s.size) cap')).heap[b]? = some (.cells #[.pointer (some ⟨b, 0, none⟩), .slice (gAddr g') (s0.size + s.size) cap'] Tabs.bT (0, 0)) := by
    simp [World.setCell, Array.getElem?_modify, hb2]
  have hoth : ∀ k, k ≠ b -> (w2.setCell ⟨b, 1, none⟩ (.slice (gAddr g') (s0.size + s.size) cap')).heap[k]? = w2.heap[k]? := fun k hk => Below.heap_setCell _ _ _ _ hk
  have hs2 : (w2.setCell ⟨b, 1, none⟩ (.slice (gAddr g') (s0.size + s.size) cap')).heap.size = w2.heap.size := by simp [World.setCell]
  refine ⟨⟨_, _, _, _, _, hset, rfl, by rw [size_append_], ⟨rfl, .inr rfl⟩, a2.keep hoth⟩, ?_, ?_, ?_, ?_, ?_, ?_, ?_, ?_⟩
  · exact a3.os.trans ho1
  · exact a3.tape.trans ho2
  · exact a3.output.trans ho3
  · rw [hs2]; have := a3.size; omega
  · intro k hk1 hk2 hk3
    rw [hoth k hk2, a3.block k (by omega) hk3, hk k hk2]
  · rcases a4 with h4 | ⟨x, h4, h5⟩
    · exact .inl h4
    · exact .inr ⟨x, h4, by omega⟩
  · intro x hx
    rw [hs2]
    exact a6 x hx
  · intro k hk1 cur e fr hc
    by_cases hkb : k = b
    · subst hkb
      rw [hset] at hc
      injection hc with hc
      injection hc with h1 h2 h3
      obtain ⟨cells, el, q1, q2, q3⟩ := hbw
      exact ⟨cells, (0, 0), by rw [q1, q3, h2], by rw [q2, <- h1]; rfl⟩
    · rw [hoth k hkb] at hc
      by_cases hkg : some k = g
      · obtain ⟨cur0, fr0, r1, r2⟩ := a5 k cur e fr hkg.symm hc
        rw [hk k hkb] at r1
        exact ⟨cur0, fr0, r1, r2⟩
      · rw [a3.block k (by omega) hkg, hk k hkb] at hc
        exact ⟨cur, fr, hc, rfl⟩
theorem strings_Builder_WriteString.does {b s r : ByteArray} (h : strings_Builder_WriteString.f b s = some r) :
    Does Tryz.prog 34 [.c (.ptr 0 0), .c (.d (.str s))] [(0, some (.bld b))] (.c .u) none [(0, some (.bld r))] := by
  unfold strings_Builder_WriteString.f at h
  obtain ⟨hl, h⟩ := ifp h
  obtain rfl := zI h
  obtain ⟨c, hc⟩ := Option.isSome_iff_exists.1 (show Tryz.f34.body.isSome = true from rfl)
  refine does_bld ⟨Tryz.f34, c, Tryz.func34, by kernel_rfl, hc⟩ rfl (by simp) fun w F b' g args hb hr => ?_
  obtain ⟨v, rfl, hv⟩ := tsrel_one hr
  rw [TRel] at hv
  obtain rfl : v = .string s := by cases hv; rfl
  refine (bld_WriteString b' g b s w hb hl).mono ?_
  rintro e w' ⟨rfl, h1⟩
  exact ⟨_, rfl, h1, fun _ _ _ _ => by rw [TRel]; trivial⟩

set_option maxHeartbeats 1000000 in
set_option maxRecDepth 100000 in
theorem bld_String (b : Nat) (g : Option Nat) (s : ByteArray) (w : World) (h : BldIn w b g s) (h0 : 0 < s.size) :
    Calls Tryz.prog 37 #[.pointer (some ⟨b, 0, none⟩)] w fun e w' => e = .returned (.string s) /\ BldNext w b g w' s := by
  obtain ⟨cells, el, p, n, cap, hb, rfl, hn, ⟨rfl, hp⟩, hrow⟩ := h
  have hblt : b < w.heap.size := (Array.getElem?_eq_some_iff.1 hb).1
  rcases hrow with ⟨_, h1, _⟩ | ⟨x, cur, e, lo, hi, rfl, hxb, hx, hnc, hcm, hcs, ⟨rfl, hfz⟩, hcell⟩
  · omega
  have hxlt : x < w.heap.size := (Array.getElem?_eq_some_iff.1 hx).1
  subst hn
  have c1 : w.drew.cell? ⟨b, 1, none⟩ = some (.slice (some ⟨x, 0, none⟩) s.size cap) := by
    have : w.drew.heap[b]? = some (.cells #[p, .slice (some ⟨x, 0, none⟩) s.size cap] Tabs.bT (0, 0)) := hb
    rw [Lib.cell_of_heap this]; rfl
  have hl : s.data.toList.length = s.size := Array.length_toList
  have hstr : (⟨s.data.toList.toArray⟩ : ByteArray) = s := by
    apply ByteArray.ext
    exact Array.toArray_toList
  have hSD : (Builtin.unsafeSliceData_ #[87] 156 #[.slice (some ⟨x, 0, none⟩) s.size cap]).run Tryz.prog w.drew = .ok (.pointer (some ⟨x, 0, none⟩)) w.drew :=
    Lib.run_unsafeSliceData_row _ _ _ _ _ _ (by omega)
  have hUS : (Builtin.unsafeString_ #[156, 3] 9 #[.pointer (some ⟨x, 0, none⟩), .int .i64 s.size]).run Tryz.prog w.drew = .ok (.string s) (w.drew.freeze ⟨x, 0, none⟩ s.size) := by
    have := Lib.run_unsafeString_row w.drew 156 3 9 5 Tryz.underlying156 (by kernel_rfl) x cur.size (by have hg' : w.drew.heap[x]? = some (.cells cur Tabs.bE (lo, hi)) := hx; simp [World.shape?, hg']; rfl) s.data.toList (by intro e; rw [e] at hl; simp at hl; omega) (by rw [hl]; omega) (by rw [hl]; unfold maxLen at hcm; omega) ?_
    · rw [hl, hstr] at this
      exact this
    · intro j y hy
      have hj : j < s.size := by
        have := (List.getElem?_eq_some_iff.1 hy).1
        rwa [hl] at this
      have h2 : w.drew.heap[x]? = some (.cells cur Tabs.bE (lo, hi)) := hx
      rw [Addr.add_lit, Nat.zero_add, Lib.cell_of_heap h2, hcell j hj]
      have := strCells_at s j hj
      unfold strCells at this
      rw [List.getElem?_map, hy, Option.map_some] at this
      exact this.symm
  have hres : BldNext w b (some x) (w.drew.freeze ⟨x, 0, none⟩ s.size) s := by
    have hf : ∀ k, k ≠ x -> (w.drew.freeze ⟨x, 0, none⟩ s.size).heap[k]? = w.heap[k]? := fun k hk => by
      unfold World.freeze
      rw [if_neg (by omega)]
      simp [Array.getElem?_modify, Ne.symm hk]
      rfl
    have hfx : ∃ fr : Nat × Nat, fr.2 <= s.size /\ (w.drew.freeze ⟨x, 0, none⟩ s.size).heap[x]? = some (.cells cur Tabs.bE fr) := by
      refine ⟨if lo == hi then (0, 0 + s.size) else (min lo 0, max hi (0 + s.size)), ?_, ?_⟩
      · split
        · show 0 + s.size <= s.size; omega
        · show max hi (0 + s.size) <= s.size; omega
      · unfold World.freeze
        rw [if_neg (by omega)]
        have hd : w.drew.heap[x]? = some (.cells cur Tabs.bE (lo, hi)) := hx
        simp [Array.getElem?_modify, hd]
    obtain ⟨fr, hfr, hfx⟩ := hfx
    have hsz : (w.drew.freeze ⟨x, 0, none⟩ s.size).heap.size = w.heap.size := by
      unfold World.freeze
      rw [if_neg (by omega)]
      simp
    have hmisc : (w.drew.freeze ⟨x, 0, none⟩ s.size).os = w.os /\ (w.drew.freeze ⟨x, 0, none⟩ s.size).tape = w.tape /\ (w.drew.freeze ⟨x, 0, none⟩ s.size).output = w.output := by
      unfold World.freeze
      rw [if_neg (by omega)]
      exact ⟨rfl, rfl, rfl⟩
    refine ⟨some x, ⟨_, _, p, s.size, cap, (hf b (Ne.symm hxb)).trans hb, rfl, rfl, ⟨rfl, hp⟩, .inr ⟨x, cur, _, fr.1, fr.2, rfl, hxb, hfx, hnc, hcm, hcs, ⟨rfl, hfr⟩, hcell⟩⟩, hmisc.1, hmisc.2.1, hmisc.2.2, by omega, ?_, .inl rfl, ?_, ?_⟩
    · intro k hk1 hk2 hk3
      exact hf k (fun e => hk3 (by rw [e]))
    · intro y hy
      cases hy
      omega
    · intro k hk cur' e' fr' hc
      by_cases hkx : k = x
      · subst hkx
        rw [hfx] at hc
        injection hc with hc
        injection hc with q1 q2 q3
        exact ⟨cur, (lo, hi), by rw [hx, q2], by rw [q1]⟩
      · rw [hf k hkx] at hc
        exact ⟨cur', fr', hc, rfl⟩
  go_enter Tryz.func37, Tryz.ntmps37
  go_wp2
  go_region
  all_goals (go_wp2; go_ret; exact ⟨rfl, hres⟩)
theorem strings_Builder_String.does {b : ByteArray} {r : ByteArray × ByteArray} (h : strings_Builder_String.f b = some r) :
    Does Tryz.prog 37 [.c (.ptr 0 0)] [(0, some (.bld b))] (.c (.d (.str r.1))) none [(0, some (.bld r.2))] := by
  unfold strings_Builder_String.f at h
  obtain ⟨hl, h⟩ := ifp h
  obtain rfl := zI h
  obtain ⟨c, hc⟩ := Option.isSome_iff_exists.1 (show Tryz.f37.body.isSome = true from rfl)
  refine does_bld ⟨Tryz.f37, c, Tryz.func37, by kernel_rfl, hc⟩ rfl (by simp) fun w F b' g args hb hr => ?_
  obtain rfl := tsrel_nil hr
  refine (bld_String b' g b w hb hl).mono ?_
  rintro e w' ⟨rfl, h1⟩
  refine ⟨_, rfl, h1, fun _ _ _ _ => ?_⟩
  rw [TRel]
  exact .str b

theorem strings_Join.does {l0 : List ByteArray} {a1 : ByteArray} {r : ByteArray} (h : strings_Join.f l0 a1 = some r) :
    Does Tryz.prog 91 [.c (.d (fr 1 (fun x => [.str x]) ByteArray.empty l0)), .c (.d (.str a1))] [] (.c (.d (.str r))) none [] := by
  unfold strings_Join.f at h
  obtain ⟨h1, h⟩ := ifp h
  obtain rfl := zI h
  obtain ⟨c, hc⟩ := Option.isSome_iff_exists.1 (show Tryz.f91.body.isSome = true from rfl)
  refine does_data ⟨Tryz.f91, c, Tryz.func91, by kernel_rfl, hc⟩ (by simp) fun w F args hr => ?_
  obtain ⟨v, u, rfl, h2, h3⟩ := tsrel_two hr
  rw [TRel] at h2 h3
  simp only [CRel] at h2
  cases h3
  rcases drel_strs (fun j => rfl) h2 with ⟨rfl, a, cap, rfl⟩ | ⟨b, o, cap, rfl, hcap, hb, hcells⟩
  · refine (Any.strings_Join_none Tryz.lays156 Tryz.Builder_Extra_156 a cap a1 w).mono ?_
    rintro e w' ⟨rfl, rfl⟩
    refine ⟨_, rfl, Rests.rfl, fun _ _ _ _ => ?_⟩
    rw [TRel]
    exact .str _
  · refine (Any.strings_Join Tryz.lays156 Tryz.Builder_Extra_156 b o cap l0 a1 w hcells hb h1.1 hcap h1.2).mono ?_
    rintro e w' ⟨rfl, hb⟩
    refine ⟨_, rfl, .of_below hb, fun _ _ _ _ => ?_⟩
    rw [TRel]
    exact .str _

theorem wd_inj : ∀ j k : Nat, j <= 9 -> k <= 9 -> 1 <= j -> wd j = wd k -> j = k := by
  have h : ∀ j, j < 10 -> ∀ k, k < 10 -> 1 <= j -> wd j = wd k -> j = k := by decide +kernel
  exact fun j k hj hk h1 e => h j (by omega) k (by omega) h1 e
def KR (n : Nat) : Value -> Value -> Prop := fun q u => ∃ j, 1 <= j /\ j < n /\ q = .string (wd j) /\ u = .int .i64 j
theorem KR_upd (n : Nat) (h1 : 1 <= n) (h : n <= 9) : updR (KR n) (.string (wd n)) (.int .i64 n) = KR (n + 1) := by
  funext q u
  apply propext
  unfold updR KR
  constructor
  · rintro (⟨rfl, rfl⟩ | ⟨hne, j, j1, j2, rfl, rfl⟩)
    · exact ⟨n, h1, by omega, rfl, rfl⟩
    · exact ⟨j, j1, by omega, rfl, rfl⟩
  · rintro ⟨j, j1, j2, rfl, rfl⟩
    by_cases e : j = n
    · subst e; exact .inl ⟨rfl, rfl⟩
    · refine .inr ⟨fun hw => e (wd_inj j n (by omega) h j1 (by injection hw)), j, j1, by omega, rfl, rfl⟩
theorem wd_word : ∀ k : Nat, 1 <= k -> k <= 9 -> ask_word.f (k : Int) = some (wd k) := by
  have h : ∀ k, k < 10 -> 1 <= k -> ask_word.f ((k : Nat) : Int) = some (wd k) := by decide +kernel
  exact fun k h1 h2 => h k (by omega) h1
theorem kindOf_wd : ∀ j : Nat, 1 <= j -> j < 10 -> kindOf (wd j) = (j : Int) := by
  have h : ∀ j, j < 10 -> 1 <= j -> kindOf (wd j) = ((j : Nat) : Int) := by decide +kernel
  exact fun j h1 h2 => h j h2 h1
theorem kindOf_no (s : ByteArray) (h : ∀ j : Nat, 1 <= j -> j < 10 -> s ≠ wd j) : kindOf s = 0 := by
  unfold kindOf
  rw [if_neg (h 1 (by decide) (by decide)), if_neg (h 2 (by decide) (by decide)), if_neg (h 3 (by decide) (by decide)), if_neg (h 4 (by decide) (by decide)), if_neg (h 5 (by decide) (by decide)), if_neg (h 6 (by decide) (by decide)), if_neg (h 7 (by decide) (by decide)), if_neg (h 8 (by decide) (by decide)), if_neg (h 9 (by decide) (by decide))]
set_option maxHeartbeats 4000000 in
set_option maxRecDepth 100000 in
theorem kind_walk (hw : ∀ k : Nat, 1 <= k -> k <= 9 -> Does Tryz.prog 105 [.c (.d (.int .i64 (k : Int)))] [] (.c (.d (.str (wd k)))) none []) (s : ByteArray) (w : World) (F : Nat -> Prop) (hF : ∀ b, F b -> b < w.heap.size) (htab : TabOk w F) :
    Calls Tryz.prog 83 #[.string s] w fun e w' => e = .returned (.int .i64 (kindOf s)) /\ Rests w w' := by
  have hz : ∀ w : World, (zeroValue 3).run Tryz.prog w = .ok (.int .i64 0) w := fun w => by kernel_rfl
  have hmk : ∀ w : World, (Instr.makeMap 212 none).run Tryz.prog w = .ok (.map (some w.heap.size)) (w.alloc (.map #[] 0)) := fun w => by simp [Instr.makeMap, Result.andThen]
  go_enter Tryz.func83, Tryz.ntmps83
  go_wp2
  go_loopw [4] (fun i wr => ∃ k : Nat, 1 <= k /\ k <= 10 /\ i = .int .i64 k /\ Rests w wr /\ w.heap.size < wr.heap.size /\ MapIn wr w.heap.size .string (KR k))
    (fun i _ => 10 - (Go.RowKit.intOf i).toNat)
  case atStart =>
    refine ⟨1, by decide, by decide, rfl, ⟨rfl, rfl, rfl, by simp, fun k hk => Below.heap_alloc w _ _ hk⟩, by simp, ?_⟩
    have := mapIn_new w .string
    obtain ⟨es, clock, h1, h2, h3, h4⟩ := this
    refine ⟨es, clock, h1, h2, h3, fun k v => (h4 k v).trans ⟨fun h => h.elim, fun ⟨j, j1, j2, _⟩ => by omega⟩⟩
  case round =>
    obtain ⟨k, k1, k2, rfl, hR, hlt, hM⟩ := hrel
    by_cases hk : k <= 9
    · have C := str_calls (hw k k1 hk) wr (htab.rests (hR.fz hF)) #[.int .i64 k] (by
        refine tsrel_cons_mk ?_ tsrel_nil_mk
        rw [TRel]; exact .int _ _)
      have hX : ∀ (ops : Array Oper) (rest : List Oper) (o' : Oper) (a : Act) (Q : Exit -> Act -> World -> Prop) (w1 : World), MapIn w1 w.heap.size .string (KR k) -> o'.guard = none -> o'.op = .mapUpdate 212 (.tmp 10) (.tmp 12) (.tmp 13) -> a.eval (.tmp 10) = .map (some w.heap.size) -> a.eval (.tmp 12) = .string (wd k) -> a.eval (.tmp 13) = .int .i64 (k : Int) ->
          (∀ w', MapIn w' w.heap.size .string (updR (KR k) (.string (wd k)) (.int .i64 (k : Int))) -> MapSet w1 w' w.heap.size -> wpList Tryz.prog ops Q rest (a.put o'.dst undef) w') -> wpList Tryz.prog ops Q (o' :: rest) a w1 := fun ops rest o' a Q w1 g0 g1 g2 g3 g4 g5 g6 => wpList_mapUpdate g1 (.tmp 10) (.tmp 12) (.tmp 13) 212 g2 Tryz.underlying212 Tryz.underlying9 g0 (show MapKept.IsKey .string (.string (wd k)) from trivial) g3 g4 g5 g6
      go_wp2_with (first | (go_at_call 105; refine C.mono ?_; rintro e w1 ⟨rfl, hR1⟩; have hM1 : MapIn w1 w.heap.size .string (KR k) := hM.kept (hR1.2.2.2.2 _ hlt)) | (refine hX _ _ _ _ _ _ (by assumption) rfl rfl rfl rfl rfl ?_))
      intro w2 hM2 hS2
      rw [KR_upd k k1 hk] at hM2
      have hRR : Rests w w2 := ⟨hS2.os.trans (hR1.1.trans hR.1), hS2.tape.trans (hR1.2.1.trans hR.2.1), hS2.output.trans (hR1.2.2.1.trans hR.2.2.1), by rw [hS2.size]; exact Nat.le_trans hR.2.2.2.1 hR1.2.2.2.1, fun b hb => (hS2.block b (by omega)).trans ((hR1.2.2.2.2 b (by omega)).trans (hR.2.2.2.2 b hb))⟩
      have hlt2 : w.heap.size < w2.heap.size := by rw [hS2.size]; exact Nat.lt_of_lt_of_le hlt hR1.2.2.2.1
      clear hX hS2 hM1 hR1 hM hR C
      go_wp2
      go_roundw
      case rel => exact ⟨k + 1, by omega, by omega, by simp, hRR, hlt2, hM2⟩
      case measure => simp [Go.RowKit.intOf]; omega
    · have hk10 : k = 10 := by omega
      subst hk10
      have hX : ∀ (ops : Array Oper) (rest : List Oper) (o' : Oper) (a : Act) (Q : Exit -> Act -> World -> Prop), o'.guard = none -> o'.op = .lookup 212 (.tmp 14) (.tmp 15) false -> a.eval (.tmp 14) = .map (some w.heap.size) -> a.eval (.tmp 15) = .string s ->
          (∀ v, (KR 10 (.string s) v \/ (v = .int .i64 0 /\ ∀ u, ¬ KR 10 (.string s) u)) -> wpList Tryz.prog ops Q rest (a.put o'.dst v) wr) -> wpList Tryz.prog ops Q (o' :: rest) a wr := fun ops rest o' a Q g1 g2 g3 g4 g5 => wpList_lookup g1 (.tmp 14) (.tmp 15) 212 g2 Tryz.underlying212 Tryz.underlying9 (hz wr) hM (show MapKept.IsKey .string (.string s) from trivial) g3 g4 g5
      go_wp2_with (refine hX _ _ _ _ _ rfl rfl rfl rfl ?_)
      intro v hv
      have hv2 : v = .int .i64 (kindOf s) := by
        rcases hv with ⟨j, j1, j2, e1, rfl⟩ | ⟨rfl, hno⟩
        · have e1' : s = wd j := by injection e1
          rw [e1', kindOf_wd j j1 j2]
        · rw [kindOf_no s fun j j1 j2 e => hno _ ⟨j, j1, j2, by rw [e], rfl⟩]
      subst hv2
      clear hX
      go_wp2
      go_ret
      exact ⟨rfl, hR⟩
theorem kind_of (hw : ∀ k : Nat, 1 <= k -> k <= 9 -> Does Tryz.prog 105 [.c (.d (.int .i64 (k : Int)))] [] (.c (.d (.str (wd k)))) none []) (s : ByteArray) :
    Does Tryz.prog 83 [.c (.d (.str s))] [] (.c (.d (.int .i64 (kindOf s)))) none [] := by
  obtain ⟨c, hc⟩ := Option.isSome_iff_exists.1 (show Tryz.f83.body.isSome = true from rfl)
  refine does_fresh3 ⟨Tryz.f83, c, Tryz.func83, by kernel_rfl, hc⟩ (fun x hx => by rw [List.mem_singleton.1 hx]; trivial) fun w F args hF htab hr => ?_
  obtain ⟨v, rfl, h2⟩ := tsrel_one hr
  rw [TRel] at h2
  have h3 : DRel w F (.str s) v := h2
  cases h3
  refine (kind_walk hw s w F hF htab).mono ?_
  rintro e w' ⟨rfl, hR⟩
  refine ⟨_, rfl, hR, fun _ _ _ => ?_⟩
  rw [TRel]
  exact .int _ _

abbrev Tok := ZT
def ctok (x : Tok) : List Value := [.int .i64 x.1, .int .i64 x.2.1, .string x.2.2]
def dtok (x : Tok) : List Dat := [.int .i64 x.1, .int .i64 x.2.1, .str x.2.2]
theorem split_empty (a : Option Addr) (cap : Nat) (w : World) : Calls Tryz.prog 143 #[.slice a 0 cap] w fun e w' => e = .returned (.slice none 0 0) /\ w' = w := by
  go_enter Tryz.func143, Tryz.ntmps143
  go_wp2
  go_ret
  exact ⟨rfl, rfl⟩
theorem rows_Split.does {l0 : List Tok} {r : List (List Tok)} (h : rows_Split.f l0 = some r) :
    Does Tryz.prog 143 [.c (.d (fr 3 dtok (0, 0, ByteArray.empty) l0))] [] (.c (.d (fr 1 (fun p => [fr 3 dtok (0, 0, ByteArray.empty) p]) [] r))) none [] := by
  unfold rows_Split.f at h
  obtain ⟨hl, h⟩ := ifp h
  obtain rfl := zI h
  subst hl
  obtain ⟨c, hc⟩ := Option.isSome_iff_exists.1 (show Tryz.f143.body.isSome = true from rfl)
  refine does_fresh3 ⟨Tryz.f143, c, Tryz.func143, by kernel_rfl, hc⟩ (by simp [IsDat]) fun w F args _ _ hr => ?_
  obtain ⟨v, rfl, h2⟩ := tsrel_one hr
  rw [TRel] at h2
  have h3 : DRel w F (.fro 3 0 (enc dtok (0, 0, ByteArray.empty) ([] : List Tok))) v := h2
  have h4 : ∃ a cap, v = .slice a 0 cap := by cases h3 <;> exact ⟨_, _, rfl⟩
  obtain ⟨a, cap, rfl⟩ := h4
  refine (split_empty a cap w).mono ?_
  rintro e w' ⟨rfl, rfl⟩
  refine ⟨_, rfl, Rests.rfl, fun _ _ _ => ?_⟩
  rw [TRel]
  exact .fro0 _ _ _ _

section
open Go.Shelf

theorem alloc1 (w : World) (o p : Obj) : ((w.alloc o).alloc p).heap[w.heap.size + 1]? = some p := by
  have := heap_alloc_new (w.alloc o) p
  simpa using this
theorem cellAt {w : World} {b t : Nat} {cs : Array Value} (h : w.heap[b]? = some (.cells cs t (0, 0))) (i : Nat) {v : Value} (hv : cs[i]? = some v) : w.cell? ⟨b, i, none⟩ = some v := by
  simp [World.cell?, h, hv]
theorem freeAt {w : World} {b t : Nat} {cs : Array Value} (h : w.heap[b]? = some (.cells cs t (0, 0))) (i : Nat) : w.frozen? ⟨b, i, none⟩ = false := by
  simp [World.frozen?, h]
theorem setAt {w : World} {b t : Nat} {cs : Array Value} (h : w.heap[b]? = some (.cells cs t (0, 0))) (i : Nat) (v : Value) : (w.setCell ⟨b, i, none⟩ v).heap[b]? = some (.cells (cs.set! i v) t (0, 0)) := by
  simp [World.setCell, Array.getElem?_modify, h]
theorem setOther {w : World} {b c : Nat} (h : b ≠ c) (i : Nat) (v : Value) : (w.setCell ⟨c, i, none⟩ v).heap[b]? = w.heap[b]? := Below.heap_setCell _ _ _ _ h
theorem results_tmp_row {P : Program} {fn : Func} {q p : Tmp} {ty : TypeId} (h : fn.results = #[.tmp q, .cell p ty]) (tmps : Array Value) (w : World) (g : Nat) (t : TypeId) (cs : Array Value) (fr : Nat × Nat) (d : TypeDesc)
    (hp : tmps.getD p undef = .pointer (some ⟨g, 0, none⟩)) (hg : w.heap[g]? = some (.cells cs t fr))
    (hu : P.underlying ty = some d) (hd : (match d with | .struct _ | .array _ _ => true | _ => false) = true) (hi : (P.info? ty).map (·.size) = some cs.size) :
    (results fn tmps).run P w = .ok (.tuple #[tmps.getD q undef, .agg cs]) w := by
  have hp' : tmps[p]?.getD undef = .pointer (some ⟨g, 0, none⟩) := by simpa using hp
  simp [results, h, hp', asAddr, run_loadVar_row w g t ty cs fr d hg hu hd hi]

theorem results_tmp_row2 {P : Program} {fn : Func} {q p : Tmp} {ty : TypeId} (h : fn.results = #[.tmp q, .cell p ty]) (tmps : Array Value) (w : World) (v : Value) (g : Nat) (t : TypeId) (cs : Array Value) (fr : Nat × Nat) (d : TypeDesc)
    (hq : tmps.getD q undef = v) (hp : tmps.getD p undef = .pointer (some ⟨g, 0, none⟩)) (hg : w.heap[g]? = some (.cells cs t fr))
    (hu : P.underlying ty = some d) (hd : (match d with | .struct _ | .array _ _ => true | _ => false) = true) (hi : (P.info? ty).map (·.size) = some cs.size) :
    (results fn tmps).run P w = .ok (.tuple #[v, .agg cs]) w := by
  subst hq
  exact results_tmp_row h tmps w g t cs fr d hp hg hu hd hi

def Met (w : World) (M : Nat) (a b : Int) : Prop := w.heap[M]? = some (.cells #[.int .i64 a, .int .i64 b, .int .i64 0, .bool false] 165 (0, 0))
theorem meter_new (w : World) : Calls Tryz.prog 38 #[] w fun e w' => e = .returned (.pointer (some ⟨w.heap.size, 0, none⟩)) /\ w' = w.alloc (.cells #[.int .i64 0, .int .i64 0, .int .i64 0, .bool false] 165) := by
  go_enter Tryz.func38, Tryz.ntmps38
  go_wp2
  go_ret
  exact ⟨rfl, rfl⟩

abbrev lim4 (a b c d : Int) : Array Value := #[.int .i64 a, .int .i64 b, .int .i64 c, .int .i64 d]
abbrev tI (n : Int) : TV := .c (.d (.int .i64 n))
abbrev cI (n : Int) : Cl := .d (.int .i64 n)
theorem args_lim {w : World} {F : Nat -> Prop} {β : Nat -> Option (Nat × Nat)} {ob : Nat -> Option Ob} (a b c d : Int) : TsRel w F β ob [.agg [cI a, cI b, cI c, cI d]] (#[.agg (lim4 a b c d)] : Array Value).toList := by
  refine tsrel_cons_mk ?_ tsrel_nil_mk
  rw [TRel]
  exact ⟨_, rfl, ⟨.int _ _, .int _ _, .int _ _, .int _ _, trivial⟩, by simp [Value.oneCell']⟩
theorem args_str {w : World} {F : Nat -> Prop} {β : Nat -> Option (Nat × Nat)} {ob : Nat -> Option Ob} (s : ByteArray) : TsRel w F β ob [.c (.d (.str s))] (#[.string s] : Array Value).toList := by
  refine tsrel_cons_mk ?_ tsrel_nil_mk
  rw [TRel]
  exact .str _
theorem bool_calls {P : Program} {f : FuncId} {args : List TV} {r : Bool} (D : Does P f args [] (.c (.d (.bool r))) none []) (W : World) (htab : TabOk W (Fz W)) (vs : Array Value) (h : TsRel W (Fz W) (fun _ => none) (lookO []) args vs.toList) :
    Calls P f vs W fun e W' => e = .returned (.bool r) /\ Rests W W' := by
  refine (told_calls D W htab vs h).mono ?_
  rintro e W' ⟨v, rfl, hR, F', β', ob', _, T⟩
  rw [TRel] at T
  have T' : DRel W' F' (.bool r) v := T
  cases T'
  exact ⟨rfl, hR⟩
theorem Rests.alloc {w : World} (o : Obj) : Rests w (w.alloc o) := ⟨.refl _, .refl _, .refl _, by simp, fun b hb => Below.heap_alloc w _ _ hb⟩
theorem Rests.drew {w w' : World} (h : Rests w w') : Rests w w'.drew := h
theorem Rests.set {w w' : World} (h : Rests w w') {a : Addr} (ha : w.heap.size <= a.block) (v : Value) : Rests w (w'.setCell a v) :=
  ⟨h.1, h.2.1, h.2.2.1, by simpa [World.setCell] using h.2.2.2.1, fun b hb => (Below.heap_setCell _ _ _ _ (show b ≠ a.block by omega)).trans (h.2.2.2.2 b hb)⟩
theorem Rests.set4 {w w' : World} (h : Rests w w') {b : Nat} (hb : w.heap.size <= b) (x y z u : Value) : Rests w ((((w'.setCell ⟨b, 0, none⟩ x).setCell ⟨b, 1, none⟩ y).setCell ⟨b, 2, none⟩ z).setCell ⟨b, 3, none⟩ u) := by
  exact (((h.set (a := ⟨b, 0, none⟩) hb x).set (a := ⟨b, 1, none⟩) hb y).set (a := ⟨b, 2, none⟩) hb z).set (a := ⟨b, 3, none⟩) hb u
theorem set4_other {w : World} {b c : Nat} (h : b ≠ c) (x y z u : Value) : ((((w.setCell ⟨c, 0, none⟩ x).setCell ⟨c, 1, none⟩ y).setCell ⟨c, 2, none⟩ z).setCell ⟨c, 3, none⟩ u).heap[b]? = w.heap[b]? :=
  (setOther h 3 u).trans ((setOther h 2 z).trans ((setOther h 1 y).trans (setOther h 0 x)))
theorem set4_size {w : World} (c : Nat) (x y z u : Value) : ((((w.setCell ⟨c, 0, none⟩ x).setCell ⟨c, 1, none⟩ y).setCell ⟨c, 2, none⟩ z).setCell ⟨c, 3, none⟩ u).heap.size = w.heap.size := by simp [World.setCell]
theorem news_tab {w w1 : World} {M : Nat} (htab : TabOk w (Fz w)) (hR : Rests w w1) (hM : w.heap.size <= M) : TabOk w1 (NM M w1) :=
  htab.rests fun b hb => ⟨⟨Nat.lt_of_lt_of_le hb hR.2.2.2.1, Nat.ne_of_lt (Nat.lt_of_lt_of_le hb hM)⟩, hR.2.2.2.2 b hb⟩
theorem alloc2_lt {w w1 : World} {o p : Obj} (hR : Rests ((w.alloc o).alloc p) w1) : w.heap.size + 1 < w1.heap.size := by
  have := hR.2.2.2.1
  simp at this
  omega
theorem fault_of {w : World} {F : Nat -> Prop} {β : Nat -> Option (Nat × Nat)} {ob : Nat -> Option Ob} {d : Dat} {m f0 f1 f2 f3 : Int} {us : List Value} (h : TsRel w F β ob [.agg [cI m, .d d], .agg [cI f0, cI f1, cI f2, cI f3]] us) :
    ∃ u, us = [.agg #[.int .i64 m, u], .agg (lim4 f0 f1 f2 f3)] /\ DRel w F d u /\ u.oneCell' = true := by
  match us, h with
  | [x, y], h =>
    unfold TsRel at h
    obtain ⟨h1, h2⟩ := h
    unfold TsRel at h2
    obtain ⟨h2, _⟩ := h2
    rw [TRel] at h1 h2
    obtain ⟨vs, rfl, g1, g2⟩ := h1
    obtain ⟨vt, rfl, g3, g4⟩ := h2
    obtain ⟨vs⟩ := vs
    obtain ⟨vt⟩ := vt
    match vs, g1, g2 with
    | [x, u], g1, g2 =>
      match vt, g3 with
      | [a, b, c, d], g3 =>
        obtain ⟨k1, k2, _⟩ := g1
        obtain ⟨k3, k4, k5, k6, _⟩ := g3
        cases k1
        cases k3; cases k4; cases k5; cases k6
        exact ⟨u, rfl, k2, g2 u (by simp)⟩
set_option maxRecDepth 100000 in
set_option maxHeartbeats 4000000 in
theorem new_wrong (a b c d : Int) (DR : Does Tryz.prog 16 [.agg [cI a, cI b, cI c, cI d]] [] (.c (.d (.bool false))) none []) (s : ByteArray) (w : World) (htab : TabOk w (Fz w)) :
    Calls Tryz.prog 15 #[.string s, .agg (lim4 a b c d)] w fun e w' => e = .returned (.tuple #[.pointer none, .agg (lim4 1 0 0 0)]) /\ Rests w w' := by
  have hR0 : Rests w ((w.alloc (.cells #[.int .i64 a, .int .i64 b, .int .i64 c, .int .i64 d] 42)).alloc (.cells #[.int .i64 0, .int .i64 0, .int .i64 0, .int .i64 0] 27)) := (Rests.alloc _).trans (Rests.alloc _)
  have C := bool_calls DR ((w.alloc (.cells #[.int .i64 a, .int .i64 b, .int .i64 c, .int .i64 d] 42)).alloc (.cells #[.int .i64 0, .int .i64 0, .int .i64 0, .int .i64 0] 27)) (htab.rests (hR0.fz fun b hb => hb)) _ (args_lim a b c d)
  go_enter Tryz.func15, Tryz.ntmps15
  go_wp2_with (go_at_call 16; refine C.mono ?_; rintro e w1 ⟨rfl, hR1⟩; have hb : w1.heap[w.heap.size + 1]? = some (.cells #[.int .i64 0, .int .i64 0, .int .i64 0, .int .i64 0] 27 (0, 0)) := (hR1.2.2.2.2 (w.heap.size + 1) (by simp)).trans (alloc1 _ _ _); have k0 := cellAt hb 0 rfl; have k1 := cellAt hb 1 rfl; have k2 := cellAt hb 2 rfl; have k3 := cellAt hb 3 rfl; have f0 := freeAt hb 0; have f1 := freeAt hb 1; have f2 := freeAt hb 2; have f3 := freeAt hb 3)
  have e := setAt (setAt (setAt (setAt hb 0 (.int .i64 1)) 1 (.int .i64 0)) 2 (.int .i64 0)) 3 (.int .i64 0)
  refine bodyPost_ret (results_tmp_row rfl _ _ (w.heap.size + 1) 27 _ (0, 0) _ rfl e Tryz.underlying27 rfl (by kernel_rfl)) rfl ⟨rfl, ?_⟩
  exact ((((hR0.trans hR1).set (a := ⟨w.heap.size + 1, 0, none⟩) (by simp) _).set (a := ⟨w.heap.size + 1, 1, none⟩) (by simp) _).set (a := ⟨w.heap.size + 1, 2, none⟩) (by simp) _).set (a := ⟨w.heap.size + 1, 3, none⟩) (by simp) _
set_option maxRecDepth 100000 in
set_option maxHeartbeats 4000000 in
theorem new_fault (a b c d : Int) (DR : Does Tryz.prog 16 [.agg [cI a, cI b, cI c, cI d]] [] (.c (.d (.bool true))) none []) (s : ByteArray) (m f0 f1 f2 f3 : Int) (hf : f0 ≠ 0) (sz n : Nat) (get : Nat -> List Dat)
    (DV : Does Tryz.prog 7 [.c (.d (.str s))] [] (.tup [.agg [cI m, .d (.fro sz n get)], .agg [cI f0, cI f1, cI f2, cI f3]]) none []) (w : World) (htab : TabOk w (Fz w)) :
    Calls Tryz.prog 15 #[.string s, .agg (lim4 a b c d)] w fun e w' => e = .returned (.tuple #[.pointer none, .agg (lim4 f0 f1 f2 f3)]) /\ Rests w w' := by
  have hR0 : Rests w ((w.alloc (.cells #[.int .i64 a, .int .i64 b, .int .i64 c, .int .i64 d] 42)).alloc (.cells #[.int .i64 0, .int .i64 0, .int .i64 0, .int .i64 0] 27)) := (Rests.alloc _).trans (Rests.alloc _)
  have C := bool_calls DR ((w.alloc (.cells #[.int .i64 a, .int .i64 b, .int .i64 c, .int .i64 d] 42)).alloc (.cells #[.int .i64 0, .int .i64 0, .int .i64 0, .int .i64 0] 27)) (htab.rests (hR0.fz fun b hb => hb)) _ (args_lim a b c d)
  go_enter Tryz.func15, Tryz.ntmps15
  go_wp2_with (first
    | (go_at_call 16; refine C.mono ?_; rintro e w1 ⟨rfl, hR1⟩
       have C2 := told_calls3 (by simp [IsDat]) DV w1 (htab.rests ((hR0.trans hR1).fz fun b hb => hb)) _ (args_str s)
       have hb : w1.heap[w.heap.size + 1]? = some (.cells #[.int .i64 0, .int .i64 0, .int .i64 0, .int .i64 0] 27 (0, 0)) := (hR1.2.2.2.2 (w.heap.size + 1) (by simp)).trans (alloc1 _ _ _))
    | (go_at_call 7; refine C2.mono ?_; rintro e w2 ⟨us, rfl, hR2, hT⟩
       obtain ⟨u, hu, hd, ho⟩ := fault_of hT
       obtain ⟨p1, l1, c1, rfl⟩ := fro_slc hd
       obtain rfl : us = #[.agg #[.int .i64 m, .slice p1 l1 c1], .agg (lim4 f0 f1 f2 f3)] := by cases us; simp_all
       have hlt := hR1.2.2.2.1
       have hlt2 := hR2.2.2.2.1
       have hb2 := (hR2.2.2.2.2 (w.heap.size + 1) (by simp at hlt; omega)).trans hb
       have k0 := cellAt hb2 0 rfl; have k1 := cellAt hb2 1 rfl; have k2 := cellAt hb2 2 rfl; have k3 := cellAt hb2 3 rfl; have g0 := freeAt hb2 0; have g1 := freeAt hb2 1; have g2 := freeAt hb2 2; have g3 := freeAt hb2 3))
  have hlt := hR1.2.2.2.1
  have hlt2 := hR2.2.2.2.1
  simp at hlt
  have hb3 : ((w2.alloc (.cells #[.int .i64 m, .slice p1 l1 c1] 24)).alloc (.cells #[.int .i64 f0, .int .i64 f1, .int .i64 f2, .int .i64 f3] 27)).heap[w.heap.size + 1]? = some (.cells #[.int .i64 0, .int .i64 0, .int .i64 0, .int .i64 0] 27 (0, 0)) :=
    (Below.heap_alloc _ _ _ (by simp; omega)).trans ((Below.heap_alloc _ _ _ (by omega)).trans hb2)
  have hf3 := alloc1 w2 (.cells #[.int .i64 m, .slice p1 l1 c1] 24) (.cells #[.int .i64 f0, .int .i64 f1, .int .i64 f2, .int .i64 f3] 27)
  have hR3 : Rests w ((w2.alloc (.cells #[.int .i64 m, .slice p1 l1 c1] 24)).alloc (.cells #[.int .i64 f0, .int .i64 f1, .int .i64 f2, .int .i64 f3] 27)) := (((hR0.trans hR1).trans hR2).trans (Rests.alloc _)).trans (Rests.alloc _)
  generalize ((w2.alloc (.cells #[.int .i64 m, .slice p1 l1 c1] 24)).alloc (.cells #[.int .i64 f0, .int .i64 f1, .int .i64 f2, .int .i64 f3] 27)) = w3 at hb3 hf3 hR3 ⊢
  have q0 := cellAt hf3 0 rfl; have q1 := cellAt hf3 1 rfl; have q2 := cellAt hf3 2 rfl; have q3 := cellAt hf3 3 rfl
  have k0 := cellAt hb3 0 rfl; have k1 := cellAt hb3 1 rfl; have k2 := cellAt hb3 2 rfl; have k3 := cellAt hb3 3 rfl; have g0 := freeAt hb3 0; have g1 := freeAt hb3 1; have g2 := freeAt hb3 2; have g3 := freeAt hb3 3
  go_region
  go_wp2
  have e := setAt (setAt (setAt (setAt hb3 0 (.int .i64 f0)) 1 (.int .i64 f1)) 2 (.int .i64 f2)) 3 (.int .i64 f3)
  refine bodyPost_ret (results_tmp_row rfl _ _ (w.heap.size + 1) 27 _ (0, 0) _ rfl e Tryz.underlying27 rfl (by kernel_rfl)) rfl ⟨rfl, ?_⟩
  exact (hR3.set4 (Nat.le_succ _) _ _ _ _).drew
structure Eng (w : World) (E M : Nat) (m : Int) (t : Value) (a b c d : Int) : Prop where
  blk : w.heap[E]? = some (.cells #[.int .i64 m, t, .int .i64 a, .int .i64 b, .int .i64 c, .int .i64 d, .pointer (some ⟨M, 0, none⟩)] 99 (0, 0))
  ne : E ≠ M
set_option maxRecDepth 100000 in
set_option maxHeartbeats 4000000 in
theorem new_ok (a b c d : Int) (DR : Does Tryz.prog 16 [.agg [cI a, cI b, cI c, cI d]] [] (.c (.d (.bool true))) none []) (s : ByteArray) (m f1 f2 f3 : Int) (sz n : Nat) (get : Nat -> List Dat)
    (DV : Does Tryz.prog 7 [.c (.d (.str s))] [] (.tup [.agg [cI m, .d (.fro sz n get)], .agg [cI 0, cI f1, cI f2, cI f3]]) none []) (w : World) (htab : TabOk w (Fz w)) :
    Calls Tryz.prog 15 #[.string s, .agg (lim4 a b c d)] w fun e w' => ∃ (M : Nat) (t : Value), w.heap.size <= M /\ e = .returned (.tuple #[.pointer (some ⟨M + 1, 0, none⟩), .agg (lim4 0 0 0 0)]) /\ Rests w w' /\ Eng w' (M + 1) M m t a b c d /\ Met w' M 0 0 /\ DRel w' (NM M w') (.fro sz n get) t := by
  have hR0 : Rests w ((w.alloc (.cells #[.int .i64 a, .int .i64 b, .int .i64 c, .int .i64 d] 42)).alloc (.cells #[.int .i64 0, .int .i64 0, .int .i64 0, .int .i64 0] 27)) := (Rests.alloc _).trans (Rests.alloc _)
  have C := bool_calls DR ((w.alloc (.cells #[.int .i64 a, .int .i64 b, .int .i64 c, .int .i64 d] 42)).alloc (.cells #[.int .i64 0, .int .i64 0, .int .i64 0, .int .i64 0] 27)) (htab.rests (hR0.fz fun b hb => hb)) _ (args_lim a b c d)
  go_enter Tryz.func15, Tryz.ntmps15
  go_wp2_with (first
    | (go_at_call 16; refine C.mono ?_; rintro e w1 ⟨rfl, hR1⟩
       have C2 := told_callsN (M := w.heap.size + 1) (by simp [IsDat]) DV w1 (alloc2_lt hR1) (news_tab htab (hR0.trans hR1) (Nat.le_succ _)) _ (args_str s)
       have hb : w1.heap[w.heap.size + 1]? = some (.cells #[.int .i64 0, .int .i64 0, .int .i64 0, .int .i64 0] 27 (0, 0)) := (hR1.2.2.2.2 (w.heap.size + 1) (by simp)).trans (alloc1 _ _ _))
    | (go_at_call 7; refine C2.mono ?_; rintro e w2 ⟨us, rfl, hR2, hT⟩
       obtain ⟨u, hu, hd, ho⟩ := fault_of hT
       obtain ⟨p1, l1, c1, rfl⟩ := fro_slc hd
       obtain rfl : us = #[.agg #[.int .i64 m, .slice p1 l1 c1], .agg (lim4 0 f1 f2 f3)] := by cases us; simp_all
       have hlt := hR1.2.2.2.1
       have hlt2 := hR2.2.2.2.1
       have hb2 := (hR2.2.2.2.2 (w.heap.size + 1) (by simp at hlt; omega)).trans hb
       have k0 := cellAt hb2 0 rfl; have k1 := cellAt hb2 1 rfl; have k2 := cellAt hb2 2 rfl; have k3 := cellAt hb2 3 rfl; have g0 := freeAt hb2 0; have g1 := freeAt hb2 1; have g2 := freeAt hb2 2; have g3 := freeAt hb2 3))
  have hlt := hR1.2.2.2.1
  have hlt2 := hR2.2.2.2.1
  simp at hlt
  have hb3 : ((w2.alloc (.cells #[.int .i64 m, .slice p1 l1 c1] 24)).alloc (.cells #[.int .i64 0, .int .i64 f1, .int .i64 f2, .int .i64 f3] 27)).heap[w.heap.size + 1]? = some (.cells #[.int .i64 0, .int .i64 0, .int .i64 0, .int .i64 0] 27 (0, 0)) :=
    (Below.heap_alloc _ _ _ (by simp; omega)).trans ((Below.heap_alloc _ _ _ (by omega)).trans hb2)
  have hf3 := alloc1 w2 (.cells #[.int .i64 m, .slice p1 l1 c1] 24) (.cells #[.int .i64 0, .int .i64 f1, .int .i64 f2, .int .i64 f3] 27)
  have hR3 : Rests w ((w2.alloc (.cells #[.int .i64 m, .slice p1 l1 c1] 24)).alloc (.cells #[.int .i64 0, .int .i64 f1, .int .i64 f2, .int .i64 f3] 27)) := (((hR0.trans hR1).trans hR2).trans (Rests.alloc _)).trans (Rests.alloc _)
  have hl3 : ((w2.alloc (.cells #[.int .i64 m, .slice p1 l1 c1] 24)).alloc (.cells #[.int .i64 0, .int .i64 f1, .int .i64 f2, .int .i64 f3] 27)).heap[w.heap.size]? = some (.cells #[.int .i64 a, .int .i64 b, .int .i64 c, .int .i64 d] 42 (0, 0)) :=
    (Below.heap_alloc _ _ _ (by simp; omega)).trans ((Below.heap_alloc _ _ _ (by omega)).trans ((hR2.2.2.2.2 _ (by omega)).trans ((hR1.2.2.2.2 _ (by simp; omega)).trans (heap_alloc2_old _ _ _))))
  have hm3 : ((w2.alloc (.cells #[.int .i64 m, .slice p1 l1 c1] 24)).alloc (.cells #[.int .i64 0, .int .i64 f1, .int .i64 f2, .int .i64 f3] 27)).heap[w2.heap.size]? = some (.cells #[.int .i64 m, .slice p1 l1 c1] 24 (0, 0)) := heap_alloc2_old _ _ _
  have hd3 : DRel ((w2.alloc (.cells #[.int .i64 m, .slice p1 l1 c1] 24)).alloc (.cells #[.int .i64 0, .int .i64 f1, .int .i64 f2, .int .i64 f3] 27)) (NM (w.heap.size + 1) w2) (.fro sz n get) (.slice p1 l1 c1) := hd.mono fun b hb => ⟨hb, (Below.heap_alloc _ _ _ (by have : b < w2.heap.size := hb.1; simp; omega)).trans (Below.heap_alloc _ _ _ hb.1)⟩
  have hs3 : w2.heap.size + 2 <= ((w2.alloc (.cells #[.int .i64 m, .slice p1 l1 c1] 24)).alloc (.cells #[.int .i64 0, .int .i64 f1, .int .i64 f2, .int .i64 f3] 27)).heap.size := by simp
  generalize ((w2.alloc (.cells #[.int .i64 m, .slice p1 l1 c1] 24)).alloc (.cells #[.int .i64 0, .int .i64 f1, .int .i64 f2, .int .i64 f3] 27)) = w3 at hb3 hf3 hR3 hl3 hm3 hd3 hs3 ⊢
  have q0 := cellAt hf3 0 rfl; have q1 := cellAt hf3 1 rfl; have q2 := cellAt hf3 2 rfl; have q3 := cellAt hf3 3 rfl
  have k0 := cellAt hb3 0 rfl; have k1 := cellAt hb3 1 rfl; have k2 := cellAt hb3 2 rfl; have k3 := cellAt hb3 3 rfl; have g0 := freeAt hb3 0; have g1 := freeAt hb3 1; have g2 := freeAt hb3 2; have g3 := freeAt hb3 3
  have v0 := cellAt hm3 0 rfl; have v1 := cellAt hm3 1 rfl
  have r0 := cellAt hl3 0 rfl; have r1 := cellAt hl3 1 rfl; have r2 := cellAt hl3 2 rfl; have r3 := cellAt hl3 3 rfl
  have hlt3 : w.heap.size + 1 < w3.heap.size := (Array.getElem?_eq_some_iff.1 hb3).1
  have hb4 : ((w3.alloc (.cells #[.int .i64 0, .int .i64 0, .int .i64 0, .bool false] 165)).alloc (.cells #[.int .i64 m, .slice p1 l1 c1, .int .i64 a, .int .i64 b, .int .i64 c, .int .i64 d, .pointer (some ⟨w3.heap.size, 0, none⟩)] 99)).heap[w.heap.size + 1]? = some (.cells #[.int .i64 0, .int .i64 0, .int .i64 0, .int .i64 0] 27 (0, 0)) :=
    (Below.heap_alloc _ _ _ (by simp; omega)).trans ((Below.heap_alloc _ _ _ (by omega)).trans hb3)
  have h0 := cellAt hb4 0 rfl; have h1 := cellAt hb4 1 rfl; have h2 := cellAt hb4 2 rfl; have h3 := cellAt hb4 3 rfl; have j0 := freeAt hb4 0; have j1 := freeAt hb4 1; have j2 := freeAt hb4 2; have j3 := freeAt hb4 3
  have hl4 : (w3.alloc (.cells #[.int .i64 0, .int .i64 0, .int .i64 0, .bool false] 165)).heap[w.heap.size]? = some (.cells #[.int .i64 a, .int .i64 b, .int .i64 c, .int .i64 d] 42 (0, 0)) := (Below.heap_alloc _ _ _ (by omega)).trans hl3
  have hm4 : (w3.alloc (.cells #[.int .i64 0, .int .i64 0, .int .i64 0, .bool false] 165)).heap[w2.heap.size]? = some (.cells #[.int .i64 m, .slice p1 l1 c1] 24 (0, 0)) := (Below.heap_alloc _ _ _ (by omega)).trans hm3
  have x0 := cellAt hm4 0 rfl; have x1 := cellAt hm4 1 rfl
  have y0 := cellAt hl4 0 rfl; have y1 := cellAt hl4 1 rfl; have y2 := cellAt hl4 2 rfl; have y3 := cellAt hl4 3 rfl
  have FIN : ∃ W : World, W = (((((((w3.alloc (.cells #[.int .i64 0, .int .i64 0, .int .i64 0, .bool false] 165)).alloc (.cells #[.int .i64 m, .slice p1 l1 c1, .int .i64 a, .int .i64 b, .int .i64 c, .int .i64 d, .pointer (some ⟨w3.heap.size, 0, none⟩)] 99)).setCell ⟨w.heap.size + 1, 0, none⟩ (.int .i64 0)).setCell ⟨w.heap.size + 1, 1, none⟩ (.int .i64 0)).setCell ⟨w.heap.size + 1, 2, none⟩ (.int .i64 0)).setCell ⟨w.heap.size + 1, 3, none⟩ (.int .i64 0)).drew) /\ W.heap[w.heap.size + 1]? = some (.cells #[.int .i64 0, .int .i64 0, .int .i64 0, .int .i64 0] 27 (0, 0)) /\ (∃ (M : Nat) (t : Value), w.heap.size <= M /\ (Ending.returned (.tuple #[.pointer (some ⟨w3.heap.size + 1, 0, none⟩), .agg (lim4 0 0 0 0)])) = .returned (.tuple #[.pointer (some ⟨M + 1, 0, none⟩), .agg (lim4 0 0 0 0)]) /\ Rests w W /\ Eng W (M + 1) M m t a b c d /\ Met W M 0 0 /\ DRel W (NM M W) (.fro sz n get) t) := by
    refine ⟨_, rfl, setAt (setAt (setAt (setAt hb4 0 (.int .i64 0)) 1 (.int .i64 0)) 2 (.int .i64 0)) 3 (.int .i64 0), w3.heap.size, .slice p1 l1 c1, by omega, rfl, (((hR3.trans (Rests.alloc _)).trans (Rests.alloc _)).set4 (Nat.le_succ _) _ _ _ _).drew, ⟨(set4_other (by omega) _ _ _ _).trans (alloc1 _ _ _), by omega⟩, (set4_other (by omega) _ _ _ _).trans (heap_alloc2_old _ _ _), hd3.mono fun b hb => ?_⟩
    obtain ⟨hb', hne⟩ : b < w2.heap.size /\ b ≠ w.heap.size + 1 := hb
    have hb3 : b < w3.heap.size := by omega
    refine ⟨⟨Nat.lt_of_lt_of_le hb3 ?_, by omega⟩, ?_⟩
    · refine Nat.le_trans ?_ (Nat.le_of_eq (set4_size _ _ _ _ _).symm)
      simp
      omega
    · exact (set4_other hne _ _ _ _).trans ((Below.heap_alloc _ _ _ (by simp; omega)).trans (Below.heap_alloc _ _ _ hb3))
  obtain ⟨W, hW, e, FIN⟩ := FIN
  go_region_law (refine step_call rfl 38 #[] #[] rfl ⟨Tryz.f38, _, Tryz.func38, by kernel_rfl, rfl⟩ #[] (by simp) (meter_new _) ?_; rintro e w4 ⟨rfl, rfl⟩; refine ⟨_, rfl, ?_⟩)
  all_goals
    go_wp2
    rw [<- hW]
    exact bodyPost_ret (results_tmp_row2 rfl _ _ (.pointer (some ⟨w3.heap.size + 1, 0, none⟩)) (w.heap.size + 1) 27 _ (0, 0) _ rfl rfl e Tryz.underlying27 rfl (by kernel_rfl)) rfl FIN
theorem load64 {w : World} {A : Addr} {x : Int} (h : w.cell? A = some (.int .i64 x)) : (callFunc 153 #[.pointer (some A)]).run Tryz.prog w = .ok (.value (.int .i64 x)) w :=
  run_call_load (fn := Tryz.f153) Tryz.func153 (by kernel_rfl) (by kernel_rfl) (by kernel_rfl) .i64 (by rfl) h
theorem Load (w : World) (b o : Nat) (x : Int) (h : w.cell? ⟨b, o, none⟩ = some (.int .i64 x)) : Calls Tryz.prog 92 #[.pointer (some ⟨b, o, none⟩)] w fun e w' => e = .returned (.int .i64 x) /\ w' = w := by
  have hl := load64 h
  go_enter Tryz.func92, Tryz.ntmps92
  go_wp2
  go_ret
  exact ⟨rfl, rfl⟩
set_option maxRecDepth 100000 in
set_option maxHeartbeats 4000000 in
theorem meter_counts (w : World) (M : Nat) (a b : Int) (h : Met w M a b) : Calls Tryz.prog 42 #[.pointer (some ⟨M, 0, none⟩)] w fun e w' => e = .returned (.tuple #[.int .i64 a, .int .i64 b]) /\ Rests w w' := by
  have c0 := cellAt h 0 rfl
  have c1 := cellAt h 1 rfl
  go_enter Tryz.func42, Tryz.ntmps42
  go_wp2
  go_region_law (first
    | (refine step_call rfl 92 #[.tmp 9] #[161] rfl ⟨Tryz.f92, _, Tryz.func92, by kernel_rfl, rfl⟩ #[.pointer (some ⟨M, 0, none⟩)] (by simp [Act.eval, Act.put]) (Load _ M 0 a c0) ?_; rintro e w1 ⟨rfl, rfl⟩; refine ⟨_, rfl, ?_⟩)
    | (refine step_call rfl 92 #[.tmp 14] #[161] rfl ⟨Tryz.f92, _, Tryz.func92, by kernel_rfl, rfl⟩ #[.pointer (some ⟨M, 1, none⟩)] (by simp [Act.eval, Act.put]) (Load _ M 1 b c1) ?_; rintro e w1 ⟨rfl, rfl⟩; refine ⟨_, rfl, ?_⟩))
  all_goals go_wp2
  all_goals go_ret2
  all_goals exact ⟨rfl, Rests.drew Rests.rfl⟩
theorem eng_counts (w : World) (E M : Nat) (m : Int) (t : Value) (la lb lc ld a b : Int) (hE : Eng w E M m t la lb lc ld) (h : Met w M a b) : Calls Tryz.prog 18 #[.pointer (some ⟨E, 0, none⟩)] w fun e w' => e = .returned (.tuple #[.int .i64 a, .int .i64 b]) /\ Rests w w' := by
  have c0 := cellAt hE.blk 6 rfl
  have cE := cellAt hE.blk 0 rfl
  have C := meter_counts w M a b h
  go_enter Tryz.func18, Tryz.ntmps18
  go_wp2_with (go_at_call 42; refine C.mono ?_; rintro e w1 ⟨rfl, hR⟩)
  go_ret2
  exact ⟨rfl, hR⟩
theorem str_err {w : World} {F : Nat -> Prop} {β : Nat -> Option (Nat × Nat)} {ob : Nat -> Option Ob} {s : ByteArray} {e : Int} {us : List Value} (h : TsRel w F β ob [.c (.d (.str s)), .c (.d (.int .i64 e))] us) : us = [.string s, .int .i64 e] := by
  match us, h with
  | [x, y], h =>
    unfold TsRel at h
    obtain ⟨h1, h2⟩ := h
    unfold TsRel at h2
    obtain ⟨h2, _⟩ := h2
    rw [TRel] at h1 h2
    cases h1
    cases h2
    rfl
theorem args_model {w : World} {F : Nat -> Prop} {β : Nat -> Option (Nat × Nat)} {ob : Nat -> Option Ob} {d : Dat} {t : Value} (m : Int) (h : DRel w F d t) (h1 : t.oneCell' = true) : TsRel w F β ob [.agg [cI m, .d d]] (#[.agg #[.int .i64 m, t]] : Array Value).toList := by
  refine tsrel_cons_mk ?_ tsrel_nil_mk
  rw [TRel]
  exact ⟨_, rfl, ⟨.int _ _, h, trivial⟩, fun u hu => by
    simp at hu
    rcases hu with rfl | rfl
    · rfl
    · exact h1⟩
theorem eng_model (w : World) (E M : Nat) (m : Int) (t : Value) (la lb lc ld : Int) (hE : Eng w E M m t la lb lc ld) (sz n : Nat) (get : Nat -> List Dat) (hd : DRel w (NM M w) (.fro sz n get) t) (s : ByteArray) (e' : Int)
    (DW : Does Tryz.prog 17 [.agg [cI m, .d (.fro sz n get)]] [] (.tup [.c (.d (.str s)), .c (.d (.int .i64 e'))]) none []) (htab : TabOk w (Fz w)) : Calls Tryz.prog 19 #[.pointer (some ⟨E, 0, none⟩)] w fun e w' => e = .returned (.string s) /\ Rests w w' := by
  obtain ⟨p, l, c, rfl⟩ := fro_slc hd
  have c0 := cellAt hE.blk 0 rfl
  have c1 := cellAt hE.blk 1 rfl
  have C := told_calls3 (by simp [IsDat]) DW w htab _ (args_model m (hd.mono fun b hb => ⟨hb.1, rfl⟩) rfl)
  go_enter Tryz.func19, Tryz.ntmps19
  go_wp2_with (go_at_call 17; refine C.mono ?_; rintro e w1 ⟨us, rfl, hR, hT⟩; have hu := str_err hT; obtain rfl : us = #[.string s, .int .i64 e'] := by cases us; simp_all)
  go_ret
  exact ⟨rfl, hR⟩
theorem alloc2_old (w : World) (o p : Obj) {b : Nat} (h : b < w.heap.size) : ((w.alloc o).alloc p).heap[b]? = w.heap[b]? :=
  (Below.heap_alloc _ _ _ (by simp; omega)).trans (Below.heap_alloc _ _ _ h)
def Awake : Prop := ∀ w : World, TabOk w (Fz w) -> Calls Tryz.prog 8 #[] w fun e w' => e = .returned (.bool true) /\ Rests w w'
theorem Rests.tab {w w' : World} (h : Rests w w') (t : TabOk w (Fz w)) : TabOk w' (Fz w') := t.rests (h.fz fun b hb => hb)
set_option maxRecDepth 100000 in
set_option maxHeartbeats 4000000 in
theorem news_wrong (HA : Awake) (a b c d : Int) (DR : Does Tryz.prog 16 [.agg [cI a, cI b, cI c, cI d]] [] (.c (.d (.bool false))) none []) (s s' : ByteArray) (hs : s' = cutT s) (m f0 f1 f2 f3 : Int) (sz n : Nat) (get : Nat -> List Dat)
    (DV : Does Tryz.prog 7 [.c (.d (.str s'))] [] (.tup [.agg [cI m, .d (.fro sz n get)], .agg [cI f0, cI f1, cI f2, cI f3]]) none []) (w : World) (htab : TabOk w (Fz w)) :
    Calls Tryz.prog 4 #[.string s, .agg (lim4 a b c d)] w fun e w' => e = .returned (.bool true) /\ Rests w w' := by
  unfold cutT at hs
  by_cases h4 : 4000 < s.size
  all_goals
    first | rw [if_pos h4] at hs | rw [if_neg h4] at hs
    subst hs
    have hR0 : Rests w (w.alloc (.cells #[.int .i64 a, .int .i64 b, .int .i64 c, .int .i64 d] 42)) := Rests.alloc _
    go_enter Tryz.func4, Tryz.ntmps4
    go_wp2_with (first
      | (go_at_call 15; refine (new_wrong a b c d DR _ _ (hR0.tab htab)).mono ?_; rintro e w1 ⟨rfl, hR1⟩)
      | (go_at_call 7; refine (told_calls3 (by simp [IsDat]) DV _ ((((hR0.trans hR1).trans (Rests.alloc _))).tab htab) _ (args_str _)).mono ?_; rintro e w2 ⟨us, rfl, hR2, hT⟩
         obtain ⟨u, hu, hd, ho⟩ := fault_of hT
         obtain ⟨p1, l1, c1, rfl⟩ := fro_slc hd
         obtain rfl : us = #[.agg #[.int .i64 m, .slice p1 l1 c1], .agg (lim4 f0 f1 f2 f3)] := by cases us; simp_all
         have hR3 : Rests w ((w2.alloc (.cells #[.int .i64 m, .slice p1 l1 c1] 24)).alloc (.cells #[.int .i64 f0, .int .i64 f1, .int .i64 f2, .int .i64 f3] 27)) := ((((hR0.trans hR1).trans (Rests.alloc _)).trans hR2).trans (Rests.alloc _)).trans (Rests.alloc _)
         have z0 : (w.alloc (.cells #[.int .i64 a, .int .i64 b, .int .i64 c, .int .i64 d] 42)).heap.size = w.heap.size + 1 := by simp
         have z1 := hR1.2.2.2.1
         have z2 := hR2.2.2.2.1
         have z3 : (w1.alloc (.cells #[.int .i64 1, .int .i64 0, .int .i64 0, .int .i64 0] 27)).heap.size = w1.heap.size + 1 := by simp
         have hl : w2.heap[w.heap.size]? = some (.cells #[.int .i64 a, .int .i64 b, .int .i64 c, .int .i64 d] 42 (0, 0)) := (hR2.2.2.2.2 _ (by omega)).trans ((Below.heap_alloc _ _ _ (by omega)).trans ((hR1.2.2.2.2 _ (by omega)).trans (heap_alloc_new _ _)))
         have hf : w2.heap[w1.heap.size]? = some (.cells #[.int .i64 1, .int .i64 0, .int .i64 0, .int .i64 0] 27 (0, 0)) := (hR2.2.2.2.2 _ (by omega)).trans (heap_alloc_new _ _)
         have hl3 := (alloc2_old w2 (.cells #[.int .i64 m, .slice p1 l1 c1] 24) (.cells #[.int .i64 f0, .int .i64 f1, .int .i64 f2, .int .i64 f3] 27) (b := w.heap.size) (by omega)).trans hl
         have hf3 := (alloc2_old w2 (.cells #[.int .i64 m, .slice p1 l1 c1] 24) (.cells #[.int .i64 f0, .int .i64 f1, .int .i64 f2, .int .i64 f3] 27) (b := w1.heap.size) (by omega)).trans hf
         have hg3 := alloc1 w2 (.cells #[.int .i64 m, .slice p1 l1 c1] 24) (.cells #[.int .i64 f0, .int .i64 f1, .int .i64 f2, .int .i64 f3] 27)
         have hm3 := heap_alloc2_old w2 (.cells #[.int .i64 m, .slice p1 l1 c1] 24) (.cells #[.int .i64 f0, .int .i64 f1, .int .i64 f2, .int .i64 f3] 27)
         have y0 := cellAt hl3 0 rfl; have y1 := cellAt hl3 1 rfl; have y2 := cellAt hl3 2 rfl; have y3 := cellAt hl3 3 rfl)
      | (go_at_call 16; refine (bool_calls DR _ (hR3.tab htab) _ (args_lim a b c d)).mono ?_; rintro e w3 ⟨rfl, hR4⟩
         have z4 := hR4.2.2.2.1
         have z5 : ((w2.alloc (.cells #[.int .i64 m, .slice p1 l1 c1] 24)).alloc (.cells #[.int .i64 f0, .int .i64 f1, .int .i64 f2, .int .i64 f3] 27)).heap.size = w2.heap.size + 2 := by simp
         have hg4 := (hR4.2.2.2.2 (w2.heap.size + 1) (by omega)).trans hg3
         have hm4 := (hR4.2.2.2.2 w2.heap.size (by omega)).trans hm3
         have hf4 := (hR4.2.2.2.2 w1.heap.size (by omega)).trans hf3
         have hne : ¬ w1.heap.size = w2.heap.size + 1 := by omega
         have q0 := cellAt hg4 0 rfl; have q1 := cellAt hg4 1 rfl; have q2 := cellAt hg4 2 rfl; have q3 := cellAt hg4 3 rfl; have j0 := freeAt hg4 0; have j1 := freeAt hg4 1; have j2 := freeAt hg4 2; have j3 := freeAt hg4 3
         have v0 := cellAt hf4 0 rfl; have v1 := cellAt hf4 1 rfl; have v2 := cellAt hf4 2 rfl; have v3 := cellAt hf4 3 rfl
         have m0 := cellAt hm4 0 rfl; have m1 := cellAt hm4 1 rfl)
      | (go_at_call 8; refine (HA _ (((hR3.trans hR4).set4 (b := w2.heap.size + 1) (by omega) _ _ _ _).tab htab)).mono ?_; rintro e w5 ⟨rfl, hR5⟩))
    go_ret
    exact ⟨rfl, ((hR3.trans hR4).set4 (b := w2.heap.size + 1) (by omega) _ _ _ _).trans hR5⟩
set_option maxRecDepth 100000 in
set_option maxHeartbeats 4000000 in
theorem news_fault (HA : Awake) (a b c d : Int) (DR : Does Tryz.prog 16 [.agg [cI a, cI b, cI c, cI d]] [] (.c (.d (.bool true))) none []) (s s' : ByteArray) (hs : s' = cutT s) (m f0 f1 f2 f3 : Int) (sz n : Nat) (get : Nat -> List Dat)
    (DV : Does Tryz.prog 7 [.c (.d (.str s'))] [] (.tup [.agg [cI m, .d (.fro sz n get)], .agg [cI f0, cI f1, cI f2, cI f3]]) none []) (hf0 : f0 ≠ 0) (w : World) (htab : TabOk w (Fz w)) :
    Calls Tryz.prog 4 #[.string s, .agg (lim4 a b c d)] w fun e w' => e = .returned (.bool true) /\ Rests w w' := by
  unfold cutT at hs
  by_cases h4 : 4000 < s.size
  all_goals
    first | rw [if_pos h4] at hs | rw [if_neg h4] at hs
    subst hs
    have hR0 : Rests w (w.alloc (.cells #[.int .i64 a, .int .i64 b, .int .i64 c, .int .i64 d] 42)) := Rests.alloc _
    go_enter Tryz.func4, Tryz.ntmps4
    go_wp2_with (first
      | (go_at_call 15; refine (new_fault a b c d DR _ m f0 f1 f2 f3 hf0 sz n get DV _ (hR0.tab htab)).mono ?_; rintro e w1 ⟨rfl, hR1⟩)
      | (go_at_call 7; refine (told_calls3 (by simp [IsDat]) DV _ ((((hR0.trans hR1).trans (Rests.alloc _))).tab htab) _ (args_str _)).mono ?_; rintro e w2 ⟨us, rfl, hR2, hT⟩
         obtain ⟨u, hu, hd, ho⟩ := fault_of hT
         obtain ⟨p1, l1, c1, rfl⟩ := fro_slc hd
         obtain rfl : us = #[.agg #[.int .i64 m, .slice p1 l1 c1], .agg (lim4 f0 f1 f2 f3)] := by cases us; simp_all
         have hR3 : Rests w ((w2.alloc (.cells #[.int .i64 m, .slice p1 l1 c1] 24)).alloc (.cells #[.int .i64 f0, .int .i64 f1, .int .i64 f2, .int .i64 f3] 27)) := ((((hR0.trans hR1).trans (Rests.alloc _)).trans hR2).trans (Rests.alloc _)).trans (Rests.alloc _)
         have z0 : (w.alloc (.cells #[.int .i64 a, .int .i64 b, .int .i64 c, .int .i64 d] 42)).heap.size = w.heap.size + 1 := by simp
         have z1 := hR1.2.2.2.1
         have z2 := hR2.2.2.2.1
         have z3 : (w1.alloc (.cells #[.int .i64 f0, .int .i64 f1, .int .i64 f2, .int .i64 f3] 27)).heap.size = w1.heap.size + 1 := by simp
         have hl : w2.heap[w.heap.size]? = some (.cells #[.int .i64 a, .int .i64 b, .int .i64 c, .int .i64 d] 42 (0, 0)) := (hR2.2.2.2.2 _ (by omega)).trans ((Below.heap_alloc _ _ _ (by omega)).trans ((hR1.2.2.2.2 _ (by omega)).trans (heap_alloc_new _ _)))
         have hf : w2.heap[w1.heap.size]? = some (.cells #[.int .i64 f0, .int .i64 f1, .int .i64 f2, .int .i64 f3] 27 (0, 0)) := (hR2.2.2.2.2 _ (by omega)).trans (heap_alloc_new _ _)
         have hl3 := (alloc2_old w2 (.cells #[.int .i64 m, .slice p1 l1 c1] 24) (.cells #[.int .i64 f0, .int .i64 f1, .int .i64 f2, .int .i64 f3] 27) (b := w.heap.size) (by omega)).trans hl
         have hf3 := (alloc2_old w2 (.cells #[.int .i64 m, .slice p1 l1 c1] 24) (.cells #[.int .i64 f0, .int .i64 f1, .int .i64 f2, .int .i64 f3] 27) (b := w1.heap.size) (by omega)).trans hf
         have hg3 := alloc1 w2 (.cells #[.int .i64 m, .slice p1 l1 c1] 24) (.cells #[.int .i64 f0, .int .i64 f1, .int .i64 f2, .int .i64 f3] 27)
         have hm3 := heap_alloc2_old w2 (.cells #[.int .i64 m, .slice p1 l1 c1] 24) (.cells #[.int .i64 f0, .int .i64 f1, .int .i64 f2, .int .i64 f3] 27)
         have y0 := cellAt hl3 0 rfl; have y1 := cellAt hl3 1 rfl; have y2 := cellAt hl3 2 rfl; have y3 := cellAt hl3 3 rfl)
      | (go_at_call 16; refine (bool_calls DR _ (hR3.tab htab) _ (args_lim a b c d)).mono ?_; rintro e w3 ⟨rfl, hR4⟩
         have z4 := hR4.2.2.2.1
         have z5 : ((w2.alloc (.cells #[.int .i64 m, .slice p1 l1 c1] 24)).alloc (.cells #[.int .i64 f0, .int .i64 f1, .int .i64 f2, .int .i64 f3] 27)).heap.size = w2.heap.size + 2 := by simp
         have hg4 := (hR4.2.2.2.2 (w2.heap.size + 1) (by omega)).trans hg3
         have hm4 := (hR4.2.2.2.2 w2.heap.size (by omega)).trans hm3
         have hf4 := (hR4.2.2.2.2 w1.heap.size (by omega)).trans hf3
         have hne : ¬ w1.heap.size = w2.heap.size + 1 := by omega
         have q0 := cellAt hg4 0 rfl; have q1 := cellAt hg4 1 rfl; have q2 := cellAt hg4 2 rfl; have q3 := cellAt hg4 3 rfl; have j0 := freeAt hg4 0; have j1 := freeAt hg4 1; have j2 := freeAt hg4 2; have j3 := freeAt hg4 3
         have v0 := cellAt hf4 0 rfl; have v1 := cellAt hf4 1 rfl; have v2 := cellAt hf4 2 rfl; have v3 := cellAt hf4 3 rfl
         have m0 := cellAt hm4 0 rfl; have m1 := cellAt hm4 1 rfl)
      | (go_at_call 8; refine (HA _ ((hR3.trans hR4).tab htab)).mono ?_; rintro e w5 ⟨rfl, hR5⟩))
    go_ret
    exact ⟨by simp, (hR3.trans hR4).trans hR5⟩
theorem Eng.rests {w w' : World} {E M : Nat} {m : Int} {t : Value} {a b c d : Int} (h : Eng w E M m t a b c d) (R : Rests w w') : Eng w' E M m t a b c d :=
  ⟨(R.2.2.2.2 E (lt_of_block h.blk)).trans h.blk, h.ne⟩
theorem Met.rests {w w' : World} {M : Nat} {a b : Int} (h : Met w M a b) (R : Rests w w') : Met w' M a b := (R.2.2.2.2 M (lt_of_block h)).trans h
theorem drel_rests {w w' : World} {M : Nat} {d : Dat} {v : Value} (h : DRel w (NM M w) d v) (R : Rests w w') : DRel w' (NM M w') d v :=
  h.mono fun b hb => ⟨⟨Nat.lt_of_lt_of_le hb.1 R.2.2.2.1, hb.2⟩, R.2.2.2.2 b hb.1⟩
theorem drel_fz {w w' : World} {d : Dat} {v : Value} (h : DRel w (Fz w) d v) (R : Rests w w') : DRel w' (Fz w') d v :=
  h.mono fun b hb => ⟨Nat.lt_of_lt_of_le hb R.2.2.2.1, R.2.2.2.2 b hb⟩
set_option maxRecDepth 100000 in
set_option maxHeartbeats 4000000 in
theorem news_ok (HA : Awake) (a b c d : Int) (DR : Does Tryz.prog 16 [.agg [cI a, cI b, cI c, cI d]] [] (.c (.d (.bool true))) none []) (s s' : ByteArray) (hs : s' = cutT s) (m : Int) (sz n : Nat) (get : Nat -> List Dat)
    (DV : Does Tryz.prog 7 [.c (.d (.str s'))] [] (.tup [.agg [cI m, .d (.fro sz n get)], .agg [cI 0, cI 0, cI 0, cI 0]]) none [])
    (ts : ByteArray) (DW : Does Tryz.prog 17 [.agg [cI m, .d (.fro sz n get)]] [] (.tup [.c (.d (.str ts)), .c (.d (.int .i64 0))]) none []) (w : World) (htab : TabOk w (Fz w)) :
    Calls Tryz.prog 4 #[.string s, .agg (lim4 a b c d)] w fun e w' => e = .returned (.bool true) /\ Rests w w' := by
  unfold cutT at hs
  by_cases h4 : 4000 < s.size
  all_goals
    first | rw [if_pos h4] at hs | rw [if_neg h4] at hs
    subst hs
    have hR0 : Rests w (w.alloc (.cells #[.int .i64 a, .int .i64 b, .int .i64 c, .int .i64 d] 42)) := Rests.alloc _
    go_enter Tryz.func4, Tryz.ntmps4
    go_wp2_with (first
      | (go_at_call 15; refine (new_ok a b c d DR _ m 0 0 0 sz n get DV _ (hR0.tab htab)).mono ?_; rintro e w1 ⟨M, t, hM, rfl, hR1, hE, hMt, hD⟩)
      | (go_at_call 7; refine (told_calls3 (by simp [IsDat]) DV _ ((((hR0.trans hR1).trans (Rests.alloc _))).tab htab) _ (args_str _)).mono ?_; rintro e w2 ⟨us, rfl, hR2, hT⟩
         obtain ⟨u, hu, hd, ho⟩ := fault_of hT
         obtain ⟨p1, l1, c1, rfl⟩ := fro_slc hd
         obtain rfl : us = #[.agg #[.int .i64 m, .slice p1 l1 c1], .agg (lim4 0 0 0 0)] := by cases us; simp_all
         have hR3 : Rests w ((w2.alloc (.cells #[.int .i64 m, .slice p1 l1 c1] 24)).alloc (.cells #[.int .i64 0, .int .i64 0, .int .i64 0, .int .i64 0] 27)) := ((((hR0.trans hR1).trans (Rests.alloc _)).trans hR2).trans (Rests.alloc _)).trans (Rests.alloc _)
         have z0 : (w.alloc (.cells #[.int .i64 a, .int .i64 b, .int .i64 c, .int .i64 d] 42)).heap.size = w.heap.size + 1 := by simp
         have z1 := hR1.2.2.2.1
         have z2 := hR2.2.2.2.1
         have z3 : (w1.alloc (.cells #[.int .i64 0, .int .i64 0, .int .i64 0, .int .i64 0] 27)).heap.size = w1.heap.size + 1 := by simp
         have hl : w2.heap[w.heap.size]? = some (.cells #[.int .i64 a, .int .i64 b, .int .i64 c, .int .i64 d] 42 (0, 0)) := (hR2.2.2.2.2 _ (by omega)).trans ((Below.heap_alloc _ _ _ (by omega)).trans ((hR1.2.2.2.2 _ (by omega)).trans (heap_alloc_new _ _)))
         have hf : w2.heap[w1.heap.size]? = some (.cells #[.int .i64 0, .int .i64 0, .int .i64 0, .int .i64 0] 27 (0, 0)) := (hR2.2.2.2.2 _ (by omega)).trans (heap_alloc_new _ _)
         have hl3 := (alloc2_old w2 (.cells #[.int .i64 m, .slice p1 l1 c1] 24) (.cells #[.int .i64 0, .int .i64 0, .int .i64 0, .int .i64 0] 27) (b := w.heap.size) (by omega)).trans hl
         have h0 := (alloc2_old w2 (.cells #[.int .i64 m, .slice p1 l1 c1] 24) (.cells #[.int .i64 0, .int .i64 0, .int .i64 0, .int .i64 0] 27) (b := w1.heap.size) (by omega)).trans hf
         have hg3 := alloc1 w2 (.cells #[.int .i64 m, .slice p1 l1 c1] 24) (.cells #[.int .i64 0, .int .i64 0, .int .i64 0, .int .i64 0] 27)
         have hm3 := heap_alloc2_old w2 (.cells #[.int .i64 m, .slice p1 l1 c1] 24) (.cells #[.int .i64 0, .int .i64 0, .int .i64 0, .int .i64 0] 27)
         have y0 := cellAt hl3 0 rfl; have y1 := cellAt hl3 1 rfl; have y2 := cellAt hl3 2 rfl; have y3 := cellAt hl3 3 rfl)
      | (go_at_call 16; refine (bool_calls DR _ (hR3.tab htab) _ (args_lim a b c d)).mono ?_; rintro e w3 ⟨rfl, hR4⟩
         have z4 := hR4.2.2.2.1
         have z5 : ((w2.alloc (.cells #[.int .i64 m, .slice p1 l1 c1] 24)).alloc (.cells #[.int .i64 0, .int .i64 0, .int .i64 0, .int .i64 0] 27)).heap.size = w2.heap.size + 2 := by simp
         have hg4 := (hR4.2.2.2.2 (w2.heap.size + 1) (by omega)).trans hg3
         have hm4 := (hR4.2.2.2.2 w2.heap.size (by omega)).trans hm3
         have hf4 := (hR4.2.2.2.2 w1.heap.size (by omega)).trans h0
         have hne : ¬ w1.heap.size = w2.heap.size + 1 := by omega
         have q0 := cellAt hg4 0 rfl; have q1 := cellAt hg4 1 rfl; have q2 := cellAt hg4 2 rfl; have q3 := cellAt hg4 3 rfl; have j0 := freeAt hg4 0; have j1 := freeAt hg4 1; have j2 := freeAt hg4 2; have j3 := freeAt hg4 3
         have v0 := cellAt hf4 0 rfl; have v1 := cellAt hf4 1 rfl; have v2 := cellAt hf4 2 rfl; have v3 := cellAt hf4 3 rfl
         have m0 := cellAt hm4 0 rfl; have m1 := cellAt hm4 1 rfl)
      | (go_at_call 17; refine (told_calls3 (by simp [IsDat]) DW _ ((hR3.trans hR4).tab htab) _ (args_model m (drel_fz hd (((Rests.alloc _).trans (Rests.alloc _)).trans hR4)) rfl)).mono ?_; rintro e w4 ⟨us, rfl, hR5, hT⟩
         have hu := str_err hT
         obtain rfl : us = #[.string ts, .int .i64 0] := by cases us; simp_all
         have K : Rests w1 w4 := (((((Rests.alloc _).trans hR2).trans (Rests.alloc _)).trans (Rests.alloc _)).trans hR4).trans hR5
         have z6 := hR5.2.2.2.1
         have hg5 := (hR5.2.2.2.2 (w2.heap.size + 1) (by omega)).trans hg4
         have hf5 := (hR5.2.2.2.2 w1.heap.size (by omega)).trans hf4)
      | (go_at_call 18; refine (eng_counts _ _ _ _ _ _ _ _ _ _ _ (hE.rests K) (hMt.rests K)).mono ?_; rintro e w5 ⟨rfl, hR6⟩
         have z7 := hR6.2.2.2.1
         have hg6 := (hR6.2.2.2.2 (w2.heap.size + 1) (by omega)).trans hg5
         have hf6 := (hR6.2.2.2.2 w1.heap.size (by omega)).trans hf5
         have r0 := cellAt hg6 0 rfl; have r1 := cellAt hg6 1 rfl; have r2 := cellAt hg6 2 rfl; have r3 := cellAt hg6 3 rfl
         have x0 := cellAt hf6 0 rfl; have x1 := cellAt hf6 1 rfl; have x2 := cellAt hf6 2 rfl; have x3 := cellAt hf6 3 rfl)
      | (go_at_call 19; refine (eng_model _ _ _ _ _ _ _ _ _ (hE.rests (K.trans hR6)) sz n get (drel_rests hD (K.trans hR6)) ts 0 DW ((((hR3.trans hR4).trans hR5).trans hR6).tab htab)).mono ?_; rintro e w6 ⟨rfl, hR7⟩)
      | (go_at_call 8; refine (HA _ (((((hR3.trans hR4).trans hR5).trans hR6).trans hR7).tab htab)).mono ?_; rintro e w7 ⟨rfl, hR8⟩))
    go_ret
    exact ⟨rfl, ((((hR3.trans hR4).trans hR5).trans hR6).trans hR7).trans hR8⟩
theorem rat_err {w : World} {F : Nat -> Prop} {β : Nat -> Option (Nat × Nat)} {ob : Nat -> Option Ob} {b : Bool} {d1 d2 : Dat} {e : Int} {us : List Value} (h : TsRel w F β ob [.agg [.d (.bool b), .d d1, .d d2], .c (.d (.int .i64 e))] us) :
    ∃ u1 u2, us = [.agg #[.bool b, u1, u2], .int .i64 e] /\ TRel w F β ob (.agg [.d (.bool b), .d d1, .d d2]) (.agg #[.bool b, u1, u2]) := by
  match us, h with
  | [x, y], h =>
    unfold TsRel at h
    obtain ⟨h1, h2⟩ := h
    unfold TsRel at h2
    obtain ⟨h2, _⟩ := h2
    have h1' := h1
    rw [TRel] at h1
    rw [TRel] at h2
    obtain ⟨vs, rfl, g1, g2⟩ := h1
    obtain ⟨vs⟩ := vs
    match vs, g1 with
    | [x, u1, u2], g1 =>
      obtain ⟨k1, k2, k3, _⟩ := g1
      cases k1
      cases h2
      exact ⟨u1, u2, rfl, h1'⟩
theorem cell_err {w : World} {F : Nat -> Prop} {β : Nat -> Option (Nat × Nat)} {ob : Nat -> Option Ob} {d : Dat} {e : Int} {us : List Value} (h : TsRel w F β ob [.c (.d d), .c (.d (.int .i64 e))] us) :
    ∃ u, us = [u, .int .i64 e] /\ DRel w F d u := by
  match us, h with
  | [x, y], h =>
    unfold TsRel at h
    obtain ⟨h1, h2⟩ := h
    unfold TsRel at h2
    obtain ⟨h2, _⟩ := h2
    rw [TRel] at h1 h2
    cases h2
    exact ⟨x, rfl, h1⟩
theorem numbers_base (w : World) (E M : Nat) (m : Int) (t : Value) (la lb lc ld : Int) (hE : Eng w E M m t la lb lc ld) (F : Nat -> Prop) (hF : ∀ b, F b -> b < w.heap.size) (sz n : Nat) (get : Nat -> List Dat) (hd : DRel w F (.fro sz n get) t) (htab : TabOk w F)
    (b : Bool) (d1 d2 : Dat) (e1 e2 : Int) (sz' n' : Nat) (get' : Nat -> List Dat)
    (DB : Does Tryz.prog 109 [.agg [cI m, .d (.fro sz n get)]] [] (.tup [.agg [.d (.bool b), .d d1, .d d2], .c (.d (.int .i64 e1))]) none [])
    (DS : Does Tryz.prog 107 [.agg [.d (.bool b), .d d1, .d d2], .c (.d (.int .i64 e1))] [] (.tup [.c (.d (.fro sz' n' get')), .c (.d (.int .i64 e2))]) none []) (x1 : Int) (p2 p3 p4 : Option Addr) (l2 c2 l3 c3 l4 c4 : Nat) :
    Calls Tryz.prog 57 #[.pointer (some ⟨E, 0, none⟩), .agg #[.int .i64 2, .int .i64 x1, .slice p2 l2 c2, .slice p3 l3 c3, .slice p4 l4 c4]] w fun e w' => ∃ tb, e = .returned (.tuple #[tb, .int .i64 e2]) /\ Rests w w' /\ DRel w' (Fnew F w w') (.fro sz' n' get') tb := by
  obtain ⟨p, l, c, rfl⟩ := fro_slc hd
  have hR0 : Rests w ((w.alloc (.cells #[.int .i64 2, .int .i64 x1, .slice p2 l2 c2, .slice p3 l3 c3, .slice p4 l4 c4] 65)).alloc (.cells #[.int .i64 m, .slice p l c] 24)) := (Rests.alloc _).trans (Rests.alloc _)
  have hF0 : ∀ b, F b -> b < ((w.alloc (.cells #[.int .i64 2, .int .i64 x1, .slice p2 l2 c2, .slice p3 l3 c3, .slice p4 l4 c4] 65)).alloc (.cells #[.int .i64 m, .slice p l c] 24)).heap.size := fun b hb => Nat.lt_of_lt_of_le (hF b hb) hR0.2.2.2.1
  have hne : ¬ E = w.heap.size := Nat.ne_of_lt (lt_of_block hE.blk)
  have hE0 : (w.alloc (.cells #[.int .i64 2, .int .i64 x1, .slice p2 l2 c2, .slice p3 l3 c3, .slice p4 l4 c4] 65)).heap[E]? = _ := (Below.heap_alloc _ _ _ (lt_of_block hE.blk)).trans hE.blk
  have c0 := cellAt hE0 0 rfl
  have c1 := cellAt hE0 1 rfl
  go_enter Tryz.func57, Tryz.ntmps57
  go_wp2_with (first
    | (go_at_call 109; refine (told_callsF (by simp [IsDat]) DB _ hF0 (tab_F htab hF hR0 fun _ h => h) _ (args_model m (drel_F hd hF hR0 fun _ h => h) rfl)).mono ?_; rintro e w1 ⟨us, rfl, hR1, hT⟩
       obtain ⟨u1, u2, hu, hT2⟩ := rat_err hT
       obtain rfl : us = #[.agg #[.bool b, u1, u2], .int .i64 e1] := by cases us; simp_all)
    | (go_at_call 107; refine (told_callsF (by simp [IsDat]) DS _ (fnew_lt hF0 hR1.2.2.2.1) (tab_F htab hF (hR0.trans hR1) fun _ h => .inl h) _ (tsrel_cons_mk hT2 (tsrel_cons_mk (by rw [TRel]; exact .int _ _) tsrel_nil_mk))).mono ?_; rintro e w2 ⟨us, rfl, hR2, hT3⟩
       obtain ⟨u3, hu3, hT4⟩ := cell_err hT3
       obtain rfl : us = #[u3, .int .i64 e2] := by cases us; simp_all))
  go_ret2
  refine ⟨u3, rfl, (hR0.trans hR1).trans hR2, hT4.mono fun b hb => ⟨?_, rfl⟩⟩
  have h := fnew_fnew hR1.2.2.2.1 hR2.2.2.2.1 b hb
  rcases h with h | h
  · exact .inl h
  · exact .inr ⟨Nat.le_trans hR0.2.2.2.1 h.1, h.2⟩
theorem add64 {w : World} {A : Addr} {x y : Int} (h : w.cell? A = some (.int .i64 x)) (hz : w.frozen? A = false) : (callFunc 156 #[.pointer (some A), .int .i64 y]).run Tryz.prog w = .ok (.value (.int .i64 (wrap64 (x + y)))) (w.setCell A (.int .i64 (wrap64 (x + y)))) :=
  run_call_add (fn := Tryz.f156) Tryz.func156 (by kernel_rfl) (by kernel_rfl) (by kernel_rfl) .i64 (by rfl) h hz (by simp [go_sem, wrap64, IntKind.wrap_i64])
theorem Add (w : World) (b o : Nat) (x y : Int) (h : w.cell? ⟨b, o, none⟩ = some (.int .i64 x)) (hz : w.frozen? ⟨b, o, none⟩ = false) : Calls Tryz.prog 96 #[.pointer (some ⟨b, o, none⟩), .int .i64 y] w fun e w' => e = .returned (.int .i64 (wrap64 (x + y))) /\ w' = w.setCell ⟨b, o, none⟩ (.int .i64 (wrap64 (x + y))) := by
  have hl := add64 (y := y) h hz
  go_enter Tryz.func96, Tryz.ntmps96
  go_wp2
  go_ret
  exact ⟨rfl, rfl⟩
theorem take (w : World) (M : Nat) (a b : Int) (h : Met w M a b) : Calls Tryz.prog 104 #[.pointer (some ⟨M, 0, none⟩)] w fun e w' => e = .returned (.bool true) /\ Only M w w' /\ Met w' M (wrap64 (a + 1)) b := by
  have c0 := cellAt h 0 rfl
  have c3 := cellAt h 3 rfl
  have f0 := freeAt h 0
  have C := Add w M 0 a 1 c0 f0
  go_enter Tryz.func104, Tryz.ntmps104
  go_wp2_with (go_at_call 96; refine C.mono ?_; rintro e w1 ⟨rfl, rfl⟩)
  go_ret
  exact ⟨rfl, .set _ _, setAt h 0 _⟩
theorem count_ok (w : World) (E M : Nat) (m : Int) (t : Value) (la lb lc ld a b : Int) (hE : Eng w E M m t la lb lc ld) (h : Met w M a b) : Calls Tryz.prog 54 #[.pointer (some ⟨E, 0, none⟩), .int .i64 0] w fun e w' => e = .returned (.tuple #[]) /\ Only M w w' /\ Met w' M (wrap64 (a + 1)) b := by
  have c0 := cellAt hE.blk 6 rfl
  have cE := cellAt hE.blk 0 rfl
  have C := take w M a b h
  go_enter Tryz.func54, Tryz.ntmps54
  go_wp2_with (go_at_call 104; refine C.mono ?_; rintro e w1 ⟨rfl, hO, hM⟩)
  go_end0
  exact ⟨rfl, hO, hM⟩
theorem count_d (w : World) (E M : Nat) (m : Int) (t : Value) (la lb lc ld a b : Int) (hE : Eng w E M m t la lb lc ld) (h : Met w M a b) (A B : Nat) (hA : w.cell? ⟨A, 0, none⟩ = some (.pointer (some ⟨E, 0, none⟩))) (hB : w.cell? ⟨B, 2, none⟩ = some (.int .i64 0)) (u : FrameMode) :
    CallsD Tryz.prog 53 #[.pointer (some ⟨A, 0, none⟩), .pointer (some ⟨B, 0, none⟩)] u w fun e u' w' => u' = u /\ e = .returned (.tuple #[]) /\ Only M w w' /\ Met w' M (wrap64 (a + 1)) b := by
  have C := count_ok w E M m t la lb lc ld a b hE h
  go_enter_d Tryz.func53, Tryz.ntmps53
  go_wp2_with (go_at_call 54; refine C.mono ?_; rintro e w1 ⟨rfl, hO, hM⟩)
  go_end0
  exact ⟨rfl, hO, hM⟩
theorem alloc3_0 (w : World) (o p q : Obj) : (((w.alloc o).alloc p).alloc q).heap[w.heap.size]? = some o := (Below.heap_alloc _ _ _ (by simp; omega)).trans (heap_alloc2_old _ _ _)
theorem alloc3_1 (w : World) (o p q : Obj) : (((w.alloc o).alloc p).alloc q).heap[w.heap.size + 1]? = some p := (Below.heap_alloc _ _ _ (by simp)).trans (alloc1 _ _ _)
theorem alloc3_2 (w : World) (o p q : Obj) : (((w.alloc o).alloc p).alloc q).heap[w.heap.size + 1 + 1]? = some q := by
  have := heap_alloc_new ((w.alloc o).alloc p) q
  simpa using this
theorem csrel_F {w w' : World} {F : Nat -> Prop} (hF : ∀ b, F b -> b < w.heap.size) (R : Rests w w') : ∀ {cs : List Cl} {us : List Value}, (∀ c ∈ cs, ∃ d, c = .d d) -> CsRel w F (fun _ => none) (lookO []) cs us -> CsRel w' F (fun _ => none) (lookO []) cs us
  | [], us, _, k => by cases us <;> exact k
  | c :: cs, us, hd, k => by
    cases us with
    | nil => exact k.elim
    | cons u us =>
      obtain ⟨d, rfl⟩ := hd c List.mem_cons_self
      exact ⟨DRel.mono (fun b hb => ⟨hb, R.2.2.2.2 b (hF b hb)⟩) k.1, csrel_F hF R (fun c hc => hd c (List.mem_cons_of_mem _ hc)) k.2⟩
theorem trel_F {w w' : World} {F : Nat -> Prop} (hF : ∀ b, F b -> b < w.heap.size) (R : Rests w w') {r : TV} {v : Value} (hr : IsDat r) (T : TRel w F (fun _ => none) (lookO []) r v) : TRel w' F (fun _ => none) (lookO []) r v := by
  cases r with
  | c c =>
    obtain ⟨d, rfl⟩ : ∃ d, c = .d d := by cases c <;> first | exact ⟨_, rfl⟩ | exact absurd hr id
    rw [TRel] at T ⊢
    exact DRel.mono (fun b hb => ⟨hb, R.2.2.2.2 b (hF b hb)⟩) T
  | agg cs =>
    rw [TRel] at T ⊢
    obtain ⟨us, h1, h2, h3⟩ := T
    exact ⟨us, h1, csrel_F hF R hr h2, h3⟩
  | tup ts => exact hr.elim
theorem set6_other {w : World} {b c : Nat} (h : b ≠ c) (i1 i2 i3 i4 i5 i6 : Nat) (x1 x2 x3 x4 x5 x6 : Value) : ((((((w.setCell ⟨c, i1, none⟩ x1).setCell ⟨c, i2, none⟩ x2).setCell ⟨c, i3, none⟩ x3).setCell ⟨c, i4, none⟩ x4).setCell ⟨c, i5, none⟩ x5).setCell ⟨c, i6, none⟩ x6).heap[b]? = w.heap[b]? :=
  (setOther h _ _).trans ((setOther h _ _).trans ((setOther h _ _).trans ((setOther h _ _).trans ((setOther h _ _).trans (setOther h _ _)))))
theorem set6_size {w : World} (c : Nat) (i1 i2 i3 i4 i5 i6 : Nat) (x1 x2 x3 x4 x5 x6 : Value) : ((((((w.setCell ⟨c, i1, none⟩ x1).setCell ⟨c, i2, none⟩ x2).setCell ⟨c, i3, none⟩ x3).setCell ⟨c, i4, none⟩ x4).setCell ⟨c, i5, none⟩ x5).setCell ⟨c, i6, none⟩ x6).heap.size = w.heap.size := by simp [World.setCell]
theorem six_sets (w : World) (X : Nat) (id : Int) (v : Value) (h : w.heap[X]? = some (.cells #[.int .i64 id, .int .i64 2, .int .i64 0, .slice none 0 0] 39 (0, 0))) :
    ∃ W : World, W = ((((((w.setCell ⟨X, 3, none⟩ v).setCell ⟨X, 2, none⟩ (.int .i64 0)).setCell ⟨X, 0, none⟩ (.int .i64 id)).setCell ⟨X, 1, none⟩ (.int .i64 2)).setCell ⟨X, 2, none⟩ (.int .i64 0)).setCell ⟨X, 3, none⟩ v) /\
      W.heap[X]? = some (.cells #[.int .i64 id, .int .i64 2, .int .i64 0, v] 39 (0, 0)) /\ (∀ b, b ≠ X -> W.heap[b]? = w.heap[b]?) /\ W.heap.size = w.heap.size /\ W.os = w.os /\ W.tape = w.tape /\ W.output = w.output := by
  refine ⟨_, rfl, ?_, ?_, ?_, ?_, ?_, ?_⟩
  · have e := setAt (setAt (setAt (setAt (setAt (setAt h 3 v) 2 (.int .i64 0)) 0 (.int .i64 id)) 1 (.int .i64 2)) 2 (.int .i64 0)) 3 v
    rw [e]
    simp
  · exact fun b hb => set6_other hb _ _ _ _ _ _ _ _ _ _ _ _
  · exact set6_size _ _ _ _ _ _ _ _ _ _ _ _ _
  · simp [World.setCell]
  · simp [World.setCell]
  · simp [World.setCell]
def onlyN (Q : Exit -> Act -> World -> Prop) : Exit -> Act -> World -> Prop
  | .normal, a, w => Q .normal a w
  | _, _, _ => False
theorem wp_onlyN {P : Program} {c : Code} {Q : Exit -> Act -> World -> Prop} {a : Act} {w : World} (h : c.wp P (onlyN Q) a w) : c.wp P Q a w :=
  Code.wp_mono (fun e a w h => by cases e <;> first | exact h | exact h.elim) h
set_option maxRecDepth 100000 in
set_option maxHeartbeats 4000000 in
theorem do_base (w : World) (E M : Nat) (hM : M < w.heap.size) (F : Nat -> Prop) (hF : ∀ b, F b -> b < w.heap.size) (hFM : ∀ b, F b -> b ≠ M) (m : Int) (t : Value) (la lb lc ld a0 b0 : Int) (hE : Eng w E M m t la lb lc ld) (hMt : Met w M a0 b0) (sz n : Nat) (get : Nat -> List Dat) (hd : DRel w F (.fro sz n get) t) (htab : TabOk w F)
    (b : Bool) (d1 d2 : Dat) (e1 : Int) (sz' n' : Nat) (get' : Nat -> List Dat)
    (DB : Does Tryz.prog 109 [.agg [cI m, .d (.fro sz n get)]] [] (.tup [.agg [.d (.bool b), .d d1, .d d2], .c (.d (.int .i64 e1))]) none [])
    (DS : Does Tryz.prog 107 [.agg [.d (.bool b), .d d1, .d d2], .c (.d (.int .i64 e1))] [] (.tup [.c (.d (.fro sz' n' get')), .c (.d (.int .i64 0))]) none []) (wd : ByteArray) (hwd : wd.toList.isEmpty = false)
    (DW : Does Tryz.prog 55 [tI 2] [] (.c (.d (.str wd))) none []) (x1 : Int) (y2 y3 y4 : Dat)
    (DC : Does Tryz.prog 56 [.agg [cI la, cI lb, cI lc, cI ld], .agg [cI 2, cI x1, .d y2, .d y3, .d y4]] [] (.c (.d (.int .i64 0))) none [])
    (p2 p3 p4 : Option Addr) (l2 c2 l3 c3 l4 c4 : Nat) (hask : TRel w F (fun _ => none) (lookO []) (.agg [cI 2, cI x1, .d y2, .d y3, .d y4]) (.agg #[.int .i64 2, .int .i64 x1, .slice p2 l2 c2, .slice p3 l3 c3, .slice p4 l4 c4])) (id : Int) :
    Calls Tryz.prog 25 #[.pointer (some ⟨E, 0, none⟩), .int .i64 id, .agg #[.int .i64 2, .int .i64 x1, .slice p2 l2 c2, .slice p3 l3 c3, .slice p4 l4 c4]] w fun e w' =>
      ∃ tb, e = .returned (.agg #[.int .i64 id, .int .i64 2, .int .i64 0, tb]) /\ Only M w w' /\ Met w' M (wrap64 (a0 + 1)) b0 /\ DRel w' (Fnew F w w') (.fro sz' n' get') tb := by
  have hmf : ∀ (fn : Fn) (first cap : Array Value) (w : World), (Instr.makeFunc fn first cap).run Tryz.prog w = .ok (.func fn first cap) w := fun _ _ _ _ => rfl
  have hR0 : Rests w (((w.alloc (.cells #[.pointer (some ⟨E, 0, none⟩)] 46)).alloc (.cells #[.int .i64 2, .int .i64 x1, .slice p2 l2 c2, .slice p3 l3 c3, .slice p4 l4 c4] 65)).alloc (.cells #[.int .i64 id, .int .i64 2, .int .i64 0, .slice none 0 0] 39)) := ((Rests.alloc _).trans (Rests.alloc _)).trans (Rests.alloc _)
  go_enter_defers Tryz.func25, Tryz.ntmps25
  go_wp2_with (first
    | (go_at_call 55; refine (str_calls DW _ (tab_F htab hF hR0 fun b hb => Nat.lt_of_lt_of_le (hF b hb) hR0.2.2.2.1) _ (tsrel_cons_mk (by rw [TRel]; exact .int _ _) tsrel_nil_mk)).mono ?_; rintro e w1 ⟨rfl, hR1⟩
       have hA := (hR1.2.2.2.2 w.heap.size (by simp; omega)).trans (alloc3_0 _ _ _ _)
       have hK := (hR1.2.2.2.2 (w.heap.size + 1) (by simp)).trans (alloc3_1 _ _ _ _)
       have hX := (hR1.2.2.2.2 (w.heap.size + 1 + 1) (by simp)).trans (alloc3_2 _ _ _ _)
       have hE1 := (hE.rests (hR0.trans hR1)).blk
       have q0 := cellAt hA 0 rfl
       have k0 := cellAt hK 0 rfl; have k1 := cellAt hK 1 rfl; have k2 := cellAt hK 2 rfl; have k3 := cellAt hK 3 rfl; have k4 := cellAt hK 4 rfl
       have g1 := cellAt hE1 2 rfl; have g2 := cellAt hE1 3 rfl; have g3 := cellAt hE1 4 rfl; have g4 := cellAt hE1 5 rfl; have g0 := cellAt hE1 0 rfl))
  have R1 := hR0.trans hR1
  refine wp_onlyN ?_
  go_region_law (refine step_call rfl 56 #[.tmp 26, .tmp 27] #[42, 65] rfl ⟨Tryz.f56, _, Tryz.func56, by kernel_rfl, rfl⟩ #[.agg #[.int .i64 la, .int .i64 lb, .int .i64 lc, .int .i64 ld], .agg #[.int .i64 2, .int .i64 x1, .slice p2 l2 c2, .slice p3 l3 c3, .slice p4 l4 c4]] (by simp [Act.eval, Act.put]) (int_calls DC _ (tab_F htab hF R1.drew fun b hb => Nat.lt_of_lt_of_le (hF b hb) R1.2.2.2.1) _ (tsrel_cons_mk (by
      rw [TRel]
      exact ⟨_, rfl, ⟨.int _ _, .int _ _, .int _ _, .int _ _, trivial⟩, by simp [Value.oneCell']⟩) (tsrel_cons_mk (trel_mono (fun b hb => Nat.lt_of_lt_of_le (hF b hb) R1.2.2.2.1) (by simp [IsDat]) (trel_F hF R1.drew (by simp [IsDat]) hask)) tsrel_nil_mk))) ?_; rintro e w2 ⟨rfl, hR2⟩; refine ⟨_, rfl, ?_⟩)
  all_goals
    have hA2 := (hR2.2.2.2.2 _ (lt_of_block hA)).trans hA
    have hK2 := (hR2.2.2.2.2 _ (lt_of_block hK)).trans hK
    have hX2 := (hR2.2.2.2.2 _ (lt_of_block hX)).trans hX
    have R2 := (R1.drew).trans hR2
    have hE2 := hE.rests R2
    have i0 := cellAt hA2 0 rfl
    have h0 := cellAt hK2 0 rfl; have h1 := cellAt hK2 1 rfl; have h2 := cellAt hK2 2 rfl; have h3 := cellAt hK2 3 rfl; have h4 := cellAt hK2 4 rfl
    simp only [onlyN]
    go_wp2_with (first
      | (go_at_call 57; refine (numbers_base w2 E M m t la lb lc ld hE2 F (fun b hb => Nat.lt_of_lt_of_le (hF b hb) R2.2.2.2.1) sz n get (drel_F hd hF R2 fun _ h => h) (tab_F htab hF R2 fun _ h => h) b d1 d2 e1 0 sz' n' get' DB DS x1 p2 p3 p4 l2 c2 l3 c3 l4 c4).mono ?_
         rintro e w3 ⟨tb, rfl, hR3, hTb⟩
         obtain ⟨pt, lt, ct, rfl⟩ := fro_slc hTb
         have hX3 := (hR3.2.2.2.2 _ (lt_of_block hX2)).trans hX2
         have hA3 := (hR3.2.2.2.2 _ (lt_of_block hA2)).trans hA2
         have o0 := cellAt hX3 0 rfl; have o1 := cellAt hX3 1 rfl; have o2 := cellAt hX3 2 rfl; have o3 := cellAt hX3 3 rfl; have f0 := freeAt hX3 0; have f1 := freeAt hX3 1; have f2 := freeAt hX3 2; have f3 := freeAt hX3 3))
  all_goals
    have K3 := R2.trans hR3
    have hEn := lt_of_block hE.blk
    have hMn : M ≠ w.heap.size + 1 + 1 := by omega
    have hEX : E ≠ w.heap.size + 1 + 1 := by omega
    obtain ⟨W, hW, e1, e2, e3, e4, e5, e6⟩ := six_sets w3 (w.heap.size + 1 + 1) id (.slice pt lt ct) hX3
    rw [<- hW]
    clear hW
    have K4 : Rests w W := ⟨e4.trans K3.1, e5.trans K3.2.1, e6.trans K3.2.2.1, by rw [e3]; exact K3.2.2.2.1, fun b hb => (e2 b (by omega)).trans (K3.2.2.2.2 b hb)⟩
    have hEW := hE.rests K4
    have hMW := hMt.rests K4
    have hAW := (e2 w.heap.size (by omega)).trans hA3
    have hx := lt_of_block hX2
    have hTW : DRel W (Fnew F w2 w3) (.fro sz' n' get') (.slice pt lt ct) := hTb.mono fun b hb => ⟨hb, e2 b (by
      rcases hb with hb | hb
      · have := hF b hb; omega
      · omega)⟩
    refine leaves_cons (f := 53) (args := #[.pointer (some ⟨w.heap.size, 0, none⟩), .pointer (some ⟨w.heap.size + 1 + 1, 0, none⟩)]) (by simp) (by simp [go_sem]) ?_
    refine (count_d W E M m t la lb lc ld a0 b0 hEW hMW w.heap.size (w.heap.size + 1 + 1) (cellAt hAW 0 rfl) (cellAt e1 2 rfl) .returning).mono ?_
    rintro e u' w5 ⟨rfl, rfl, hO, hM5⟩
    have hX5 := (hO.keep _ (lt_of_block e1) (by omega)).trans e1
    refine ⟨_, results_cell_row rfl _ _ (w.heap.size + 1 + 1) 39 _ (0, 0) _ rfl hX5 Tryz.underlying39 rfl (by kernel_rfl), ?_⟩
    refine ⟨.slice pt lt ct, rfl, (Only.of_rests K4).trans hO, hM5, hTW.mono fun b hb => ?_⟩
    have s1 := R2.2.2.2.1
    have s2 := hR3.2.2.2.1
    have s3 := hO.size
    rcases hb with hb | hb
    · have h1 := hF b hb
      exact ⟨.inl hb, hO.keep b (by omega) (hFM b hb)⟩
    · exact ⟨.inr ⟨by omega, by omega⟩, hO.keep b (by omega) (by omega)⟩
theorem ask_of {w : World} {F : Nat -> Prop} {β : Nat -> Option (Nat × Nat)} {ob : Nat -> Option Ob} {k x p e : Int} {s2 n2 s3 n3 s4 n4 : Nat} {g2 g3 g4 : Nat -> List Dat} {us : List Value} (h : TsRel w F β ob [.agg [cI k, cI x, .d (.fro s2 n2 g2), .d (.fro s3 n3 g3), .d (.fro s4 n4 g4)], .c (.d (.int .i64 p)), .c (.d (.int .i64 e))] us) :
    ∃ p2 p3 p4 l2 c2 l3 c3 l4 c4, us = [.agg #[.int .i64 k, .int .i64 x, .slice p2 l2 c2, .slice p3 l3 c3, .slice p4 l4 c4], .int .i64 p, .int .i64 e] /\
      TRel w F β ob (.agg [cI k, cI x, .d (.fro s2 n2 g2), .d (.fro s3 n3 g3), .d (.fro s4 n4 g4)]) (.agg #[.int .i64 k, .int .i64 x, .slice p2 l2 c2, .slice p3 l3 c3, .slice p4 l4 c4]) := by
  match us, h with
  | [v, y, z], h =>
    unfold TsRel at h
    obtain ⟨h1, h2⟩ := h
    unfold TsRel at h2
    obtain ⟨h2, h3⟩ := h2
    unfold TsRel at h3
    obtain ⟨h3, _⟩ := h3
    have h1' := h1
    rw [TRel] at h1
    rw [TRel] at h2 h3
    obtain ⟨vs, rfl, g1, g2⟩ := h1
    obtain ⟨vs⟩ := vs
    match vs, g1 with
    | [a, b, u2, u3, u4], g1 =>
      obtain ⟨k1, k2, k3, k4, k5, _⟩ := g1
      cases k1
      cases k2
      cases h2
      cases h3
      obtain ⟨p2, l2, c2, rfl⟩ := fro_slc k3
      obtain ⟨p3, l3, c3, rfl⟩ := fro_slc k4
      obtain ⟨p4, l4, c4, rfl⟩ := fro_slc k5
      exact ⟨p2, p3, p4, l2, c2, l3, c3, l4, c4, rfl, h1'⟩
theorem four_sets (w : World) (X ty : Nat) (x y z v a b c d : Value) (h : w.heap[X]? = some (.cells #[a, b, c, d] ty (0, 0))) :
    ∃ W : World, W = ((((w.setCell ⟨X, 0, none⟩ x).setCell ⟨X, 1, none⟩ y).setCell ⟨X, 2, none⟩ z).setCell ⟨X, 3, none⟩ v) /\
      W.heap[X]? = some (.cells #[x, y, z, v] ty (0, 0)) /\ (∀ b, b ≠ X -> W.heap[b]? = w.heap[b]?) /\ W.heap.size = w.heap.size /\ W.os = w.os /\ W.tape = w.tape /\ W.output = w.output := by
  refine ⟨_, rfl, ?_, ?_, ?_, ?_, ?_, ?_⟩
  · have e := setAt (setAt (setAt (setAt h 0 x) 1 y) 2 z) 3 v
    rw [e]
    simp
  · exact fun b hb => set4_other hb _ _ _ _
  · exact set4_size _ _ _ _ _
  · simp [World.setCell]
  · simp [World.setCell]
  · simp [World.setCell]
set_option maxRecDepth 100000 in
set_option maxHeartbeats 4000000 in
theorem line_base (w : World) (E M : Nat) (hM : M < w.heap.size) (F : Nat -> Prop) (hF : ∀ b, F b -> b < w.heap.size) (hFM : ∀ b, F b -> b ≠ M) (m : Int) (t : Value) (la lb lc ld a0 b0 : Int) (hE : Eng w E M m t la lb lc ld) (hMt : Met w M a0 b0) (sz n : Nat) (get : Nat -> List Dat) (hd : DRel w F (.fro sz n get) t) (htab : TabOk w F)
    (b : Bool) (d1 d2 : Dat) (e1 : Int) (sz' n' : Nat) (get' : Nat -> List Dat)
    (DB : Does Tryz.prog 109 [.agg [cI m, .d (.fro sz n get)]] [] (.tup [.agg [.d (.bool b), .d d1, .d d2], .c (.d (.int .i64 e1))]) none [])
    (DS : Does Tryz.prog 107 [.agg [.d (.bool b), .d d1, .d d2], .c (.d (.int .i64 e1))] [] (.tup [.c (.d (.fro sz' n' get')), .c (.d (.int .i64 0))]) none []) (wd : ByteArray) (hwd : wd.toList.isEmpty = false)
    (DW : Does Tryz.prog 55 [tI 2] [] (.c (.d (.str wd))) none []) (x1 at_ : Int) (s2 n2 s3 n3 s4 n4 : Nat) (g2 g3 g4 : Nat -> List Dat)
    (DC : Does Tryz.prog 56 [.agg [cI la, cI lb, cI lc, cI ld], .agg [cI 2, cI x1, .d (.fro s2 n2 g2), .d (.fro s3 n3 g3), .d (.fro s4 n4 g4)]] [] (.c (.d (.int .i64 0))) none []) (s : ByteArray)
    (DP : Does Tryz.prog 32 [.c (.d (.str s))] [] (.tup [.agg [cI 2, cI x1, .d (.fro s2 n2 g2), .d (.fro s3 n3 g3), .d (.fro s4 n4 g4)], .c (.d (.int .i64 at_)), .c (.d (.int .i64 0))]) none []) (id : Int) :
    Calls Tryz.prog 48 #[.pointer (some ⟨E, 0, none⟩), .int .i64 id, .string s] w fun e w' =>
      ∃ tb, e = .returned (.agg #[.int .i64 id, .int .i64 2, .int .i64 0, tb]) /\ Only M w w' /\ Met w' M (wrap64 (a0 + 1)) b0 /\ DRel w' (Fnew F w w') (.fro sz' n' get') tb := by
  have hR0 : Rests w (w.alloc (.cells #[.int .i64 0, .int .i64 0, .int .i64 0, .slice none 0 0] 39)) := Rests.alloc _
  have z0 : (w.alloc (.cells #[.int .i64 0, .int .i64 0, .int .i64 0, .slice none 0 0] 39)).heap.size = w.heap.size + 1 := by simp
  go_enter Tryz.func48, Tryz.ntmps48
  go_wp2_with (first
    | (go_at_call 32; refine (told_callsF (by simp [IsDat]) DP _ (fun b hb => Nat.lt_of_lt_of_le (hF b hb) hR0.2.2.2.1) (tab_F htab hF hR0 fun _ h => h) _ (args_str s)).mono ?_; rintro e w1 ⟨us, rfl, hR1, hT⟩
       obtain ⟨p2, p3, p4, l2, c2, l3, c3, l4, c4, hu, hT2⟩ := ask_of hT
       obtain rfl : us = #[.agg #[.int .i64 2, .int .i64 x1, .slice p2 l2 c2, .slice p3 l3 c3, .slice p4 l4 c4], .int .i64 at_, .int .i64 0] := by cases us; simp_all
       have z1 := hR1.2.2.2.1
       have hX := (hR1.2.2.2.2 w.heap.size (by omega)).trans (heap_alloc_new _ _)
       have R1 := hR0.trans hR1
       have R2 : Rests w (w1.alloc (.cells #[.int .i64 2, .int .i64 x1, .slice p2 l2 c2, .slice p3 l3 c3, .slice p4 l4 c4] 65)) := R1.trans (Rests.alloc _)
       have z2 : (w1.alloc (.cells #[.int .i64 2, .int .i64 x1, .slice p2 l2 c2, .slice p3 l3 c3, .slice p4 l4 c4] 65)).heap.size = w1.heap.size + 1 := by simp
       have hF1 : ∀ b, Fnew F (w.alloc (.cells #[.int .i64 0, .int .i64 0, .int .i64 0, .slice none 0 0] 39)) w1 b -> b < w1.heap.size /\ b ≠ M /\ b ≠ w.heap.size := fun b hb => by
         rcases hb with hb | hb
         · have := hF b hb; exact ⟨by omega, hFM b hb, by omega⟩
         · exact ⟨hb.2, by omega, by omega⟩)
    | (go_at_call 25; refine (do_base _ E M (by omega) (Fnew F (w.alloc (.cells #[.int .i64 0, .int .i64 0, .int .i64 0, .slice none 0 0] 39)) w1) (fun b hb => by have := (hF1 b hb).1; omega) (fun b hb => (hF1 b hb).2.1) m t la lb lc ld a0 b0 (hE.rests R2) (hMt.rests R2) sz n get (drel_F hd hF R2 fun _ h => .inl h) (tab_F htab hF R2 fun _ h => .inl h) b d1 d2 e1 sz' n' get' DB DS wd hwd DW x1 _ _ _ DC p2 p3 p4 l2 c2 l3 c3 l4 c4 (trel_F (fun b hb => (hF1 b hb).1) (Rests.alloc _) (by simp [IsDat]) hT2) id).mono ?_
       rintro e w2 ⟨tb, rfl, hO, hM2, hTb⟩
       obtain ⟨pt, lt, ct, rfl⟩ := fro_slc hTb
       have z3 := hO.size
       have hX2 := (hO.keep w.heap.size (by omega) (by omega)).trans ((Below.heap_alloc _ _ _ (by omega)).trans hX)
       have o0 := cellAt hX2 0 rfl; have o1 := cellAt hX2 1 rfl; have o2 := cellAt hX2 2 rfl; have o3 := cellAt hX2 3 rfl; have f0 := freeAt hX2 0; have f1 := freeAt hX2 1; have f2 := freeAt hX2 2; have f3 := freeAt hX2 3))
  obtain ⟨W, hW, q1, q2, q3, q4, q5, q6⟩ := four_sets w2 w.heap.size 39 (.int .i64 id) (.int .i64 2) (.int .i64 0) (.slice pt lt ct) _ _ _ _ hX2
  rw [<- hW]
  clear hW
  refine bodyPost_ret (results_cell_row rfl _ _ w.heap.size 39 _ (0, 0) _ rfl q1 Tryz.underlying39 rfl (by kernel_rfl)) rfl ⟨.slice pt lt ct, rfl, ?_, (q2 M (by omega)).trans hM2, ?_⟩
  · exact ⟨q4.trans (hO.os.trans R2.1), q5.trans (hO.tape.trans R2.2.1), q6.trans (hO.output.trans R2.2.2.1), by omega, fun b hb hn => (q2 b (by omega)).trans ((hO.keep b (by omega) hn).trans (R2.2.2.2.2 b hb))⟩
  · refine hTb.mono fun b hb => ?_
    rcases hb with hb | hb
    · have h1 := hF1 b hb
      refine ⟨?_, q2 b h1.2.2⟩
      rcases hb with hb | hb
      · exact .inl hb
      · exact .inr ⟨by omega, by omega⟩
    · exact ⟨.inr ⟨by omega, by omega⟩, q2 b (by omega)⟩
theorem index_one' (c : UInt8) : ∀ l : List UInt8, Lib.index l [c] = Lib.indexByte l c
  | [] => rfl
  | b :: l => by
    unfold Lib.index Lib.indexByte
    rw [index_one' c l]
    by_cases h : b = c
    · subst h; simp [List.isPrefixOf]
    · have h1 : (b == c) = false := beq_eq_false_iff_ne.2 h
      have h2 : (c == b) = false := beq_eq_false_iff_ne.2 (Ne.symm h)
      simp [List.isPrefixOf, h1, h2]
theorem split_nl (s : ByteArray) (w : World) (hs : s.size < 4294967281) :
    Calls Tryz.prog 94 #[.string s, .string ⟨#[10]⟩] w fun e w' =>
      e = .returned (.slice (some ⟨w.heap.size, 0, none⟩) (Lib.countB s ⟨#[10]⟩ + 1) (Lib.countB s ⟨#[10]⟩ + 1)) /\ w' = w.alloc (.cells ((Lib.splitB ⟨#[10]⟩ 0 (Lib.countB s ⟨#[10]⟩) s).map Value.string).toArray 9) := by
  have h1 : 1 <= (⟨#[10]⟩ : ByteArray).size := by decide
  have hle := Lib.countB_le ⟨#[10]⟩ h1 s.size s (Nat.le_refl _)
  have hlen := Lib.splitB_all ⟨#[10]⟩ h1 0 _ s rfl
  have c := Any.strings_genSplit_core (P := Tryz.prog) (ρ := Tryz.lays146_ren) { Tryz.lays146 with } (by kernel_rfl) s ⟨#[10]⟩ 0 (-1) (Lib.countB s ⟨#[10]⟩ + 1) w hs h1 (Nat.zero_le _)
    (fun x c hx => (Any.strings_Index_one { Tryz.lays146 with } x 10 _).mono fun e w' ⟨he, hw⟩ => ⟨by rw [he]; show _ = Ending.returned (Value.int .i64 (Lib.index x.data.toList [10])); rw [index_one'], hw⟩)
    ((Any.strings_Count_one { Tryz.lays146 with } s 10 w).mono fun e w' ⟨he, hw⟩ => ⟨by
      rw [he]
      show _ = Ending.returned (Value.int .i64 ((Lib.count s.data.toList [10] : Nat) : Int))
      rw [Lib.count_one]
      rfl, hw⟩) (by decide) (by decide) (by rw [if_pos (by decide)]; omega)
  rw [Nat.add_sub_cancel, hlen] at c
  have e2 : Lib.cellsOf (Lib.splitB ⟨#[10]⟩ 0 (Lib.countB s ⟨#[10]⟩) s) (Lib.countB s ⟨#[10]⟩ + 1) = ((Lib.splitB ⟨#[10]⟩ 0 (Lib.countB s ⟨#[10]⟩) s).map Value.string).toArray := by rw [<- hlen]; exact Lib.cellsOf_full _
  rw [e2] at c
  go_enter Tryz.func94, Tryz.ntmps94
  go_wp2_with (go_at_call 154; refine c.mono ?_; rintro e w' ⟨rfl, hw⟩; rw [hw])
  go_ret
  exact ⟨rfl, rfl⟩
theorem lines_walk (s s' : ByteArray) (hs : s.toList.isEmpty = false) (hs' : s'.size < 4294967281) (DT : Does Tryz.prog 95 [.c (.d (.str s)), .c (.d (.str ⟨#[10]⟩))] [] (.c (.d (.str s'))) none []) (w : World) (htab : TabOk w (Fz w)) :
    Calls Tryz.prog 46 #[.string s] w fun e w' => ∃ g, e = .returned (.slice (some ⟨g, 0, none⟩) (Lib.countB s' ⟨#[10]⟩ + 1) (Lib.countB s' ⟨#[10]⟩ + 1)) /\ Rests w w' /\ w.heap.size <= g /\
      w'.heap[g]? = some (.cells ((Lib.splitB ⟨#[10]⟩ 0 (Lib.countB s' ⟨#[10]⟩) s').map Value.string).toArray 9 (0, 0)) := by
  go_enter Tryz.func46, Tryz.ntmps46
  go_wp2_with (first
    | (go_at_call 95; refine (str_calls DT w htab _ (tsrel_cons_mk (by rw [TRel]; exact .str _) (tsrel_cons_mk (by rw [TRel]; exact .str _) tsrel_nil_mk))).mono ?_; rintro e w1 ⟨rfl, hR1⟩)
    | (go_at_call 94; refine (split_nl s' w1 hs').mono ?_; rintro e w2 ⟨rfl, hw2⟩; rw [hw2]))
  go_ret
  exact ⟨w1.heap.size, rfl, hR1.trans (Rests.alloc _), hR1.2.2.2.1, heap_alloc_new _ _⟩
theorem entry_row {W : World} {g cap ty : Nat} {a b c : Int} {v : Value} {d : Dat} {zs : Array Value} {fr : Nat × Nat} {gE : Nat -> List Dat} (hgE : gE 0 = [.int .i64 a, .int .i64 b, .int .i64 c, d]) (hcap : 1 <= cap) (h : W.heap[g]? = some (.cells (#[.int .i64 a, .int .i64 b, .int .i64 c, v] ++ zs) ty fr)) (hd : DRel W (Fz W) d v) :
    DRel W (Fz W) (.fro 4 1 gE) (.slice (some ⟨g, 0, none⟩) 1 cap) := by
  refine .fro 4 1 _ ⟨g, 0, none⟩ cap (fun _ i => (#[.int .i64 a, .int .i64 b, .int .i64 c, v] : Array Value).getD i undef) (lt_of_block h) hcap (fun j hj => by obtain rfl : j = 0 := (by omega); rw [hgE]; rfl) (fun j i hj hi => ?_) (fun j i d' hj hd' => ?_)
  · obtain rfl : j = 0 := by omega
    have hi' : i < 4 := hi
    simp only [Addr.add, World.cell?, h]
    match i, hi' with
    | 0, _ => simp [h, Array.getElem?_append]
    | 1, _ => simp [h, Array.getElem?_append]
    | 2, _ => simp [h, Array.getElem?_append]
    | 3, _ => simp [h, Array.getElem?_append]
  · obtain rfl : j = 0 := by omega
    rw [hgE] at hd'
    match i, hd' with
    | 0, e => cases e; exact .int _ _
    | 1, e => cases e; exact .int _ _
    | 2, e => cases e; exact .int _ _
    | 3, e => cases e; exact hd
    | n + 4, e => simp at e
set_option maxRecDepth 100000 in
set_option maxHeartbeats 4000000 in
theorem all_one (w : World) (E M : Nat) (hM : M < w.heap.size) (F : Nat -> Prop) (hF : ∀ b, F b -> b < w.heap.size) (hFM : ∀ b, F b -> b ≠ M) (m : Int) (t : Value) (la lb lc ld a0 b0 : Int) (hla : 0 < la) (hE : Eng w E M m t la lb lc ld) (hMt : Met w M a0 b0) (sz n : Nat) (get : Nat -> List Dat) (hd : DRel w F (.fro sz n get) t) (htab : TabOk w F)
    (b : Bool) (d1 d2 : Dat) (e1 : Int) (sz' n' : Nat) (get' : Nat -> List Dat)
    (DB : Does Tryz.prog 109 [.agg [cI m, .d (.fro sz n get)]] [] (.tup [.agg [.d (.bool b), .d d1, .d d2], .c (.d (.int .i64 e1))]) none [])
    (DS : Does Tryz.prog 107 [.agg [.d (.bool b), .d d1, .d d2], .c (.d (.int .i64 e1))] [] (.tup [.c (.d (.fro sz' n' get')), .c (.d (.int .i64 0))]) none []) (wd : ByteArray) (hwd : wd.toList.isEmpty = false)
    (DW : Does Tryz.prog 55 [tI 2] [] (.c (.d (.str wd))) none []) (x1 at_ : Int) (s2 n2 s3 n3 s4 n4 : Nat) (g2 g3 g4 : Nat -> List Dat)
    (DC : Does Tryz.prog 56 [.agg [cI la, cI lb, cI lc, cI ld], .agg [cI 2, cI x1, .d (.fro s2 n2 g2), .d (.fro s3 n3 g3), .d (.fro s4 n4 g4)]] [] (.c (.d (.int .i64 0))) none []) (s s' : ByteArray)
    (DP : Does Tryz.prog 32 [.c (.d (.str s'))] [] (.tup [.agg [cI 2, cI x1, .d (.fro s2 n2 g2), .d (.fro s3 n3 g3), .d (.fro s4 n4 g4)], .c (.d (.int .i64 at_)), .c (.d (.int .i64 0))]) none [])
    (hs : s.toList.isEmpty = false) (hs' : s'.size < 4294967281) (DT : Does Tryz.prog 95 [.c (.d (.str s)), .c (.d (.str ⟨#[10]⟩))] [] (.c (.d (.str s'))) none []) (hone : Lib.countB s' ⟨#[10]⟩ = 0) (gE : Nat -> List Dat) (hgE : gE 0 = [.int .i64 0, .int .i64 2, .int .i64 0, .fro sz' n' get']) :
    Calls Tryz.prog 21 #[.pointer (some ⟨E, 0, none⟩), .string s] w fun e w' =>
      ∃ v, e = .returned v /\ Only M w w' /\ DRel w' (Fz w') (.fro 4 1 gE) v := by
  have hC := lines_walk s s' hs hs' DT w (htab.rests fun b hb => ⟨hF b hb, rfl⟩)
  rw [hone] at hC
  have hE0 := cellAt hE.blk 2 rfl
  go_enter Tryz.func21, Tryz.ntmps21
  go_wp2_with (go_at_call 46; refine hC.mono ?_; rintro e w1 ⟨g, rfl, hR1, hg, hG⟩)
  go_loopw [13, 5] (fun i o wr => (i = .int .i64 0 /\ o = .slice none 0 0 /\ Only M w wr /\ Met wr M a0 b0 /\ Eng wr E M m t la lb lc ld /\ wr.heap[g]? = some (.cells #[.string s'] 9 (0, 0)) /\ g < wr.heap.size) \/
      (i = .int .i64 1 /\ Only M w wr /\ DRel wr (Fz wr) (.fro 4 1 gE) o))
    (fun i o _ => 1 - (Go.RowKit.intOf i).toNat)
  case atStart =>
    exact .inl ⟨rfl, rfl, .of_rests hR1, hMt.rests hR1, hE.rests hR1, hG, lt_of_block hG⟩
  case round =>
    rcases hrel with ⟨rfl, rfl, hO, hMr, hEr, hGr, hlt⟩ | ⟨rfl, hO, hD⟩
    · obtain ⟨i4, hi4, hz40, hz41, hz42⟩ := info_parts (show (Tryz.prog.info? 39).map (fun i => (i.zero, i.size, i.bytes)) = some (some (.agg #[.int .i64 0, .int .i64 0, .int .i64 0, .slice none 0 0]), 4, 48) by kernel_rfl)
      have c0 := cellAt hGr 0 rfl
      have cE := cellAt hEr.blk 2 rfl
      have sz0 := hO.size
      go_wp2_with (first
        | (go_at_call 48; refine (line_base wr E M (by omega) F (fun b hb => by have := hF b hb; omega) hFM m t la lb lc ld a0 b0 hEr hMr sz n get (hd.mono fun b hb => ⟨hb, hO.keep b (hF b hb) (hFM b hb)⟩) (htab.rests fun b hb => ⟨hb, hO.keep b (hF b hb) (hFM b hb)⟩) b d1 d2 e1 sz' n' get' DB DS wd hwd DW x1 at_ s2 n2 s3 n3 s4 n4 g2 g3 g4 DC s' DP 0).mono ?_
           rintro e w2 ⟨tb, rfl, hO2, hM2, hTb⟩
           obtain ⟨pt, lt, ct, rfl⟩ := fro_slc hTb))
      have hk : Only M w w2 := hO.trans hO2
      have sz2 := hk.size
      refine ⟨.inr ⟨rfl, ?_, ?_⟩, by simp [Go.RowKit.intOf]⟩
      · exact ((hk.trans (Only.alloc _)).trans (Only.alloc _)).trans Only.drew
      · refine entry_row hgE (grownCap_ge w2 1 0 39) (alloc1 w2 _ _) (hTb.mono fun b hb => ?_)
        have hb' : b < w2.heap.size := fnew_lt (fun b hb => by have := hF b hb; omega) hO2.size b hb
        exact ⟨by show b < _; simp; omega, alloc2_old w2 _ _ hb'⟩
    · go_wp2
      go_ret
      exact ⟨_, rfl, hO, hD⟩
theorem lim_of {w : World} {F : Nat -> Prop} {β : Nat -> Option (Nat × Nat)} {ob : Nat -> Option Ob} {a b c d : Int} {v : Value} (h : TRel w F β ob (.agg [cI a, cI b, cI c, cI d]) v) : v = .agg (lim4 a b c d) := by
  rw [TRel] at h
  obtain ⟨vs, rfl, g1, g2⟩ := h
  obtain ⟨vs⟩ := vs
  match vs, g1 with
  | [x, y, z, u], g1 =>
    obtain ⟨k1, k2, k3, k4, _⟩ := g1
    cases k1; cases k2; cases k3; cases k4
    rfl
set_option maxRecDepth 100000 in
set_option maxHeartbeats 4000000 in
theorem run_base (la lb lc ld : Int) (hla : 0 < la) (m : Int) (sz n : Nat) (get : Nat -> List Dat) (b : Bool) (d1 d2 : Dat) (e1 : Int) (sz' n' : Nat) (get' : Nat -> List Dat) (wd : ByteArray) (hwd : wd.toList.isEmpty = false) (x1 at_ : Int) (s2 n2 s3 n3 s4 n4 : Nat) (g2 g3 g4 : Nat -> List Dat) (text s s' out : ByteArray)
    (gE : Nat -> List Dat) (hgE : gE 0 = [.int .i64 0, .int .i64 2, .int .i64 0, .fro sz' n' get']) (hs : s.toList.isEmpty = false) (hs' : s'.size < 4294967281) (hone : Lib.countB s' ⟨#[10]⟩ = 0)
    (DD : Does Tryz.prog 13 [] [] (.agg [cI la, cI lb, cI lc, cI ld]) none [])
    (DR : Does Tryz.prog 16 [.agg [cI la, cI lb, cI lc, cI ld]] [] (.c (.d (.bool true))) none [])
    (DV : Does Tryz.prog 7 [.c (.d (.str text))] [] (.tup [.agg [cI m, .d (.fro sz n get)], .agg [cI 0, cI 0, cI 0, cI 0]]) none [])
    (DB : Does Tryz.prog 109 [.agg [cI m, .d (.fro sz n get)]] [] (.tup [.agg [.d (.bool b), .d d1, .d d2], .c (.d (.int .i64 e1))]) none [])
    (DS : Does Tryz.prog 107 [.agg [.d (.bool b), .d d1, .d d2], .c (.d (.int .i64 e1))] [] (.tup [.c (.d (.fro sz' n' get')), .c (.d (.int .i64 0))]) none [])
    (DW : Does Tryz.prog 55 [tI 2] [] (.c (.d (.str wd))) none [])
    (DC : Does Tryz.prog 56 [.agg [cI la, cI lb, cI lc, cI ld], .agg [cI 2, cI x1, .d (.fro s2 n2 g2), .d (.fro s3 n3 g3), .d (.fro s4 n4 g4)]] [] (.c (.d (.int .i64 0))) none [])
    (DP : Does Tryz.prog 32 [.c (.d (.str s'))] [] (.tup [.agg [cI 2, cI x1, .d (.fro s2 n2 g2), .d (.fro s3 n3 g3), .d (.fro s4 n4 g4)], .c (.d (.int .i64 at_)), .c (.d (.int .i64 0))]) none [])
    (DT : Does Tryz.prog 95 [.c (.d (.str s)), .c (.d (.str ⟨#[10]⟩))] [] (.c (.d (.str s'))) none [])
    (DO : Does Tryz.prog 14 [.c (.d (.fro 4 1 gE))] [] (.tup [.c (.d (.str out)), .c (.d (.int .i64 0))]) none []) (w : World) (htab : TabOk w (Fz w)) :
    Calls Tryz.prog 9 #[.string text, .string s] w fun e w' => e = .returned (.string out) /\ Rests w w' := by
  go_enter Tryz.func9, Tryz.ntmps9
  go_wp2_with (first
    | (go_at_call 13; refine (told_callsF1 (by simp [IsDat]) DD w (fun b hb => hb) htab #[] (by unfold TsRel; trivial)).mono ?_; rintro e w1 ⟨v, rfl, hR1, hT⟩
       obtain rfl := lim_of hT)
    | (go_at_call 15; refine (new_ok la lb lc ld DR text m 0 0 0 sz n get DV w1 (hR1.tab htab)).mono ?_; rintro e w2 ⟨M, t, hM, rfl, hR2, hE, hMt, hD⟩
       have hM2 := lt_of_block hMt
       have K : Rests w2 (w2.alloc (.cells #[.int .i64 0, .int .i64 0, .int .i64 0, .int .i64 0] 27)) := Rests.alloc _
       have hR12 := hR1.trans hR2
       have htab2 : TabOk w2 (NM M w2) := news_tab htab hR12 (Nat.le_trans hR1.2.2.2.1 hM))
    | (go_at_call 21; refine (all_one _ (M + 1) M (Nat.lt_of_lt_of_le hM2 K.2.2.2.1) (NM M w2) (fun b hb => Nat.lt_of_lt_of_le hb.1 K.2.2.2.1) (fun b hb => hb.2) m t la lb lc ld 0 0 hla (hE.rests K) (hMt.rests K) sz n get (drel_F hD (fun b hb => hb.1) K fun _ h => h) (tab_F htab2 (fun b hb => hb.1) K fun _ h => h) b d1 d2 e1 sz' n' get' DB DS wd hwd DW x1 at_ s2 n2 s3 n3 s4 n4 g2 g3 g4 DC s s' DP hs hs' DT hone gE hgE).mono ?_
       rintro e w3 ⟨v, rfl, hO, hD3⟩
       have hR3 : Rests w w3 := hO.rests (hR12.trans K) (Nat.le_trans hR1.2.2.2.1 hM))
    | (go_at_call 14; refine (told_calls3 (by simp [IsDat]) DO w3 (hR3.tab htab) _ (tsrel_cons_mk (by rw [TRel]; exact hD3) tsrel_nil_mk)).mono ?_; rintro e w4 ⟨us, rfl, hR4, hT⟩
       have hu := str_err hT
       obtain rfl : us = #[.string out, .int .i64 0] := by cases us; simp_all))
  go_ret
  exact ⟨rfl, hR3.trans hR4⟩
theorem awake_of (H : ∀ w : World, TabOk w (Fz w) -> Calls Tryz.prog 9 #[.string ⟨#[100, 101, 110, 100, 114, 111, 110, 32, 49, 10, 102, 101, 97, 116, 117, 114, 101, 115, 32, 48, 10, 116, 114, 101, 101, 115, 32, 48, 10, 101, 110, 100, 10]⟩, .string ⟨#[98, 97, 115, 101]⟩] w fun e w' => e = .returned (.string ⟨#[114, 101, 112, 111, 114, 116, 32, 49, 10, 101, 110, 116, 114, 121, 32, 48, 32, 50, 32, 116, 97, 98, 108, 101, 32, 49, 10, 114, 111, 119, 32, 49, 32, 48, 10]⟩) /\ Rests w w') : Awake := by
  intro w htab
  go_enter Tryz.func8, Tryz.ntmps8
  go_wp2_with (go_at_call 9; refine (H w htab).mono ?_; rintro e w1 ⟨rfl, hR⟩)
  go_ret
  exact ⟨by first | rfl | (congr 2; decide), hR⟩
end

end Go.DI
