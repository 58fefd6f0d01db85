/- What methods of the library do, told. No condition. -/
import Derived.Test.YtajagmmjkmmchaaDoorDIc
import Derived.Test.YtajagmmjkmmchaaDoorFn
import Derived.Test.YtajagmmjkmmchaaDoorProg
import Derived.Maps.RangeWalk
import Derived.Maps.OwnOps
import Derived.Maps.Views
import Derived.Laws.OwnMore
import Derived.ProofKit
import Derived.Laws.Externs
import Derived.Laws.Entries
set_option linter.all false
namespace Go.DI
open Go.Lib
open Go Go.RowKit Go.Proofs
set_option linter.unusedVariables false
instance : Tabs := ⟨[(0, tab_deBruijn64tab.map fun x => .int .u8 x)], 999999, 5⟩
/-- How often a map of the call's own says that each number stood. -/
structure Cnt (D : DataW Unit) (cnt : Int → Nat) : Prop where
  m : Maps.IsMap D
  v : ∀ f : Int, D.atKey (.int .i64 f) (.lit (.int .i64 0)) = .lit (.int .i64 (cnt f))
  h : ∀ f : Int, Maps.has D (.int .i64 f) = decide (0 < cnt f)
theorem Cnt.empty : Cnt (.map []) fun _ => 0 := ⟨Maps.isMap_empty, fun f => rfl, fun f => rfl⟩
theorem Cnt.put {D : DataW Unit} {cnt : Int → Nat} (C : Cnt D cnt) (f : Int) (hk : WideAt.IsKeyLit (.int .i64 f)) : Cnt (D.put (.int .i64 f) (.lit (.int .i64 ((cnt f + 1 : Nat) : Int)))) (bump cnt f) := by
  refine ⟨C.m.put _ _, fun g => ?_, fun g => ?_⟩
  · unfold bump
    by_cases e : g = f
    · subst e
      rw [if_pos rfl]
      exact Maps.atKey_put_same C.m hk _ _
    · rw [if_neg e, Maps.atKey_put_other (fun h => e (by injection h))]
      exact C.v g
  · unfold bump
    by_cases e : g = f
    · subst e
      rw [if_pos rfl, Maps.has_put_same C.m hk]
      simp
    · rw [if_neg e, Maps.has_put_other (fun h => e (by injection h))]
      exact C.h g
/-- A node of a tree, where it lies. -/
def NodeIs (w : World) (b o : Nat) (leaf : Bool) (feat : Int) : Prop :=
  ∃ (x2 x7 x8 x11 : Bool) (i5 i6 : Int) (p3 p4 p9 p10 p12 p13 : Option Addr) (n3 n4 n9 n10 n12 n13 c3 c4 c9 c10 c12 c13 : Nat),
    w.cell? ⟨b, o, none⟩ = some (.bool leaf) ∧ w.cell? ⟨b, o + 1, none⟩ = some (.int .i64 feat) ∧ w.cell? ⟨b, o + 2, none⟩ = some (.bool x2) ∧ w.cell? ⟨b, o + 3, none⟩ = some (.slice p3 n3 c3) ∧ w.cell? ⟨b, o + 4, none⟩ = some (.slice p4 n4 c4) ∧
    w.cell? ⟨b, o + 5, none⟩ = some (.int .i64 i5) ∧ w.cell? ⟨b, o + 6, none⟩ = some (.int .i64 i6) ∧ w.cell? ⟨b, o + 7, none⟩ = some (.bool x7) ∧ w.cell? ⟨b, o + 8, none⟩ = some (.bool x8) ∧ w.cell? ⟨b, o + 9, none⟩ = some (.slice p9 n9 c9) ∧
    w.cell? ⟨b, o + 10, none⟩ = some (.slice p10 n10 c10) ∧ w.cell? ⟨b, o + 11, none⟩ = some (.bool x11) ∧ w.cell? ⟨b, o + 12, none⟩ = some (.slice p12 n12 c12) ∧ w.cell? ⟨b, o + 13, none⟩ = some (.slice p13 n13 c13)
theorem NodeIs.rests {w w' : World} (hR : Rests w w') {b o : Nat} (hb : b < w.heap.size) {leaf : Bool} {feat : Int} (h : NodeIs w b o leaf feat) : NodeIs w' b o leaf feat := by
  obtain ⟨x2, x7, x8, x11, i5, i6, p3, p4, p9, p10, p12, p13, n3, n4, n9, n10, n12, n13, c3, c4, c9, c10, c12, c13, h0, h1, h2, h3, h4, h5, h6, h7, h8, h9, h10, h11, h12, h13⟩ := h
  have k := fun o v (h : w.cell? ⟨b, o, none⟩ = some v) => (World.cell?_of_block (a := (⟨b, o, none⟩ : Addr)) (hR.2.2.2.2 b hb)).trans h
  exact ⟨x2, x7, x8, x11, i5, i6, p3, p4, p9, p10, p12, p13, n3, n4, n9, n10, n12, n13, c3, c4, c9, c10, c12, c13, k _ _ h0, k _ _ h1, k _ _ h2, k _ _ h3, k _ _ h4, k _ _ h5, k _ _ h6, k _ _ h7, k _ _ h8, k _ _ h9, k _ _ h10, k _ _ h11, k _ _ h12, k _ _ h13⟩
theorem cntT_snoc : ∀ (l : List (List NB)) (t : List NB) (c : Int → Nat), cntT (l ++ [t]) c = cntN t (cntT l c)
  | [], _, _ => rfl
  | s :: l, t, c => by rw [List.cons_append, cntT, cntT, cntT_snoc l t]
theorem cntN_snoc : ∀ (l : List NB) (n : NB) (c : Int → Nat), cntN (l ++ [n]) c = if n.1 = true then cntN l c else bump (cntN l c) n.2
  | [], _, _ => rfl
  | s :: l, n, c => by rw [List.cons_append, cntN, cntN, cntN_snoc l n]
theorem own_other {w w' : World} {B e sz n : Nat} {v : Value} {xs : List Value} (h : w.ownsRow B e sz v n xs) (hb : ∀ b, v.ownBlock = some b → w'.heap[b]? = w.heap[b]?) : w'.ownsRow B e sz v n xs := by
  obtain ⟨h1, h2⟩ := h
  refine ⟨h1, ?_⟩
  rcases h2 with h2 | ⟨g, cap, cur, hv, hg, hh, r⟩
  · exact .inl h2
  · exact .inr ⟨g, cap, cur, hv, hg, by rw [hb g (by rw [hv]; rfl)]; exact hh, r⟩
theorem cntN_range {ft x : Int} : ∀ (t : List NB) (c : Int → Nat), (∀ n ∈ t, n.1 = false → 0 ≤ n.2 ∧ n.2 < ft) → (0 < c x → 0 ≤ x ∧ x < ft) → 0 < cntN t c x → 0 ≤ x ∧ x < ft
  | [], _, _, h, hp => h hp
  | n :: t, c, hn, h, hp => by
    rw [cntN] at hp
    refine cntN_range t _ (fun m hm => hn m (List.mem_cons_of_mem _ hm)) (fun hq => ?_) hp
    split at hq
    · exact h hq
    · rename_i hl
      unfold bump at hq
      split at hq
      · rename_i e
        rw [e]
        exact hn n List.mem_cons_self (by simpa using hl)
      · exact h hq
theorem cntT_range {ft x : Int} : ∀ (Ts : List (List NB)) (c : Int → Nat), (∀ t ∈ Ts, ∀ n ∈ t, n.1 = false → 0 ≤ n.2 ∧ n.2 < ft) → (0 < c x → 0 ≤ x ∧ x < ft) → 0 < cntT Ts c x → 0 ≤ x ∧ x < ft
  | [], _, _, h, hp => h hp
  | t :: Ts, c, hn, h, hp => cntT_range Ts _ (fun m hm => hn m (List.mem_cons_of_mem _ hm)) (fun hq => cntN_range t c (hn t List.mem_cons_self) h hq) hp
theorem cnt_range {ft : Int} (Ts : List (List NB)) (x : Int) (hin : ∀ t ∈ Ts, ∀ n ∈ t, n.1 = false → 0 ≤ n.2 ∧ n.2 < ft) (h : 0 < cntT Ts (fun _ => 0) x) : 0 ≤ x ∧ x < ft := cntT_range Ts _ hin (fun h => absurd h (Nat.lt_irrefl 0)) h
set_option maxHeartbeats 16000000 in
set_option maxRecDepth 100000 in
theorem used_walk (ft : Int) (dT : Dat) (hOk : Does Tryd.prog 10 [.agg [.d (.int .i64 ft), .d dT]] [] (.c (.d (.bool true))) none [])
    (w : World) (F : Nat → Prop) (hF : ∀ b, F b → b < w.heap.size) (htab : TabOk w F) (ps : Option Addr) (cs : Nat) (Ts : List (List NB)) (hdT : DRel w F dT (.slice ps Ts.length cs))
    (hTs : ∀ k, k < Ts.length → ∃ b o p c, ps = some ⟨b, o, none⟩ ∧ b < w.heap.size ∧ w.cell? ⟨b, o + k, none⟩ = some (.slice p (Ts.getD k []).length c) ∧
      ∀ j, j < (Ts.getD k []).length → ∃ bn on, p = some ⟨bn, on, none⟩ ∧ bn < w.heap.size ∧ NodeIs w bn (on + j * 14) ((Ts.getD k []).getD j (true, 0)).1 ((Ts.getD k []).getD j (true, 0)).2)
    (S : Nat → Nat) (hS0 : S 0 = 0) (hS : ∀ k, k < Ts.length → S (k + 1) = S k + (Ts.getD k []).length) (hSb : ∀ k, k ≤ Ts.length → S k ≤ 1000000000000) (hn1 : Ts.length ≤ 1000000) (hft : 0 ≤ ft) (hft2 : ft ≤ 1000000) (hin : ∀ t ∈ Ts, ∀ n ∈ t, n.1 = false → 0 ≤ n.2 ∧ n.2 < ft) :
    Calls Tryd.prog 13 #[.agg #[.int .i64 ft, .slice ps Ts.length cs]] w fun e w' => ∃ v, e = .returned v ∧ Rests w w' ∧ w'.ownsRow w.heap.size 4 1 v ft.toNat ((List.range ft.toNat).map fun i : Nat => Value.bool (decide (0 < cntT Ts (fun _ => 0) (i : Int)))) := by
  have hR0 : Rests w (w.alloc (.cells #[.int .i64 ft, .slice ps Ts.length cs] 24)) := ⟨rfl, rfl, rfl, by simp, fun k hk => Below.heap_alloc w _ _ hk⟩
  have hA0 := heap_alloc_new w (.cells #[.int .i64 ft, .slice ps Ts.length cs] 24)
  obtain ⟨A, hA⟩ : ∃ A, w.heap.size = A := ⟨_, rfl⟩
  have C := told_calls2 (r := .c (.d (.bool true))) trivial hOk _ (htab.rests (hR0.fz hF)) #[.agg #[.int .i64 ft, .slice ps Ts.length cs]] (tsrel_cons_mk (by rw [TRel]; exact ⟨_, rfl, ⟨.int _ _, hdT.mono (hR0.fz hF), trivial⟩, by simp [Value.oneCell']⟩) tsrel_nil_mk)
  go_enter Tryd.func13, Tryd.ntmps13
  go_wp2_with fail
  refine C.mono ?_
  rintro e w1 ⟨v, rfl, hR1, T⟩
  rw [TRel] at T
  have T' : DRel w1 (Fz w1) (.bool true) v := T
  cases T'
  clear T C
  have hA1 := (hR1.2.2.2.2 _ (by simp)).trans hA0
  rw [hA] at hA1
  have hRw1 := hR0.trans hR1
  clear hR1 hR0 hA0 hOk
  have hmk : ∀ w : World, (Instr.makeMap 57 none).run Tryd.prog w = .ok (.map (some w.heap.size)) (w.alloc (.map #[] 0)) := fun w => by simp [Instr.makeMap, Result.andThen]
  have b1 : w1.cell? ⟨A, 0, none⟩ = some (.int .i64 ft) := by rw [cell_of_row _ _ _ _ _ _ hA1]; rfl
  have b2 : w1.cell? ⟨A, 1, none⟩ = some (.slice ps Ts.length cs) := by rw [cell_of_row _ _ _ _ _ _ hA1]; rfl
  have lA := lt_of_block hA1
  have b3 : (w1.alloc (.map #[] 0)).cell? ⟨A, 0, none⟩ = some (.int .i64 ft) := (World.cell?_of_block (Below.heap_alloc _ _ _ lA)).trans b1
  have b4 : (w1.alloc (.map #[] 0)).cell? ⟨A, 1, none⟩ = some (.slice ps Ts.length cs) := (World.cell?_of_block (Below.heap_alloc _ _ _ lA)).trans b2
  have K3 : Go.Maps.Keyed Tryd.prog 3 := Maps.int_keyed Tryd.underlying3
  go_wp2
  obtain ⟨M, hM⟩ : ∃ M, w1.heap.size = M := ⟨_, rfl⟩
  have hAM : A < M := by rw [← hM]; exact lA
  go_loopw [18] (fun i wr => ∃ (k n : Nat) (D : DataW Unit), k ≤ Ts.length ∧ i = .int .i64 k ∧ n ≤ S k ∧ Rests w wr ∧ wr.heap[A]? = some (.cells #[.int .i64 ft, .slice ps Ts.length cs] 24 (0, 0)) ∧ wr.ownsMap Tryd.prog 3 (plainElem Tryd.prog 3) M n D ∧ Cnt D (cntT (Ts.take k) fun _ => 0) ∧ ∀ f, cntT (Ts.take k) (fun _ => 0) f ≤ S k)
    (fun i _ => Ts.length - (Go.RowKit.intOf i).toNat)
  case atStart =>
    refine ⟨0, 0, _, Nat.zero_le _, rfl, Nat.zero_le _, hRw1.trans ⟨rfl, rfl, rfl, by simp, fun k hk => Below.heap_alloc _ _ _ hk⟩, (Below.heap_alloc _ _ _ lA).trans hA1, ?_, Cnt.empty, fun f => Nat.zero_le _⟩
    rw [← hM]
    exact World.ownsMap_made w1 Tryd.prog 3 _
  case round =>
    obtain ⟨k, n, D, hk, rfl, hn, hR, hAr, hMr, hC, hcb⟩ := hrel
    clear b1 b2 b3 b4 hA1 hRw1
    by_cases hkn : k < Ts.length
    · obtain ⟨b, o, p, c, rfl, hb, d0, hnd⟩ := hTs k hkn
      have d1 : wr.cell? ⟨b, o + k, none⟩ = some (.slice p (Ts.getD k []).length c) := (World.cell?_of_block (hR.2.2.2.2 b hb)).trans d0
      clear d0
      obtain ⟨t, ht⟩ : ∃ t, Ts.getD k [] = t := ⟨_, rfl⟩
      have htm : t ∈ Ts := by rw [← ht, List.getD_eq_getElem?_getD, List.getElem?_eq_getElem hkn]; exact List.getElem_mem hkn
      have hSk := hS k hkn
      have hSk2 := hSb (k + 1) (by omega)
      rw [ht] at d1 hnd hSk
      go_wp2
      go_loopw [24] (fun i wr => ∃ (j n : Nat) (D : DataW Unit), j ≤ t.length ∧ i = .int .i64 j ∧ n ≤ S k + j ∧ Rests w wr ∧ wr.heap[A]? = some (.cells #[.int .i64 ft, .slice (some ⟨b, o, none⟩) Ts.length cs] 24 (0, 0)) ∧ wr.ownsMap Tryd.prog 3 (plainElem Tryd.prog 3) M n D ∧ Cnt D (cntN (t.take j) (cntT (Ts.take k) fun _ => 0)) ∧ ∀ f, cntN (t.take j) (cntT (Ts.take k) fun _ => 0) f ≤ S k + j)
        (fun i _ => t.length - (Go.RowKit.intOf i).toNat)
      case atStart => exact ⟨0, n, D, Nat.zero_le _, rfl, hn, hR, hAr, hMr, hC, hcb⟩
      case round =>
        obtain ⟨j, n2, D2, hj, rfl, hn', hR', hAr', hMr', hC', hcb'⟩ := hrel
        clear hMr hC hcb hAr hn d1
        by_cases hjt : j < t.length
        · obtain ⟨bn, on, rfl, hbn, hN⟩ := hnd j hjt
          obtain ⟨nd, hnd2⟩ : ∃ nd, t.getD j (true, 0) = nd := ⟨_, rfl⟩
          have hndm : nd ∈ t := by rw [← hnd2, List.getD_eq_getElem?_getD, List.getElem?_eq_getElem hjt]; exact List.getElem_mem hjt
          rw [hnd2] at hN
          obtain ⟨leaf, feat⟩ := nd
          have hN' := hN.rests hR' hbn
          clear hN
          obtain ⟨x2, x7, x8, x11, i5, i6, p3, p4, p9, p10, p12, p13, n3, n4, n9, n10, n12, n13, c3, c4, c9, c10, c12, c13, h0, h1, h2, h3, h4, h5, h6, h7, h8, h9, h10, h11, h12, h13⟩ := hN'
          have hsz : wr.heap.size < (wr.alloc (.cells #[.bool leaf, .int .i64 feat, .bool x2, .slice p3 n3 c3, .slice p4 n4 c4, .int .i64 i5, .int .i64 i6, .bool x7, .bool x8, .slice p9 n9 c9, .slice p10 n10 c10, .bool x11, .slice p12 n12 c12, .slice p13 n13 c13] 43)).heap.size := by simp
          have hR2 : Rests w (wr.alloc (.cells #[.bool leaf, .int .i64 feat, .bool x2, .slice p3 n3 c3, .slice p4 n4 c4, .int .i64 i5, .int .i64 i6, .bool x7, .bool x8, .slice p9 n9 c9, .slice p10 n10 c10, .bool x11, .slice p12 n12 c12, .slice p13 n13 c13] 43)) := hR'.trans ⟨rfl, rfl, rfl, by simp, fun k hk => Below.heap_alloc _ _ _ hk⟩
          have hA2 : (wr.alloc (.cells #[.bool leaf, .int .i64 feat, .bool x2, .slice p3 n3 c3, .slice p4 n4 c4, .int .i64 i5, .int .i64 i6, .bool x7, .bool x8, .slice p9 n9 c9, .slice p10 n10 c10, .bool x11, .slice p12 n12 c12, .slice p13 n13 c13] 43)).heap[A]? = some (.cells #[.int .i64 ft, .slice (some ⟨b, o, none⟩) Ts.length cs] 24 (0, 0)) := (Below.heap_alloc _ _ _ (lt_of_block hAr')).trans hAr'
          have hM2 : (wr.alloc (.cells #[.bool leaf, .int .i64 feat, .bool x2, .slice p3 n3 c3, .slice p4 n4 c4, .int .i64 i5, .int .i64 i6, .bool x7, .bool x8, .slice p9 n9 c9, .slice p10 n10 c10, .bool x11, .slice p12 n12 c12, .slice p13 n13 c13] 43)).ownsMap Tryd.prog 3 (plainElem Tryd.prog 3) M n2 D2 := hMr'.alloc _
          have hN1 : (wr.alloc (.cells #[.bool leaf, .int .i64 feat, .bool x2, .slice p3 n3 c3, .slice p4 n4 c4, .int .i64 i5, .int .i64 i6, .bool x7, .bool x8, .slice p9 n9 c9, .slice p10 n10 c10, .bool x11, .slice p12 n12 c12, .slice p13 n13 c13] 43)).cell? ⟨wr.heap.size, 1, none⟩ = some (.int .i64 feat) := by rw [cell_of_row _ _ _ _ _ _ (heap_alloc_new wr _)]; rfl
          have e : t.take (j + 1) = t.take j ++ [(leaf, feat)] := by rw [← hnd2, List.getD_eq_getElem?_getD, List.getElem?_eq_getElem hjt]; exact List.take_succ_eq_append_getElem hjt
          cases leaf with
          | true =>
            go_wp2
            go_roundw
            case rel =>
              refine ⟨j + 1, n2, D2, by omega, by simp, by omega, hR2, hA2, hM2, by rw [e, cntN_snoc, if_pos rfl]; exact hC', fun f => ?_⟩
              rw [e, cntN_snoc, if_pos rfl]
              have := hcb' f
              omega
            case measure => simp [Go.RowKit.intOf]; omega
          | false =>
            have hin2 := hin t htm (false, feat) hndm rfl
            have hwf : (Lit.int .i64 feat).wf = true := by
              have h1 : 0 ≤ feat := hin2.1
              have h2 : feat < ft := hin2.2
              unfold Lit.wf
              simp only [Bool.and_eq_true, decide_eq_true_eq]
              exact ⟨by show -9223372036854775808 ≤ feat; omega, by show feat ≤ 9223372036854775807; omega⟩
            have hkey := Maps.keyOf_int_mk (P := Tryd.prog) (k := 3) Tryd.underlying3 hwf
            have hz : ∀ w : World, (zeroValue 3).run Tryd.prog w = .ok (.int .i64 0) w := fun w => by kernel_rfl
            have hcf := hcb' feat
            obtain ⟨q, hq, hq2⟩ : ∃ q : Nat, cntN (t.take j) (cntT (Ts.take k) fun _ => 0) feat = q ∧ q ≤ S k + j := ⟨_, rfl, hcf⟩
            have hlook : (Instr.lookup 57 (.map (some M)) (.int .i64 feat) false).run Tryd.prog (wr.alloc (.cells #[.bool false, .int .i64 feat, .bool x2, .slice p3 n3 c3, .slice p4 n4 c4, .int .i64 i5, .int .i64 i6, .bool x7, .bool x8, .slice p9 n9 c9, .slice p10 n10 c10, .bool x11, .slice p12 n12 c12, .slice p13 n13 c13] 43)) = .ok (.int .i64 (q : Int)) (wr.alloc (.cells #[.bool false, .int .i64 feat, .bool x2, .slice p3 n3 c3, .slice p4 n4 c4, .int .i64 i5, .int .i64 i6, .bool x7, .bool x8, .slice p9 n9 c9, .slice p10 n10 c10, .bool x11, .slice p12 n12 c12, .slice p13 n13 c13] 43)) := by
              obtain ⟨c0, hrun, hc0, _⟩ := hM2.lookup_int K3 Tryd.underlying57 Tryd.underlying3 (hz _) hkey
              rw [hC'.v feat, hq] at hc0
              obtain rfl : c0 = (q : Int) := by injection hc0 with h; injection h with _ h; exact h.symm
              exact hrun
            have hwq : (Lit.int .i64 ((q : Int) + 1)).wf = true := by
              unfold Lit.wf
              simp only [Bool.and_eq_true, decide_eq_true_eq]
              exact ⟨by show -9223372036854775808 ≤ (q : Int) + 1; omega, by show (q : Int) + 1 ≤ 9223372036854775807; omega⟩
            obtain ⟨w4, hup, hM4, hg4⟩ := hM2.update K3 Tryd.underlying57 (by unfold maxLen; omega) hkey (plainElem_int (H := Unit) Tryd.underlying3 hwq)
            have hR4 : Rests w w4 := rests_grown hR2 (Nat.le_refl _) (fun _ _ => rfl) rfl rfl rfl hg4 fun b hb => by injection hb with hb; omega
            have hA4 := (hg4.block A (lt_of_block hA2) (fun e => by injection e with e; omega)).trans hA2
            have hC4 := hC'.put feat (K3.key hkey)
            rw [hq] at hC4
            clear hM2 hA2 hR2
            go_wp2_with fail
            go_roundw
            case rel =>
              refine ⟨j + 1, n2 + 1, _, by omega, by simp, by omega, hR4, hA4, hM4, by rw [e, cntN_snoc, if_neg (show ¬ (false : Bool) = true from fun e => by cases e)]; exact hC4, fun f => ?_⟩
              rw [e, cntN_snoc, if_neg (show ¬ (false : Bool) = true from fun e => by cases e)]
              have := hcb' f
              unfold bump
              split
              · rw [hq]; omega
              · omega
            case measure => simp [Go.RowKit.intOf]; omega
        · have hj2 : j = t.length := by omega
          subst hj2
          rw [List.take_length] at hC' hcb'
          go_wp2
          go_roundw
          case rel =>
            have e : Ts.take (k + 1) = Ts.take k ++ [t] := by rw [← ht, List.getD_eq_getElem?_getD, List.getElem?_eq_getElem hkn]; exact List.take_succ_eq_append_getElem hkn
            refine ⟨k + 1, n2, D2, by omega, by simp, by omega, hR', hAr', hMr', by rw [e, cntT_snoc]; exact hC', fun f => ?_⟩
            rw [e, cntT_snoc]
            have := hcb' f
            omega
          case measure => simp [Go.RowKit.intOf]; omega
    · have hk2 : k = Ts.length := by omega
      subst hk2
      rw [List.take_length] at hC hcb
      have b1 : wr.cell? ⟨A, 0, none⟩ = some (.int .i64 ft) := by rw [cell_of_row _ _ _ _ _ _ hAr]; rfl
      obtain ⟨i1, hi1, hz10, hz11, hz12⟩ := info_parts (show (Tryd.prog.info? 4).map (fun i => (i.zero, i.size, i.bytes)) = some (some (.bool false), 1, 1) by kernel_rfl)
      obtain ⟨fn, rfl⟩ : ∃ fn : Nat, ft = (fn : Int) := ⟨ft.toNat, by omega⟩
      have hAw : A ≤ wr.heap.size := by have := hR.2.2.2.1; omega
      go_wp2_with (refine wpList_make_full _ rfl (.tmp 39) (.tmp 39) 34 rfl A 4 i1 _ 1 Tryd.underlying34 hi1 hz10 hz11 .i64 .i64 (fn : Int) (fn : Int) fn rfl rfl rfl rfl (by rw [hz12]; omega) (by unfold maxLen; omega) hAw ?_)
      intro w5 hown5 hg5
      obtain ⟨G, hG⟩ : ∃ G, wr.heap.size = G := ⟨_, rfl⟩
      rw [hG] at hown5 ⊢
      have hR5 : Rests w w5 := rests_grown hR (Nat.le_refl _) (fun _ _ => rfl) rfl rfl rfl hg5 fun b hb => by cases hb
      have hM5 := hMr.kept hg5 (by simp)
      have hlM := hMr.lt
      obtain ⟨w6, hrun6, hrg6, hg6, hs6⟩ := hM5.range K3 Tryd.underlying57
      have hR6 : Rests w w6 := rests_grown hR5 (Nat.le_refl _) (fun _ _ => rfl) rfl rfl rfl hg6 fun b hb => by cases hb
      have hown6 := own_blocks hown5 fun b hb => hg6.block b hb (by simp)
      have hGr : G < w5.heap.size := (hown5.lt G rfl).2
      obtain ⟨r, hr⟩ : ∃ r, w5.heap.size = r := ⟨_, rfl⟩
      rw [hr] at hrun6 hrg6 hGr
      have hGM : G ≠ M := by omega
      clear hown5 hg5 hg6 hM5 hR5
      have hcs0 : (madeCells #[Value.bool false] fn).toList = (List.range fn).map fun i : Nat => Value.bool (Maps.has D (.int .i64 (i : Int)) && !Maps.has D (.int .i64 (i : Int))) := by
        rw [toList_madeCells_one]
        have e : (fun i : Nat => Value.bool (Maps.has D (.int .i64 (i : Int)) && !Maps.has D (.int .i64 (i : Int)))) = fun _ => Value.bool false := by
          funext i
          rw [Bool.and_not_self]
        rw [e]
        symm
        rw [List.eq_replicate_iff]
        refine ⟨by simp, fun b hb => ?_⟩
        obtain ⟨_, _, rfl⟩ := List.mem_map.1 hb
        rfl
      rw [hcs0] at hown6
      go_wp2
      go_loopw [] (fun wr => ∃ (left : Lit → Bool) (cn : Nat), wr.ranges Tryd.prog 3 (plainElem Tryd.prog 3) M r n D left cn ∧ Rests w wr ∧ (∀ z, left z = true → Maps.has D z = true) ∧ wr.ownsRow A 4 1 (.slice (some ⟨G, 0, none⟩) fn fn) fn ((List.range fn).map fun i : Nat => Value.bool (Maps.has D (.int .i64 (i : Int)) && !left (.int .i64 (i : Int)))))
        (fun wr => wr.rangeLeft M r)
      case atStart => exact ⟨_, _, hrg6, hR6, fun _ h => h, hown6⟩
      case round =>
        obtain ⟨left, cn, hrg, hRr, hlh, hrow⟩ := hrel
        clear hrg6 hR6 hown6 hrun6 b1
        rcases hrg.next K3 0 with ⟨h0, hl, hrun⟩ | ⟨key, v, kl, y, w8, cn', hkey, hlk, hv, hat, hrun, hrg8, hlt, hg8, hs8, hen⟩
        · have e : ((List.range fn).map fun i : Nat => Value.bool (Maps.has D (.int .i64 (i : Int)) && !left (.int .i64 (i : Int)))) = (List.range fn).map fun i : Nat => Value.bool (decide (0 < cntT Ts (fun _ => 0) (i : Int))) := by
            refine List.map_congr_left fun i _ => ?_
            rw [hl, hC.h]
            simp
          rw [e] at hrow
          go_wp2
          go_ret
          rw [Int.toNat_natCast]
          exact ⟨_, rfl, hRr, by rw [hA]; exact hrow⟩
        · obtain ⟨x, rfl, rfl, hwx⟩ := Maps.keyOf_int_inv Tryd.underlying3 hkey
          obtain ⟨c, rfl, rfl, hwc⟩ := plainElem_int_inv Tryd.underlying3 hv
          have hc0 := hat (.lit (.int .i64 0))
          rw [hC.v x] at hc0
          have hc1 : ((cntT Ts (fun _ => 0) x : Nat) : Int) = c := by injection hc0 with h; injection h with _ h
          have hh := hlh _ hlk
          rw [hC.h x] at hh
          have hpos := of_decide_eq_true hh
          obtain ⟨hx0, hx1⟩ := cnt_range Ts x hin hpos
          obtain ⟨xn, rfl⟩ : ∃ xn : Nat, x = (xn : Int) := ⟨x.toNat, by omega⟩
          have hxn : xn < fn := by omega
          have hcpos : (0 : Int) < c := by omega
          have hrow8 : w8.ownsRow A 4 1 (.slice (some ⟨G, 0, none⟩) fn fn) fn ((List.range fn).map fun i : Nat => Value.bool (Maps.has D (.int .i64 (i : Int)) && !left (.int .i64 (i : Int)))) := own_other hrow fun b hb => hg8.block b (hrow.lt b hb).2 (fun e => by have hb' : some G = some b := hb; injection hb' with hb'; injection e with e; omega)
          obtain ⟨u0, e0, f0⟩ := own_cell hrow8 (k := xn) (by simp; exact hxn)
          have hS8 := own_set (.bool true) hrow8 (k := xn) (by simp; exact hxn)
          have hR8 : Rests w w8 := rests_grown hRr (Nat.le_refl _) (fun _ _ => rfl) rfl rfl rfl hg8 fun b hb => by injection hb with hb; omega
          have hGA : A ≤ G := by omega
          have hR9 : Rests w (w8.setCell ⟨G, xn, none⟩ (.bool true)) := ⟨hR8.1, hR8.2.1, hR8.2.2.1, by have := hR8.2.2.2.1; simp [World.setCell]; omega, fun b hb => (Below.heap_setCell _ _ _ _ (show b ≠ G by omega)).trans (hR8.2.2.2.2 b hb)⟩
          have hrg9 := hrg8.kept (w' := w8.setCell ⟨G, xn, none⟩ (.bool true)) (row := some G) ⟨rfl, rfl, rfl, by simp [World.setCell], fun b _ hne => Below.heap_setCell _ _ _ _ (fun e => hne (by rw [show b = G from e]))⟩ (fun e => by injection e with e; omega) (fun e => by injection e with e; omega)
          have hrow9 : (((List.range fn).map fun i : Nat => Value.bool (Maps.has D (.int .i64 (i : Int)) && !left (.int .i64 (i : Int)))).set xn (.bool true)) = (List.range fn).map fun i : Nat => Value.bool (Maps.has D (.int .i64 (i : Int)) && !(left (.int .i64 (i : Int)) && !Lit.sameKey (.int .i64 (i : Int)) (.int .i64 (xn : Int)))) := by
            apply List.ext_getElem
            · simp
            · intro i h1 h2
              rw [List.getElem_set]
              simp only [List.getElem_map, List.getElem_range]
              by_cases e : xn = i
              · subst e
                rw [if_pos rfl, hlh _ hlk, WideAt.sameKey_self (K3.key hkey)]
                simp
              · rw [if_neg e, Maps.sameKey_ne (fun h => by injection h with _ h; exact e (by omega))]
                simp
          rw [hrow9] at hS8
          have hxi : (xn : Int) < (fn : Int) := by omega
          have hmeas : (w8.setCell ⟨G, xn, none⟩ (.bool true)).rangeLeft M r < wr.rangeLeft M r := by rw [hrg9.left_eq, hrg.left_eq]; exact hlt
          clear hrow8 hrow9 hg8 hrow hrg hat hc0
          go_wp2
          go_roundw
          case rel => exact ⟨_, cn', hrg9, hR9, fun z hz => by simp only [Bool.and_eq_true] at hz; exact hlh z hz.1, hS8⟩
          case measure => exact hmeas
set_option maxRecDepth 100000 in
theorem used_not (ft : Int) (dT : Dat) (hOk : Does Tryd.prog 10 [.agg [.d (.int .i64 ft), .d dT]] [] (.c (.d (.bool false))) none [])
    (w : World) (F : Nat → Prop) (hF : ∀ b, F b → b < w.heap.size) (htab : TabOk w F) (ps : Option Addr) (n cs : Nat) (hdT : DRel w F dT (.slice ps n cs)) :
    Calls Tryd.prog 13 #[.agg #[.int .i64 ft, .slice ps n cs]] w fun e w' => e = .returned (.slice none 0 0) ∧ Rests w w' := by
  have hR0 : Rests w (w.alloc (.cells #[.int .i64 ft, .slice ps n cs] 24)) := ⟨rfl, rfl, rfl, by simp, fun k hk => Below.heap_alloc w _ _ hk⟩
  have C := told_calls2 (r := .c (.d (.bool false))) trivial hOk _ (htab.rests (hR0.fz hF)) #[.agg #[.int .i64 ft, .slice ps n cs]] (tsrel_cons_mk (by rw [TRel]; exact ⟨_, rfl, ⟨.int _ _, hdT.mono (hR0.fz hF), trivial⟩, by simp [Value.oneCell']⟩) tsrel_nil_mk)
  go_enter Tryd.func13, Tryd.ntmps13
  go_wp2_with fail
  refine C.mono ?_
  rintro e w1 ⟨v, rfl, hR1, T⟩
  rw [TRel] at T
  have T' : DRel w1 (Fz w1) (.bool false) v := T
  cases T'
  have hRw1 := hR0.trans hR1
  clear T C
  go_wp2
  go_ret
  exact ⟨rfl, hRw1⟩
def cuU (x : Int) : List Dat := [.int .u64 x]
def ndU (n : NdU) : List Dat := [.bool n.1, .int .i64 n.2.1, .bool n.2.2.1, fr 1 cuU 0 n.2.2.2.1, fr 1 cuU 0 n.2.2.2.2.1, .int .i64 n.2.2.2.2.2.1, .int .i64 n.2.2.2.2.2.2.1, .bool n.2.2.2.2.2.2.2.1, .bool n.2.2.2.2.2.2.2.2.1, fr 1 cuU 0 n.2.2.2.2.2.2.2.2.2.1, fr 1 cuU 0 n.2.2.2.2.2.2.2.2.2.2.1, .bool n.2.2.2.2.2.2.2.2.2.2.2.1, fr 1 cuU 0 n.2.2.2.2.2.2.2.2.2.2.2.2.1, fr 1 cuU 0 n.2.2.2.2.2.2.2.2.2.2.2.2.2]
def nd0 : NdU := (false, 0, false, [], [], 0, 0, false, false, [], [], false, [], [])
def dTr (t : List NdU) : Dat := fr 14 ndU nd0 t
def dTs (l : List (List NdU)) : Dat := fr 1 (fun t => [dTr t]) [] l
theorem fro_lenU {w : World} {F : Nat → Prop} {sz n : Nat} {get : Nat → List Dat} {v : Value} (h : DRel w F (.fro sz n get) v) : ∃ p c, v = .slice p n c := by
  cases h
  · exact ⟨_, _, rfl⟩
  · exact ⟨_, _, rfl⟩
theorem node_at {w : World} {F : Nat → Prop} {b o : Nat} {n : NdU} {cell : Nat → Value} (h : ∀ i d, i < 14 → (ndU n)[i]? = some d → w.cell? ⟨b, o + i, none⟩ = some (cell i) ∧ DRel w F d (cell i)) : NodeIs w b o n.1 n.2.1 := by
  have hb : ∀ i x, i < 14 → (ndU n)[i]? = some (.bool x) → w.cell? ⟨b, o + i, none⟩ = some (.bool x) := fun i x hi hx => by
    obtain ⟨h1, h2⟩ := h i _ hi hx
    generalize cell i = u at h1 h2
    cases h2
    exact h1
  have hint : ∀ i x, i < 14 → (ndU n)[i]? = some (.int .i64 x) → w.cell? ⟨b, o + i, none⟩ = some (.int .i64 x) := fun i x hi hx => by
    obtain ⟨h1, h2⟩ := h i _ hi hx
    generalize cell i = u at h1 h2
    cases h2
    exact h1
  have hs : ∀ i (l : List Int), i < 14 → (ndU n)[i]? = some (fr 1 cuU 0 l) → ∃ p c, w.cell? ⟨b, o + i, none⟩ = some (.slice p l.length c) := fun i l hi hx => by
    obtain ⟨h1, h2⟩ := h i _ hi hx
    have h3 : DRel w F (.fro 1 l.length (enc cuU 0 l)) (cell i) := h2
    obtain ⟨p, c, e⟩ := fro_lenU h3
    rw [e] at h1
    exact ⟨p, c, h1⟩
  obtain ⟨p3, c3, h3⟩ := hs 3 _ (by decide) rfl
  obtain ⟨p4, c4, h4⟩ := hs 4 _ (by decide) rfl
  obtain ⟨p9, c9, h9⟩ := hs 9 _ (by decide) rfl
  obtain ⟨p10, c10, h10⟩ := hs 10 _ (by decide) rfl
  obtain ⟨p12, c12, h12⟩ := hs 12 _ (by decide) rfl
  obtain ⟨p13, c13, h13⟩ := hs 13 _ (by decide) rfl
  exact ⟨_, _, _, _, _, _, p3, p4, p9, p10, p12, p13, _, _, _, _, _, _, c3, c4, c9, c10, c12, c13, hb 0 _ (by decide) rfl, hint 1 _ (by decide) rfl, hb 2 _ (by decide) rfl, h3, h4, hint 5 _ (by decide) rfl, hint 6 _ (by decide) rfl, hb 7 _ (by decide) rfl, hb 8 _ (by decide) rfl, h9, h10, hb 11 _ (by decide) rfl, h12, h13⟩
theorem nb_at (t : List NdU) (j : Nat) (hj : j < t.length) : (t.map fun n => (n.1, n.2.1)).getD j (true, 0) = ((t.getD j nd0).1, (t.getD j nd0).2.1) := by
  rw [List.getD_eq_getElem?_getD, List.getD_eq_getElem?_getD, List.getElem?_map, List.getElem?_eq_getElem hj]
  rfl
theorem bools_flat (g : Nat → Bool) : ∀ r : List Nat, (r.map fun i => Value.bool (g i)) = (r.map g).flatMap fun b => [Value.bool b]
  | [] => rfl
  | a :: r => by rw [List.map_cons, List.map_cons, List.flatMap_cons, ← bools_flat g r]; rfl
theorem trees_at {w : World} {F : Nat → Prop} {l : List (List NdU)} {v : Value} (h : DRel w F (dTs l) v) : ∃ ps cs, v = .slice ps l.length cs ∧ ∀ k, k < l.length → ∃ b o p c, ps = some ⟨b, o, none⟩ ∧ b < w.heap.size ∧ w.cell? ⟨b, o + k, none⟩ = some (.slice p ((nbs l).getD k []).length c) ∧
      ∀ j, j < ((nbs l).getD k []).length → ∃ bn on, p = some ⟨bn, on, none⟩ ∧ bn < w.heap.size ∧ NodeIs w bn (on + j * 14) (((nbs l).getD k []).getD j (true, 0)).1 (((nbs l).getD k []).getD j (true, 0)).2 := by
  have h' : DRel w F (.fro 1 l.length (enc (fun t => [dTr t]) [] l)) v := h
  rcases drel_cells (by decide) h' with ⟨h0, a, cap, rfl⟩ | ⟨h0, b, o, cap, cell, rfl, hcap, hb, _, hcell⟩
  · exact ⟨a, cap, by rw [h0], fun k hk => by omega⟩
  · refine ⟨_, _, rfl, fun k hk => ?_⟩
    have hel : (nbs l).getD k [] = (l.getD k []).map fun n => (n.1, n.2.1) := by
      unfold nbs
      rw [List.getD_eq_getElem?_getD, List.getD_eq_getElem?_getD, List.getElem?_map, List.getElem?_eq_getElem hk]
      rfl
    obtain ⟨g1, g2⟩ := hcell k 0 (dTr (l.getD k [])) hk rfl
    have g3 : DRel w F (.fro 14 (l.getD k []).length (enc ndU nd0 (l.getD k []))) (cell k 0) := g2
    rw [hel, List.length_map]
    rcases drel_cells (by decide) g3 with ⟨k0, a, cap2, e⟩ | ⟨k0, b2, o2, cap2, cell2, e, _, hb2, _, hcell2⟩
    · rw [e] at g1
      exact ⟨b, o, a, cap2, rfl, hb, by rw [k0]; simpa using g1, fun j hj => by omega⟩
    · rw [e] at g1
      refine ⟨b, o, _, cap2, rfl, hb, by simpa using g1, fun j hj => ⟨b2, o2, rfl, hb2, ?_⟩⟩
      rw [nb_at _ j hj]
      exact node_at (F := F) (cell := cell2 j) fun i d hi hd => by rw [Nat.add_assoc]; exact hcell2 j i d hj hd
theorem used_of {ft : Int} {l : List (List NdU)} {ok : Bool} (hOk : Does Tryd.prog 10 [.agg [.d (.int .i64 ft), .d (dTs l)]] [] (.c (.d (.bool ok))) none []) (hu : ok = true → usedOk ft l) :
    Does Tryd.prog 13 [.agg [.d (.int .i64 ft), .d (dTs l)]] [] (.c (.d (fr 1 (fun b => [.bool b]) false (if ok = true then usedL ft l else [])))) none [] := by
  obtain ⟨c, hc⟩ := Option.isSome_iff_exists.1 (show Tryd.f13.body.isSome = true from rfl)
  refine does_fresh3 ⟨Tryd.f13, c, Tryd.func13, by kernel_rfl, hc⟩ (fun x hx => ?_) fun w F args hF htab hr => ?_
  · rw [List.mem_singleton.1 hx]
    intro c hc
    simp only [List.mem_cons, List.not_mem_nil, or_false] at hc
    rcases hc with rfl | rfl <;> exact ⟨_, rfl⟩
  obtain ⟨t, rfl, t3⟩ := tsrel_one hr
  rw [TRel.eq_def] at t3
  obtain ⟨vs, rfl, t4, _⟩ := t3
  obtain ⟨ws, rfl⟩ : ∃ ws : List Value, vs = ws.toArray := ⟨vs.toList, by simp⟩
  match ws, t4 with
  | [v0, v1], t4 =>
  obtain ⟨r0, r1, _⟩ := t4
  have r0' : DRel w F (.int .i64 ft) v0 := r0
  have r1' : DRel w F (dTs l) v1 := r1
  clear r0 r1 hr
  cases r0'
  obtain ⟨ps, cs, rfl, hTs⟩ := trees_at r1'
  cases ok with
  | false =>
    refine (used_not ft (dTs l) hOk w F hF htab ps l.length cs r1').mono ?_
    rintro e w' ⟨rfl, hR⟩
    refine ⟨_, rfl, hR, fun _ _ _ => ?_⟩
    rw [TRel]
    exact .fro0 _ _ _ _
  | true =>
    obtain ⟨u1, u2, u3, u4⟩ := hu rfl
    have hlen : (nbs l).length = l.length := List.length_map _
    have hsum : ∀ k, k < (nbs l).length → (((nbs l).take (k + 1)).map List.length).sum = (((nbs l).take k).map List.length).sum + ((nbs l).getD k []).length := fun k hk => by
      rw [List.take_succ_eq_append_getElem hk, List.map_append, List.sum_append, List.getD_eq_getElem?_getD, List.getElem?_eq_getElem hk]
      simp
    have hmem : ∀ t ∈ nbs l, t.length ≤ 1000 ∧ ∀ n ∈ t, n.1 = false → 0 ≤ n.2 ∧ n.2 < ft := fun t ht => by
      obtain ⟨s, hs, rfl⟩ := List.mem_map.1 ht
      refine ⟨by rw [List.length_map]; exact (u4 s hs).1, fun n hn hl => ?_⟩
      obtain ⟨m, hm, rfl⟩ := List.mem_map.1 hn
      exact (u4 s hs).2 m hm hl
    have hbd : ∀ k, k ≤ (nbs l).length → (((nbs l).take k).map List.length).sum ≤ k * 1000 := fun k => by
      induction k with
      | zero => intro _; simp
      | succ k ih =>
        intro hk
        have h1 := ih (by omega)
        rw [hsum k (by omega)]
        have : ((nbs l).getD k []).length ≤ 1000 := by
          rw [List.getD_eq_getElem?_getD, List.getElem?_eq_getElem (show k < (nbs l).length by omega)]
          exact (hmem _ (List.getElem_mem _)).1
        rw [Nat.succ_mul]
        omega
    have W := used_walk ft (dTs l) hOk w F hF htab ps cs (nbs l) (by rw [hlen]; exact r1') (by rw [hlen]; exact hTs) (fun k => (((nbs l).take k).map List.length).sum) rfl hsum (fun k hk => by have := hbd k hk; have : k * 1000 ≤ 1000 * 1000 := Nat.mul_le_mul (by omega) (Nat.le_refl _); omega) (by omega) u1 u2 (fun t ht => (hmem t ht).2)
    rw [hlen] at W
    refine W.mono ?_
    rintro e w' ⟨v, rfl, hR, hown⟩
    refine ⟨v, rfl, hR, fun _ _ _ => ?_⟩
    rw [TRel]
    show DRel w' (Fnew F w w') (fr 1 (fun b => [.bool b]) false (usedL ft l)) v
    have e1 : ((List.range ft.toNat).map fun i : Nat => Value.bool (decide (0 < cntT (nbs l) (fun _ => 0) (i : Int)))) = (usedL ft l).flatMap fun b => [Value.bool b] := by
      exact bools_flat _ _
    have e2 : (usedL ft l).length = ft.toNat := by unfold usedL; simp
    rw [e1, ← e2] at hown
    refine own_drel (cv := fun b => [Value.bool b]) (c := fun b => [Dat.bool b]) (fun b h1 h2 => .inr ⟨h1, h2⟩) (fun _ => rfl) (fun _ => rfl) (fun x i dd u h1 h2 => ?_) hown
    match i, h1, h2 with
    | 0, h1, h2 => simp at h1 h2; subst h1 h2; exact .bool _

end Go.DI
