/- What the told functions answer, part 2. No condition. -/
import Derived.Test.YtmnjjphdkjohpaaDoorTh1
set_option linter.all false
namespace Go.DI.Th
open Go Go.RowKit Go.DI

theorem tidy_l0 (l : List Ce) (h : ∀ c ∈ l, CeB' c) (hl : l.length ≤ 1000000) : ∀ (b a : List Ce), l = a ++ b → Ev (fun k => ask_tidy.l0 k (a.map kC) l (l.length : Int) (a.length : Int)) (l.map kC) := by
  intro b
  induction b with
  | nil =>
    intro a h1
    rw [List.append_nil] at h1
    refine Ev.succ ?_
    simp only [ask_tidy.l0]
    exact Ev.if_neg (by rw [h1]; omega) ((Ev.now _).of_eq (by rw [h1]))
  | cons u b ih =>
    intro a h1
    have g1 : gt (false, false, [], []) l (a.length : Int) = u := by rw [h1]; exact gt_at _ a u b
    have hla : l.length = a.length + (b.length + 1) := by rw [h1, List.length_append, List.length_cons]
    have hu := h u (by rw [h1]; simp)
    have hih := ih (a ++ [u]) (by rw [h1]; simp)
    rw [List.length_append, List.length_singleton, List.map_append] at hih
    refine Ev.succ ?_
    simp only [ask_tidy.l0, g1, wr_succ a.length (show a.length ≤ 1125899906842624 by omega)]
    refine Ev.if_pos (by omega) (Ev.if_pos (nn0 _) (Ev.if_pos (by omega) ?_))
    have hm : (a.map kC).length < 2199023255552 := by rw [List.length_map]; omega
    by_cases hc : u.1 = true
    · have e : kC u = (true, false, [], []) := if_pos hc
      rw [List.map_cons, e] at hih
      exact Ev.if_pos hc (Ev.if_pos hm hih)
    · have e : kC u = (false, cn (rv u.2)) := if_neg hc
      rw [List.map_cons, e] at hih
      exact Ev.if_neg hc (Ev.bind (clean_cn u.2 hu (by decide)) (Ev.if_pos hm hih))
theorem tidy_ev (l : List Ce) (h : ∀ c ∈ l, CeB' c) (hl : l.length ≤ 1000000) : Ev (fun k => ask_tidy.f k l) (l.map kC) := tidy_l0 l h hl l [] rfl
theorem form_all (k : Int) : ∃ v, FormOk k v := by
  by_cases h : 1 ≤ k ∧ k ≤ 9
  · exact form_ok h.1 h.2
  · have e : ask_form.f k = some 0 := by
      unfold ask_form.f
      rw [if_neg (by omega), if_neg (by omega), if_neg (by omega), if_neg (by omega), if_neg (by omega), if_neg (by omega), if_neg (by omega), if_neg (by omega)]
    have f1 : fe k = false := decide_eq_false (by omega)
    have f2 : ro k = false := decide_eq_false (by omega)
    have f3 : gr k = false := decide_eq_false (by omega)
    have f4 : ma k = false := decide_eq_false (by omega)
    refine ⟨0, e, ?_, ?_, ?_, ?_, ?_⟩
    · rw [f1]; decide +kernel
    · rw [f2]; decide +kernel
    · rw [f3]; decide +kernel
    · rw [f2, f3]; decide +kernel
    · rw [f4]; decide +kernel
abbrev AK := Int × Int × List Ce × List (List Ce) × List Ce
theorem clean_l0 (Rs : List (List Ce)) (h : ∀ r ∈ Rs, (∀ c ∈ r, CeB' c) ∧ r.length ≤ 1000000) (hl : Rs.length ≤ 1000000) (u v kd ft : Int) (rw_ gr : List Ce) : ∀ (b a : List (List Ce)), Rs = a ++ b → Ev (fun k => ask_Clean.l0 k Rs (Rs.length : Int) (a.length : Int) u v kd ft rw_ (a.map (·.map kC)) gr) ((kd, ft, rw_, Rs.map (·.map kC), gr) : AK) := by
  intro b
  induction b with
  | nil =>
    intro a h1
    rw [List.append_nil] at h1
    refine Ev.succ ?_
    simp only [ask_Clean.l0]
    exact Ev.if_neg (by rw [h1]; omega) ((Ev.now _).of_eq (by rw [h1]))
  | cons r b ih =>
    intro a h1
    have g1 : gt [] Rs (a.length : Int) = r := by rw [h1]; exact gt_at _ a r b
    have hla : Rs.length = a.length + (b.length + 1) := by rw [h1, List.length_append, List.length_cons]
    obtain ⟨r1, r2⟩ := h r (by rw [h1]; simp)
    have hih := ih (a ++ [r]) (by rw [h1]; simp)
    rw [List.length_append, List.length_singleton, List.map_append] at hih
    refine Ev.succ ?_
    simp only [ask_Clean.l0, g1, wr_succ a.length (show a.length ≤ 1125899906842624 by omega)]
    exact Ev.if_pos (by omega) (Ev.if_pos (nn0 _) (Ev.if_pos (by omega) (Ev.bind (tidy_ev r r1 r2) (Ev.if_pos (by rw [List.length_map]; omega) hih))))
def CLk (f : List Ce → List Ce) (kd ft : Int) (rw_ : List Ce) (rs : List (List Ce)) (gd : List Ce) : AK := (kd, (if fe kd = true then ft else 0), (if ro kd = true then f rw_ else []), (if ma kd = true then rs.map f else []), (if gr kd = true then f gd else []))
structure InOk (rw_ : List Ce) (rs : List (List Ce)) (gd : List Ce) : Prop where
  r : (∀ c ∈ rw_, CeB c) ∧ rw_.length ≤ 1000
  g : (∀ c ∈ gd, CeB c) ∧ gd.length ≤ 1000
  m : ∀ r ∈ rs, (∀ c ∈ r, CeB c) ∧ r.length ≤ 1000
  l : rs.length ≤ 1000
theorem ceB_up {l : List Ce} (h : ∀ c ∈ l, CeB c) : ∀ c ∈ l, CeB' c := fun c hc => RtB.mono (h c hc) (by decide)
theorem clean_end (rs : List (List Ce)) (h : ∀ r ∈ rs, (∀ c ∈ r, CeB' c) ∧ r.length ≤ 1000000) (hl : rs.length ≤ 1000000) (v4 kd ft : Int) (h8 : Go.bits .and .i64 v4 8 = 0 ↔ ma kd = false) (a b : List Ce) (X : AK) (hX : X = (kd, ft, a, (if ma kd = true then rs.map (·.map kC) else []), b)) :
    Ev (fun k => if Go.bits .and .i64 v4 8 ≠ 0 then ask_Clean.l0 k rs (rs.length : Int) 0 0 0 kd ft a ([] : List (List Ce)) b else some ((kd, ft, a, ([] : List (List Ce)), b) : AK)) X := by
  subst hX
  by_cases hm : ma kd = true
  · rw [if_pos hm]
    exact Ev.if_pos (fun e => by rw [h8.1 e] at hm; cases hm) (clean_l0 rs h hl 0 0 kd ft a b rs [] rfl)
  · rw [if_neg hm]
    exact Ev.if_neg (fun e => e (h8.2 (by simpa using hm))) (Ev.now _)
theorem aclean_ev (kd ft : Int) (rw_ : List Ce) (rs : List (List Ce)) (gd : List Ce) (I : InOk rw_ rs gd) : Ev (fun k => ask_Clean.f k kd ft rw_ rs gd) (CLk (·.map kC) kd ft rw_ rs gd) := by
  obtain ⟨v, F⟩ := form_all kd
  have t1 := tidy_ev rw_ (ceB_up I.r.1) (by have := I.r.2; omega)
  have t2 := tidy_ev gd (ceB_up I.g.1) (by have := I.g.2; omega)
  have fin := fun ft a b X hX => clean_end rs (fun r hr => ⟨ceB_up (I.m r hr).1, by have := (I.m r hr).2; omega⟩) (by have := I.l; omega) v kd ft F.b8 a b X hX
  unfold ask_Clean.f CLk
  simp only [F.e, Option.bind_some]
  by_cases h1 : fe kd = true
  · refine Ev.if_pos (F.b1.2 h1) ?_
    by_cases h2 : ro kd = true
    · refine Ev.if_pos (F.b2.2 h2) (Ev.bind t1 ?_)
      by_cases h4 : gr kd = true
      · exact Ev.if_pos (F.b4.2 h4) (Ev.bind t2 (fin _ _ _ _ (by rw [if_pos h1, if_pos h2, if_pos h4])))
      · exact Ev.if_neg (fun e => h4 (F.b4.1 e)) (fin _ _ _ _ (by rw [if_pos h1, if_pos h2, if_neg h4]))
    · refine Ev.if_neg (fun e => h2 (F.b2.1 e)) ?_
      by_cases h4 : gr kd = true
      · exact Ev.if_pos (F.b4.2 h4) (Ev.bind t2 (fin _ _ _ _ (by rw [if_pos h1, if_neg h2, if_pos h4])))
      · exact Ev.if_neg (fun e => h4 (F.b4.1 e)) (fin _ _ _ _ (by rw [if_pos h1, if_neg h2, if_neg h4]))
  · refine Ev.if_neg (fun e => h1 (F.b1.1 e)) ?_
    by_cases h2 : ro kd = true
    · refine Ev.if_pos (F.b2.2 h2) (Ev.bind t1 ?_)
      by_cases h4 : gr kd = true
      · exact Ev.if_pos (F.b4.2 h4) (Ev.bind t2 (fin _ _ _ _ (by rw [if_neg h1, if_pos h2, if_pos h4])))
      · exact Ev.if_neg (fun e => h4 (F.b4.1 e)) (fin _ _ _ _ (by rw [if_neg h1, if_pos h2, if_neg h4]))
    · refine Ev.if_neg (fun e => h2 (F.b2.1 e)) ?_
      by_cases h4 : gr kd = true
      · exact Ev.if_pos (F.b4.2 h4) (Ev.bind t2 (fin _ _ _ _ (by rw [if_neg h1, if_neg h2, if_pos h4])))
      · exact Ev.if_neg (fun e => h4 (F.b4.1 e)) (fin _ _ _ _ (by rw [if_neg h1, if_neg h2, if_neg h4]))
theorem dclean_eq (kd ft : Int) (rw_ : List Ce) (rs : List (List Ce)) (gd : List Ce) : dendronlaw28_Clean.f kd ft rw_ rs gd = some (CLk id kd ft rw_ rs gd) := by
  unfold dendronlaw28_Clean.f CLk
  simp only [dfe, dro, dgr, dma, Option.bind_some, List.map_id, id]
  cases fe kd <;> cases ro kd <;> cases gr kd <;> cases ma kd <;> rfl
theorem few28_ev (kd ft : Int) (rw_ : List Ce) (rs : List (List Ce)) (gd : List Ce) : Ev (fun k => dendronlaw28_Few.f k kd ft rw_ rs gd) ((kd, ft, (rw_.take 8).map cell3, all3 6 8 rs, (gd.take 8).map cell3) : AK) := by
  unfold dendronlaw28_Few.f
  exact Ev.bind (few09_ev rw_ 8 (by decide)) (Ev.bind (few09_ev gd 8 (by decide)) (Ev.bind (all09_ev rs 6 8 (by decide) (by decide)) (Ev.now _)))
theorem few28_ok (rw_ : List Ce) (rs : List (List Ce)) (gd : List Ce) (h1 : ∀ c ∈ rw_, CeU c) (h2 : ∀ r ∈ rs, ∀ c ∈ r, CeU c) (h3 : ∀ c ∈ gd, CeU c) : InOk ((rw_.take 8).map cell3) (all3 6 8 rs) ((gd.take 8).map cell3) ∧ ((rw_.take 8).map cell3).length ≤ 8 ∧ ((gd.take 8).map cell3).length ≤ 8 ∧ (all3 6 8 rs).length ≤ 6 ∧ ∀ r ∈ all3 6 8 rs, r.length ≤ 8 := by
  have e1 : ((rw_.take 8).map cell3).length ≤ 8 := by rw [List.length_map, List.length_take]; omega
  have e2 : ((gd.take 8).map cell3).length ≤ 8 := by rw [List.length_map, List.length_take]; omega
  have e3 : (all3 6 8 rs).length ≤ 6 := by unfold all3; rw [List.length_map, List.length_take]; omega
  have e4 : ∀ r ∈ all3 6 8 rs, (∀ c ∈ r, CeB c) ∧ r.length ≤ 8 := fun r hr => by
    obtain ⟨q, hq, rfl⟩ := List.mem_map.1 hr
    exact ⟨few_B (h2 q (List.mem_of_mem_take hq)) 8, by rw [List.length_map, List.length_take]; omega⟩
  exact ⟨⟨⟨few_B h1 8, by omega⟩, ⟨few_B h3 8, by omega⟩, fun r hr => ⟨(e4 r hr).1, by have := (e4 r hr).2; omega⟩, by omega⟩, e1, e2, e3, fun r hr => (e4 r hr).2⟩
def Tidy (c : Ce) : Prop := ∃ d, CeB d ∧ c = kC d
theorem same28_k (kd ft : Int) (f g : List Ce → List Ce) (rw_ : List Ce) (rs : List (List Ce)) (gd : List Ce) (hl : rs.length ≤ 1000000) (h1 : Ev (fun k => dendronref09_Equal.f k (f rw_) (g rw_)) true) (h2 : Ev (fun k => dendronref09_Equal.f k (f gd) (g gd)) true) (h3 : ∀ r ∈ rs, Ev (fun k => dendronref09_Equal.f k (f r) (g r)) true) :
    Ev (fun k => dendronref28_Same.f k (CLk f kd ft rw_ rs gd).1 (CLk f kd ft rw_ rs gd).2.1 (CLk f kd ft rw_ rs gd).2.2.1 (CLk f kd ft rw_ rs gd).2.2.2.1 (CLk f kd ft rw_ rs gd).2.2.2.2 (CLk g kd ft rw_ rs gd).1 (CLk g kd ft rw_ rs gd).2.1 (CLk g kd ft rw_ rs gd).2.2.1 (CLk g kd ft rw_ rs gd).2.2.2.1 (CLk g kd ft rw_ rs gd).2.2.2.2) true := by
  have h0 : Ev (fun k => dendronref09_Equal.f k ([] : List Ce) ([] : List Ce)) true := dequal_self [] (fun c hc => by cases hc) (Nat.zero_le _)
  unfold dendronref28_Same.f CLk
  have e1 : Ev (fun k => dendronref09_Equal.f k (if ro kd = true then f rw_ else []) (if ro kd = true then g rw_ else [])) true := by
    by_cases h : ro kd = true
    · rw [if_pos h, if_pos h]; exact h1
    · rw [if_neg h, if_neg h]; exact h0
  have e2 : Ev (fun k => dendronref09_Equal.f k (if gr kd = true then f gd else []) (if gr kd = true then g gd else [])) true := by
    by_cases h : gr kd = true
    · rw [if_pos h, if_pos h]; exact h2
    · rw [if_neg h, if_neg h]; exact h0
  have e3 : ((if ma kd = true then rs.map f else []).length : Int) = ((if ma kd = true then rs.map g else []).length : Int) := by
    by_cases h : ma kd = true
    · rw [if_pos h, if_pos h, List.length_map, List.length_map]
    · rw [if_neg h, if_neg h]
  refine Ev.if_neg (fun e => e rfl) (Ev.if_neg (fun e => e rfl) (Ev.bind e1 (Ev.if_pos rfl (Ev.bind e2 (Ev.if_pos rfl (Ev.if_neg (fun e => e e3) ?_))))))
  have e4 : (if ma kd = true then rs.map f else []).length ≤ 1000000 := by
    by_cases h : ma kd = true
    · rw [if_pos h, List.length_map]; exact hl
    · rw [if_neg h]; exact Nat.zero_le _
  have e5 : ∀ p ∈ (if ma kd = true then rs.map f else []).zip (if ma kd = true then rs.map g else []), Ev (fun k => dendronref09_Equal.f k p.1 p.2) true := by
    by_cases h : ma kd = true
    · rw [if_pos h, if_pos h]
      intro p hp
      rw [List.zip_map', List.mem_map] at hp
      obtain ⟨r, hr, rfl⟩ := hp
      exact h3 r hr
    · rw [if_neg h]
      intro p hp
      cases hp
  have e6 : (if ma kd = true then rs.map f else []).length = (if ma kd = true then rs.map g else []).length := by omega
  exact same28_l0 _ _ _ _ _ _ _ _ _ _ e4 e6 _ [] _ [] rfl rfl rfl e5
theorem cell_test (c : Ce) (h : Tidy c) {α : Type} (X : Nat → Option α) (F : Nat → Option α) {r : α} (hX : Ev X r) :
    Ev (fun k => if c.1 = true then (if ((c.2.2.2).length : Int) ≠ 0 then F k else (if c.1 = true then X k else ((ratio_Right.f k c.2.1 c.2.2.1 c.2.2.2).bind fun v => (if v = true then X k else F k)))) else (if c.1 = true then X k else ((ratio_Right.f k c.2.1 c.2.2.1 c.2.2.2).bind fun v => (if v = true then X k else F k)))) r := by
  obtain ⟨d, hd, rfl⟩ := h
  by_cases hm : d.1 = true
  · have e : kC d = (true, false, [], []) := if_pos hm
    rw [e]
    exact Ev.if_pos rfl (Ev.if_neg (fun e => e rfl) (Ev.if_pos rfl hX))
  · have e : kC d = (false, cn (rv d.2)) := if_neg hm
    have hr := rright_ev (cn (rv d.2)) (by have := kC_B d hd; rw [e] at this; exact this) (by decide)
    rw [rv_cn, decide_eq_true rfl] at hr
    rw [e]
    exact Ev.if_neg (fun e => by cases e) (Ev.if_neg (fun e => by cases e) (Ev.bind hr (Ev.if_pos rfl hX)))
theorem cleans_l1 (All : List (List Ce)) (hA : ∀ r ∈ All, (∀ c ∈ r, Tidy c) ∧ r.length ≤ 1000000) (hl : All.length ≤ 1000000) (R : Nat → Option Bool) (b0 b1 : Int) (b2 : List Ce) (b3 : List (List Ce)) (b4 : List Ce) (c0 c1 : Int) (c2 : List Ce) (c3 : List (List Ce)) (c4 : List Ce) (A : List (List Ce)) (r : List Ce) (B : List (List Ce)) (hs : All = A ++ r :: B)
    (hn : Ev (fun k => dendronlaw28_AskCleans.l0 k All ((A.length + 1 : Nat) : Int) b0 b1 b2 b3 b4 c0 c1 c2 c3 c4) true) : ∀ (b a : List Ce), r = a ++ b → Ev (fun k => dendronlaw28_AskCleans.l1 k All (A.length : Int) (a.length : Int) b0 b1 b2 b3 b4 c0 c1 c2 c3 c4) true := by
  have g : All.getD ((A.length : Int).toNat) [] = r := by rw [hs]; simp
  have hAl : All.length = A.length + (B.length + 1) := by rw [hs, List.length_append, List.length_cons]
  obtain ⟨t1, t2⟩ := hA r (by rw [hs]; simp)
  intro b
  induction b with
  | nil =>
    intro a h1
    rw [List.append_nil] at h1
    refine Ev.succ ?_
    simp only [dendronlaw28_AskCleans.l1, g, wr_succ A.length (show A.length ≤ 1125899906842624 by omega)]
    exact Ev.if_pos (nn0 _) (Ev.if_pos (by omega) (Ev.if_neg (by rw [h1]; omega) hn))
  | cons u b ih =>
    intro a h1
    have g1 : gt (false, false, [], []) r (a.length : Int) = u := by rw [h1]; exact gt_at _ a u b
    have hla : r.length = a.length + (b.length + 1) := by rw [h1, List.length_append, List.length_cons]
    have hih := ih (a ++ [u]) (by rw [h1]; simp)
    rw [List.length_append, List.length_singleton] at hih
    refine Ev.succ ?_
    simp only [dendronlaw28_AskCleans.l1, g, g1, wr_succ a.length (show a.length ≤ 1125899906842624 by omega)]
    exact Ev.if_pos (nn0 _) (Ev.if_pos (by omega) (Ev.if_pos (by omega) (Ev.if_pos (nn0 _) (cell_test u (t1 u (by rw [h1]; simp)) _ _ hih))))
theorem cleans_l0 (haw : Ev (fun k => dendronlaw28_awake.f k) true) (All : List (List Ce)) (hA : ∀ r ∈ All, (∀ c ∈ r, Tidy c) ∧ r.length ≤ 1000000) (hl : All.length ≤ 1000000) (kd ft : Int) (rw_ : List Ce) (rs : List (List Ce)) (gd : List Ce) (I : InOk rw_ rs gd) (C : AK) (hC : C = CLk (·.map kC) kd ft rw_ rs gd) : ∀ (b a : List (List Ce)), All = a ++ b → Ev (fun k => dendronlaw28_AskCleans.l0 k All (a.length : Int) kd ft rw_ rs gd C.1 C.2.1 C.2.2.1 C.2.2.2.1 C.2.2.2.2) true := by
  intro b
  induction b with
  | nil =>
    intro a h1
    rw [List.append_nil] at h1
    refine Ev.succ ?_
    simp only [dendronlaw28_AskCleans.l0, dclean_eq, Option.bind_some]
    refine Ev.if_neg (by rw [h1]; omega) ?_
    rw [hC]
    exact Ev.bind (same28_k kd ft (·.map kC) id rw_ rs gd (by have := I.l; omega) (dequal_k _ I.r.1 (by have := I.r.2; omega)) (dequal_k _ I.g.1 (by have := I.g.2; omega)) fun r hr => dequal_k _ (I.m r hr).1 (by have := (I.m r hr).2; omega)) (Ev.if_pos rfl (Ev.bind haw (Ev.now _)))
  | cons r b ih =>
    intro a h1
    have hla : All.length = a.length + (b.length + 1) := by rw [h1, List.length_append, List.length_cons]
    have hih := ih (a ++ [r]) (by rw [h1]; simp)
    rw [List.length_append, List.length_singleton] at hih
    refine Ev.succ ?_
    simp only [dendronlaw28_AskCleans.l0]
    exact Ev.if_pos (by omega) (cleans_l1 All hA hl (fun _ => none) _ _ _ _ _ _ _ _ _ _ a r b h1 hih r [] rfl)
theorem tidy_map {l : List Ce} (h : ∀ c ∈ l, CeB c) (hl : l.length ≤ 1000) : (∀ c ∈ l.map kC, Tidy c) ∧ (l.map kC).length ≤ 1000000 := by
  refine ⟨fun c hc => ?_, by rw [List.length_map]; omega⟩
  obtain ⟨d, hd, rfl⟩ := List.mem_map.1 hc
  exact ⟨d, h d hd, rfl⟩
theorem askCleans_ev0 (haw : Ev (fun k => dendronlaw28_awake.f k) true) (kd ft : Int) (rw_ : List Ce) (rs : List (List Ce)) (gd : List Ce) (h1 : ∀ c ∈ rw_, CeU c) (h2 : ∀ r ∈ rs, ∀ c ∈ r, CeU c) (h3 : ∀ c ∈ gd, CeU c) : Ev (fun k => dendronlaw28_AskCleans.f k kd ft rw_ rs gd) true := by
  obtain ⟨I, l1, l2, l3, l4⟩ := few28_ok rw_ rs gd h1 h2 h3
  have hf := few28_ev kd ft rw_ rs gd
  revert I l1 l2 l3 l4 hf
  generalize (rw_.take 8).map cell3 = R
  generalize all3 6 8 rs = S
  generalize (gd.take 8).map cell3 = G
  intro I l1 l2 l3 l4 hf
  unfold dendronlaw28_AskCleans.f
  have hc := aclean_ev kd ft R S G I
  have n0 : (∀ c ∈ ([] : List Ce), Tidy c) ∧ ([] : List Ce).length ≤ 1000000 := ⟨fun c hc => (by cases hc), Nat.zero_le _⟩
  have e1 : (∀ c ∈ (CLk (·.map kC) kd ft R S G).2.2.1, Tidy c) ∧ (CLk (·.map kC) kd ft R S G).2.2.1.length ≤ 1000000 := by
    show (∀ c ∈ (if ro kd = true then R.map kC else []), Tidy c) ∧ (if ro kd = true then R.map kC else []).length ≤ 1000000
    split
    · exact tidy_map I.r.1 I.r.2
    · exact n0
  have e2 : (∀ c ∈ (CLk (·.map kC) kd ft R S G).2.2.2.2, Tidy c) ∧ (CLk (·.map kC) kd ft R S G).2.2.2.2.length ≤ 1000000 := by
    show (∀ c ∈ (if gr kd = true then G.map kC else []), Tidy c) ∧ (if gr kd = true then G.map kC else []).length ≤ 1000000
    split
    · exact tidy_map I.g.1 I.g.2
    · exact n0
  have e3 : (∀ r ∈ (CLk (·.map kC) kd ft R S G).2.2.2.1, (∀ c ∈ r, Tidy c) ∧ r.length ≤ 1000000) ∧ (CLk (·.map kC) kd ft R S G).2.2.2.1.length ≤ 1000 := by
    show (∀ r ∈ (if ma kd = true then S.map (·.map kC) else []), (∀ c ∈ r, Tidy c) ∧ r.length ≤ 1000000) ∧ (if ma kd = true then S.map (·.map kC) else []).length ≤ 1000
    split
    · refine ⟨fun r hr => ?_, by rw [List.length_map]; exact I.l⟩
      obtain ⟨q, hq, rfl⟩ := List.mem_map.1 hr
      exact tidy_map (I.m q hq).1 (I.m q hq).2
    · exact ⟨fun r hr => (by cases hr), Nat.zero_le _⟩
  refine Ev.bind hf (Ev.bind hc (Ev.if_pos (by simp only [List.length_cons, List.length_nil]; have := e3.2; omega) ?_))
  refine cleans_l0 haw _ ?_ (by simp only [List.length_append, List.length_cons, List.length_nil]; have := e3.2; omega) kd ft R S G I _ rfl _ [] rfl
  intro r hr
  rcases List.mem_append.1 hr with h | h
  · rcases List.mem_cons.1 h with rfl | h
    · exact e1
    · rw [List.mem_singleton.1 h]; exact e2
  · exact e3.1 r h
end Go.DI.Th
