/- What the told functions answer, part 2. No condition. -/
import Derived.Test.YtigikpefcbcgkaaGreatDoorTh1
import Derived.Laws.RangeAny
import Derived.Laws.RangeString
set_option linter.all false
namespace Go.DI.Th
open Go Go.RowKit Go.DI

theorem plus_limb (x c : Int) (hx : 0 <= x /\ x < 4294967296) (hc : 0 <= c /\ c < 1000000000) :
 ∃ y z : Int, (0 <= y /\ y < 4294967296) /\ (0 <= z /\ z < 1000000000) /\ y + 4294967296 * z = c + x * 1000000000 /\ Go.bits .and .u64 (IntKind.u64.wrap (c + (IntKind.u64.wrap (x * 1000000000)))) 4294967295 = y /\ (IntKind.u64.wrap (c + (IntKind.u64.wrap (x * 1000000000)))) / 4294967296 = z := by
 have e : IntKind.u64.wrap (c + (IntKind.u64.wrap (x * 1000000000))) = c + x * 1000000000 := by
  simp only [w64]
  omega
 rw [e, and_low (by omega) (by omega)]
 exact ⟨_, _, ⟨Int.emod_nonneg _ (by decide), Int.emod_lt_of_pos _ (by decide)⟩, by omega, by omega, rfl, rfl⟩
theorem plus_val (p vd vt x y z c : Int) (h : vd + p * c = vt) (hs : y + 4294967296 * z = c + x * 1000000000) : vd + p * y + p * 4294967296 * z = vt + p * x * 1000000000 := by grind
theorem plus_loop (a : List Int) (ha : Ok a) (v : Nat) (N : Nat) (hN : N <= 35184372088832) (hla : a.length + 1 = N) (hs : val a * 1000000000 + v < 4294967296 ^ N) (d : Nat) : ∀ (done : List Int) (c : Int), Ok done -> done.length + d = N -> (0 <= c /\ c < 1000000000) ->
 val done + 4294967296 ^ done.length * c = (val (a.take done.length) : Int) * 1000000000 + v ->
 Ev (fun k => nat_plus.l0 k a c (done ++ List.replicate d 0) (N : Int) (done.length : Int)) (lm (val a * 1000000000 + v)) := by
 induction d with
 | zero =>
  intro done c hd hl hc hv
  have hl' : done.length = N := by omega
  rw [List.take_of_length_le (by omega)] at hv
  have hz : val done = val a * 1000000000 + v := by
   have e : (4294967296 : Int) ^ done.length = ((4294967296 ^ done.length : Nat) : Int) := by rw [Int.natCast_pow]; rfl
   have hc0 : c = 0 := by
    apply Classical.byContradiction
    intro h0
    have h1 : (4294967296 : Int) ^ done.length * 1 <= 4294967296 ^ done.length * c := Int.mul_le_mul_of_nonneg_left (by omega) (by rw [e]; exact Int.natCast_nonneg _)
    rw [Int.mul_one, e, hl'] at h1
    rw [hl'] at e
    rw [hl', e] at hv
    omega
   rw [hc0] at hv
   omega
  refine Ev.step (f := fun k => (nat_trim.f k done).bind fun t => some t) (fun k => ?_) (Ev.bind ?_ (Ev.now _))
  ·simp only [nat_plus.l0]
   rw [if_neg (by omega)]
   simp
  ·have := trim_ev done hd (by omega)
   rwa [hz] at this
 | succ d ih =>
  intro done c hd hl hc hv
  have va := val_take_rd a ha done.length
  obtain ⟨y, nd, hy, hnd, hsum, e1, e2⟩ := plus_limb (rd a (done.length : Int)) c (rd_ok ha _) hc
  refine Ev.step (fun k => ?_) (ih (done ++ [y]) nd (hd.append (Ok.cons hy Ok.nil)) (by simp; omega) hnd ?_)
  ·simp only [nat_plus.l0]
   rw [if_pos (by omega), limb_eq a _ (by omega)]
   simp only [Option.bind_some]
   rw [if_pos (by omega), if_pos (by simp; omega), e1, e2, wrap_id (by omega) (by omega), show ((done.length : Int)).toNat = done.length by omega, fill]
   simp
  ·rw [List.length_append, List.length_singleton, va, val_snoc_int done y hy, Int.pow_succ]
   have := plus_val (4294967296 ^ done.length) (val done) _ (rd a (done.length : Int)) y nd c hv hsum
   rw [this, Int.add_mul]
   omega
theorem nplus_ev (n v : Nat) (hv : v < 1000000000) (hl : len n <= 35184372088830) : Ev (fun k => nat_plus.f k (lm n) (v : Int)) (lm (n * 1000000000 + v)) := by
 have hN : val (lm n) * 1000000000 + v < 4294967296 ^ (len n + 1) := by
  rw [val_lm]
  have := lt_pow_len n
  rw [Nat.pow_succ]
  have h1 : n + 1 <= 4294967296 ^ len n := this
  have h2 : (n + 1) * 4294967296 <= 4294967296 ^ len n * 4294967296 := Nat.mul_le_mul_right _ h1
  omega
 have h := plus_loop (lm n) (lm_ok n) v (len n + 1) (by omega) (by rw [lm_length]) hN (len n + 1) [] (v : Int) Ok.nil (by simp) (by omega) (by simp [val])
 rw [val_lm] at h
 unfold nat_plus.f
 simp only [lm_length, wr_succ _ (show len n <= 1125899906842624 by omega), Int.toNat_natCast, List.length_replicate]
 exact Ev.if_pos (by omega) (Ev.if_pos (by omega) h)
def isD (c : UInt8) : Prop := 48 <= c.toNat /\ c.toNat <= 57
instance (c : UInt8) : Decidable (isD c) := by unfold isD; infer_instance
def dgv (a : Nat) (l : List UInt8) : Nat := l.foldl (fun a c => 10 * a + (c.toNat - 48)) a
theorem dgv_cons (a : Nat) (c : UInt8) (l : List UInt8) : dgv a (c :: l) = dgv (10 * a + (c.toNat - 48)) l := by unfold dgv; rw [List.foldl_cons]
theorem dgv_nil (a : Nat) : dgv a [] = a := by unfold dgv; rw [List.foldl_nil]
theorem dgv_append (a : Nat) (l m : List UInt8) : dgv a (l ++ m) = dgv (dgv a l) m := List.foldl_append
theorem dgv_shift : ∀ (l : List UInt8) (a : Nat), dgv a l = a * 10 ^ l.length + dgv 0 l
 | [], a => by rw [dgv_nil, dgv_nil, List.length_nil, Nat.pow_zero]; omega
 | c :: l, a => by
  rw [dgv_cons, dgv_cons, dgv_shift l (10 * a + (c.toNat - 48)), dgv_shift l (10 * 0 + (c.toNat - 48)), List.length_cons, Nat.pow_succ, Nat.add_mul, Nat.mul_zero, Nat.zero_add, Nat.mul_comm 10 a, Nat.mul_assoc, Nat.mul_comm 10 (10 ^ l.length)]
  omega
theorem dgv_step (a d p x : Nat) (h3 : 10 * a + d + 1 <= (a + 1) * 10) (h : x < (10 * a + d + 1) * p) : x < (a + 1) * (10 * p) := by
 rw [<- Nat.mul_assoc]
 exact Nat.lt_of_lt_of_le h (Nat.mul_le_mul_right _ h3)
theorem dgv_lt : ∀ (l : List UInt8) (a : Nat), (∀ c ∈ l, isD c) -> dgv a l < (a + 1) * 10 ^ l.length
 | [], a, _ => by rw [dgv_nil, List.length_nil, Nat.pow_zero]; omega
 | c :: l, a, h => by
  have h1 := h c List.mem_cons_self
  have h2 := dgv_lt l (10 * a + (c.toNat - 48)) fun x hx => h x (List.mem_cons_of_mem _ hx)
  have h3 : 10 * a + (c.toNat - 48) + 1 <= (a + 1) * 10 := by unfold isD at h1; omega
  rw [dgv_cons, List.length_cons, Nat.pow_succ, Nat.mul_comm (10 ^ l.length) 10]
  exact dgv_step a (c.toNat - 48) (10 ^ l.length) _ h3 h2
def pE (w : List UInt8) : Int := if w = [] then 4 else if ∀ c ∈ w, isD c then (if w.length > 10000 then 5 else 0) else 4
def pR (w : List UInt8) : List Int × Int := if pE w = 0 then (lm (dgv 0 w), 0) else ([], pE w)
theorem pE_zero {w : List UInt8} : pE w = 0 ↔ w ≠ [] /\ (∀ c ∈ w, isD c) /\ w.length <= 10000 := by
 unfold pE
 by_cases h : w = []
 ·rw [if_pos h]
  exact ⟨fun e => (by cases e), fun e => absurd h e.1⟩
 ·rw [if_neg h]
  by_cases h1 : ∀ c ∈ w, isD c
  ·rw [if_pos h1]
   by_cases h2 : w.length > 10000
   ·rw [if_pos h2]
    exact ⟨fun e => (by cases e), fun e => by omega⟩
   ·rw [if_neg h2]
    exact ⟨fun _ => ⟨h, h1, by omega⟩, fun _ => rfl⟩
  ·rw [if_neg h1]
   exact ⟨fun e => (by cases e), fun e => absurd e.2.1 h1⟩
theorem ext_drop {s : ByteArray} {a b : List UInt8} (h : toL s = a ++ b) : s.extract a.length s.size = ofL b := by
 apply toL_inj
 rw [toL_extract, h, List.drop_left, toL_ofL, List.take_of_length_le]
 rw [size_toL, h, List.length_append]
 omega
theorem ext_take {s : ByteArray} {a b : List UInt8} (h : toL s = a ++ b) : s.extract 0 a.length = ofL a := by
 apply toL_inj
 rw [toL_extract, h, toL_ofL, List.drop_zero, Nat.sub_zero, List.take_left]
theorem at_byte {s : ByteArray} {a : List UInt8} {c : UInt8} {b : List UInt8} (h : toL s = a ++ c :: b) (hp : a.length < s.size) : s[a.length]'hp = c := by
 have e : (s[a.length]'hp) = (toL s)[a.length]'(by rw [<- size_toL]; exact hp) := rfl
 rw [e]
 have : ∀ (l : List UInt8) (hl : a.length < l.length), l = a ++ c :: b -> l[a.length]'hl = c := by
  intro l hl e
  subst e
  rw [List.getElem_append_right (Nat.le_refl _)]
  simp
 exact this _ _ h
theorem toBytes_eq (w : List UInt8) : toBytes (ofL w) = w.map fun c => (c.toNat : Int) := rfl
theorem parse_l2 (rest : ByteArray) (x0 : ByteArray) (x7 : Nat) (hx0 : x7 <= x0.size) (hrest : x0.extract x7 x0.size = rest) (acc : Nat) (hacc : len acc <= 35184372088830) (w : List UInt8) (hw : ∀ c ∈ w, isD c) (hl : w.length <= 9) (R : List Int × Int)
 (hend : Ev (fun k => nat_Parse.l1 k rest (lm (acc * 1000000000 + dgv 0 w))) R) : ∀ (b a : List UInt8), w = a ++ b ->
 Ev (fun k => nat_Parse.l2 k x0 (lm acc) (x7 : Int) ((dgv 0 a : Nat) : Int) (w.map fun c => (c.toNat : Int)) (w.length : Int) (a.length : Int)) R := by
 intro b
 induction b with
 | nil =>
  intro a hr
  rw [List.append_nil] at hr
  subst hr
  refine Ev.succ ?_
  simp only [nat_Parse.l2]
  have hlt := dgv_lt w 0 hw
  have h9 : 10 ^ w.length <= 10 ^ 9 := Nat.pow_le_pow_right (by decide) hl
  refine Ev.if_neg (by omega) (Ev.bind (nplus_ev acc (dgv 0 w) (by omega) hacc) (Ev.if_pos (nn0 _) (Ev.if_pos (by omega) ?_)))
  rw [Int.toNat_natCast, hrest]
  exact hend
 | cons c b ih =>
  intro a hr
  have hc : isD c := hw c (by rw [hr]; simp)
  have hlen : w.length = a.length + (b.length + 1) := by rw [hr, List.length_append, List.length_cons]
  have ha : ∀ x ∈ a, isD x := fun x hx => hw x (by rw [hr]; exact List.mem_append_left _ hx)
  have hlt := dgv_lt a 0 ha
  have h9 : 10 ^ a.length <= 10 ^ 8 := Nat.pow_le_pow_right (by decide) (by omega)
  have hih := ih (a ++ [c]) (by rw [hr]; simp)
  rw [dgv_append] at hih
  have er : rd (w.map fun c => (c.toNat : Int)) (a.length : Int) = (c.toNat : Int) := by
   rw [hr, List.map_append, List.map_cons]
   have := rd_at (a.map fun c => (c.toNat : Int)) (c.toNat : Int) (b.map fun c => (c.toNat : Int))
   rwa [List.length_map] at this
  have e8 : IntKind.u8.wrap ((c.toNat : Int) - 48) = ((c.toNat - 48 : Nat) : Int) := by
   unfold isD at hc
   rw [IntKind.wrap_u8]
   omega
  have e9 : IntKind.u64.wrap ((IntKind.u64.wrap (10 * ((dgv 0 a : Nat) : Int))) + (IntKind.u64.wrap ((c.toNat - 48 : Nat) : Int))) = ((dgv (dgv 0 a) [c] : Nat) : Int) := by
   have : dgv (dgv 0 a) [c] = 10 * dgv 0 a + (c.toNat - 48) := by rw [dgv_cons, dgv_nil]
   rw [this]
   unfold isD at hc
   simp only [w64]
   omega
  refine Ev.succ ?_
  simp only [nat_Parse.l2, er, e8, e9, wr_at a c (show a.length <= 1125899906842624 by omega)]
  exact Ev.if_pos (by omega) (Ev.if_pos (nn0 _) (Ev.if_pos (by rw [List.length_map]; omega) hih))
theorem len_ten (n : Nat) : len (10 ^ n) <= n + 1 := by
 refine len_le ?_
 have : 10 ^ n <= 4294967296 ^ n := Nat.pow_le_pow_left (by decide) n
 rw [Nat.pow_succ]
 have := Nat.pow_pos (n := n) (show 0 < 4294967296 by decide)
 omega
theorem len_dgv (w : List UInt8) (h : ∀ c ∈ w, isD c) : len (dgv 0 w) <= w.length + 1 := by
 have h1 := dgv_lt w 0 h
 rw [Nat.zero_add, Nat.one_mul] at h1
 exact Nat.le_trans (len_mono (Nat.le_of_lt h1)) (len_ten _)
theorem parse_l1 : ∀ (m : Nat) (a b : List UInt8), b.length <= m -> (∀ c ∈ a ++ b, isD c) -> (a ++ b).length <= 10000 -> (a = [] \/ b.length % 9 = 0) ->
 Ev (fun k => nat_Parse.l1 k (ofL b) (lm (dgv 0 a))) (lm (dgv 0 (a ++ b)), 0) := by
 intro m
 induction m with
 | zero =>
  intro a b hb hd hl h9
  obtain rfl : b = [] := List.length_eq_zero_iff.1 (by omega)
  refine Ev.succ ?_
  simp only [nat_Parse.l1]
  rw [List.append_nil]
  exact Ev.if_neg (by decide) (Ev.now _)
 | succ m ih =>
  intro a b hb hd hl h9
  have hsz : (ofL b).size = b.length := by rw [size_toL]; rfl
  refine Ev.succ ?_
  simp only [nat_Parse.l1]
  rw [hsz]
  by_cases h0 : b = []
  ·subst h0
   rw [List.append_nil]
   exact Ev.if_neg (by decide) (Ev.now _)
  ·have hp := List.length_pos_iff.2 h0
   rw [List.length_append] at hl
   have em : Int.tmod (b.length : Int) 9 = ((b.length % 9 : Nat) : Int) := rfl
   rw [em, Int.toNat_natCast]
   refine Ev.if_pos (by omega) ?_
   have step : ∀ n : Nat, 0 < n -> n <= 9 -> n <= b.length -> (b.length - n) % 9 = 0 -> (a ≠ [] -> n = 9) -> Ev (fun k => nat_Parse.l2 k (ofL b) (lm (dgv 0 a)) (n : Int) 0 (toBytes ((ofL b).extract 0 n)) ((toBytes ((ofL b).extract 0 n)).length : Int) 0) (lm (dgv 0 (a ++ b)), 0) := by
    intro n n0 n9 nb hm hn
    obtain ⟨u, v, rfl, hu⟩ : ∃ u v : List UInt8, b = u ++ v /\ u.length = n := ⟨b.take n, b.drop n, (List.take_append_drop n b).symm, by rw [List.length_take]; omega⟩
    have e1 : (ofL (u ++ v)).extract 0 n = ofL u := by rw [<- hu]; exact ext_take rfl
    have e2 : (ofL (u ++ v)).extract n (ofL (u ++ v)).size = ofL v := by rw [<- hu]; exact ext_drop rfl
    rw [List.length_append] at hm hb hl
    have hdu : ∀ c ∈ u, isD c := fun c hc => hd c (by simp [hc])
    have hda : ∀ c ∈ a, isD c := fun c hc => hd c (by simp [hc])
    have hih := ih (a ++ u) v (by omega) (by rw [List.append_assoc]; exact hd) (by rw [List.append_assoc, List.length_append, List.length_append]; omega) (Or.inr (by
     have e : u.length + v.length - n = v.length := by omega
     rwa [e] at hm))
    have ea : dgv 0 (a ++ u) = dgv 0 a * 1000000000 + dgv 0 u := by
     rw [dgv_append, dgv_shift u (dgv 0 a)]
     by_cases h : a = []
     ·rw [h]
      have : dgv 0 ([] : List UInt8) = 0 := dgv_nil 0
      rw [this, Nat.zero_mul, Nat.zero_mul]
     ·rw [hu, hn h]
    rw [ea, List.append_assoc] at hih
    rw [e1, toBytes_eq, List.length_map]
    have hla := len_dgv a hda
    exact parse_l2 (ofL v) (ofL (u ++ v)) n (by rw [size_toL, toL_ofL, List.length_append]; omega) e2 (dgv 0 a) (by omega) u hdu (by omega) _ hih u [] rfl
   by_cases hm : b.length % 9 = 0
   ·refine Ev.if_pos (by omega) (Ev.if_pos (by omega) (Ev.if_pos ?_ (step 9 (by decide) (by decide) (by omega) (by omega) (fun _ => rfl))))
    rw [size_toL, toL_extract, List.length_take]
    have : lim = 140737488355328 := rfl
    omega
   ·refine Ev.if_neg (by omega) (Ev.if_pos (by omega) (Ev.if_pos (by omega) (Ev.if_pos ?_ (step (b.length % 9) (by omega) (by omega) (by omega) (by omega) (fun h => by
     rcases h9 with e | e
     ·exact absurd e h
     ·exact absurd e hm)))))
    rw [size_toL, toL_extract, List.length_take]
    have : lim = 140737488355328 := rfl
    omega
theorem parse_l0 (s : ByteArray) (w : List UInt8) (hw : toL s = w) (R : List Int × Int)
 (hend : (∀ c ∈ w, isD c) -> Ev (fun k => if (s.size : Int) > 10000 then some (([] : List Int), 5) else nat_Parse.l1 k s []) R) (hbad : (¬ ∀ c ∈ w, isD c) -> R = ([], 4)) : ∀ (b a : List UInt8), w = a ++ b -> (∀ c ∈ a, isD c) ->
 Ev (fun k => nat_Parse.l0 k s s a.length) R := by
 intro b
 induction b with
 | nil =>
  intro a hr ha
  rw [List.append_nil] at hr
  subst hr
  refine Ev.succ ?_
  simp only [nat_Parse.l0]
  exact Ev.if_neg (by rw [size_toL, hw]; omega) (hend ha)
 | cons c b ih =>
  intro a hr ha
  have hp : a.length < s.size := by rw [size_toL, hw, hr, List.length_append, List.length_cons]; omega
  have hat := at_byte (hw.trans hr) hp
  refine Ev.succ ?_
  simp only [nat_Parse.l0]
  refine Ev.if_pos hp ?_
  by_cases hc : isD c
  ·have hde := decode_ascii s a.length hp (by rw [hat]; unfold isD at hc; omega)
   rw [hat] at hde
   rw [hde]
   have hih := ih (a ++ [c]) (by rw [hr]; simp) (fun x hx => by
    rcases List.mem_append.1 hx with h | h
    ·exact ha x h
    ·rw [List.mem_singleton.1 h]; exact hc)
   rw [List.length_append, List.length_singleton] at hih
   unfold isD at hc
   exact Ev.if_neg (by show ¬ ((c.toNat : Int) < 48); omega) (Ev.if_neg (by show ¬ ((c.toNat : Int) > 57); omega) hih)
  ·have hR := hbad fun h => hc (h c (by rw [hr]; simp))
   rw [hR]
   by_cases h128 : c.toNat < 128
   ·have hde := decode_ascii s a.length hp (by rw [hat]; exact h128)
    rw [hat] at hde
    rw [hde]
    unfold isD at hc
    by_cases h48 : c.toNat < 48
    ·exact Ev.if_pos (by show (c.toNat : Int) < 48; omega) (Ev.now _)
    ·exact Ev.if_neg (by show ¬ ((c.toNat : Int) < 48); omega) (Ev.if_pos (by show (c.toNat : Int) > 57; omega) (Ev.now _))
   ·have hde := decode_high s a.length hp (by rw [hat]; omega)
    exact Ev.if_neg (by omega) (Ev.if_pos (by omega) (Ev.now _))
theorem nparse_ev (s : ByteArray) : Ev (fun k => nat_Parse.f k s) (pR (toL s)) := by
 unfold nat_Parse.f
 by_cases h0 : s = ByteArray.empty
 ·have e : pR (toL s) = ([], 4) := by rw [h0]; rfl
  rw [e]
  exact Ev.if_pos h0 (Ev.now _)
 ·have hne : toL s ≠ [] := fun e => h0 (toL_inj e)
  refine Ev.if_neg h0 (parse_l0 s (toL s) rfl _ (fun hd => ?_) (fun hb => ?_) (toL s) [] rfl (fun c hc => by cases hc))
  ·by_cases hl : (toL s).length > 10000
   ·have e : pE (toL s) = 5 := by unfold pE; rw [if_neg hne, if_pos hd, if_pos hl]
    have e2 : pR (toL s) = ([], 5) := by unfold pR; rw [e]; rfl
    rw [e2]
    exact Ev.if_pos (by rw [size_toL]; omega) (Ev.now _)
   ·have e : pE (toL s) = 0 := pE_zero.2 ⟨hne, hd, by omega⟩
    have e2 : pR (toL s) = (lm (dgv 0 (toL s)), 0) := by unfold pR; rw [if_pos e]
    rw [e2]
    have h1 := parse_l1 (toL s).length [] (toL s) (Nat.le_refl _) hd (by rw [List.nil_append]; omega) (Or.inl rfl)
    have e3 : lm (dgv 0 []) = [] := by rw [dgv_nil]; exact lm_zero
    rw [e3] at h1
    exact Ev.if_neg (by rw [size_toL]; omega) h1
  ·have e : pE (toL s) = 4 := by unfold pE; rw [if_neg hne, if_neg hb]
   unfold pR
   rw [e]
   rfl
end Go.DI.Th
namespace Go.DI.Th
open Go Go.RowKit Go.DI

def cutL (x : UInt8) : List UInt8 -> Option (List UInt8 × List UInt8)
 | [] => none
 | c :: w => if c = x then some ([], w) else (cutL x w).map fun p => (c :: p.1, p.2)
theorem cutL_some {x : UInt8} : ∀ {w a b : List UInt8}, cutL x w = some (a, b) -> w = a ++ x :: b /\ x ∉ a
 | [], a, b, h => by cases h
 | c :: w, a, b, h => by
  rw [cutL] at h
  by_cases hc : c = x
  ·rw [if_pos hc] at h
   cases h
   rw [hc]
   exact ⟨rfl, List.not_mem_nil⟩
  ·rw [if_neg hc] at h
   cases hw : cutL x w with
   | none => rw [hw] at h; cases h
   | some p =>
    rw [hw] at h
    cases h
    obtain ⟨h1, h2⟩ := cutL_some (a := p.1) (b := p.2) hw
    refine ⟨by rw [List.cons_append, <- h1], fun hm => ?_⟩
    rcases List.mem_cons.1 hm with e | hm
    ·exact hc e.symm
    ·exact h2 hm
theorem cutL_none {x : UInt8} : ∀ {w : List UInt8}, cutL x w = none -> x ∉ w
 | [], _ => List.not_mem_nil
 | c :: w, h => by
  rw [cutL] at h
  by_cases hc : c = x
  ·rw [if_pos hc] at h; cases h
  ·rw [if_neg hc] at h
   cases hw : cutL x w with
   | some p => rw [hw] at h; cases h
   | none =>
    intro hm
    rcases List.mem_cons.1 hm with e | hm
    ·exact hc e.symm
    ·exact cutL_none hw hm
theorem cutL_of {x : UInt8} : ∀ {a b : List UInt8}, x ∉ a -> cutL x (a ++ x :: b) = some (a, b)
 | [], b, _ => by rw [List.nil_append, cutL, if_pos rfl]
 | c :: a, b, h => by
  rw [List.cons_append, cutL, if_neg (fun e => h (by rw [e]; exact List.mem_cons_self)), cutL_of (fun hm => h (List.mem_cons_of_mem _ hm))]
  rfl
theorem cutL_not {x : UInt8} : ∀ {w : List UInt8}, x ∉ w -> cutL x w = none
 | [], _ => rfl
 | c :: w, h => by
  rw [cutL, if_neg (fun e => h (by rw [e]; exact List.mem_cons_self)), cutL_not (fun hm => h (List.mem_cons_of_mem _ hm))]
  rfl
theorem get_bang {s : ByteArray} {i : Nat} (h : i < s.size) : s[i]! = s[i]'h := getElem!_pos s i h
theorem fIdx_at {s : ByteArray} {a b : List UInt8} {x : UInt8} (h : toL s = a ++ x :: b) (hn : x ∉ a) : fIdx s x = (a.length : Int) := by
 have hsz : s.size = a.length + (b.length + 1) := by rw [size_toL, h, List.length_append, List.length_cons]
 unfold fIdx
 have hf : (List.range s.size).find? (fun i => s[i]! == x) = some a.length := by
  rw [List.find?_range_eq_some]
  refine ⟨?_, by simp; omega, fun j hj => ?_⟩
  ·rw [get_bang (by omega), at_byte h (by omega)]
   simp
  ·have hjs : j < s.size := by omega
   rw [get_bang hjs]
   have e : s[j]'hjs = (toL s)[j]'(by rw [<- size_toL]; exact hjs) := rfl
   have e2 : s[j]'hjs ∈ a := by
    rw [e]
    have : ∀ (l : List UInt8) (hl : j < l.length), l = a ++ x :: b -> l[j]'hl ∈ a := by
     intro l hl e
     subst e
     rw [List.getElem_append_left hj]
     exact List.getElem_mem hj
    exact this _ _ h
   simp only [Bool.not_eq_true', beq_eq_false_iff_ne, ne_eq]
   intro e3
   exact hn (e3 ▸ e2)
 rw [hf]
theorem fIdx_none {s : ByteArray} {x : UInt8} (hn : x ∉ toL s) : fIdx s x = -1 := by
 unfold fIdx
 have hf : (List.range s.size).find? (fun i => s[i]! == x) = none := by
  rw [List.find?_eq_none]
  intro j hj
  have hjs : j < s.size := List.mem_range.1 hj
  rw [get_bang hjs]
  have e : s[j]'hjs = (toL s)[j]'(by rw [<- size_toL]; exact hjs) := rfl
  simp only [beq_iff_eq]
  intro e2
  apply hn
  rw [<- e2, e]
  exact List.getElem_mem _
 rw [hf]
def cutR (s : ByteArray) (x : UInt8) : ByteArray × ByteArray × Bool := match cutL x (toL s) with
 | some (a, b) => (ofL a, ofL b, true)
 | none => (s, ByteArray.empty, false)
theorem cut_ev (s : ByteArray) (hs : s.size <= 1125899906842624) (x : UInt8) (sep : ByteArray) (hsep : sep = ⟨#[x]⟩) : Ev (fun k => strings_Cut.f k s sep) (cutR s x) := by
 subst hsep
 have hsz : (⟨#[x]⟩ : ByteArray).size = 1 := rfl
 have hbt : bt (⟨#[x]⟩ : ByteArray) 0 = (x.toNat : Int) := bt_at (b := ⟨#[x]⟩) (p := []) (c := x) (r := []) rfl
 have hix : Ev (fun k => stringslite_Index.f k s ⟨#[x]⟩) (fIdx s x) := by
  unfold stringslite_Index.f
  rw [hsz, hbt]
  refine Ev.if_neg (by decide) ?_
  by_cases he : (⟨#[x]⟩ : ByteArray) = s
  ·refine Ev.if_pos he ((Ev.now _).of_eq ?_)
   have : toL s = [] ++ x :: [] := by rw [<- he]; rfl
   rw [fIdx_at this List.not_mem_nil]
   rfl
  ·refine Ev.if_neg he (Ev.if_pos (by decide) (Ev.if_pos (by decide) ((Ev.now _).of_eq ?_)))
   congr 1
   rw [Int.toNat_natCast]
   exact UInt8.ofNat_toNat
 have hc : Ev (fun k => stringslite_Cut.f k s ⟨#[x]⟩) (cutR s x) := by
  unfold stringslite_Cut.f
  rw [hsz]
  refine Ev.bind hix ?_
  unfold cutR
  cases hx : cutL x (toL s) with
  | none =>
   rw [fIdx_none (cutL_none hx)]
   exact Ev.if_neg (by decide) (Ev.now _)
  | some p =>
   obtain ⟨a, b⟩ := p
   obtain ⟨h1, h2⟩ := cutL_some hx
   have hsize : s.size = a.length + (b.length + 1) := by rw [size_toL, h1, List.length_append, List.length_cons]
   rw [fIdx_at h1 h2]
   have ew : wrap64 ((a.length : Int) + ((1 : Nat) : Int)) = ((a.length + 1 : Nat) : Int) := by rw [wrap_id (by omega) (by omega)]; omega
   have e2 : s.extract (a.length + 1) s.size = ofL b := by
    have h3 : toL s = (a ++ [x]) ++ b := by rw [h1]; simp
    have := ext_drop h3
    rwa [List.length_append, List.length_singleton] at this
   rw [ew, Int.toNat_natCast, Int.toNat_natCast, ext_take h1, e2]
   exact Ev.if_pos (nn0 _) (Ev.if_pos (by omega) (Ev.if_pos (nn0 _) (Ev.if_pos (by omega) (Ev.now _))))
 unfold strings_Cut.f
 exact Ev.bind hc (Ev.now _)
def isPre (x : UInt8) : List UInt8 -> Bool
 | [] => false
 | c :: _ => c == x
theorem prefix_ev (s : ByteArray) (x : UInt8) : strings_HasPrefix.f s ⟨#[x]⟩ = some (isPre x (toL s)) := by
 unfold strings_HasPrefix.f stringslite_HasPrefix.f
 have hsz : (⟨#[x]⟩ : ByteArray).size = 1 := rfl
 rw [hsz]
 cases hw : toL s with
 | nil =>
  have h0 : s.size = 0 := by rw [size_toL, hw]; rfl
  rw [if_neg (by omega)]
  rfl
 | cons c t =>
  have h1 : s.size = t.length + 1 := by rw [size_toL, hw]; rfl
  rw [if_pos (by omega), if_pos (by decide)]
  have e1 : s.extract 0 1 = ofL [c] := ext_take (a := [c]) (b := t) hw
  simp only [Option.bind_some, Int.toNat_natCast]
  rw [e1, Option.some.injEq]
  show ((ofL [c]).toList == (⟨#[x]⟩ : ByteArray).toList) = (c == x)
  by_cases h : c = x
  ·subst h
   have e : (ofL [c]) = (⟨#[c]⟩ : ByteArray) := rfl
   rw [@str_t ⟨[], 0, 0⟩ _ _ e]
   simp
  ·have e : ¬ (ofL [c]) = (⟨#[x]⟩ : ByteArray) := fun e => h (by
    have := congrArg toL e
    have e2 : ([c] : List UInt8) = [x] := this
    exact (List.cons.inj e2).1)
   rw [@str_f ⟨[], 0, 0⟩ _ _ e]
   symm
   simpa using h
theorem ten_l0 (n : Nat) (hn : n <= 20000) : ∀ d i : Nat, i + d = n -> Ev (fun k => ratio_ten.l0 k (lm (10 ^ i)) (n : Int) (i : Int)) (lm (10 ^ n)) := by
 intro d
 induction d with
 | zero =>
  intro i hi
  obtain rfl : i = n := by omega
  refine Ev.succ ?_
  simp only [ratio_ten.l0]
  exact Ev.if_neg (by omega) (Ev.now _)
 | succ d ih =>
  intro i hi
  have hih := ih (i + 1) (by omega)
  have hl := len_ten i
  have hm := mul_ev (lm (10 ^ i)) (lm 10) (lm_ok _).U (lm_ok _).U (by rw [lm_length, lm_length]; have := len_small (n := 10) (by decide); omega)
  rw [val_lm, val_lm, <- Nat.pow_succ] at hm
  refine Ev.succ ?_
  simp only [ratio_ten.l0, wr_succ i (show i <= 1125899906842624 by omega)]
  exact Ev.if_pos (by omega) (Ev.bind (ofN_ev 10 (by decide)) (Ev.bind hm hih))
theorem ten_ev (n : Nat) (hn : n <= 20000) : Ev (fun k => ratio_ten.f k (n : Int)) (lm (10 ^ n)) := by
 unfold ratio_ten.f
 exact Ev.bind (ofN_ev 1 (by decide)) (ten_l0 n hn n 0 (by omega))
def plE (w : List UInt8) : Int := match cutL 47 w with
 | some (a, b) => if pE a ≠ 0 then pE a else if pE b ≠ 0 then pE b else if dgv 0 b = 0 then 2 else 0
 | none => match cutL 46 w with
  | some (a, b) => if pE a ≠ 0 then pE a else pE b
  | none => pE w
def plV (w : List UInt8) : Rat := match cutL 47 w with
 | some (a, b) => mkRat (dgv 0 a : Int) (dgv 0 b)
 | none => match cutL 46 w with
  | some (a, b) => mkRat ((dgv 0 a * 10 ^ b.length + dgv 0 b : Nat) : Int) (10 ^ b.length)
  | none => ((dgv 0 w : Int) : Rat)
def rR (e : Int) (x : Rat) : Bool × List Int × List Int × Int := if e = 0 then ((cn x).1, (cn x).2.1, (cn x).2.2, 0) else (false, [], [], e)
theorem form_nat (n q : Nat) (hq : q ≠ 0) (h1 : len n <= 549755813888) (h2 : len q <= 549755813888) : Ev (fun k => ratio_form.f k false (lm n) (lm q)) (cn (mkRat (n : Int) q)) := by
 have := form_cn (n : Int) q hq (by rw [Int.natAbs_natCast]; exact h1) h2
 rwa [Int.natAbs_natCast, decide_eq_false (show ¬ ((n : Int) < 0) by omega)] at this
theorem pE_len {w : List UInt8} (h : pE w = 0) : len (dgv 0 w) <= 10001 := by
 obtain ⟨_, h2, h3⟩ := pE_zero.1 h
 have := len_dgv w h2
 omega
theorem plain_ev (s : ByteArray) (hs : s.size <= 1125899906842624) : Ev (fun k => ratio_plain.f k s) (rR (plE (toL s)) (plV (toL s))) := by
 unfold ratio_plain.f
 refine Ev.bind (cut_ev s hs 47 _ rfl) ?_
 unfold cutR plE plV
 cases h1 : cutL 47 (toL s) with
 | some p =>
  obtain ⟨a, b⟩ := p
  dsimp only
  refine Ev.if_pos rfl ?_
  have pa := nparse_ev (ofL a)
  have pb := nparse_ev (ofL b)
  rw [toL_ofL] at pa pb
  unfold pR at pa pb
  by_cases ha : pE a = 0
  ·rw [if_pos ha] at pa
   rw [if_neg (fun h => h ha)]
   refine Ev.bind pa (Ev.if_neg (fun h => h rfl) ?_)
   by_cases hb : pE b = 0
   ·rw [if_pos hb] at pb
    rw [if_neg (fun h => h hb)]
    refine Ev.bind pb (Ev.if_neg (fun h => h rfl) ?_)
    by_cases h0 : dgv 0 b = 0
    ·rw [if_pos h0]
     exact Ev.if_pos (by show ((lm (dgv 0 b)).length : Int) = 0; rw [h0, lm_zero]; rfl) (Ev.now _)
    ·rw [if_neg h0]
     have hp := len_eq_zero (n := dgv 0 b)
     have la := pE_len ha
     have lb := pE_len hb
     refine Ev.if_neg (by show ¬ ((lm (dgv 0 b)).length : Int) = 0; rw [lm_length]; omega) ?_
     exact Ev.bind (form_nat (dgv 0 a) (dgv 0 b) h0 (by omega) (by omega)) (Ev.now _)
   ·rw [if_neg hb] at pb
    rw [if_pos hb]
    unfold rR
    rw [if_neg hb]
    exact Ev.bind pb (Ev.if_pos hb (Ev.now _))
  ·rw [if_neg ha] at pa
   rw [if_pos ha]
   unfold rR
   rw [if_neg ha]
   exact Ev.bind pa (Ev.if_pos ha (Ev.now _))
 | none =>
  dsimp only
  refine Ev.if_neg (by decide) (Ev.bind (cut_ev s hs 46 _ rfl) ?_)
  unfold cutR
  cases h2 : cutL 46 (toL s) with
  | some p =>
   obtain ⟨a, b⟩ := p
   dsimp only
   refine Ev.if_pos rfl ?_
   have pa := nparse_ev (ofL a)
   have pb := nparse_ev (ofL b)
   rw [toL_ofL] at pa pb
   unfold pR at pa pb
   by_cases ha : pE a = 0
   ·rw [if_pos ha] at pa
    rw [if_neg (fun h => h ha)]
    refine Ev.bind pa (Ev.if_neg (fun h => h rfl) ?_)
    by_cases hb : pE b = 0
    ·rw [if_pos hb] at pb
     refine Ev.bind pb (Ev.if_neg (fun h => h rfl) ?_)
     have hbl := (pE_zero.1 hb).2.2
     have la := pE_len ha
     have lb := pE_len hb
     have lt := len_ten b.length
     have hsz : (ofL b).size = b.length := by rw [size_toL]; rfl
     rw [hsz]
     have hm := mul_ev (lm (dgv 0 a)) (lm (10 ^ b.length)) (lm_ok _).U (lm_ok _).U (by rw [lm_length, lm_length]; omega)
     rw [val_lm, val_lm] at hm
     have lm1 := len_mul (dgv 0 a) (10 ^ b.length)
     have hadd := nadd_ev (lm (dgv 0 a * 10 ^ b.length)) (lm (dgv 0 b)) (lm_ok _).U (lm_ok _).U (by rw [lm_length]; omega) (by rw [lm_length]; omega)
     rw [val_lm, val_lm] at hadd
     have la2 := len_add (dgv 0 a * 10 ^ b.length) (dgv 0 b)
     rw [hb]
     have hf := form_nat (dgv 0 a * 10 ^ b.length + dgv 0 b) (10 ^ b.length) (Nat.pos_iff_ne_zero.1 (Nat.pow_pos (by decide))) (by omega) (by omega)
     exact Ev.bind (ten_ev b.length (by omega)) (Ev.bind hm (Ev.bind hadd (Ev.bind hf (Ev.now _))))
    ·rw [if_neg hb] at pb
     unfold rR
     rw [if_neg hb]
     exact Ev.bind pb (Ev.if_pos hb (Ev.now _))
   ·rw [if_neg ha] at pa
    rw [if_pos ha]
    unfold rR
    rw [if_neg ha]
    exact Ev.bind pa (Ev.if_pos ha (Ev.now _))
  | none =>
   dsimp only
   refine Ev.if_neg (by decide) ?_
   have pa := nparse_ev s
   unfold pR at pa
   unfold rR
   by_cases ha : pE (toL s) = 0
   ·rw [if_pos ha] at pa
    rw [if_pos ha]
    have la := pE_len ha
    have hf := form_nat (dgv 0 (toL s)) 1 (by decide) (by omega) (by rw [len_one]; decide)
    have e : mkRat (dgv 0 (toL s) : Int) 1 = ((dgv 0 (toL s) : Int) : Rat) := Rat.mkRat_self ((dgv 0 (toL s) : Int) : Rat)
    rw [e] at hf
    exact Ev.bind pa (Ev.if_neg (fun h => h rfl) (Ev.bind (ofN_ev 1 (by decide)) (Ev.bind hf (Ev.now _))))
   ·rw [if_neg ha] at pa
    rw [if_neg ha]
    exact Ev.bind pa (Ev.if_pos ha (Ev.now _))
end Go.DI.Th
namespace Go.DI.Th
open Go Go.RowKit Go.DI

def sgQ (neg : Bool) (x : Rat) : Rat := if neg = true then -x else x
theorem Sz_sgQ (neg : Bool) (x : Rat) : Sz (sgQ neg x) = Sz x := by
 unfold sgQ
 split
 ·exact Sz_neg x
 ·rfl
def unm (w : List UInt8) : Bool × List UInt8 := if isPre 45 w = true then (true, w.drop 1) else (false, w)
def prE (w : List UInt8) : Int := plE (unm w).2
def prV (w : List UInt8) : Rat := sgQ (unm w).1 (plV (unm w).2)
theorem plV_sz {w : List UInt8} (h : plE w = 0) : Sz (plV w) <= 20100 := by
 unfold plE at h
 unfold plV
 cases h1 : cutL 47 w with
 | some p =>
  obtain ⟨a, b⟩ := p
  rw [h1] at h
  dsimp only at h ⊢
  by_cases ha : pE a = 0
  ·rw [if_neg (fun e => e ha)] at h
   by_cases hb : pE b = 0
   ·rw [if_neg (fun e => e hb)] at h
    by_cases h0 : dgv 0 b = 0
    ·rw [if_pos h0] at h; cases h
    ·have := Sz_mk (dgv 0 a : Int) (dgv 0 b) h0
     rw [Int.natAbs_natCast] at this
     have la := pE_len ha
     have lb := pE_len hb
     omega
   ·rw [if_pos hb] at h; exact absurd h hb
  ·rw [if_pos ha] at h; exact absurd h ha
 | none =>
  rw [h1] at h
  dsimp only at h ⊢
  cases h2 : cutL 46 w with
  | some p =>
   obtain ⟨a, b⟩ := p
   rw [h2] at h
   dsimp only at h ⊢
   by_cases ha : pE a = 0
   ·rw [if_neg (fun e => e ha)] at h
    have := Sz_mk ((dgv 0 a * 10 ^ b.length + dgv 0 b : Nat) : Int) (10 ^ b.length) (Nat.pos_iff_ne_zero.1 (Nat.pow_pos (by decide)))
    rw [Int.natAbs_natCast] at this
    have la := pE_len ha
    have lb := pE_len h
    have hbl := (pE_zero.1 h).2.2
    have lt := len_ten b.length
    have lm1 := len_mul (dgv 0 a) (10 ^ b.length)
    have la2 := len_add (dgv 0 a * 10 ^ b.length) (dgv 0 b)
    omega
   ·rw [if_pos ha] at h; exact absurd h ha
  | none =>
   rw [h2] at h
   dsimp only at h ⊢
   rw [Sz_int, Int.natAbs_natCast]
   have la := pE_len h
   omega
theorem prV_sz {w : List UInt8} (h : prE w = 0) : Sz (prV w) <= 20100 := by
 unfold prV
 rw [Sz_sgQ]
 exact plV_sz h
theorem unm_drop {s : ByteArray} (h : isPre 45 (toL s) = true) : s.extract 1 s.size = ofL ((toL s).drop 1) /\ 1 <= s.size := by
 cases hw : toL s with
 | nil => rw [hw] at h; cases h
 | cons c t =>
  have e : s.extract ([c] : List UInt8).length s.size = ofL t := ext_drop (a := [c]) (b := t) hw
  refine ⟨e, ?_⟩
  have := size_toL s
  rw [hw, List.length_cons] at this
  omega
theorem rparse_ev (s : ByteArray) (hs : s.size <= 1125899906842624) : Ev (fun k => ratio_Parse.f k s) (rR (prE (toL s)) (prV (toL s))) := by
 unfold ratio_Parse.f
 rw [prefix_ev]
 unfold prE prV unm
 by_cases hp : isPre 45 (toL s) = true
 ·rw [if_pos hp, hp]
  obtain ⟨e1, e2⟩ := unm_drop hp
  rw [e1]
  have hsz : (ofL ((toL s).drop 1)).size <= 1125899906842624 := by
   rw [size_toL, toL_ofL, List.length_drop, <- size_toL]
   omega
  have h1 := plain_ev (ofL ((toL s).drop 1)) hsz
  rw [toL_ofL] at h1
  refine Ev.bind (Ev.now true) (Ev.if_pos rfl (Ev.if_pos (by omega) (Ev.bind h1 ?_)))
  dsimp only
  have hsz := plV_sz (w := (toL s).drop 1)
  generalize plE ((toL s).drop 1) = e at hsz ⊢
  generalize plV ((toL s).drop 1) = x at hsz ⊢
  unfold rR
  by_cases h0 : e = 0
  ·rw [if_pos h0, if_pos h0]
   have hn := neg_cn (cn x) (cnB x (hsz h0)) (by decide)
   rw [rv_cn] at hn
   exact Ev.if_neg (fun h => h rfl) (Ev.bind hn (Ev.now _))
  ·rw [if_neg h0, if_neg h0]
   exact Ev.if_pos h0 (Ev.now _)
 ·rw [if_neg hp]
  have hp' : isPre 45 (toL s) = false := by simpa using hp
  rw [hp']
  refine Ev.bind (Ev.now false) (Ev.if_neg (by decide) (Ev.bind (plain_ev s hs) ?_))
  dsimp only
  generalize plE (toL s) = e
  generalize plV (toL s) = x
  unfold rR
  by_cases h0 : e = 0
  ·rw [if_pos h0, if_pos h0]
   exact Ev.if_neg (fun h => h rfl) (Ev.now _)
  ·rw [if_neg h0, if_neg h0]
   exact Ev.if_pos h0 (Ev.now _)
end Go.DI.Th
namespace Go.DI.Th
open Go Go.RowKit Go.DI

def pickL (s : St) (place : Int) (w : ByteArray) : List ByteArray -> Nat -> Int × St
 | [], _ => (0, failS s 7 place)
 | x :: l, i => if w = x then ((i : Int), s) else pickL s place w l (i + 1)
def pickS (s : St) (l : List ByteArray) : Int × St := if (wordS s).2.err ≠ 0 then (0, (wordS s).2) else pickL (wordS s).2 (placeS s) (wordS s).1 l 0
theorem pick_l0 (s : St) (place : Int) (w : ByteArray) (ws : List ByteArray) (hw : ws.length <= 1000) : ∀ (b a : List ByteArray), ws = a ++ b -> Ev (fun k => lex_Reader_Pick.l0 k place w ws (ws.length : Int) (a.length : Int) s.ls s.i s.j s.sz s.err s.at_) ((pickL s place w b a.length).1, (pickL s place w b a.length).2.t) := by
 intro b
 induction b with
 | nil =>
  intro a hr
  rw [List.append_nil] at hr
  refine Ev.succ ?_
  simp only [lex_Reader_Pick.l0, fail_eq]
  exact Ev.if_neg (by rw [hr]; omega) (Ev.now _)
 | cons x b ih =>
  intro a hr
  have e1 := gt_at ByteArray.empty a x b
  have l1 := lt_at a x b
  rw [<- hr] at e1 l1
  have hl : ws.length = a.length + (b.length + 1) := by rw [hr, List.length_append, List.length_cons]
  have hih := ih (a ++ [x]) (by rw [hr]; simp)
  refine Ev.succ ?_
  simp only [lex_Reader_Pick.l0, e1, wr_at a x (show a.length <= 1125899906842624 by omega)]
  refine Ev.if_pos l1 (Ev.if_pos (nn0 _) (Ev.if_pos l1 ?_))
  rw [pickL]
  by_cases h : w = x
  ·rw [if_pos h]
   exact Ev.if_pos h (Ev.now _)
  ·rw [if_neg h]
   rw [List.length_append, List.length_singleton] at hih ⊢
   exact Ev.if_neg h hih
theorem pick_ev (s : St) (h : s.Good) (ws : List ByteArray) (hw : ws.length <= 1000) : Ev (fun k => lex_Reader_Pick.f k s.ls s.i s.j s.sz s.err s.at_ ws) ((pickS s ws).1, (pickS s ws).2.t) := by
 unfold lex_Reader_Pick.f pickS
 rw [place_eq s h.ok h.l1]
 show Ev (fun k => (lex_Reader_Word.f s.ls s.i s.j s.sz s.err s.at_).bind _) _
 rw [word_eq s h.ok h.l1]
 generalize wordS s = p
 obtain ⟨v, s2⟩ := p
 show Ev (fun k => if (s2.err != 0) = true then some (0, s2.t) else lex_Reader_Pick.l0 k (placeS s) v ws (ws.length : Int) 0 s2.ls s2.i s2.j s2.sz s2.err s2.at_) _
 by_cases he : s2.err ≠ 0
 ·rw [if_pos he]
  exact Ev.if_pos (by simpa using he) (Ev.now _)
 ·rw [if_neg he]
  exact Ev.if_neg (by simpa using he) (pick_l0 s2 (placeS s) v ws hw ws [] rfl)
theorem pickL_good {s : St} (h : s.Good) (place : Int) (w : ByteArray) : ∀ (l : List ByteArray) (i : Nat), (pickL s place w l i).2.Good
 | [], _ => failS_good h _ _
 | x :: l, i => by
  rw [pickL]
  split
  ·exact h
  ·exact pickL_good h place w l (i + 1)
theorem pickS_good {s : St} (h : s.Good) (l : List ByteArray) : (pickS s l).2.Good := by
 unfold pickS
 split
 ·exact wordS_good h
 ·exact pickL_good (wordS_good h) _ _ _ _
def FailS (s : St) (e : Int) : St := if s.err ≠ 0 then s else if e = 0 then s else if s.ls.length <= s.i then s else if s.j = 0 then s else failS s e (s.line.getD (s.j - 1) w0).1
theorem Fail_eq (s : St) (h : s.Good) (e : Int) : lex_Reader_Fail.f s.ls s.i s.j s.sz s.err s.at_ e = some (FailS s e).t := by
 unfold lex_Reader_Fail.f FailS
 rw [off_eq]
 show (if (s.err != 0) = true then some s.t else if e = 0 then some s.t else if (s.i : Int) >= (s.ls.length : Int) then some s.t else if (s.j : Int) = 0 then some s.t else (if 0 <= (s.i : Int) then (if (s.i : Int) < (s.ls.length : Int) then (if 0 <= (wrap64 ((s.j : Int) - 1)) then (if (wrap64 ((s.j : Int) - 1)) < (s.line.length : Int) then ((lex_Reader_fail.f s.ls s.i s.j s.sz s.err s.at_ e ((gt (0, 0, ByteArray.empty) s.line (wrap64 ((s.j : Int) - 1))).1)).bind fun v45 => some v45) else none) else none) else none) else none)) = _
 by_cases he : s.err ≠ 0
 ·rw [if_pos (by simpa using he), if_pos he]
 ·rw [if_neg (by simpa using he), if_neg he]
  by_cases h0 : e = 0
  ·rw [if_pos h0, if_pos h0]
  ·rw [if_neg h0, if_neg h0]
   by_cases hi : s.ls.length <= s.i
   ·rw [if_pos (by omega), if_pos hi]
   ·rw [if_neg (by omega), if_neg hi]
    by_cases hj : s.j = 0
    ·rw [if_pos (by omega), if_pos hj]
    ·have hjl := h.ok.jl
     have hjb := h.ok.jb
     have q1 : (s.i : Int) < (s.ls.length : Int) := by omega
     have q2 : ((s.j - 1 : Nat) : Int) < (s.line.length : Int) := by omega
     have ew : wrap64 ((s.j : Int) - 1) = ((s.j - 1 : Nat) : Int) := by rw [wrap_id (by omega) (by omega)]; omega
     have q3 : ¬ (s.j : Int) = 0 := by clear ew; omega
     rw [if_neg q3, if_neg hj, ew, if_pos (nn0 _), if_pos q1, if_pos (nn0 _), if_pos q2, gt_nat, fail_eq]
     rfl
theorem FailS_good {s : St} (h : s.Good) (e : Int) : (FailS s e).Good := by
 unfold FailS
 split
 ·exact h
 ·split
  ·exact h
  ·split
   ·exact h
   ·split
    ·exact h
    ·exact failS_good h _ _
theorem word_err {s : St} (h : s.err ≠ 0) : wordS s = (ByteArray.empty, s) := by unfold wordS; rw [if_pos h]
theorem take_err {s : St} (h : s.err ≠ 0) (w : ByteArray) : takeS s w = s := by unfold takeS; rw [word_err h]; exact if_pos h
theorem next_err {s : St} (h : s.err ≠ 0) : nextS s = s := by unfold nextS; rw [if_pos h]
theorem count_err {s : St} (h : s.err ≠ 0) (lo hi : Int) : countS s lo hi = (0, s) := by unfold countS; rw [word_err h]; exact if_pos h
theorem pick_err {s : St} (h : s.err ≠ 0) (l : List ByteArray) : pickS s l = (0, s) := by unfold pickS; rw [word_err h]; exact if_pos h
theorem Fail_err {s : St} (h : s.err ≠ 0) (e : Int) : FailS s e = s := by unfold FailS; rw [if_pos h]
def numS (s : St) : Rt × St := (if prE (toL (wordS s).1) = 0 then cn (prV (toL (wordS s).1)) else (false, [], []), FailS (wordS s).2 (prE (toL (wordS s).1)))
theorem num_err {s : St} (h : s.err ≠ 0) : (numS s).2 = s := by unfold numS; rw [word_err h]; exact Fail_err h _
theorem numS_good {s : St} (h : s.Good) : (numS s).2.Good := FailS_good (wordS_good h) _
theorem numS_ok (s : St) : RtOk (numS s).1 := by
 unfold numS
 dsimp only
 by_cases h : prE (toL (wordS s).1) = 0
 ·rw [if_pos h]
  exact cnB (b := 1048576) _ (Nat.le_trans (prV_sz h) (by decide))
 ·rw [if_neg h]
  exact ⟨fun x hx => (by cases hx), fun x hx => (by cases hx), by decide, by decide⟩
theorem mnum_ev (s : St) (h : s.Good) : Ev (fun k => model_number.f k s.ls s.i s.j s.sz s.err s.at_) ((numS s).1.1, (numS s).1.2.1, (numS s).1.2.2, (numS s).2.t) := by
 unfold model_number.f numS
 rw [word_eq s h.ok h.l1]
 have h2 := wordS_good h
 have h3 := wordS_size h
 generalize wordS s = p at h2 h3 ⊢
 obtain ⟨v, s2⟩ := p
 have h2 : s2.Good := h2
 have h3 : v.size <= 1048576 := h3
 have hp := rparse_ev v (by omega)
 refine Ev.bind (Ev.now (v, s2.t)) (Ev.bind hp ?_)
 show Ev (fun k => (lex_Reader_Fail.f s2.ls s2.i s2.j s2.sz s2.err s2.at_ (rR (prE (toL v)) (prV (toL v))).2.2.2).bind _) _
 rw [Fail_eq s2 h2]
 dsimp only
 unfold rR
 by_cases he : prE (toL v) = 0
 ·rw [if_pos he, if_pos he]
  rw [he]
  exact Ev.bind (Ev.now _) (Ev.if_neg (fun h => h rfl) (Ev.now _))
 ·rw [if_neg he, if_neg he]
  exact Ev.bind (Ev.now _) (Ev.if_pos he (Ev.now _))
def leafL : List ByteArray := [⟨#[108, 101, 97, 102]⟩, ⟨#[115, 112, 108, 105, 116]⟩]
def missL : List ByteArray := [⟨#[109, 105, 115, 115, 45, 108, 101, 102, 116]⟩, ⟨#[109, 105, 115, 115, 45, 114, 105, 103, 104, 116]⟩]
def leafS (s : St) : Nd × St := ((true, 0, false, [], [], 0, 0, false, (numS s).1.1, (numS s).1.2.1, (numS s).1.2.2, (numS (numS s).2).1.1, (numS (numS s).2).1.2.1, (numS (numS s).2).1.2.2), nextS (numS (numS s).2).2)
def sp1 (s : St) := countS s 0 64
def sp2 (s : St) := numS (sp1 s).2
def sp3 (s : St) := countS (sp2 s).2 0 255
def sp4 (s : St) := countS (sp3 s).2 0 255
def sp5 (s : St) := pickS (sp4 s).2 missL
def sp6 (s : St) := numS (sp5 s).2
def splitS (s : St) : Nd × St := ((false, (sp1 s).1, (sp2 s).1.1, (sp2 s).1.2.1, (sp2 s).1.2.2, (sp3 s).1, (sp4 s).1, ((sp5 s).1 == 0), false, [], [], (sp6 s).1.1, (sp6 s).1.2.1, (sp6 s).1.2.2), nextS (sp6 s).2)
def nodeS (s : St) : Nd × St := if (pickS s leafL).1 = 0 then leafS (pickS s leafL).2 else splitS (pickS s leafL).2
theorem split_good {s : St} (h : s.Good) : (sp1 s).2.Good /\ (sp2 s).2.Good /\ (sp3 s).2.Good /\ (sp4 s).2.Good /\ (sp5 s).2.Good /\ (sp6 s).2.Good := by
 have h1 : (sp1 s).2.Good := countS_good h _ _
 have h2 : (sp2 s).2.Good := numS_good h1
 have h3 : (sp3 s).2.Good := countS_good h2 _ _
 have h4 : (sp4 s).2.Good := countS_good h3 _ _
 have h5 : (sp5 s).2.Good := pickS_good h4 _
 exact ⟨h1, h2, h3, h4, h5, numS_good h5⟩
theorem nodeS_good {s : St} (h : s.Good) : (nodeS s).2.Good := by
 have h1 := pickS_good h leafL
 unfold nodeS
 split
 ·exact nextS_good (numS_good (numS_good h1))
 ·exact nextS_good (split_good h1).2.2.2.2.2
theorem node_err {s : St} (h : s.err ≠ 0) : (nodeS s).2 = s := by
 unfold nodeS
 rw [pick_err h, if_pos rfl]
 show nextS (numS (numS s).2).2 = s
 rw [num_err h, num_err h, next_err h]
theorem nodeS_ok (s : St) : NdOk (nodeS s).1 := by
 have z : RtOk (false, [], []) := ⟨fun x hx => (by cases hx), fun x hx => (by cases hx), by decide, by decide⟩
 unfold nodeS
 split
 ·exact ⟨z, numS_ok _, numS_ok _⟩
 ·exact ⟨numS_ok _, z, numS_ok _⟩
theorem mnode_ev (s : St) (h : s.Good) : Ev (fun k => model_node.f k s.ls s.i s.j s.sz s.err s.at_) ((nodeS s).1.1, (nodeS s).1.2.1, (nodeS s).1.2.2.1, (nodeS s).1.2.2.2.1, (nodeS s).1.2.2.2.2.1, (nodeS s).1.2.2.2.2.2.1, (nodeS s).1.2.2.2.2.2.2.1, (nodeS s).1.2.2.2.2.2.2.2.1, (nodeS s).1.2.2.2.2.2.2.2.2.1, (nodeS s).1.2.2.2.2.2.2.2.2.2.1, (nodeS s).1.2.2.2.2.2.2.2.2.2.2.1, (nodeS s).1.2.2.2.2.2.2.2.2.2.2.2.1, (nodeS s).1.2.2.2.2.2.2.2.2.2.2.2.2.1, (nodeS s).1.2.2.2.2.2.2.2.2.2.2.2.2.2, (nodeS s).2.t) := by
 unfold model_node.f nodeS
 have hp := pick_ev s h leafL (by decide)
 have h1 := pickS_good h leafL
 refine Ev.bind hp ?_
 generalize pickS s leafL = p at h1 ⊢
 obtain ⟨i, t⟩ := p
 have h1 : t.Good := h1
 by_cases hi : i = 0
 ·rw [if_pos hi]
  have n1 := mnum_ev t h1
  have g1 := numS_good h1
  have n2 := mnum_ev _ g1
  have g2 := numS_good g1
  refine Ev.if_pos hi (Ev.bind n1 (Ev.bind n2 ?_))
  show Ev (fun k => (lex_Reader_Next.f (numS (numS t).2).2.ls (numS (numS t).2).2.i (numS (numS t).2).2.j (numS (numS t).2).2.sz (numS (numS t).2).2.err (numS (numS t).2).2.at_).bind _) _
  rw [next_eq _ g2.ok g2.l1]
  exact Ev.bind (Ev.now _) (Ev.now _)
 ·rw [if_neg hi]
  obtain ⟨g1, g2, g3, g4, g5, g6⟩ := split_good h1
  have c1 := count_ev t h1 0 64
  have c2 := mnum_ev _ g1
  have c3 := count_ev _ g2 0 255
  have c4 := count_ev _ g3 0 255
  have c5 := pick_ev _ g4 missL (by decide)
  have c6 := mnum_ev _ g5
  refine Ev.if_neg hi (Ev.bind c1 (Ev.bind c2 (Ev.bind c3 (Ev.bind c4 (Ev.bind c5 (Ev.bind c6 ?_))))))
  show Ev (fun k => (lex_Reader_Next.f (sp6 t).2.ls (sp6 t).2.i (sp6 t).2.j (sp6 t).2.sz (sp6 t).2.err (sp6 t).2.at_).bind _) _
  rw [next_eq _ g6.ok g6.l1]
  exact Ev.bind (Ev.now _) (Ev.now _)
def nodesS : Nat -> St -> List Nd -> List Nd × St
 | 0, s, acc => (acc, s)
 | m + 1, s, acc => if (nodeS s).2.err ≠ 0 then ([], (nodeS s).2) else nodesS m (nodeS s).2 (acc ++ [(nodeS s).1])
theorem nodesS_good : ∀ (m : Nat) {s : St} (acc : List Nd), s.Good -> (nodesS m s acc).2.Good
 | 0, _, _, h => h
 | m + 1, s, acc, h => by
  rw [nodesS]
  split
  ·exact nodeS_good h
  ·exact nodesS_good m _ (nodeS_good h)
theorem nodes_l0 (N : Nat) (hN : N <= 255) : ∀ (m i : Nat) (s : St) (acc : List Nd), i + m = N -> acc.length = i -> s.Good -> Ev (fun k => model_tree.l0 k acc (N : Int) (i : Int) s.ls s.i s.j s.sz s.err s.at_) ((nodesS m s acc).1, (nodesS m s acc).2.t) := by
 intro m
 induction m with
 | zero =>
  intro i s acc hi ha h
  refine Ev.succ ?_
  simp only [model_tree.l0]
  exact Ev.if_neg (by omega) (Ev.now _)
 | succ m ih =>
  intro i s acc hi ha h
  have hn := mnode_ev s h
  have hg := nodeS_good h
  refine Ev.succ ?_
  simp only [model_tree.l0, wr_succ i (show i <= 1125899906842624 by omega)]
  refine Ev.if_pos (by omega) (Ev.bind hn ?_)
  rw [nodesS]
  refine Ev.bind (Ev.now _) ?_
  by_cases he : (nodeS s).2.err ≠ 0
  ·rw [if_pos he]
   exact Ev.if_pos he (Ev.now _)
  ·rw [if_neg he]
   exact Ev.if_neg he (Ev.if_pos (by omega) (ih (i + 1) (nodeS s).2 (acc ++ [(nodeS s).1]) (by omega) (by rw [List.length_append, List.length_singleton, ha]) hg))
def tr1 (s : St) := countS (takeS s ⟨#[116, 114, 101, 101]⟩) 1 255
def treeS (s : St) : List Nd × St := nodesS (tr1 s).1.toNat (nextS (tr1 s).2) []
theorem countS_range (s : St) (lo hi : Int) (h0 : 0 <= lo) (h1 : 0 <= hi) : 0 <= (countS s lo hi).1 /\ (countS s lo hi).1 <= hi := by
 unfold countS
 split
 ·exact ⟨Int.le_refl _, h1⟩
 ·split
  ·split
   ·exact ⟨Int.le_refl _, h1⟩
   ·split
    ·exact ⟨Int.le_refl _, h1⟩
    ·constructor <;> (show _ <= _; omega)
  ·exact ⟨Int.le_refl _, h1⟩
theorem treeS_good {s : St} (h : s.Good) : (treeS s).2.Good := nodesS_good _ _ (nextS_good (countS_good (takeS_good h _) _ _))
theorem mtree_ev (s : St) (h : s.Good) : Ev (fun k => model_tree.f k s.ls s.i s.j s.sz s.err s.at_) ((treeS s).1, (treeS s).2.t) := by
 unfold model_tree.f
 have g1 := takeS_good h ⟨#[116, 114, 101, 101]⟩
 have g2 : (tr1 s).2.Good := countS_good g1 _ _
 have c := count_ev _ g1 1 255
 obtain ⟨r1, r2⟩ := countS_range (takeS s ⟨#[116, 114, 101, 101]⟩) 1 255 (by decide) (by decide)
 rw [take_eq s _ h.ok h.l1]
 refine Ev.bind (Ev.now _) (Ev.bind c ?_)
 show Ev (fun k => (lex_Reader_Next.f (tr1 s).2.ls (tr1 s).2.i (tr1 s).2.j (tr1 s).2.sz (tr1 s).2.err (tr1 s).2.at_).bind _) _
 rw [next_eq _ g2.ok g2.l1]
 refine Ev.bind (Ev.now _) ?_
 have := nodes_l0 (tr1 s).1.toNat (by show (countS _ _ _).1.toNat <= 255; omega) (tr1 s).1.toNat 0 (nextS (tr1 s).2) [] (by omega) rfl (nextS_good g2)
 rw [Int.toNat_of_nonneg (show 0 <= (tr1 s).1 from r1)] at this
 exact this
def treesS : Nat -> St -> List (List Nd) -> List (List Nd) × St
 | 0, s, acc => (acc, s)
 | m + 1, s, acc => if (treeS s).2.err ≠ 0 then (acc, (treeS s).2) else treesS m (treeS s).2 (acc ++ [(treeS s).1])
abbrev MR := Int × List (List Nd) × Int × Int × Int × Int
def fin1 (s : St) : St := endS (nextS (takeS s ⟨#[101, 110, 100]⟩))
def finS (f : Int) (ts : List (List Nd)) (s : St) : MR := if (fin1 s).err ≠ 0 then (0, [], (fin1 s).err, (fin1 s).at_, 0, 0) else (f, ts, 0, 0, 0, 0)
def hd1 (x : ByteArray) := takeS (nextS (takeS (takeS (readS x) ⟨#[100, 101, 110, 100, 114, 111, 110]⟩) ⟨#[49]⟩)) ⟨#[102, 101, 97, 116, 117, 114, 101, 115]⟩
def hd2 (x : ByteArray) := countS (hd1 x) 0 64
def hd3 (x : ByteArray) := takeS (nextS (hd2 x).2) ⟨#[116, 114, 101, 101, 115]⟩
def hd4 (x : ByteArray) := countS (hd3 x) 0 64
def readM (x : ByteArray) : MR := finS (hd2 x).1 (treesS (hd4 x).1.toNat (nextS (hd4 x).2) []).1 (treesS (hd4 x).1.toNat (nextS (hd4 x).2) []).2
theorem hd_good (x : ByteArray) : (hd1 x).Good /\ (hd2 x).2.Good /\ (hd3 x).Good /\ (hd4 x).2.Good := by
 have h0 := readS_good x
 have h1 : (hd1 x).Good := takeS_good (nextS_good (takeS_good (takeS_good h0 _) _)) _
 have h2 : (hd2 x).2.Good := countS_good h1 _ _
 have h3 : (hd3 x).Good := takeS_good (nextS_good h2) _
 exact ⟨h1, h2, h3, countS_good h3 _ _⟩
end Go.DI.Th
namespace Go.DI.Th
open Go Go.RowKit Go.DI

theorem fin_ev (f : Int) (ts : List (List Nd)) (s : St) (h : s.Good) : Ev (fun _ => ((lex_Reader_Take.f s.ls s.i s.j s.sz s.err s.at_ (⟨#[101, 110, 100]⟩ : ByteArray)).bind fun v2 => ((lex_Reader_Next.f v2.1 v2.2.1 v2.2.2.1 v2.2.2.2.1 v2.2.2.2.2.1 v2.2.2.2.2.2).bind fun v4 => ((lex_Reader_End.f v4.1 v4.2.1 v4.2.2.1 v4.2.2.2.1 v4.2.2.2.2.1 v4.2.2.2.2.2).bind fun v6 => ((lex_Reader_Err.f v6.1 v6.2.1 v6.2.2.1 v6.2.2.2.1 v6.2.2.2.2.1 v6.2.2.2.2.2).bind fun v8 => (if v8.1 ≠ 0 then (some ((0 : Int), ([] : List (List Nd)), v8.1, v8.2.1, (0 : Int), (0 : Int))) else (some (f, ts, 0, 0, 0, 0)))))))) (finS f ts s) := by
 have g1 := takeS_good h ⟨#[101, 110, 100]⟩
 have g2 := nextS_good g1
 rw [take_eq s _ h.ok h.l1]
 refine Ev.bind (Ev.now _) ?_
 show Ev (fun _ => (lex_Reader_Next.f (takeS s ⟨#[101, 110, 100]⟩).ls (takeS s ⟨#[101, 110, 100]⟩).i (takeS s ⟨#[101, 110, 100]⟩).j (takeS s ⟨#[101, 110, 100]⟩).sz (takeS s ⟨#[101, 110, 100]⟩).err (takeS s ⟨#[101, 110, 100]⟩).at_).bind _) _
 rw [next_eq _ g1.ok g1.l1]
 refine Ev.bind (Ev.now _) ?_
 show Ev (fun _ => (lex_Reader_End.f (nextS (takeS s ⟨#[101, 110, 100]⟩)).ls (nextS (takeS s ⟨#[101, 110, 100]⟩)).i (nextS (takeS s ⟨#[101, 110, 100]⟩)).j (nextS (takeS s ⟨#[101, 110, 100]⟩)).sz (nextS (takeS s ⟨#[101, 110, 100]⟩)).err (nextS (takeS s ⟨#[101, 110, 100]⟩)).at_).bind _) _
 rw [end_eq _ g2.ok g2.l1]
 refine Ev.bind (Ev.now _) (Ev.bind (Ev.now _) ?_)
 unfold finS
 by_cases he : (fin1 s).err ≠ 0
 ·rw [if_pos he]
  exact Ev.if_pos he (Ev.now _)
 ·rw [if_neg he]
  exact Ev.if_neg he (Ev.now _)
theorem mread_l0 (f : Int) (N : Nat) (hN : N <= 64) (z1 z2 z3 z4 z5 : Int) : ∀ (m i : Nat) (s : St) (acc : List (List Nd)), i + m = N -> acc.length = i -> s.Good ->
 Ev (fun k => model_Read.l0 k (N : Int) (i : Int) z1 z2 z3 z4 z5 f acc s.ls s.i s.j s.sz s.err s.at_) (finS f (treesS m s acc).1 (treesS m s acc).2) := by
 intro m
 induction m with
 | zero =>
  intro i s acc hi ha h
  refine Ev.succ ?_
  simp only [model_Read.l0]
  exact Ev.if_neg (by omega) (fin_ev f acc s h)
 | succ m ih =>
  intro i s acc hi ha h
  have hg := treeS_good h
  refine Ev.succ ?_
  simp only [model_Read.l0, wr_succ i (show i <= 1125899906842624 by omega)]
  refine Ev.if_pos (by omega) (Ev.bind (mtree_ev s h) (Ev.bind (Ev.now _) ?_))
  rw [treesS]
  by_cases he : (treeS s).2.err ≠ 0
  ·rw [if_pos he]
   exact Ev.if_pos he (fin_ev f acc _ hg)
  ·rw [if_neg he]
   exact Ev.if_neg he (Ev.if_pos (by omega) (ih (i + 1) (treeS s).2 (acc ++ [(treeS s).1]) (by omega) (by rw [List.length_append, List.length_singleton, ha]) hg))
theorem top_ev {R : MR} (x : ByteArray) (L : Nat -> Int -> Int -> RT -> Option MR)
 (hL : Ev (fun k => L k (hd4 x).1 (hd2 x).1 (nextS (hd4 x).2).t) R) :
 Ev (fun k => (lex_Read.f k x).bind fun v3 => ((lex_Reader_Take.f v3.1 v3.2.1 v3.2.2.1 v3.2.2.2.1 v3.2.2.2.2.1 v3.2.2.2.2.2 (⟨#[100, 101, 110, 100, 114, 111, 110]⟩ : ByteArray)).bind fun v9 => ((lex_Reader_Take.f v9.1 v9.2.1 v9.2.2.1 v9.2.2.2.1 v9.2.2.2.2.1 v9.2.2.2.2.2 (⟨#[49]⟩ : ByteArray)).bind fun v11 => ((lex_Reader_Next.f v11.1 v11.2.1 v11.2.2.1 v11.2.2.2.1 v11.2.2.2.2.1 v11.2.2.2.2.2).bind fun v13 => ((lex_Reader_Take.f v13.1 v13.2.1 v13.2.2.1 v13.2.2.2.1 v13.2.2.2.2.1 v13.2.2.2.2.2 (⟨#[102, 101, 97, 116, 117, 114, 101, 115]⟩ : ByteArray)).bind fun v15 => ((lex_Reader_Count.f k v15.1 v15.2.1 v15.2.2.1 v15.2.2.2.1 v15.2.2.2.2.1 v15.2.2.2.2.2 0 64).bind fun v17 => ((lex_Reader_Next.f v17.2.1 v17.2.2.1 v17.2.2.2.1 v17.2.2.2.2.1 v17.2.2.2.2.2.1 v17.2.2.2.2.2.2).bind fun v21 => ((lex_Reader_Take.f v21.1 v21.2.1 v21.2.2.1 v21.2.2.2.1 v21.2.2.2.2.1 v21.2.2.2.2.2 (⟨#[116, 114, 101, 101, 115]⟩ : ByteArray)).bind fun v23 => ((lex_Reader_Count.f k v23.1 v23.2.1 v23.2.2.1 v23.2.2.2.1 v23.2.2.2.2.1 v23.2.2.2.2.2 0 64).bind fun v25 => ((lex_Reader_Next.f v25.2.1 v25.2.2.1 v25.2.2.2.1 v25.2.2.2.2.1 v25.2.2.2.2.2.1 v25.2.2.2.2.2.2).bind fun v28 => L k v25.1 v17.1 (v28.1, v28.2.1, v28.2.2.1, v28.2.2.2.1, v28.2.2.2.2.1, v28.2.2.2.2.2))))))))))) R := by
 have g0 := readS_good x
 have g1 := takeS_good g0 ⟨#[100, 101, 110, 100, 114, 111, 110]⟩
 have g2 := takeS_good g1 ⟨#[49]⟩
 have g3 := nextS_good g2
 obtain ⟨k1, k2, k3, k4⟩ := hd_good x
 have g5 := nextS_good k2
 have c1 := count_ev _ k1 0 64
 have c2 := count_ev _ k3 0 64
 have st : ∀ (s : St) (w : ByteArray), s.Good -> Ev (fun _ => lex_Reader_Take.f s.ls s.i s.j s.sz s.err s.at_ w) (takeS s w).t := fun s w h => Ev.congr (fun _ => take_eq s w h.ok h.l1) (Ev.now _)
 have sn : ∀ (s : St), s.Good -> Ev (fun _ => lex_Reader_Next.f s.ls s.i s.j s.sz s.err s.at_) (nextS s).t := fun s h => Ev.congr (fun _ => next_eq s h.ok h.l1) (Ev.now _)
 exact Ev.bind (read_ev x) (Ev.bind (st _ _ g0) (Ev.bind (st _ _ g1) (Ev.bind (sn _ g2) (Ev.bind (st _ _ g3) (Ev.bind c1 (Ev.bind (sn _ k2) (Ev.bind (st _ _ g5) (Ev.bind c2 (Ev.bind (sn _ k4) hL)))))))))
theorem mread_ev (x : ByteArray) : Ev (fun k => model_Read.f k x) (readM x) := by
 unfold model_Read.f readM
 obtain ⟨k1, k2, k3, k4⟩ := hd_good x
 obtain ⟨r1, r2⟩ := countS_range (hd3 x) 0 64 (by decide) (by decide)
 refine top_ev x (fun k n f t => model_Read.l0 k n 0 0 0 0 0 0 f [] t.1 t.2.1 t.2.2.1 t.2.2.2.1 t.2.2.2.2.1 t.2.2.2.2.2) ?_
 have := mread_l0 (hd2 x).1 (hd4 x).1.toNat (by show (countS _ _ _).1.toNat <= 64; omega) 0 0 0 0 0 (hd4 x).1.toNat 0 (nextS (hd4 x).2) [] (by omega) rfl (nextS_good k4)
 rw [Int.toNat_of_nonneg (show 0 <= (hd4 x).1 from r1)] at this
 exact this
theorem nodesS_err {s : St} (h : s.err ≠ 0) : ∀ (m : Nat) (acc : List Nd), (nodesS m s acc).2 = s
 | 0, _ => rfl
 | m + 1, acc => by rw [nodesS, node_err h, if_pos h]
theorem tree_err {s : St} (h : s.err ≠ 0) : (treeS s).2 = s := by
 unfold treeS tr1
 rw [take_err h, count_err h]
 show (nodesS 0 (nextS s) []).2 = s
 rw [next_err h]
 rfl
theorem treesS_err {s : St} (h : s.err ≠ 0) : ∀ (m : Nat) (acc : List (List Nd)), (treesS m s acc).2 = s
 | 0, _ => rfl
 | m + 1, acc => by rw [treesS, tree_err h, if_pos h]
def TrOk (t : List Nd) : Prop := t.length <= 255 /\ ∀ n ∈ t, NdOk n
theorem nodesS_ok : ∀ (m : Nat) (s : St) (acc : List Nd), acc.length + m <= 255 -> (∀ n ∈ acc, NdOk n) -> TrOk (nodesS m s acc).1
 | 0, _, acc, h, ha => ⟨by rw [nodesS]; exact h, ha⟩
 | m + 1, s, acc, h, ha => by
  rw [nodesS]
  split
  ·exact ⟨Nat.zero_le _, fun n hn => (by cases hn)⟩
  ·refine nodesS_ok m _ _ (by rw [List.length_append, List.length_singleton]; omega) fun n hn => ?_
   rcases List.mem_append.1 hn with h1 | h1
   ·exact ha n h1
   ·rw [List.mem_singleton.1 h1]; exact nodeS_ok s
theorem treeS_ok (s : St) : TrOk (treeS s).1 := by
 obtain ⟨r1, r2⟩ := countS_range (takeS s ⟨#[116, 114, 101, 101]⟩) 1 255 (by decide) (by decide)
 refine nodesS_ok _ _ _ ?_ fun n hn => (by cases hn)
 show 0 + (countS _ _ _).1.toNat <= 255
 omega
theorem treesS_ok : ∀ (m : Nat) (s : St) (acc : List (List Nd)), acc.length + m <= 64 -> (∀ t ∈ acc, TrOk t) -> (treesS m s acc).1.length <= 64 /\ ∀ t ∈ (treesS m s acc).1, TrOk t
 | 0, _, acc, h, ha => ⟨by rw [treesS]; exact h, ha⟩
 | m + 1, s, acc, h, ha => by
  rw [treesS]
  split
  ·exact ⟨by show acc.length <= 64; omega, ha⟩
  ·refine treesS_ok m _ _ (by rw [List.length_append, List.length_singleton]; omega) fun t ht => ?_
   rcases List.mem_append.1 ht with h1 | h1
   ·exact ha t h1
   ·rw [List.mem_singleton.1 h1]; exact treeS_ok s
theorem readM_ok (x : ByteArray) : small7 (readM x).2.1 /\ ∀ t ∈ (readM x).2.1, ∀ n ∈ t, NdOk n := by
 obtain ⟨r1, r2⟩ := countS_range (hd3 x) 0 64 (by decide) (by decide)
 have h := treesS_ok (hd4 x).1.toNat (nextS (hd4 x).2) [] (by show 0 + (countS _ _ _).1.toNat <= 64; omega) fun t ht => (by cases ht)
 unfold readM finS
 split
 ·exact ⟨⟨Nat.zero_le _, fun t ht => (by cases ht)⟩, fun t ht => (by cases ht)⟩
 ·exact ⟨⟨Nat.le_trans h.1 (by decide), fun t ht => Nat.le_trans (h.2 t ht).1 (by decide)⟩, fun t ht => (h.2 t ht).2⟩
end Go.DI.Th
namespace Go.DI.Th
open Go Go.RowKit Go.DI

theorem vb_dgv (l : List UInt8) : vb l = dgv 0 l := rfl
theorem dgv_prN (n : Nat) : dgv 0 (toL (prN n)) = n := by rw [<- vb_dgv, vb_prN]
theorem pE_prN (n : Nat) (h : (prN n).size <= 10000) : pE (toL (prN n)) = 0 := by
 refine pE_zero.2 ⟨prN_ne n, fun c hc => prN_dig n c hc, ?_⟩
 rw [<- size_toL]
 exact h
def qT (q : Nat) : List UInt8 := if q = 1 then [] else 47 :: toL (prN q)
def prX (x : Rat) : ByteArray := prQ x.num x.den
theorem prT_rv (r : Rt) : prT r = prX (rv r) := by
 rw [prT_eq]
 unfold prX rv
 rw [num_mk _ _ (den_pos _), den_mk _ _ (den_pos _)]
theorem prX_toL (x : Rat) : toL (prX x) = (if x.num < 0 then [45] else []) ++ (toL (prN x.num.natAbs) ++ qT x.den) := by
 unfold prX prQ qT prW
 by_cases h1 : x.den = 1
 ·rw [if_pos h1, if_pos h1, List.append_nil]
  split
  ·rw [toL_append, toL_minus]
  ·rw [List.nil_append]
 ·rw [if_neg h1, if_neg h1, toL_append, toL_append, toL_slash]
  split
  ·rw [toL_append, toL_minus]; simp
  ·rw [List.nil_append]; simp
theorem plE_nat (n q : Nat) (hn : (prN n).size <= 10000) (hq : (prN q).size <= 10000) (h0 : q ≠ 0) : plE (toL (prN n) ++ qT q) = 0 /\ plV (toL (prN n) ++ qT q) = mkRat (n : Int) q := by
 have n47 : (47 : UInt8) ∉ toL (prN n) := fun h => (prN_dig n _ h).n47 rfl
 have n46 : (46 : UInt8) ∉ toL (prN n) := fun h => by
  have := (prN_dig n _ h).1
  exact absurd this (by decide)
 unfold qT
 by_cases h1 : q = 1
 ·subst h1
  rw [if_pos rfl, List.append_nil]
  unfold plE plV
  rw [cutL_not n47, cutL_not n46]
  refine ⟨pE_prN n hn, ?_⟩
  show ((dgv 0 (toL (prN n)) : Int) : Rat) = _
  rw [dgv_prN]
  exact (Rat.mkRat_self ((n : Int) : Rat)).symm
 ·rw [if_neg h1]
  unfold plE plV
  rw [cutL_of n47]
  dsimp only
  rw [pE_prN n hn, pE_prN q hq, dgv_prN, dgv_prN, if_neg (fun h => h rfl), if_neg (fun h => h rfl), if_neg h0]
  exact ⟨rfl, rfl⟩
def Rd (x : Rat) : Prop := prE (toL (prX x)) = 0 /\ prV (toL (prX x)) = x
theorem rd_prX (x : Rat) (h1 : (prN x.num.natAbs).size <= 10000) (h2 : (prN x.den).size <= 10000) : Rd x := by
 obtain ⟨h1, h2⟩ := plE_nat x.num.natAbs x.den h1 h2 x.den_nz
 have e := prX_toL x
 unfold Rd prE prV unm
 rw [e]
 by_cases hz : x.num < 0
 ·rw [if_pos hz]
  have hp : isPre 45 ([45] ++ (toL (prN x.num.natAbs) ++ qT x.den)) = true := rfl
  rw [if_pos hp]
  show plE (toL (prN x.num.natAbs) ++ qT x.den) = 0 /\ sgQ true (plV (toL (prN x.num.natAbs) ++ qT x.den)) = x
  rw [h1, h2]
  refine ⟨rfl, ?_⟩
  show -(mkRat (x.num.natAbs : Int) x.den) = x
  rw [Rat.neg_mkRat, show -((x.num.natAbs : Nat) : Int) = x.num by omega, Rat.mkRat_self]
 ·rw [if_neg hz, List.nil_append]
  have hp : ¬ isPre 45 (toL (prN x.num.natAbs) ++ qT x.den) = true := by
   have hne := prN_ne x.num.natAbs
   have hd := prN_dig x.num.natAbs
   cases hw : toL (prN x.num.natAbs) with
   | nil => exact absurd hw hne
   | cons c t =>
    rw [hw] at hd
    show ¬ (c == 45) = true
    have := (hd c List.mem_cons_self).n45
    simpa using this
  rw [if_neg hp]
  show plE (toL (prN x.num.natAbs) ++ qT x.den) = 0 /\ sgQ false (plV (toL (prN x.num.natAbs) ++ qT x.den)) = x
  rw [h1, h2]
  refine ⟨rfl, ?_⟩
  show mkRat (x.num.natAbs : Int) x.den = x
  rw [show ((x.num.natAbs : Nat) : Int) = x.num by omega, Rat.mkRat_self]
end Go.DI.Th
namespace Go.DI.Th
open Go Go.RowKit Go.DI

def wds (l : List W) : List (List UInt8) := l.map fun w => toL w.2.2
structure Cur (s : St) (ws : List (List UInt8)) (rest : List (List (List UInt8))) : Prop where
 good : s.Good
 err : s.err = 0
 il : s.i < s.ls.length
 cur : wds (s.line.drop s.j) = ws
 nxt : (s.ls.drop (s.i + 1)).map wds = rest
structure CurE (s : St) : Prop where
 good : s.Good
 err : s.err = 0
 il : s.i = s.ls.length
def CurL (s : St) (L : List (List (List UInt8))) : Prop := ∃ l rest, L = l :: rest /\ Cur s l rest
def NdRd (n : Nd) : Prop := Rd (rv n.cut) /\ Rd (rv n.val) /\ Rd (rv n.cov)
theorem clR_cn (r : Rt) : clR r = cn (rv r) := rl_cn _ _ (den_pos _)
def tW : List UInt8 := toL ⟨#[116, 114, 101, 101]⟩
def treeL (t : List Nd) : List (List (List UInt8)) := [tW, toL (prN t.length)] :: t.map lineW
theorem textW_append : ∀ (a b : List (List (List UInt8))), textW (a ++ b) = textW a ++ textW b
 | [], _ => rfl
 | l :: a, b => by rw [List.cons_append, textW, textW, textW_append a b]; simp
theorem lines_text : ∀ (t : List Nd), toL (linesB t) = textW (t.map lineW)
 | [] => rfl
 | n :: t => by
  rw [linesB, toL_append, toL_append, lines_text t, List.map_cons, textW]
  have e1 : toL (lineT n) = joinW (lineW n) := toL_ofL _
  have e2 : toL nl = [10] := rfl
  rw [e1, e2]
  simp
theorem trees_text : ∀ (ts : List (List Nd)), toL (treesB ts) = textW (ts.flatMap treeL)
 | [] => rfl
 | t :: ts => by
  rw [treesB, List.flatMap_cons, textW_append, <- trees_text ts]
  simp only [toL_append]
  rw [lines_text t]
  unfold treeL
  rw [textW, joinW, joinW]
  have e1 : toL treeW = tW ++ [32] := rfl
  have e2 : toL nl = [10] := rfl
  rw [e1, e2]
  simp
end Go.DI.Th
namespace Go.DI.Th
open Go Go.RowKit Go.DI

theorem rd_small (r : Rt) {b : Nat} (h : RtB b r) (hb : b <= 300) : Rd (rv r) := by
 have hz := h.sz
 have n1 : len (rv r).num.natAbs <= b + 1 := by unfold Sz at hz; omega
 have n2 : len (rv r).den <= b + 1 := by unfold Sz at hz; omega
 have p1 := prN_size (rv r).num.natAbs
 have p2 := prN_size (rv r).den
 exact rd_prX _ (by omega) (by omega)
end Go.DI.Th
namespace Go.DI.Th
open Go Go.RowKit Go.DI

theorem dec_len (k : Nat) : ∀ (n : Nat), 1 <= k -> n < 10 ^ k -> (dec n).length <= k := by
 induction k with
 | zero => intro n h; omega
 | succ k ih =>
  intro n _ h
  by_cases h1 : n < 10
  ·rw [dec_small h1, List.length_singleton]; omega
  ·rw [dec_big h1, List.length_append, List.length_singleton]
   have e : 10 ^ (k + 1) = 10 * 10 ^ k := by rw [Nat.pow_succ]; omega
   rw [e] at h
   have hk : 1 <= k := by
    rcases Nat.eq_zero_or_pos k with rfl | t
    ·rw [Nat.pow_zero] at h; omega
    ·exact t
   generalize he : 10 ^ k = p at h
   have := ih (n / 10) hk (by rw [he]; omega)
   omega
theorem prN_dec {n k : Nat} (hk : 1 <= k) (h : n < 10 ^ k) : (prN n).size <= k := by
 unfold prN
 rw [obs_size]
 exact dec_len k n hk h
theorem dgv_lt0 {w : List UInt8} (h : pE w = 0) : dgv 0 w < 10 ^ w.length := by
 have := dgv_lt w 0 (pE_zero.1 h).2.1
 rwa [Nat.zero_add, Nat.one_mul] at this
theorem pw_pos (k : Nat) : 0 < 10 ^ k := Nat.pow_pos (by decide)
theorem mk_bounds (z : Int) (q : Nat) (h : q ≠ 0) : (mkRat z q).num.natAbs <= z.natAbs /\ (mkRat z q).den <= q := by
 rw [num_mk z q h, den_mk z q h, rnum_abs]
 exact ⟨Nat.div_le_self _ _, Nat.div_le_self _ _⟩
theorem plV_dec {w : List UInt8} (h : plE w = 0) : 1 <= w.length /\ (plV w).num.natAbs < 10 ^ w.length /\ (plV w).den < 10 ^ w.length := by
 unfold plE at h
 unfold plV
 cases h1 : cutL 47 w with
 | some p =>
  obtain ⟨a, b⟩ := p
  rw [h1] at h
  dsimp only at h ⊢
  obtain ⟨hw, _⟩ := cutL_some h1
  have hl : w.length = a.length + (b.length + 1) := by rw [hw, List.length_append, List.length_cons]
  by_cases ha : pE a = 0
  ·rw [if_neg (fun e => e ha)] at h
   by_cases hb : pE b = 0
   ·rw [if_neg (fun e => e hb)] at h
    by_cases h0 : dgv 0 b = 0
    ·rw [if_pos h0] at h; cases h
    ·obtain ⟨b1, b2⟩ := mk_bounds (dgv 0 a : Int) (dgv 0 b) h0
     rw [Int.natAbs_natCast] at b1
     have la := dgv_lt0 ha
     have lb := dgv_lt0 hb
     have p1 : 10 ^ a.length <= 10 ^ w.length := Nat.pow_le_pow_right (by decide) (by omega)
     have p2 : 10 ^ b.length <= 10 ^ w.length := Nat.pow_le_pow_right (by decide) (by omega)
     exact ⟨by omega, by omega, by omega⟩
   ·rw [if_pos hb] at h; exact absurd h hb
  ·rw [if_pos ha] at h; exact absurd h ha
 | none =>
  rw [h1] at h
  dsimp only at h ⊢
  cases h2 : cutL 46 w with
  | some p =>
   obtain ⟨a, b⟩ := p
   rw [h2] at h
   dsimp only at h ⊢
   obtain ⟨hw, _⟩ := cutL_some h2
   have hl : w.length = a.length + (b.length + 1) := by rw [hw, List.length_append, List.length_cons]
   by_cases ha : pE a = 0
   ·rw [if_neg (fun e => e ha)] at h
    have q0 := pw_pos b.length
    obtain ⟨b1, b2⟩ := mk_bounds ((dgv 0 a * 10 ^ b.length + dgv 0 b : Nat) : Int) (10 ^ b.length) (by omega)
    rw [Int.natAbs_natCast] at b1
    have la := dgv_lt0 ha
    have lb := dgv_lt0 h
    have p2 : 10 ^ b.length < 10 ^ w.length := Nat.pow_lt_pow_right (by decide) (by omega)
    have p3 : 10 ^ a.length * 10 ^ b.length <= 10 ^ w.length := by
     rw [<- Nat.pow_add]
     exact Nat.pow_le_pow_right (by decide) (by omega)
    have p4 : (dgv 0 a + 1) * 10 ^ b.length <= 10 ^ a.length * 10 ^ b.length := Nat.mul_le_mul_right _ la
    have p5 : (dgv 0 a + 1) * 10 ^ b.length = dgv 0 a * 10 ^ b.length + 10 ^ b.length := by rw [Nat.add_mul, Nat.one_mul]
    generalize (mkRat ((dgv 0 a * 10 ^ b.length + dgv 0 b : Nat) : Int) (10 ^ b.length)) = X at b1 b2 ⊢
    generalize dgv 0 a * 10 ^ b.length = M at b1 p5
    exact ⟨by omega, by omega, by omega⟩
   ·rw [if_pos ha] at h; exact absurd h ha
  | none =>
   rw [h2] at h
   dsimp only at h ⊢
   have hne := (pE_zero.1 h).1
   have hl := List.length_pos_iff.2 hne
   have la := dgv_lt0 h
   rw [Rat.num_intCast, Rat.den_intCast, Int.natAbs_natCast]
   have p : 10 ^ 1 <= 10 ^ w.length := Nat.pow_le_pow_right (by decide) hl
   exact ⟨hl, la, by omega⟩
theorem prV_dec {w : List UInt8} (h : prE w = 0) : 1 <= w.length /\ (prN (prV w).num.natAbs).size <= w.length /\ (prN (prV w).den).size <= w.length := by
 unfold prE at h
 have hu : (unm w).2.length <= w.length := by
  unfold unm
  split
  ·show (w.drop 1).length <= w.length
   rw [List.length_drop]; omega
  ·exact Nat.le_refl _
 obtain ⟨a, b, c⟩ := plV_dec h
 have e : (prV w).num.natAbs = (plV (unm w).2).num.natAbs /\ (prV w).den = (plV (unm w).2).den := by
  unfold prV sgQ
  split
  ·rw [Rat.neg_num, Rat.neg_den, Int.natAbs_neg]; exact ⟨rfl, rfl⟩
  ·exact ⟨rfl, rfl⟩
 rw [e.1, e.2]
 exact ⟨by omega, Nat.le_trans (prN_dec a b) hu, Nat.le_trans (prN_dec a c) hu⟩
theorem prX_size (x : Rat) {k : Nat} (h1 : (prN x.num.natAbs).size <= k) (h2 : (prN x.den).size <= k) : (toL (prX x)).length <= 2 * k + 2 := by
 rw [prX_toL, List.length_append, List.length_append]
 have e1 : (toL (prN x.num.natAbs)).length <= k := by rw [<- size_toL]; exact h1
 have e2 : (qT x.den).length <= k + 1 := by
  unfold qT
  split
  ·exact Nat.zero_le _
  ·rw [List.length_cons, <- size_toL]; omega
 split
 ·rw [List.length_singleton]; omega
 ·rw [List.length_nil]; omega
def wz : List W -> Nat
 | [] => 0
 | w :: l => w.2.2.size + 1 + wz l
theorem wz_append : ∀ a b : List W, wz (a ++ b) = wz a + wz b
 | [], b => by rw [List.nil_append, wz]; omega
 | w :: a, b => by rw [List.cons_append, wz, wz, wz_append a b]; omega
theorem wz_shift (n pos : Nat) : ∀ l : List W, wz (l.map (shiftW n pos)) = wz l
 | [] => rfl
 | w :: l => by rw [List.map_cons, wz, wz, wz_shift n pos l]; rfl
def lz : List (List W) -> Nat
 | [] => 0
 | l :: r => wz l + lz r
theorem lz_append : ∀ a b : List (List W), lz (a ++ b) = lz a + lz b
 | [], b => by rw [List.nil_append, lz]; omega
 | w :: a, b => by rw [List.cons_append, lz, lz, lz_append a b]; omega
def rem (s : St) : Nat := wz (s.line.drop s.j) + lz (s.ls.drop (s.i + 1))
theorem failS_err {s : St} {e a : Int} (he : e ≠ 0) : (failS s e a).err ≠ 0 := by
 unfold failS
 by_cases h : s.err ≠ 0
 ·rw [if_pos h]; exact h
 ·rw [if_neg h]; exact he
theorem word_rem {s : St} (h : (wordS s).2.err = 0) : s.err = 0 /\ moreS s /\ (wordS s).2.i = s.i /\ 1 <= (wordS s).2.j /\ (wordS s).2.ls = s.ls /\ rem (wordS s).2 + (wordS s).1.size + 1 = rem s := by
 unfold wordS at h ⊢
 by_cases he : s.err ≠ 0
 ·rw [if_pos he] at h; exact absurd h he
 ·rw [if_neg he] at h ⊢
  by_cases hm : moreS s
  ·rw [if_pos hm]
   refine ⟨hm.1, hm, rfl, by show 1 <= s.j + 1; omega, rfl, ?_⟩
   have hj := hm.2.2
   have e : s.line.drop s.j = s.line.getD s.j w0 :: s.line.drop (s.j + 1) := by
    rw [List.getD_eq_getElem?_getD, List.getElem?_eq_getElem hj]
    exact List.drop_eq_getElem_cons hj
   show wz (s.line.drop (s.j + 1)) + lz (s.ls.drop (s.i + 1)) + (s.line.getD s.j w0).2.2.size + 1 = wz (s.line.drop s.j) + lz (s.ls.drop (s.i + 1))
   rw [e, wz]
   omega
  ·rw [if_neg hm] at h
   exact absurd h (failS_err (by decide))
theorem take_rem {s : St} {w : ByteArray} (h : (takeS s w).err = 0) : s.err = 0 /\ rem (takeS s w) + 1 <= rem s := by
 unfold takeS at h ⊢
 by_cases he : (wordS s).2.err ≠ 0
 ·rw [if_pos he] at h; exact absurd h he
 ·rw [if_neg he] at h ⊢
  by_cases hw : (wordS s).1 ≠ w
  ·rw [if_pos hw] at h; exact absurd h (failS_err (by decide))
  ·rw [if_neg hw] at h ⊢
   obtain ⟨a, _, _, _, _, b⟩ := word_rem h
   exact ⟨a, by omega⟩
theorem next_rem {s : St} (h : (nextS s).err = 0) : s.err = 0 /\ rem (nextS s) <= rem s := by
 unfold nextS at h ⊢
 by_cases he : s.err ≠ 0
 ·rw [if_pos he] at h; exact absurd h he
 ·rw [if_neg he] at h ⊢
  by_cases hm : moreS s
  ·rw [if_pos hm] at h; exact absurd h (failS_err (by decide))
  ·rw [if_neg hm] at h ⊢
   by_cases hl : s.ls.length <= s.i
   ·rw [if_pos hl] at h; exact absurd h (failS_err (by decide))
   ·rw [if_neg hl]
    refine ⟨by omega, ?_⟩
    show wz ((s.ls.getD (s.i + 1) []).drop 0) + lz (s.ls.drop (s.i + 1 + 1)) <= wz (s.line.drop s.j) + lz (s.ls.drop (s.i + 1))
    by_cases h2 : s.i + 1 < s.ls.length
    ·rw [List.drop_eq_getElem_cons h2, lz, List.getD_eq_getElem?_getD, List.getElem?_eq_getElem h2]
     show wz (s.ls[s.i + 1].drop 0) + _ <= _
     rw [List.drop_zero]
     omega
    ·rw [List.getD_eq_getElem?_getD, List.getElem?_eq_none (by omega), List.drop_of_length_le (show s.ls.length <= s.i + 1 + 1 by omega)]
     exact Nat.zero_le _
theorem end_rem {s : St} (h : (endS s).err = 0) : s.err = 0 := by
 unfold endS at h
 by_cases he : s.err ≠ 0
 ·rw [if_pos he] at h; exact absurd h he
 ·omega
theorem count_rem {s : St} {lo hi : Int} (h : (countS s lo hi).2.err = 0) : s.err = 0 /\ lo <= (countS s lo hi).1 /\ (countS s lo hi).1 <= hi /\ rem (countS s lo hi).2 + 1 <= rem s := by
 unfold countS at h ⊢
 by_cases he : (wordS s).2.err ≠ 0
 ·rw [if_pos he] at h; exact absurd h he
 ·rw [if_neg he] at h ⊢
  cases hs : smallS (toL (wordS s).1) with
  | none =>
   rw [hs] at h
   exact absurd h (failS_err (by decide))
  | some n =>
   rw [hs] at h
   dsimp only at h ⊢
   by_cases c1 : (n : Int) < lo
   ·rw [if_pos c1] at h; exact absurd h (failS_err (by decide))
   ·rw [if_neg c1] at h ⊢
    by_cases c2 : (n : Int) > hi
    ·rw [if_pos c2] at h; exact absurd h (failS_err (by decide))
    ·rw [if_neg c2] at h ⊢
     obtain ⟨a, _, _, _, _, b⟩ := word_rem h
     refine ⟨a, by show lo <= (n : Int); omega, by show (n : Int) <= hi; omega, ?_⟩
     show rem (wordS s).2 + 1 <= rem s
     omega
theorem pickL_rem {s : St} {p : Int} {w : ByteArray} : ∀ {l : List ByteArray} {i : Nat}, (pickL s p w l i).2.err = 0 -> (pickL s p w l i).2 = s
 | [], _, h => absurd h (failS_err (by decide))
 | x :: l, i, h => by
  rw [pickL] at h ⊢
  by_cases e : w = x
  ·rw [if_pos e]
  ·rw [if_neg e] at h ⊢
   exact pickL_rem h
theorem pick_rem {s : St} {l : List ByteArray} (h : (pickS s l).2.err = 0) : s.err = 0 /\ rem (pickS s l).2 + 1 <= rem s := by
 unfold pickS at h ⊢
 by_cases he : (wordS s).2.err ≠ 0
 ·rw [if_pos he] at h; exact absurd h he
 ·rw [if_neg he] at h ⊢
  have e := pickL_rem h
  rw [e] at h ⊢
  obtain ⟨a, _, _, _, _, b⟩ := word_rem h
  exact ⟨a, by omega⟩
theorem Fail_zero {s : St} {e : Int} (hs : s.err = 0) (hi : s.i < s.ls.length) (hj : 1 <= s.j) (h : (FailS s e).err = 0) : e = 0 /\ FailS s e = s := by
 unfold FailS at h ⊢
 rw [if_neg (by omega)] at h ⊢
 by_cases e0 : e = 0
 ·rw [if_pos e0]; exact ⟨e0, rfl⟩
 ·rw [if_neg e0, if_neg (by omega), if_neg (by omega)] at h
  exact absurd h (failS_err e0)
theorem num_rem {s : St} (h : (numS s).2.err = 0) : s.err = 0 /\ ∃ w : List UInt8, prE w = 0 /\ (numS s).1 = cn (prV w) /\ rem (numS s).2 + w.length + 1 = rem s := by
 unfold numS at h ⊢
 dsimp only at h ⊢
 have hw : (wordS s).2.err = 0 := by
  by_cases he : (wordS s).2.err = 0
  ·exact he
  ·rw [Fail_err he] at h; exact absurd h he
 obtain ⟨a, m, i1, j1, l1, b⟩ := word_rem hw
 obtain ⟨e, e2⟩ := Fail_zero hw (by rw [i1, l1]; exact m.2.1) j1 h
 rw [e2, if_pos e]
 exact ⟨a, toL (wordS s).1, e, rfl, by rw [<- size_toL]; omega⟩
end Go.DI.Th
namespace Go.DI.Th
open Go Go.RowKit Go.DI

structure NdG (n : Nd) : Prop where
 ok : okN n
 tidy : tidyN n = n
 rd : NdRd n
theorem rd_word {w : List UInt8} (h : prE w = 0) (hw : w.length <= 10000) : Rd (prV w) := by
 obtain ⟨_, b, c⟩ := prV_dec h
 exact rd_prX _ (by omega) (by omega)
theorem rd_none : Rd (rv ((false, [], []) : Rt)) := rd_small _ (b := 0) ⟨fun x hx => (by cases hx), fun x hx => (by cases hx), Nat.le_refl _, Nat.le_refl _⟩ (by decide)
theorem prT_len {w : List UInt8} (h : prE w = 0) : (toL (prT (cn (prV w)))).length <= 2 * w.length + 2 := by
 obtain ⟨_, b, c⟩ := prV_dec h
 rw [prT_rv, rv_cn]
 exact prX_size _ b c
theorem clR_cn' (x : Rat) : clR (cn x) = cn x := by rw [clR_cn, rv_cn]
theorem prN_l {z : Int} (h : z <= 255) : (toL (prN z.toNat)).length <= 65 := by
 rw [<- size_toL]
 exact prN_small (by omega)
theorem leaf_rem {s : St} (h : (leafS s).2.err = 0) (hr : rem s <= 9000) : s.err = 0 /\ NdG (leafS s).1 /\ (joinW (lineW (leafS s).1)).length + 70 * rem (leafS s).2 <= 70 * rem s + 50 /\ rem (leafS s).2 <= rem s := by
 obtain ⟨a3, b3⟩ := next_rem (s := (numS (numS s).2).2) h
 obtain ⟨a2, w2, p2, v2, b2⟩ := num_rem a3
 obtain ⟨a1, w1, p1, v1, b1⟩ := num_rem a2
 have q1 := prT_len p1
 have q2 := prT_len p2
 have r1 := rd_word p1 (by omega)
 have r2 := rd_word p2 (by omega)
 have b3' : rem (leafS s).2 <= rem (numS (numS s).2).2 := b3
 have hv : (leafS s).1.val = cn (prV w1) := v1
 have hc : (leafS s).1.cov = cn (prV w2) := v2
 have h1 : (leafS s).1.1 = true := rfl
 refine ⟨a1, ⟨⟨Int.le_refl 0, show (0 : Int) <= 64 by decide, Int.le_refl 0, show (0 : Int) <= 255 by decide, Int.le_refl 0, show (0 : Int) <= 255 by decide⟩, ?_, ?_⟩, ?_, by omega⟩
 ·unfold tidyN
  rw [if_pos h1, hv, hc, clR_cn', clR_cn', <- v1, <- v2]
  rfl
 ·refine ⟨rd_none, ?_, ?_⟩
  ·rw [hv, rv_cn]; exact r1
  ·rw [hc, rv_cn]; exact r2
 ·unfold lineW
  rw [if_pos h1, hv, hc]
  simp only [joinW, List.length_append, List.length_cons]
  have e : (toL leafW).length = 4 := rfl
  omega
theorem split_rem {s : St} (h : (splitS s).2.err = 0) (hr : rem s <= 9000) : s.err = 0 /\ NdG (splitS s).1 /\ (joinW (lineW (splitS s).1)).length + 70 * rem (splitS s).2 <= 70 * rem s /\ rem (splitS s).2 <= rem s := by
 obtain ⟨a7, b7⟩ := next_rem (s := (sp6 s).2) h
 obtain ⟨a6, w6, p6, v6, b6⟩ := num_rem (s := (sp5 s).2) a7
 obtain ⟨a5, b5⟩ := pick_rem (s := (sp4 s).2) (l := missL) a6
 obtain ⟨a4, c4, d4, b4⟩ := count_rem (s := (sp3 s).2) (lo := 0) (hi := 255) a5
 obtain ⟨a3, c3, d3, b3⟩ := count_rem (s := (sp2 s).2) (lo := 0) (hi := 255) a4
 obtain ⟨a2, w2, p2, v2, b2⟩ := num_rem (s := (sp1 s).2) a3
 obtain ⟨a1, c1, d1, b1⟩ := count_rem (s := s) (lo := 0) (hi := 64) a2
 have b1' : rem (sp1 s).2 + 1 <= rem s := b1
 have b2' : rem (sp2 s).2 + w2.length + 1 = rem (sp1 s).2 := b2
 have b3' : rem (sp3 s).2 + 1 <= rem (sp2 s).2 := b3
 have b4' : rem (sp4 s).2 + 1 <= rem (sp3 s).2 := b4
 have b5' : rem (sp5 s).2 + 1 <= rem (sp4 s).2 := b5
 have b6' : rem (sp6 s).2 + w6.length + 1 = rem (sp5 s).2 := b6
 have b7' : rem (splitS s).2 <= rem (sp6 s).2 := b7
 have q2 := prT_len p2
 have q6 := prT_len p6
 have r2 := rd_word p2 (by omega)
 have r6 := rd_word p6 (by omega)
 have hcut : (splitS s).1.cut = cn (prV w2) := v2
 have hc : (splitS s).1.cov = cn (prV w6) := v6
 have h1 : ¬ (splitS s).1.1 = true := Bool.false_ne_true
 have d1' : (sp1 s).1 <= 255 := Int.le_trans d1 (by decide)
 refine ⟨a1, ⟨⟨c1, d1, c3, d3, c4, d4⟩, ?_, ?_⟩, ?_, by omega⟩
 ·unfold tidyN
  rw [if_neg h1, hcut, hc, clR_cn', clR_cn', <- v2, <- v6]
  rfl
 ·refine ⟨?_, rd_none, ?_⟩
  ·rw [hcut, rv_cn]; exact r2
  ·rw [hc, rv_cn]; exact r6
 ·unfold lineW
  rw [if_neg h1, hcut, hc]
  have k1 : (toL (prN (splitS s).1.2.1.toNat)).length <= 65 := prN_l (z := (sp1 s).1) d1'
  have k3 : (toL (prN (splitS s).1.2.2.2.2.2.1.toNat)).length <= 65 := prN_l (z := (sp3 s).1) d3
  have k4 : (toL (prN (splitS s).1.2.2.2.2.2.2.1.toNat)).length <= 65 := prN_l (z := (sp4 s).1) d4
  have k5 : (toL (missW (splitS s).1.2.2.2.2.2.2.2.1)).length <= 10 := by
   unfold missW
   split <;> decide
  have e : (toL splitW).length = 5 := rfl
  simp only [joinW, List.length_append, List.length_cons]
  omega
theorem node_rem {s : St} (h : (nodeS s).2.err = 0) (hr : rem s <= 9000) : s.err = 0 /\ NdG (nodeS s).1 /\ (joinW (lineW (nodeS s).1)).length + 1 + 70 * rem (nodeS s).2 <= 70 * rem s /\ rem (nodeS s).2 + 1 <= rem s := by
 unfold nodeS at h ⊢
 by_cases hp : (pickS s leafL).1 = 0
 ·rw [if_pos hp] at h ⊢
  have he : (pickS s leafL).2.err = 0 := by
   by_cases e : (pickS s leafL).2.err = 0
   ·exact e
   ·have := num_err (s := (pickS s leafL).2) e
    have h2 : (leafS (pickS s leafL).2).2 = (pickS s leafL).2 := by
     show nextS (numS (numS (pickS s leafL).2).2).2 = _
     rw [num_err e, num_err e, next_err e]
    rw [h2] at h
    exact absurd h e
  obtain ⟨a, b⟩ := pick_rem he
  obtain ⟨_, g, l, m⟩ := leaf_rem h (by omega)
  exact ⟨a, g, by omega, by omega⟩
 ·rw [if_neg hp] at h ⊢
  have he : (pickS s leafL).2.err = 0 := by
   by_cases e : (pickS s leafL).2.err = 0
   ·exact e
   ·have e1 : (sp1 (pickS s leafL).2).2 = (pickS s leafL).2 := by
     show (countS _ _ _).2 = _
     rw [count_err e]
    have e2 : (sp2 (pickS s leafL).2).2 = (pickS s leafL).2 := by
     show (numS (sp1 (pickS s leafL).2).2).2 = _
     rw [e1, num_err e]
    have e3 : (sp3 (pickS s leafL).2).2 = (pickS s leafL).2 := by
     show (countS (sp2 (pickS s leafL).2).2 _ _).2 = _
     rw [e2, count_err e]
    have e4 : (sp4 (pickS s leafL).2).2 = (pickS s leafL).2 := by
     show (countS (sp3 (pickS s leafL).2).2 _ _).2 = _
     rw [e3, count_err e]
    have e5 : (sp5 (pickS s leafL).2).2 = (pickS s leafL).2 := by
     show (pickS (sp4 (pickS s leafL).2).2 _).2 = _
     rw [e4, pick_err e]
    have e6 : (sp6 (pickS s leafL).2).2 = (pickS s leafL).2 := by
     show (numS (sp5 (pickS s leafL).2).2).2 = _
     rw [e5, num_err e]
    have h2 : (splitS (pickS s leafL).2).2 = (pickS s leafL).2 := by
     show nextS (sp6 (pickS s leafL).2).2 = _
     rw [e6, next_err e]
    rw [h2] at h
    exact absurd h e
  obtain ⟨a, b⟩ := pick_rem he
  obtain ⟨_, g, l, m⟩ := split_rem h (by omega)
  exact ⟨a, g, by omega, by omega⟩
def ll (t : List Nd) : Nat := (textW (t.map lineW)).length
theorem ll_cons (n : Nd) (t : List Nd) : ll (n :: t) = (joinW (lineW n)).length + 1 + ll t := by
 unfold ll
 rw [List.map_cons, textW]
 simp only [List.length_append, List.length_cons, List.length_nil]
 omega
theorem nodes_rem : ∀ (m : Nat) (s : St) (acc : List Nd), (nodesS m s acc).2.err = 0 -> rem s <= 9000 -> ∃ t, (nodesS m s acc).1 = acc ++ t /\ t.length = m /\ (∀ n ∈ t, NdG n) /\ ll t + 70 * rem (nodesS m s acc).2 <= 70 * rem s /\ m + rem (nodesS m s acc).2 <= rem s
 | 0, s, acc, h, hr => ⟨[], by rw [nodesS, List.append_nil], rfl, fun n hn => (by cases hn), by rw [nodesS]; show 0 + 70 * rem s <= 70 * rem s; omega, by rw [nodesS]; show 0 + rem s <= rem s; omega⟩
 | m + 1, s, acc, h, hr => by
  rw [nodesS] at h ⊢
  by_cases he : (nodeS s).2.err ≠ 0
  ·rw [if_pos he] at h; exact absurd h he
  ·rw [if_neg he] at h ⊢
   obtain ⟨_, g, l, k⟩ := node_rem (s := s) (by omega) hr
   obtain ⟨t, e1, e2, e3, e4, e5⟩ := nodes_rem m (nodeS s).2 _ h (by omega)
   refine ⟨(nodeS s).1 :: t, by rw [e1, List.append_assoc]; rfl, by rw [List.length_cons, e2], fun n hn => ?_, by rw [ll_cons]; omega, by omega⟩
   rcases List.mem_cons.1 hn with rfl | hn
   ·exact g
   ·exact e3 n hn
theorem nodes_stay {s : St} (h : s.err ≠ 0) (m : Nat) (acc : List Nd) : (nodesS m s acc).2.err ≠ 0 := by
 rw [nodesS_err h]
 exact h
theorem tree_rem {s : St} (h : (treeS s).2.err = 0) (hr : rem s <= 9000) : 1 <= (treeS s).1.length /\ (treeS s).1.length <= 255 /\ (∀ n ∈ (treeS s).1, NdG n) /\ (textW (treeL (treeS s).1)).length + 70 * rem (treeS s).2 <= 70 * rem s /\ (treeL (treeS s).1).length + rem (treeS s).2 <= rem s := by
 have h3 : (nextS (tr1 s).2).err = 0 := by
  by_cases e : (nextS (tr1 s).2).err = 0
  ·exact e
  ·exact absurd h (nodes_stay e _ _)
 obtain ⟨a2, b2⟩ := next_rem h3
 obtain ⟨a1, c1, d1, b1⟩ := count_rem (s := takeS s ⟨#[116, 114, 101, 101]⟩) (lo := 1) (hi := 255) a2
 obtain ⟨a0, b0⟩ := take_rem a1
 have b1' : rem (tr1 s).2 + 1 <= rem (takeS s ⟨#[116, 114, 101, 101]⟩) := b1
 have c1' : 1 <= (tr1 s).1 := c1
 have d1' : (tr1 s).1 <= 255 := d1
 obtain ⟨t, e1, e2, e3, e4, e5⟩ := nodes_rem _ _ _ h (by omega)
 rw [List.nil_append] at e1
 have et : (treeS s).1 = t := e1
 have es : rem (treeS s).2 = rem (nodesS (tr1 s).1.toNat (nextS (tr1 s).2) []).2 := rfl
 rw [et, es]
 have hp : (toL (prN t.length)).length <= 65 := by
  rw [<- size_toL]
  exact prN_small (by omega)
 refine ⟨by omega, by omega, e3, ?_, ?_⟩
 ·unfold treeL
  have e4' : (textW (t.map lineW)).length + 70 * rem (nodesS (tr1 s).1.toNat (nextS (tr1 s).2) []).2 <= 70 * rem (nextS (tr1 s).2) := e4
  rw [textW]
  simp only [joinW, List.length_append, List.length_cons, List.length_nil]
  have e : tW.length = 4 := rfl
  omega
 ·unfold treeL
  rw [List.length_cons, List.length_map]
  omega
theorem trees_rem : ∀ (m : Nat) (s : St) (acc : List (List Nd)), (treesS m s acc).2.err = 0 -> rem s <= 9000 -> ∃ ts, (treesS m s acc).1 = acc ++ ts /\ ts.length = m /\ (∀ t ∈ ts, 1 <= t.length /\ t.length <= 255 /\ ∀ n ∈ t, NdG n) /\
 (textW (ts.flatMap treeL)).length + 70 * rem (treesS m s acc).2 <= 70 * rem s /\ (ts.flatMap treeL).length + rem (treesS m s acc).2 <= rem s
 | 0, s, acc, h, hr => ⟨[], by rw [treesS, List.append_nil], rfl, fun n hn => (by cases hn), by rw [treesS]; show 0 + 70 * rem s <= 70 * rem s; omega, by rw [treesS]; show 0 + rem s <= rem s; omega⟩
 | m + 1, s, acc, h, hr => by
  rw [treesS] at h ⊢
  by_cases he : (treeS s).2.err ≠ 0
  ·rw [if_pos he] at h; exact absurd h he
  ·rw [if_neg he] at h ⊢
   obtain ⟨g1, g2, g3, g4, g5⟩ := tree_rem (s := s) (by omega) hr
   obtain ⟨ts, e1, e2, e3, e4, e5⟩ := trees_rem m (treeS s).2 _ h (by omega)
   refine ⟨(treeS s).1 :: ts, by rw [e1, List.append_assoc]; rfl, by rw [List.length_cons, e2], fun t ht => ?_, ?_, ?_⟩
   ·rcases List.mem_cons.1 ht with rfl | ht
    ·exact ⟨g1, g2, g3⟩
    ·exact e3 t ht
   ·rw [List.flatMap_cons, textW_append, List.length_append]
    omega
   ·rw [List.flatMap_cons, List.length_append]
    omega
theorem trees_stay {s : St} (h : s.err ≠ 0) (m : Nat) (acc : List (List Nd)) : (treesS m s acc).2.err ≠ 0 := by
 rw [treesS_err h]
 exact h
theorem wordsS_wz : ∀ (n : Nat) (cs : List UInt8) (acc : List W) (pos : Nat), cs.length <= n -> wz (wordsS acc pos cs).1 <= wz acc + 2 * cs.length := by
 intro n
 induction n with
 | zero =>
  intro cs acc pos hn
  have : cs = [] := List.eq_nil_of_length_eq_zero (by omega)
  subst this
  rw [wordsS]
  exact Nat.le_refl _
 | succ n ih =>
  intro cs acc pos hn
  cases cs with
  | nil => rw [wordsS]; exact Nat.le_refl _
  | cons c r =>
   rw [List.length_cons] at hn ⊢
   rw [wordsS]
   split
   ·have := ih r acc (pos + 1) (by omega)
    omega
   ·split
    ·show wz acc <= _; omega
    ·split
     ·split
      ·exact Nat.zero_le _
      ·have hsplit := congrArg List.length (List.takeWhile_append_dropWhile (p := inw) (l := r))
       rw [List.length_append] at hsplit
       have := ih (r.dropWhile inw) (acc ++ [((pos : Int), 0, ofL (c :: r.takeWhile inw))]) (pos + (c :: r.takeWhile inw).length) (by omega)
       rw [wz_append, wz, wz] at this
       have e : (ofL (c :: r.takeWhile inw)).size = (r.takeWhile inw).length + 1 := by rw [size_toL, toL_ofL, List.length_cons]
       have e2 : (((pos : Int), (0 : Int), ofL (c :: r.takeWhile inw)) : W).2.2.size = (r.takeWhile inw).length + 1 := e
       rw [e2] at this
       omega
     ·exact Nat.zero_le _
theorem linesS_lz : ∀ (m : Nat) (cs : List UInt8) (acc : List (List W)) (n pos : Nat), cs.length <= m -> lz (linesS acc n pos cs).1 <= lz acc + 2 * cs.length := by
 intro m
 induction m using Nat.strongRecOn with
 | ind m ih =>
  intro cs acc n pos hm
  have hlen := congrArg List.length (List.takeWhile_append_dropWhile (p := nnl) (l := cs))
  rw [List.length_append] at hlen
  have hw := wordsS_wz _ (cs.takeWhile nnl) [] 0 (Nat.le_refl _)
  have hz : wz ([] : List W) = 0 := rfl
  rw [hz] at hw
  have hacc : lz (if (wordsS [] 0 (cs.takeWhile nnl)).1.length > 0 then acc ++ [(wordsS [] 0 (cs.takeWhile nnl)).1.map (shiftW n pos)] else acc) <= lz acc + 2 * (cs.takeWhile nnl).length := by
   split
   ·rw [lz_append, lz, lz, wz_shift]; omega
   ·omega
  rw [linesS]
  split
  ·exact Nat.zero_le _
  ·split
   ·exact Nat.zero_le _
   ·split
    ·show lz (if _ then _ else _) <= _
     omega
    ·rename_i c r hd
     rw [hd, List.length_cons] at hlen
     have := ih r.length (by omega) r (if (wordsS [] 0 (cs.takeWhile nnl)).1.length > 0 then acc ++ [(wordsS [] 0 (cs.takeWhile nnl)).1.map (shiftW n pos)] else acc) (n + 1) (pos + (cs.takeWhile nnl).length + 1) (Nat.le_refl _)
     omega
theorem read_rem (x : ByteArray) : rem (readS x) <= 2 * x.size := by
 have h : lz (linesT x).1 <= 2 * x.size := by
  unfold linesT
  split
  ·exact Nat.zero_le _
  ·have := linesS_lz _ (toL x) [] 0 0 (Nat.le_refl _)
   rw [size_toL]
   have e : lz ([] : List (List W)) = 0 := rfl
   omega
 refine Nat.le_trans ?_ h
 show wz (((linesT x).1.getD 0 []).drop 0) + lz ((linesT x).1.drop (0 + 1)) <= lz (linesT x).1
 cases (linesT x).1 with
 | nil => exact Nat.le_refl _
 | cons l r => exact Nat.le_refl _
theorem readM_fits (x : ByteArray) (hx : x.size <= 4000) (h : (readM x).2.2.1 = 0) : (readM x).2.2.2 = (0, 0, 0) /\ 0 <= (readM x).1 /\ (readM x).1 <= 64 /\ (readM x).2.1.length <= 64 /\ (∀ t ∈ (readM x).2.1, 1 <= t.length /\ t.length <= 255 /\ ∀ n ∈ t, NdG n) /\
 (textW ((readM x).2.1.flatMap treeL)).length <= 560000 /\ ((readM x).2.1.flatMap treeL).length <= 8000 := by
 have hr0 := read_rem x
 obtain ⟨r1, r2⟩ := countS_range (hd3 x) 0 64 (by decide) (by decide)
 obtain ⟨q1, q2⟩ := countS_range (hd1 x) 0 64 (by decide) (by decide)
 unfold readM at h ⊢
 generalize hT : treesS (hd4 x).1.toNat (nextS (hd4 x).2) [] = T at h ⊢
 by_cases hf : (fin1 T.2).err ≠ 0
 ·unfold finS at h
  rw [if_pos hf] at h
  exact absurd h hf
 ·have he0 : (fin1 T.2).err = 0 := by omega
  have e1 := end_rem (s := nextS (takeS T.2 ⟨#[101, 110, 100]⟩)) he0
  obtain ⟨e2, _⟩ := next_rem e1
  obtain ⟨e3, _⟩ := take_rem e2
  rw [<- hT] at e3
  have e4 : (nextS (hd4 x).2).err = 0 := by
   by_cases e : (nextS (hd4 x).2).err = 0
   ·exact e
   ·exact absurd e3 (trees_stay e _ _)
  obtain ⟨e5, b5⟩ := next_rem e4
  obtain ⟨e6, _, _, b6⟩ := count_rem (s := hd3 x) (lo := 0) (hi := 64) e5
  obtain ⟨e7, b7⟩ := take_rem (s := nextS (hd2 x).2) e6
  obtain ⟨e8, b8⟩ := next_rem e7
  obtain ⟨e9, _, _, b9⟩ := count_rem (s := hd1 x) (lo := 0) (hi := 64) e8
  obtain ⟨e10, b10⟩ := take_rem (s := nextS (takeS (takeS (readS x) ⟨#[100, 101, 110, 100, 114, 111, 110]⟩) ⟨#[49]⟩)) e9
  obtain ⟨e11, b11⟩ := next_rem e10
  obtain ⟨e12, b12⟩ := take_rem e11
  obtain ⟨e13, b13⟩ := take_rem e12
  have b6' : rem (hd4 x).2 + 1 <= rem (hd3 x) := b6
  have b7' : rem (hd3 x) + 1 <= rem (nextS (hd2 x).2) := b7
  have b9' : rem (hd2 x).2 + 1 <= rem (hd1 x) := b9
  have b10' : rem (hd1 x) + 1 <= rem (nextS (takeS (takeS (readS x) ⟨#[100, 101, 110, 100, 114, 111, 110]⟩) ⟨#[49]⟩)) := b10
  obtain ⟨ts, t1, t2, t3, t4, t5⟩ := trees_rem _ _ _ e3 (by omega)
  rw [List.nil_append, hT] at t1
  unfold finS
  rw [if_neg hf]
  have r1' : 0 <= (hd4 x).1 := r1
  have r2' : (hd4 x).1 <= 64 := r2
  refine ⟨rfl, q1, q2, ?_, ?_, ?_, ?_⟩
  ·show T.1.length <= 64
   rw [t1, t2]; omega
  ·show ∀ t ∈ T.1, _
   rw [t1]; exact t3
  ·show (textW (T.1.flatMap treeL)).length <= 560000
   rw [t1]; omega
  ·show (T.1.flatMap treeL).length <= 8000
   rw [t1]; omega
end Go.DI.Th
namespace Go.DI.Th
open Go Go.RowKit Go.DI

def first (bad : Nat -> Bool) : Nat -> Nat -> Option Nat
 | 0, _ => none
 | m + 1, i => if bad i = true then some i else first bad m (i + 1)
theorem first_none {p : Nat -> Bool} : ∀ (m i : Nat), first p m i = none -> ∀ j, i <= j -> j < i + m -> p j = false
 | 0, _, _, j, h1, h2 => by omega
 | m + 1, i, h, j, h1, h2 => by
  rw [first] at h
  by_cases hp : p i = true
  ·rw [if_pos hp] at h; cases h
  ·rw [if_neg hp] at h
   by_cases hj : j = i
   ·subst hj; simpa using hp
   ·exact first_none m (i + 1) h j (by omega) (by omega)
def nd (t : List Nd) (i : Nat) : Nd := gt nd0 t (i : Int)
theorem gt_nd (t : List Nd) (i : Nat) : gt nd0 t (i : Int) = nd t i := rfl
theorem nd_mem (t : List Nd) (i : Nat) (h : i < t.length) : nd t i ∈ t := by
 unfold nd gt
 rw [Int.toNat_natCast, List.getD_eq_getElem?_getD, List.getElem?_eq_getElem h]
 exact List.getElem_mem h
def okR (f : Int) (L : Nat) (n : Nd) : Prop := n.1 = true \/ (n.2.1 < f /\ 1 <= n.2.2.2.2.2.1 /\ n.2.2.2.2.2.1 < L /\ 1 <= n.2.2.2.2.2.2.1 /\ n.2.2.2.2.2.2.1 < L)
instance (f : Int) (L : Nat) (n : Nd) : Decidable (okR f L n) := by unfold okR; infer_instance
def cc (n : Nd) (a : Nat) : Nat := if n.1 = true then 0 else (if n.2.2.2.2.2.1 = (a : Int) then 1 else 0) + (if n.2.2.2.2.2.2.1 = (a : Int) then 1 else 0)
def cu (t : List Nd) : Nat -> Nat -> Nat
 | 0, _ => 0
 | j + 1, a => cu t j a + cc (nd t j) a
theorem cc_le (n : Nd) (a : Nat) : cc n a <= 2 := by
 unfold cc
 split
 ·omega
 ·split <;> split <;> omega
theorem cu_le (t : List Nd) : ∀ j a, cu t j a <= 2 * j
 | 0, _ => Nat.le_refl _
 | j + 1, a => by
  have := cu_le t j a
  have := cc_le (nd t j) a
  rw [cu]; omega
theorem cc_cu (t : List Nd) (a m : Nat) : ∀ j, m < j -> cc (nd t m) a <= cu t j a
 | 0, h => by omega
 | j + 1, h => by
  rw [cu]
  by_cases e : m = j
  ·subst e; omega
  ·have := cc_cu t a m j (by omega); omega
theorem cc_two (t : List Nd) (a m n : Nat) (h : m < n) : ∀ j, n < j -> cc (nd t m) a + cc (nd t n) a <= cu t j a
 | 0, h => by omega
 | j + 1, h' => by
  rw [cu]
  by_cases e : n = j
  ·subst e
   have := cc_cu t a m n h
   omega
  ·have := cc_two t a m n h j (by omega)
   omega
def ch (t : List Nd) (p a : Nat) : Prop := (nd t p).1 ≠ true /\ ((nd t p).2.2.2.2.2.1 = (a : Int) \/ (nd t p).2.2.2.2.2.2.1 = (a : Int))
instance (t : List Nd) (p a : Nat) : Decidable (ch t p a) := by unfold ch; infer_instance
theorem ch_cc {t : List Nd} {p a : Nat} (h : ch t p a) : 1 <= cc (nd t p) a := by
 unfold cc
 rw [if_neg h.1]
 rcases h.2 with e | e
 ·rw [if_pos e]; omega
 ·rw [if_pos e]; omega
theorem ch_unique {t : List Nd} {p q a : Nat} (hc : cu t t.length a = 1) (hp : p < t.length) (hq : q < t.length) (h : ch t p a) (h' : ch t q a) : p = q := by
 have h1 := ch_cc h
 have h2 := ch_cc h'
 rcases Nat.lt_trichotomy p q with e | e | e
 ·have := cc_two t a p q e t.length hq; omega
 ·exact e
 ·have := cc_two t a q p e t.length hp; omega
def upTo (t : List Nd) (a : Nat) : Nat -> Int
 | 0 => -1
 | j + 1 => if ch t j a then (j : Int) else upTo t a j
theorem upTo_none {t : List Nd} {a : Nat} : ∀ {j : Nat}, upTo t a j < 0 -> ∀ p, p < j -> ¬ ch t p a
 | 0, _, p, h => by omega
 | j + 1, h, p, hp => by
  rw [upTo] at h
  by_cases hc : ch t j a
  ·rw [if_pos hc] at h; omega
  ·rw [if_neg hc] at h
   by_cases e : p = j
   ·subst e; exact hc
   ·exact upTo_none h p (by omega)
theorem upTo_some {t : List Nd} {a : Nat} : ∀ {j : Nat}, ¬ upTo t a j < 0 -> ∃ p : Nat, upTo t a j = (p : Int) /\ p < j /\ ch t p a
 | 0, h => by rw [upTo] at h; omega
 | j + 1, h => by
  rw [upTo] at h ⊢
  by_cases hc : ch t j a
  ·rw [if_pos hc]; exact ⟨j, rfl, by omega, hc⟩
  ·rw [if_neg hc] at h ⊢
   obtain ⟨p, h1, h2, h3⟩ := upTo_some h
   exact ⟨p, h1, by omega, h3⟩
def climb (t : List Nd) : Nat -> Nat -> Bool
 | 0, _ => false
 | k + 1, a => if a = 0 then true else if upTo t a t.length < 0 then false else climb t k (upTo t a t.length).toNat
theorem climb_mono (t : List Nd) : ∀ k a, climb t k a = true -> climb t (k + 1) a = true
 | 0, _, h => by cases h
 | k + 1, a, h => by
  rw [climb] at h ⊢
  by_cases h0 : a = 0
  ·rw [if_pos h0]
  ·rw [if_neg h0] at h ⊢
   by_cases h1 : upTo t a t.length < 0
   ·rw [if_pos h1] at h; cases h
   ·rw [if_neg h1] at h ⊢
    exact climb_mono t k _ h
theorem climb_le (t : List Nd) {k m : Nat} (h : k <= m) (a : Nat) (hc : climb t k a = true) : climb t m a = true := by
 induction h with
 | refl => exact hc
 | step _ ih => exact climb_mono t _ a ih
theorem climb_child {t : List Nd} {p a k : Nat} (hcu : cu t t.length a = 1) (hp : p < t.length) (h : ch t p a) (ha : a ≠ 0) (hc : climb t k p = true) : climb t (k + 1) a = true := by
 rw [climb, if_neg ha]
 have h1 : ¬ upTo t a t.length < 0 := fun e => upTo_none e p hp h
 obtain ⟨q, e1, e2, e3⟩ := upTo_some h1
 have : q = p := ch_unique hcu e2 hp e3 h
 subst this
 rw [if_neg h1, e1, Int.toNat_natCast]
 exact hc
theorem nodup_len : ∀ (n : Nat) (l : List Nat), l.Nodup -> (∀ x ∈ l, x < n) -> l.length <= n
 | 0, l, _, h => by
  cases l with
  | nil => exact Nat.le_refl _
  | cons x l => exact absurd (h x List.mem_cons_self) (by omega)
 | n + 1, l, hn, h => by
  by_cases hm : n ∈ l
  ·have h1 := nodup_len n (l.erase n) (hn.erase n) fun x hx => by
    have hx' := (List.Nodup.mem_erase_iff hn).1 hx
    have := h x hx'.2
    have := hx'.1
    omega
   rw [List.length_erase_of_mem hm] at h1
   omega
  ·have h1 := nodup_len n l hn fun x hx => by
    have := h x hx
    have : x ≠ n := fun e => hm (e ▸ hx)
    omega
   omega
structure Once (f : Int) (t : List Nd) : Prop where
 rng : ∀ i, i < t.length -> okR f t.length (nd t i)
 one : ∀ i, 0 < i -> i < t.length -> cu t t.length i = 1
structure Walk (t : List Nd) (P S : List Nat) : Prop where
 nodup : (P ++ S).Nodup
 lt : ∀ x ∈ P ++ S, x < t.length
 zero : 0 ∈ P ++ S
 par : ∀ x ∈ P ++ S, x = 0 \/ ∃ p ∈ P, ch t p x
 kid : ∀ p ∈ P, ∀ x, ch t p x -> x ∈ P ++ S
 up : ∀ x ∈ P ++ S, climb t (P.length + 1) x = true
theorem Walk.start (t : List Nd) (h : 0 < t.length) : Walk t [] [0] where
 nodup := by simp
 lt := fun x hx => by
  have : x = 0 := by simpa using hx
  omega
 zero := by simp
 par := fun x hx => Or.inl (by simpa using hx)
 kid := fun p hp => by cases hp
 up := fun x hx => by
  have : x = 0 := by simpa using hx
  subst this
  rfl
theorem perm_pop (P S : List Nat) (a : Nat) : (P ++ (S ++ [a])).Perm (a :: P ++ S) := by
 rw [<- List.append_assoc]
 exact (List.perm_append_comm (l₁ := P ++ S) (l₂ := [a]))
theorem Walk.leaf {t : List Nd} {P S : List Nat} {a : Nat} (w : Walk t P (S ++ [a])) (h : (nd t a).1 = true) : Walk t (a :: P) S := by
 have pm := perm_pop P S a
 have mm : ∀ x, x ∈ a :: P ++ S ↔ x ∈ P ++ (S ++ [a]) := fun x => (pm.mem_iff (a := x)).symm
 exact {
  nodup := pm.nodup_iff.1 w.nodup
  lt := fun x hx => w.lt x ((mm x).1 hx)
  zero := (mm 0).2 w.zero
  par := fun x hx => by
   rcases w.par x ((mm x).1 hx) with e | ⟨p, hp, hc⟩
   ·exact Or.inl e
   ·exact Or.inr ⟨p, List.mem_cons_of_mem _ hp, hc⟩
  kid := fun p hp x hc => by
   rcases List.mem_cons.1 hp with rfl | hp
   ·exact absurd h hc.1
   ·exact (mm x).2 (w.kid p hp x hc)
  up := fun x hx => climb_mono t _ x (w.up x ((mm x).1 hx)) }
theorem Walk.split {f : Int} {t : List Nd} {P S : List Nat} {a l r : Nat} (o : Once f t) (w : Walk t P (S ++ [a])) (h : (nd t a).1 ≠ true) (hl : (nd t a).2.2.2.2.2.1 = (l : Int)) (hr : (nd t a).2.2.2.2.2.2.1 = (r : Int)) : Walk t (a :: P) (S ++ [l, r]) := by
 have pm := perm_pop P S a
 have mm : ∀ x, x ∈ a :: P ++ S ↔ x ∈ P ++ (S ++ [a]) := fun x => (pm.mem_iff (a := x)).symm
 have hal : a < t.length := w.lt a (by simp)
 have hn : (a :: P ++ S).Nodup := pm.nodup_iff.1 w.nodup
 have haP : a ∉ P := fun hm => by
  rw [List.cons_append, List.nodup_cons] at hn
  exact hn.1 (List.mem_append_left _ hm)
 have hok : (nd t a).2.1 < f /\ 1 <= (nd t a).2.2.2.2.2.1 /\ (nd t a).2.2.2.2.2.1 < t.length /\ 1 <= (nd t a).2.2.2.2.2.2.1 /\ (nd t a).2.2.2.2.2.2.1 < t.length := (o.rng a hal).resolve_left h
 rw [hl, hr] at hok
 have cl : ch t a l := ⟨h, Or.inl hl⟩
 have cr : ch t a r := ⟨h, Or.inr hr⟩
 have new : ∀ x, ch t a x -> 0 < x -> x < t.length -> x ∉ a :: P ++ S := fun x hc h0 hx hm => by
  rcases w.par x ((mm x).1 hm) with e | ⟨p, hp, hc'⟩
  ·omega
  ·have hpl := w.lt p (List.mem_append_left _ hp)
   have := ch_unique (o.one x h0 hx) hpl hal hc' hc
   exact haP (this ▸ hp)
 have nl := new l cl (by omega) (by omega)
 have nr := new r cr (by omega) (by omega)
 have hne : l ≠ r := fun e => by
  have h1 := o.one l (by omega) (by omega)
  have h2 := cc_cu t l a t.length hal
  unfold cc at h2
  rw [if_neg h, if_pos hl, if_pos (by rw [hr, e])] at h2
  omega
 have mm2 : ∀ x, x ∈ a :: P ++ (S ++ [l, r]) ↔ (x ∈ P ++ (S ++ [a]) \/ x = l \/ x = r) := fun x => by
  rw [<- mm x, <- List.append_assoc, List.mem_append (s := a :: P ++ S)]
  simp
 exact {
  nodup := by
   rw [<- List.append_assoc]
   refine List.nodup_append.2 ⟨hn, by simp [hne], ?_⟩
   intro x hx y hy e
   subst e
   rcases List.mem_cons.1 hy with rfl | hy
   ·exact nl hx
   ·have : x = r := by simpa using hy
    subst this
    exact nr hx
  lt := fun x hx => by
   rcases (mm2 x).1 hx with h1 | rfl | rfl
   ·exact w.lt x h1
   ·omega
   ·omega
  zero := (mm2 0).2 (Or.inl w.zero)
  par := fun x hx => by
   rcases (mm2 x).1 hx with h1 | rfl | rfl
   ·rcases w.par x h1 with e | ⟨p, hp, hc⟩
    ·exact Or.inl e
    ·exact Or.inr ⟨p, List.mem_cons_of_mem _ hp, hc⟩
   ·exact Or.inr ⟨a, List.mem_cons_self, cl⟩
   ·exact Or.inr ⟨a, List.mem_cons_self, cr⟩
  kid := fun p hp x hc => by
   refine (mm2 x).2 ?_
   rcases List.mem_cons.1 hp with rfl | hp
   ·rcases hc.2 with e | e
    ·rw [hl] at e
     exact Or.inr (Or.inl (by omega))
    ·rw [hr] at e
     exact Or.inr (Or.inr (by omega))
   ·exact Or.inl (w.kid p hp x hc)
  up := fun x hx => by
   have ha : climb t (P.length + 1) a = true := w.up a (by simp)
   show climb t (P.length + 1 + 1) x = true
   rcases (mm2 x).1 hx with h1 | rfl | rfl
   ·exact climb_mono t _ x (w.up x h1)
   ·exact climb_child (o.one x (by omega) (by omega)) hal cl (by omega) ha
   ·exact climb_child (o.one x (by omega) (by omega)) hal cr (by omega) ha }
theorem Walk.size {t : List Nd} {P S : List Nat} (w : Walk t P S) : P.length + S.length <= t.length := by
 have := nodup_len t.length (P ++ S) w.nodup w.lt
 rwa [List.length_append] at this
theorem Walk.done {t : List Nd} {P : List Nat} (w : Walk t P []) (i : Nat) (hi : i < t.length) : i ∈ P ↔ climb t (t.length + 1) i = true := by
 have e : P ++ [] = P := List.append_nil P
 constructor
 ·intro h
  have hs := w.size
  exact climb_le t (k := P.length + 1) (by simp at hs; omega) i (w.up i (by rw [e]; exact h))
 ·have key : ∀ k a, climb t k a = true -> a ∈ P := by
   intro k
   induction k with
   | zero => intro a h; cases h
   | succ k ih =>
    intro a h
    rw [climb] at h
    by_cases h0 : a = 0
    ·subst h0
     have := w.zero
     rwa [e] at this
    ·rw [if_neg h0] at h
     by_cases h1 : upTo t a t.length < 0
     ·rw [if_pos h1] at h; cases h
     ·rw [if_neg h1] at h
      obtain ⟨p, e1, e2, e3⟩ := upTo_some h1
      rw [e1, Int.toNat_natCast] at h
      have := w.kid p (ih p h) a e3
      rwa [e] at this
  exact key _ i
end Go.DI.Th
namespace Go.DI.Th
open Go Go.RowKit Go.DI

theorem first_hit {bad : Nat -> Bool} {m i : Nat} (h : bad i = true) : first bad (m + 1) i = some i := by rw [first, if_pos h]
theorem first_skip {bad : Nat -> Bool} {m i : Nat} (h : bad i = false) : first bad (m + 1) i = first bad m (i + 1) := by rw [first, if_neg (by simp [h])]
def ans (e z : Int) : Option Nat -> Int × Int
 | some i => ((i : Int), e)
 | none => (z, 0)
theorem Ev.cut {α : Type} {c P : Prop} [Decidable c] {r1 r : α} {f : Nat -> Option α} (hP : c -> P) (hr : P -> r = r1) (h : ¬ c -> Ev f r) : Ev (fun n => if c then some r1 else f n) r := by
 by_cases h1 : c
 ·rw [hr (hP h1)]
  exact Ev.if_pos h1 (Ev.now _)
 ·exact Ev.if_neg h1 (h h1)
def bad0 (f : Int) (t : List Nd) (i : Nat) : Bool := decide (¬ okR f t.length (nd t i))
def bad1 (t : List Nd) (i : Nat) : Bool := decide (0 < i /\ cu t t.length i ≠ 1)
def bad2 (t : List Nd) (i : Nat) : Bool := !(climb t (t.length + 1) i)
def bad3 (t : List Nd) (i : Nat) : Bool := decide (sgn (rv (nd t i).cov).num <= 0)
def bad4 (t : List Nd) (i : Nat) : Bool := decide ((nd t i).1 ≠ true /\ rv (nd t i).cov ≠ rv (nd t (nd t i).2.2.2.2.2.1.toNat).cov + rv (nd t (nd t i).2.2.2.2.2.2.1.toNat).cov)
theorem ranges_loop (t : List Nd) (f : Int) (ht : t.length <= 255) (hp : ∀ n ∈ t, okN n) : ∀ d i : Nat, i + d = t.length -> Ev (fun k => valid_ranges.l0 k t f t (t.length : Int) (i : Int)) (ans 8 0 (first (bad0 f t) d i)) := by
 intro d
 induction d with
 | zero =>
  intro i hi
  refine Ev.succ ?_
  simp only [valid_ranges.l0]
  exact Ev.if_neg (by omega) (Ev.now _)
 | succ d ih =>
  intro i hi
  have hn := hp _ (nd_mem t i (by omega))
  have hih := ih (i + 1) (by omega)
  have e1 : ¬ okR f t.length (nd t i) -> ans 8 0 (first (bad0 f t) (d + 1) i) = ((i : Int), 8) := fun h => by rw [first_hit (decide_eq_true h)]; rfl
  have e2 : okR f t.length (nd t i) -> first (bad0 f t) d (i + 1) = first (bad0 f t) (d + 1) i := fun h => (first_skip (decide_eq_false (fun h' => h' h))).symm
  refine Ev.succ ?_
  simp only [valid_ranges.l0, gt_nd, wr_succ i (show i <= 1125899906842624 by omega)]
  refine Ev.if_pos (by omega) (Ev.if_pos (nn0 _) (Ev.if_pos (by omega) ?_))
  by_cases hb : (nd t i).1 = true
  ·exact Ev.if_pos hb (hih.of_eq (by rw [e2 (Or.inl hb)]))
  ·refine Ev.if_neg hb ?_
   have no : ∀ {c : Prop}, (c -> ¬ ((nd t i).2.1 < f /\ 1 <= (nd t i).2.2.2.2.2.1 /\ (nd t i).2.2.2.2.2.1 < t.length /\ 1 <= (nd t i).2.2.2.2.2.2.1 /\ (nd t i).2.2.2.2.2.2.1 < t.length)) -> c -> ¬ okR f t.length (nd t i) := fun h hc ho => h hc (ho.resolve_left hb)
   refine Ev.if_neg (by have := hn.1; omega) ?_
   refine Ev.cut (no fun h => by omega) e1 fun g1 => ?_
   refine Ev.cut (no fun h => by omega) e1 fun g2 => ?_
   refine Ev.cut (no fun h => by omega) e1 fun g3 => ?_
   refine Ev.cut (no fun h => by omega) e1 fun g4 => ?_
   refine Ev.cut (no fun h => by omega) e1 fun g5 => ?_
   exact hih.of_eq (by rw [e2 (Or.inr ⟨by omega, by omega, by omega, by omega, by omega⟩)])
def A0 (f : Int) (t : List Nd) : Option Nat := first (bad0 f t) t.length 0
theorem ranges_ev (t : List Nd) (f : Int) (ht : t.length <= 255) (hp : ∀ n ∈ t, okN n) : Ev (fun k => valid_ranges.f k t f) (ans 8 0 (A0 f t)) := ranges_loop t f ht hp t.length 0 (by omega)
theorem A0_rng {f : Int} {t : List Nd} (h : A0 f t = none) : ∀ i, i < t.length -> okR f t.length (nd t i) := fun i hi => by
 have := first_none t.length 0 h i (by omega) (by omega)
 unfold bad0 at this
 exact Classical.byContradiction (of_decide_eq_false this)
theorem rd_set (l : List Int) (a i : Nat) (v : Int) (h : a < l.length) : rd (l.set a v) (i : Int) = if i = a then v else rd l (i : Int) := by
 unfold rd
 rw [Int.toNat_natCast, List.getD_eq_getElem?_getD, List.getD_eq_getElem?_getD, List.getElem?_set]
 by_cases e : i = a
 ·subst e
  rw [if_pos rfl, if_pos rfl, if_pos h]
  rfl
 ·rw [if_neg (fun h => e h.symm), if_neg e]
def CuOk (t : List Nd) (j : Nat) (x : List Int) : Prop := x.length = t.length /\ ∀ i, i < t.length -> rd x (i : Int) = (cu t j i : Int)
theorem CuOk.start (t : List Nd) : CuOk t 0 (List.replicate t.length 0) := by
 refine ⟨List.length_replicate, fun i hi => ?_⟩
 unfold rd
 rw [Int.toNat_natCast, List.getD_eq_getElem?_getD, List.getElem?_replicate, if_pos hi]
 rfl
theorem CuOk.leaf {t : List Nd} {j : Nat} {x : List Int} (h : CuOk t j x) (hl : (nd t j).1 = true) : CuOk t (j + 1) x := by
 refine ⟨h.1, fun i hi => ?_⟩
 rw [h.2 i hi, cu]
 unfold cc
 rw [if_pos hl]
 rfl
theorem CuOk.split {t : List Nd} {j l r : Nat} {x : List Int} (h : CuOk t j x) (hb : (nd t j).1 ≠ true) (hl : (nd t j).2.2.2.2.2.1 = (l : Int)) (hr : (nd t j).2.2.2.2.2.2.1 = (r : Int)) (hln : l < t.length) (hrn : r < t.length) (hj : j <= 1000) :
 CuOk t (j + 1) ((x.set l (wrap64 (rd x (l : Int) + 1))).set r (wrap64 (rd (x.set l (wrap64 (rd x (l : Int) + 1))) (r : Int) + 1))) := by
 refine ⟨by rw [List.length_set, List.length_set]; exact h.1, fun i hi => ?_⟩
 have b1 := cu_le t j l
 have b2 := cu_le t j r
 have h1 := h.1
 have w : ∀ a : Nat, a < t.length -> rd (x.set l (wrap64 (rd x (l : Int) + 1))) (a : Int) = ((cu t j a + (if l = a then 1 else 0) : Nat) : Int) := fun a ha => by
  rw [rd_set x l a _ (by omega), h.2 l hln]
  by_cases e : a = l
  ·subst e
   rw [if_pos rfl, if_pos rfl, wrap_id (by omega) (by omega)]
   omega
  ·rw [if_neg e, if_neg (fun h => e h.symm), h.2 a ha]
   rfl
 rw [rd_set _ r i _ (by rw [List.length_set]; omega), w r hrn, w i hi, cu]
 unfold cc
 rw [if_neg hb, hl, hr]
 by_cases e : i = r
 ·subst e
  rw [if_pos rfl, wrap_id (by split <;> omega) (by split <;> omega), if_pos rfl]
  by_cases e2 : l = i
  ·subst e2
   rw [if_pos rfl, if_pos rfl]
   omega
  ·rw [if_neg e2, if_neg (fun h => e2 (by omega))]
   omega
 ·rw [if_neg e, if_neg (show ¬ ((r : Int) = (i : Int)) from fun h => e (by omega))]
  by_cases e2 : l = i
  ·subst e2
   rw [if_pos rfl, if_pos rfl]
  ·rw [if_neg e2, if_neg (show ¬ ((l : Int) = (i : Int)) from fun h => e2 (by omega))]
theorem kids {f : Int} {t : List Nd} {i : Nat} (h : okR f t.length (nd t i)) (hb : (nd t i).1 ≠ true) : ∃ l r : Nat, (nd t i).2.2.2.2.2.1 = (l : Int) /\ (nd t i).2.2.2.2.2.2.1 = (r : Int) /\ 1 <= l /\ l < t.length /\ 1 <= r /\ r < t.length := by
 have h' := h.resolve_left hb
 exact ⟨(nd t i).2.2.2.2.2.1.toNat, (nd t i).2.2.2.2.2.2.1.toNat, by omega, by omega, by omega, by omega, by omega, by omega⟩
theorem shape_l0 (f : Int) (t : List Nd) (ht : t.length <= 255) (hr : ∀ i, i < t.length -> okR f t.length (nd t i)) (R : Int × Int) (hend : ∀ x, CuOk t t.length x -> Ev (fun k => valid_shape.l1 k t x (x.length : Int) 0) R) : ∀ (d j : Nat) (x : List Int), j + d = t.length -> CuOk t j x ->
 Ev (fun k => valid_shape.l0 k t x t (t.length : Int) (j : Int)) R := by
 intro d
 induction d with
 | zero =>
  intro j x hj hx
  obtain rfl : j = t.length := by omega
  refine Ev.succ ?_
  simp only [valid_shape.l0]
  exact Ev.if_neg (by omega) (hend x hx)
 | succ d ih =>
  intro j x hj hx
  refine Ev.succ ?_
  simp only [valid_shape.l0, gt_nd, wr_succ j (show j <= 1125899906842624 by omega), List.length_set]
  refine Ev.if_pos (by omega) (Ev.if_pos (nn0 _) (Ev.if_pos (by omega) ?_))
  by_cases hb : (nd t j).1 = true
  ·exact Ev.if_pos hb (ih (j + 1) x (by omega) (hx.leaf hb))
  ·refine Ev.if_neg hb ?_
   obtain ⟨l, r, hl, hr', l1, l2, r1, r2⟩ := kids (hr j (by omega)) hb
   have hih := ih (j + 1) _ (by omega) (hx.split hb hl hr' l2 r2 (by omega))
   have hx1 := hx.1
   have hl' : (nd t j).2.2.2.2.2.1 = (l : Int) := hl
   have hr'' : (nd t j).2.2.2.2.2.2.1 = (r : Int) := hr'
   rw [hl', hr'', Int.toNat_natCast, Int.toNat_natCast]
   exact Ev.if_pos (nn0 _) (Ev.if_pos (by omega) (Ev.if_pos (nn0 _) (Ev.if_pos (by omega) hih)))
theorem getD_set (l : List Bool) (a i : Nat) (v : Bool) (h : a < l.length) : (l.set a v).getD i false = if i = a then v else l.getD i false := by
 rw [List.getD_eq_getElem?_getD, List.getD_eq_getElem?_getD, List.getElem?_set]
 by_cases e : i = a
 ·subst e
  rw [if_pos rfl, if_pos rfl, if_pos h]
  rfl
 ·rw [if_neg (fun h => e h.symm), if_neg e]
def SeenOk (t : List Nd) (P : List Nat) (x : List Bool) : Prop := x.length = t.length /\ ∀ i, i < t.length -> x.getD i false = decide (i ∈ P)
theorem SeenOk.start (t : List Nd) : SeenOk t [] (List.replicate t.length false) := by
 refine ⟨List.length_replicate, fun i hi => ?_⟩
 rw [List.getD_eq_getElem?_getD, List.getElem?_replicate, if_pos hi]
 simp
theorem SeenOk.add {t : List Nd} {P : List Nat} {x : List Bool} (h : SeenOk t P x) {a : Nat} (ha : a < t.length) : SeenOk t (a :: P) (x.set a true) := by
 refine ⟨by rw [List.length_set]; exact h.1, fun i hi => ?_⟩
 have h1 := h.1
 rw [getD_set x a i _ (by omega), h.2 i hi]
 by_cases e : i = a
 ·subst e
  rw [if_pos rfl]
  simp
 ·rw [if_neg e]
  simp [e]
theorem shape_l3 (t : List Nd) (ht : t.length <= 255) (x : List Bool) (hx : x.length = t.length) (hs : ∀ i, i < t.length -> x.getD i false = !(bad2 t i)) : ∀ d i : Nat, i + d = t.length -> Ev (fun k => valid_shape.l3 k x (x.length : Int) (i : Int)) (ans 11 0 (first (bad2 t) d i)) := by
 intro d
 induction d with
 | zero =>
  intro i hi
  refine Ev.succ ?_
  simp only [valid_shape.l3]
  exact Ev.if_neg (by omega) (Ev.now _)
 | succ d ih =>
  intro i hi
  have hih := ih (i + 1) (by omega)
  have h1 := hs i (by omega)
  refine Ev.succ ?_
  simp only [valid_shape.l3, wr_succ i (show i <= 1125899906842624 by omega), Int.toNat_natCast, h1]
  refine Ev.if_pos (by omega) (Ev.if_pos (nn0 _) (Ev.if_pos (by omega) ?_))
  by_cases hb : bad2 t i = true
  ·rw [first_hit hb]
   exact Ev.if_neg (by simp [hb]) (Ev.now _)
  ·have hb' : bad2 t i = false := by simpa using hb
   rw [first_skip hb']
   exact Ev.if_pos (by simp [hb']) hih
def cI (x : Nat) : Int := (x : Int)
theorem shape_l2 (f : Int) (t : List Nd) (ht : t.length <= 255) (o : Once f t) : ∀ (m : Nat) (P S : List Nat) (x : List Bool), Walk t P S -> SeenOk t P x -> t.length <= P.length + m ->
 Ev (fun k => valid_shape.l2 k t x (S.map cI)) (ans 11 0 (first (bad2 t) t.length 0)) := by
 intro m
 induction m with
 | zero =>
  intro P S x w hx hm
  have hs := w.size
  obtain rfl : S = [] := List.length_eq_zero_iff.1 (by omega)
  refine Ev.succ ?_
  simp only [valid_shape.l2, List.map_nil, List.length_nil]
  refine Ev.if_neg (by decide) (shape_l3 t ht x hx.1 (fun i hi => ?_) t.length 0 (by omega))
  rw [hx.2 i hi]
  unfold bad2
  rw [Bool.not_not, Bool.eq_iff_iff, decide_eq_true_iff]
  exact w.done i hi
 | succ m ih =>
  intro P S x w hx hm
  rcases List.eq_nil_or_concat S with rfl | ⟨S, a, rfl⟩
  ·refine Ev.succ ?_
   simp only [valid_shape.l2, List.map_nil, List.length_nil]
   refine Ev.if_neg (by decide) (shape_l3 t ht x hx.1 (fun i hi => ?_) t.length 0 (by omega))
   rw [hx.2 i hi]
   unfold bad2
   rw [Bool.not_not, Bool.eq_iff_iff, decide_eq_true_iff]
   exact w.done i hi
  ·rw [List.concat_eq_append] at w ⊢
   have hs := w.size
   rw [List.length_append, List.length_singleton] at hs
   have ha : a < t.length := w.lt a (by simp)
   have hx1 := hx.1
   have hA : (S.map cI).length = S.length := List.length_map _
   have ew : wrap64 ((((S.map cI).length + 1 : Nat) : Int) - 1) = ((S.map cI).length : Int) := by
    rw [wrap_id (by omega) (by omega)]
    omega
   have er : rd (S.map cI ++ [(a : Int)]) ((S.map cI).length : Int) = (a : Int) := rd_at _ _ []
   have et : (S.map cI ++ [(a : Int)]).take (S.map cI).length = S.map cI := List.take_left
   have el : (S.map cI ++ [(a : Int)]).length = (S.map cI).length + 1 := by rw [List.length_append, List.length_singleton]
   have em : (S ++ [a]).map cI = S.map cI ++ [(a : Int)] := by rw [List.map_append]; rfl
   rw [em]
   refine Ev.succ ?_
   simp only [valid_shape.l2, ew, er, gt_nd, Int.toNat_natCast, et, el]
   refine Ev.if_pos (by omega) (Ev.if_pos (nn0 _) (Ev.if_pos (by omega) (Ev.if_pos (by omega) (Ev.if_pos (nn0 _) (Ev.if_pos (by omega) (Ev.if_pos (by omega) ?_))))))
   by_cases hb : (nd t a).1 = true
   ·exact Ev.if_pos hb (ih (a :: P) S _ (w.leaf hb) (hx.add ha) (by rw [List.length_cons]; omega))
   ·refine Ev.if_neg hb ?_
    obtain ⟨l, r, hl, hr, l1, l2, r1, r2⟩ := kids (o.rng a ha) hb
    have hih := ih (a :: P) (S ++ [l, r]) _ (w.split o hb hl hr) (hx.add ha) (by rw [List.length_cons]; omega)
    have hl' : (nd t a).2.2.2.2.2.1 = (l : Int) := hl
    have hr' : (nd t a).2.2.2.2.2.2.1 = (r : Int) := hr
    have em2 : (S ++ [l, r]).map cI = S.map cI ++ [(l : Int), (r : Int)] := by rw [List.map_append]; rfl
    rw [em2] at hih
    rw [hl', hr']
    exact Ev.if_pos (by show (S.map cI).length + 2 < _; omega) hih
def A1 (t : List Nd) : Option Nat := (first (bad1 t) t.length 0).or (first (bad2 t) t.length 0)
theorem shape_l1 (f : Int) (t : List Nd) (ht : t.length <= 255) (h0 : 1 <= t.length) (hr : ∀ i, i < t.length -> okR f t.length (nd t i)) (x : List Int) (hx : CuOk t t.length x) : ∀ d i : Nat, i + d = t.length -> (∀ j, j < i -> bad1 t j = false) ->
 Ev (fun k => valid_shape.l1 k t x (x.length : Int) (i : Int)) (ans 11 0 ((first (bad1 t) d i).or (first (bad2 t) t.length 0))) := by
 have hx1 := hx.1
 intro d
 induction d with
 | zero =>
  intro i hi hj
  have o : Once f t := ⟨hr, fun j j0 j1 => by
   have := hj j (by omega)
   unfold bad1 at this
   have := of_decide_eq_false this
   exact Classical.byContradiction fun e => this ⟨j0, e⟩⟩
  refine Ev.succ ?_
  simp only [valid_shape.l1, Int.toNat_natCast]
  exact Ev.if_neg (by omega) (Ev.if_pos (by omega) (shape_l2 f t ht o t.length [] [0] _ (Walk.start t (by omega)) (SeenOk.start t) (by simp)))
 | succ d ih =>
  intro i hi hj
  refine Ev.succ ?_
  simp only [valid_shape.l1, wr_succ i (show i <= 1125899906842624 by omega), hx.2 i (by omega)]
  refine Ev.if_pos (by omega) (Ev.if_pos (nn0 _) (Ev.if_pos (by omega) ?_))
  by_cases hb : bad1 t i = true
  ·have hb' := of_decide_eq_true hb
   rw [first_hit hb]
   exact Ev.if_pos (by omega) (Ev.if_pos (by omega) (Ev.now _))
  ·have hb2 : bad1 t i = false := by simpa using hb
   have hb' := of_decide_eq_false hb2
   rw [first_skip hb2]
   have hih := ih (i + 1) (by omega) (fun j hj' => by
    by_cases e : j = i
    ·rw [e]; exact hb2
    ·exact hj j (by omega))
   by_cases hi0 : i = 0
   ·exact Ev.if_neg (by omega) hih
   ·refine Ev.if_pos (by omega) (Ev.if_neg (fun e => hb' ⟨by omega, by omega⟩) hih)
theorem shape_ev (f : Int) (t : List Nd) (ht : t.length <= 255) (h0 : 1 <= t.length) (hr : ∀ i, i < t.length -> okR f t.length (nd t i)) : Ev (fun k => valid_shape.f k t) (ans 11 0 (A1 t)) := by
 unfold valid_shape.f
 rw [Int.toNat_natCast]
 exact Ev.if_pos (by omega) (shape_l0 f t ht hr _ (fun x hx => shape_l1 f t ht h0 hr x hx t.length 0 (by omega) (fun j hj => by omega)) t.length 0 _ (by omega) (CuOk.start t))
theorem sign_cn (r : Rt) {b : Nat} (h : RtB b r) (hb : b <= 1073741824) : Ev (fun k => ratio_Sign.f k r.1 r.2.1 r.2.2) (sgn (rv r).num) := by
 unfold ratio_Sign.f
 refine Ev.bind (clean_cn r h (by omega)) ?_
 have h1 := cnB (rv r) h.sz
 have := wsign_ev (cn (rv r)).1 (cn (rv r)).2.1 h1.1 (by have := h1.2.2.1; omega)
 rw [wv_cn] at this
 exact Ev.bind this (Ev.now _)
theorem covers_loop (t : List Nd) (ht : t.length <= 255) (hp : ∀ n ∈ t, NdOk n) : ∀ d i : Nat, i + d = t.length -> Ev (fun k => valid_covers.l0 k t (t.length : Int) (i : Int)) (ans 12 0 (first (bad3 t) d i)) := by
 intro d
 induction d with
 | zero =>
  intro i hi
  refine Ev.succ ?_
  simp only [valid_covers.l0]
  exact Ev.if_neg (by omega) (Ev.now _)
 | succ d ih =>
  intro i hi
  have hn := hp _ (nd_mem t i (by omega))
  have hih := ih (i + 1) (by omega)
  refine Ev.succ ?_
  simp only [valid_covers.l0, gt_nd, wr_succ i (show i <= 1125899906842624 by omega)]
  refine Ev.if_pos (by omega) (Ev.if_pos (nn0 _) (Ev.if_pos (by omega) (Ev.bind (sign_cn (nd t i).cov hn.2.2.B (by decide)) ?_)))
  by_cases hb : sgn (rv (nd t i).cov).num <= 0
  ·rw [first_hit (decide_eq_true hb : bad3 t i = true)]
   exact Ev.if_pos hb (Ev.now _)
  ·rw [first_skip (decide_eq_false hb : bad3 t i = false)]
   exact Ev.if_neg hb hih
def A2 (t : List Nd) : Option Nat := first (bad3 t) t.length 0
theorem covers_ev (t : List Nd) (ht : t.length <= 255) (hp : ∀ n ∈ t, NdOk n) : Ev (fun k => valid_covers.f k t) (ans 12 0 (A2 t)) := covers_loop t ht hp t.length 0 (by omega)
theorem sums_loop (f : Int) (t : List Nd) (ht : t.length <= 255) (hp : ∀ n ∈ t, NdOk n) (hr : ∀ i, i < t.length -> okR f t.length (nd t i)) : ∀ d i : Nat, i + d = t.length -> Ev (fun k => valid_sums.l0 k t t (t.length : Int) (i : Int)) (ans 13 0 (first (bad4 t) d i)) := by
 intro d
 induction d with
 | zero =>
  intro i hi
  refine Ev.succ ?_
  simp only [valid_sums.l0]
  exact Ev.if_neg (by omega) (Ev.now _)
 | succ d ih =>
  intro i hi
  have hn := hp _ (nd_mem t i (by omega))
  have hih := ih (i + 1) (by omega)
  refine Ev.succ ?_
  simp only [valid_sums.l0, gt_nd, wr_succ i (show i <= 1125899906842624 by omega)]
  refine Ev.if_pos (by omega) (Ev.if_pos (nn0 _) (Ev.if_pos (by omega) ?_))
  by_cases hb : (nd t i).1 = true
  ·rw [first_skip (decide_eq_false (fun h => h.1 hb) : bad4 t i = false)]
   exact Ev.if_pos hb hih
  ·refine Ev.if_neg hb ?_
   obtain ⟨l, r, hl, hr', l1, l2, r1, r2⟩ := kids (hr i (by omega)) hb
   have eb : bad4 t i = decide ((nd t i).1 ≠ true /\ rv (nd t i).cov ≠ rv (nd t l).cov + rv (nd t r).cov) := by
    unfold bad4
    rw [hl, hr', Int.toNat_natCast, Int.toNat_natCast]
   have hl' : (nd t i).2.2.2.2.2.1 = (l : Int) := hl
   have hr'' : (nd t i).2.2.2.2.2.2.1 = (r : Int) := hr'
   rw [hl', hr'']
   simp only [gt_nd]
   have ol := (hp _ (nd_mem t l l2)).2.2.B
   have or := (hp _ (nd_mem t r r2)).2.2.B
   have za := Sz_add (rv (nd t l).cov) (rv (nd t r).cov)
   have z1 := ol.sz
   have z2 := or.sz
   have hs := same_cn (nd t i).cov (cn (rv (nd t l).cov + rv (nd t r).cov)) hn.2.2.B (cnB _ (Nat.le_refl _)) (by decide) (by omega)
   rw [rv_cn] at hs
   refine Ev.if_pos (nn0 _) (Ev.if_pos (by omega) (Ev.if_pos (nn0 _) (Ev.if_pos (by omega) (Ev.bind (add_cn (nd t l).cov (nd t r).cov ol or (by decide)) (Ev.bind hs ?_)))))
   by_cases he : rv (nd t i).cov = rv (nd t l).cov + rv (nd t r).cov
   ·rw [first_skip (show bad4 t i = false by rw [eb]; exact decide_eq_false fun h => h.2 he)]
    exact Ev.if_pos (decide_eq_true he) hih
   ·rw [first_hit (show bad4 t i = true by rw [eb]; exact decide_eq_true ⟨hb, he⟩)]
    exact Ev.if_neg (by simp [he]) (Ev.now _)
def A3 (t : List Nd) : Option Nat := first (bad4 t) t.length 0
theorem sums_ev (f : Int) (t : List Nd) (ht : t.length <= 255) (hp : ∀ n ∈ t, NdOk n) (hr : ∀ i, i < t.length -> okR f t.length (nd t i)) : Ev (fun k => valid_sums.f k t) (ans 13 0 (A3 t)) := sums_loop f t ht hp hr t.length 0 (by omega)
end Go.DI.Th
namespace Go.DI.Th
open Go Go.RowKit Go.DI

def firstT (g : List Nd -> Option Nat) (e : Int) : List (List Nd) -> Nat -> Option (Int × Int × Int × Int)
 | [], _ => none
 | t :: ts, i => match g t with
  | some j => some (e, 0, (i : Int), (j : Int))
  | none => firstT g e ts (i + 1)
theorem firstT_some {g : List Nd -> Option Nat} {e : Int} {t : List Nd} {ts : List (List Nd)} {i j : Nat} (h : g t = some j) : firstT g e (t :: ts) i = some (e, 0, (i : Int), (j : Int)) := by rw [firstT, h]
theorem firstT_next {g : List Nd -> Option Nat} {e : Int} {t : List Nd} {ts : List (List Nd)} {i : Nat} (h : g t = none) : firstT g e (t :: ts) i = firstT g e ts (i + 1) := by rw [firstT, h]
def C3 (ts : List (List Nd)) : Int × Int × Int × Int := (firstT A3 13 ts 0).getD (0, 0, 0, 0)
def C2 (ts : List (List Nd)) : Int × Int × Int × Int := (firstT A2 12 ts 0).getD (C3 ts)
def C1 (ts : List (List Nd)) : Int × Int × Int × Int := (firstT A1 11 ts 0).getD (C2 ts)
def checkA (f : Int) (ts : List (List Nd)) : Int × Int × Int × Int := (firstT (A0 f) 8 ts 0).getD (C1 ts)
def checkF (f : Int) (ts : List (List Nd)) : Int × Int × Int × Int := if fitM f ts then checkA f ts else (1, 0, 0, 0)
theorem chk_l1_0 (f : Int) (ts : List (List Nd)) (hts : ts.length <= 64) (R : Int × Int × Int × Int) (hg : ∀ t ∈ ts, Ev (fun k => valid_ranges.f k t f) (ans 8 0 (A0 f t)))
 (hend : (∀ t ∈ ts, A0 f t = none) -> Ev (fun k => valid_Check.l0 k 1 f ts 0 0 0 0) R) : ∀ (b a : List (List Nd)), ts = a ++ b -> (∀ t ∈ a, A0 f t = none) ->
 Ev (fun k => valid_Check.l1 k 0 0 ts (ts.length : Int) (a.length : Int) f ts 0 0 0 0) ((firstT (A0 f) 8 b a.length).getD R) := by
 intro b
 induction b with
 | nil =>
  intro a hr ha
  rw [List.append_nil] at hr
  subst hr
  have w1 : wrap64 (0 + 1) = 1 := by rw [wrap_id (by decide) (by decide)]; rfl
  refine Ev.succ ?_
  simp only [valid_Check.l1, w1]
  exact Ev.if_neg (by omega) (hend ha)
 | cons t b ih =>
  intro a hr ha
  have e1 := gt_at [] a t b
  have l1 := lt_at a t b
  rw [<- hr] at e1 l1
  have hl : ts.length = a.length + (b.length + 1) := by rw [hr, List.length_append, List.length_cons]
  have h1 := hg t (by rw [hr]; simp)
  refine Ev.succ ?_
  simp only [valid_Check.l1, e1, wr_at a t (show a.length <= 1125899906842624 by omega)]
  refine Ev.if_pos l1 (Ev.if_pos (nn0 _) (Ev.if_pos l1 (Ev.if_pos trivial (Ev.bind h1 ?_))))
  cases hx : A0 f t with
  | some j =>
   rw [firstT_some hx]
   exact Ev.if_pos (show (8 : Int) ≠ 0 by decide) (Ev.bind (Ev.now _) (Ev.now _))
  | none =>
   rw [firstT_next hx]
   have hih := ih (a ++ [t]) (by rw [hr]; simp) (fun s hs => by
    rcases List.mem_append.1 hs with h | h
    ·exact ha s h
    ·rw [List.mem_singleton.1 h]; exact hx)
   rw [List.length_append, List.length_singleton] at hih ⊢
   exact Ev.if_neg (fun h => h rfl) hih
theorem chk_l1_1 (f : Int) (ts : List (List Nd)) (hts : ts.length <= 64) (R : Int × Int × Int × Int) (hg : ∀ t ∈ ts, Ev (fun k => valid_shape.f k t) (ans 11 0 (A1 t)))
 (hend : (∀ t ∈ ts, A1 t = none) -> Ev (fun k => valid_Check.l0 k 2 f ts 0 0 0 0) R) : ∀ (b a : List (List Nd)), ts = a ++ b -> (∀ t ∈ a, A1 t = none) ->
 Ev (fun k => valid_Check.l1 k 1 1 ts (ts.length : Int) (a.length : Int) f ts 0 0 0 0) ((firstT (A1) 11 b a.length).getD R) := by
 intro b
 induction b with
 | nil =>
  intro a hr ha
  rw [List.append_nil] at hr
  subst hr
  have w1 : wrap64 (1 + 1) = 2 := by rw [wrap_id (by decide) (by decide)]; rfl
  refine Ev.succ ?_
  simp only [valid_Check.l1, w1]
  exact Ev.if_neg (by omega) (hend ha)
 | cons t b ih =>
  intro a hr ha
  have e1 := gt_at [] a t b
  have l1 := lt_at a t b
  rw [<- hr] at e1 l1
  have hl : ts.length = a.length + (b.length + 1) := by rw [hr, List.length_append, List.length_cons]
  have h1 := hg t (by rw [hr]; simp)
  refine Ev.succ ?_
  simp only [valid_Check.l1, e1, wr_at a t (show a.length <= 1125899906842624 by omega)]
  refine Ev.if_pos l1 (Ev.if_pos (nn0 _) (Ev.if_pos l1 (Ev.if_neg (by decide) (Ev.if_pos trivial (Ev.bind h1 ?_)))))
  cases hx : A1 t with
  | some j =>
   rw [firstT_some hx]
   exact Ev.if_pos (show (11 : Int) ≠ 0 by decide) (Ev.bind (Ev.now _) (Ev.now _))
  | none =>
   rw [firstT_next hx]
   have hih := ih (a ++ [t]) (by rw [hr]; simp) (fun s hs => by
    rcases List.mem_append.1 hs with h | h
    ·exact ha s h
    ·rw [List.mem_singleton.1 h]; exact hx)
   rw [List.length_append, List.length_singleton] at hih ⊢
   exact Ev.if_neg (fun h => h rfl) hih
theorem chk_l1_2 (f : Int) (ts : List (List Nd)) (hts : ts.length <= 64) (R : Int × Int × Int × Int) (hg : ∀ t ∈ ts, Ev (fun k => valid_covers.f k t) (ans 12 0 (A2 t)))
 (hend : (∀ t ∈ ts, A2 t = none) -> Ev (fun k => valid_Check.l0 k 3 f ts 0 0 0 0) R) : ∀ (b a : List (List Nd)), ts = a ++ b -> (∀ t ∈ a, A2 t = none) ->
 Ev (fun k => valid_Check.l1 k 2 2 ts (ts.length : Int) (a.length : Int) f ts 0 0 0 0) ((firstT (A2) 12 b a.length).getD R) := by
 intro b
 induction b with
 | nil =>
  intro a hr ha
  rw [List.append_nil] at hr
  subst hr
  have w1 : wrap64 (2 + 1) = 3 := by rw [wrap_id (by decide) (by decide)]; rfl
  refine Ev.succ ?_
  simp only [valid_Check.l1, w1]
  exact Ev.if_neg (by omega) (hend ha)
 | cons t b ih =>
  intro a hr ha
  have e1 := gt_at [] a t b
  have l1 := lt_at a t b
  rw [<- hr] at e1 l1
  have hl : ts.length = a.length + (b.length + 1) := by rw [hr, List.length_append, List.length_cons]
  have h1 := hg t (by rw [hr]; simp)
  refine Ev.succ ?_
  simp only [valid_Check.l1, e1, wr_at a t (show a.length <= 1125899906842624 by omega)]
  refine Ev.if_pos l1 (Ev.if_pos (nn0 _) (Ev.if_pos l1 (Ev.if_neg (by decide) (Ev.if_neg (by decide) (Ev.if_pos trivial (Ev.bind h1 ?_))))))
  cases hx : A2 t with
  | some j =>
   rw [firstT_some hx]
   exact Ev.if_pos (show (12 : Int) ≠ 0 by decide) (Ev.bind (Ev.now _) (Ev.now _))
  | none =>
   rw [firstT_next hx]
   have hih := ih (a ++ [t]) (by rw [hr]; simp) (fun s hs => by
    rcases List.mem_append.1 hs with h | h
    ·exact ha s h
    ·rw [List.mem_singleton.1 h]; exact hx)
   rw [List.length_append, List.length_singleton] at hih ⊢
   exact Ev.if_neg (fun h => h rfl) hih
theorem chk_l1_3 (f : Int) (ts : List (List Nd)) (hts : ts.length <= 64) (R : Int × Int × Int × Int) (hg : ∀ t ∈ ts, Ev (fun k => valid_sums.f k t) (ans 13 0 (A3 t)))
 (hend : (∀ t ∈ ts, A3 t = none) -> Ev (fun k => valid_Check.l0 k 4 f ts 0 0 0 0) R) : ∀ (b a : List (List Nd)), ts = a ++ b -> (∀ t ∈ a, A3 t = none) ->
 Ev (fun k => valid_Check.l1 k 3 3 ts (ts.length : Int) (a.length : Int) f ts 0 0 0 0) ((firstT (A3) 13 b a.length).getD R) := by
 intro b
 induction b with
 | nil =>
  intro a hr ha
  rw [List.append_nil] at hr
  subst hr
  have w1 : wrap64 (3 + 1) = 4 := by rw [wrap_id (by decide) (by decide)]; rfl
  refine Ev.succ ?_
  simp only [valid_Check.l1, w1]
  exact Ev.if_neg (by omega) (hend ha)
 | cons t b ih =>
  intro a hr ha
  have e1 := gt_at [] a t b
  have l1 := lt_at a t b
  rw [<- hr] at e1 l1
  have hl : ts.length = a.length + (b.length + 1) := by rw [hr, List.length_append, List.length_cons]
  have h1 := hg t (by rw [hr]; simp)
  refine Ev.succ ?_
  simp only [valid_Check.l1, e1, wr_at a t (show a.length <= 1125899906842624 by omega)]
  refine Ev.if_pos l1 (Ev.if_pos (nn0 _) (Ev.if_pos l1 (Ev.if_neg (by decide) (Ev.if_neg (by decide) (Ev.if_neg (by decide) (Ev.if_pos trivial (Ev.bind h1 ?_)))))))
  cases hx : A3 t with
  | some j =>
   rw [firstT_some hx]
   exact Ev.if_pos (show (13 : Int) ≠ 0 by decide) (Ev.bind (Ev.now _) (Ev.now _))
  | none =>
   rw [firstT_next hx]
   have hih := ih (a ++ [t]) (by rw [hr]; simp) (fun s hs => by
    rcases List.mem_append.1 hs with h | h
    ·exact ha s h
    ·rw [List.mem_singleton.1 h]; exact hx)
   rw [List.length_append, List.length_singleton] at hih ⊢
   exact Ev.if_neg (fun h => h rfl) hih
theorem check_ev (f : Int) (ts : List (List Nd)) (hp : ∀ t ∈ ts, ∀ n ∈ t, NdOk n) : Ev (fun k => valid_Check.f k f ts) (checkF f ts) := by
 unfold valid_Check.f checkF
 refine Ev.bind (fits_ev f ts) ?_
 by_cases hf : fitM f ts
 ·rw [if_pos hf]
  refine Ev.if_pos (decide_eq_true hf) ?_
  obtain ⟨g1, g2, g3, g4⟩ := hf
  have c4 : Ev (fun k => valid_Check.l0 k 4 f ts 0 0 0 0) (0, 0, 0, 0) := by
   refine Ev.succ ?_
   simp only [valid_Check.l0]
   exact Ev.if_neg (by decide) (Ev.now _)
  have c3 : (∀ t ∈ ts, A0 f t = none) -> Ev (fun k => valid_Check.l0 k 3 f ts 0 0 0 0) (C3 ts) := fun h0 => by
   refine Ev.succ ?_
   simp only [valid_Check.l0]
   exact Ev.if_pos (by decide) (chk_l1_3 f ts g3 _ (fun t ht => sums_ev f t (g4 t ht).2.1 (hp t ht) (A0_rng (h0 t ht))) (fun _ => c4) ts [] rfl (fun t ht => by cases ht))
  have c2 : (∀ t ∈ ts, A0 f t = none) -> Ev (fun k => valid_Check.l0 k 2 f ts 0 0 0 0) (C2 ts) := fun h0 => by
   refine Ev.succ ?_
   simp only [valid_Check.l0]
   exact Ev.if_pos (by decide) (chk_l1_2 f ts g3 _ (fun t ht => covers_ev t (g4 t ht).2.1 (hp t ht)) (fun _ => c3 h0) ts [] rfl (fun t ht => by cases ht))
  have c1 : (∀ t ∈ ts, A0 f t = none) -> Ev (fun k => valid_Check.l0 k 1 f ts 0 0 0 0) (C1 ts) := fun h0 => by
   refine Ev.succ ?_
   simp only [valid_Check.l0]
   exact Ev.if_pos (by decide) (chk_l1_1 f ts g3 _ (fun t ht => shape_ev f t (g4 t ht).2.1 (g4 t ht).1 (A0_rng (h0 t ht))) (fun _ => c2 h0) ts [] rfl (fun t ht => by cases ht))
  refine Ev.succ ?_
  simp only [valid_Check.l0]
  exact Ev.if_pos (by decide) (chk_l1_0 f ts g3 _ (fun t ht => ranges_ev t f (g4 t ht).2.1 (g4 t ht).2.2) c1 ts [] rfl (fun t ht => by cases ht))
 ·rw [if_neg hf]
  exact Ev.if_neg (by simp [hf]) (Ev.now _)
end Go.DI.Th
namespace Go.DI.Th
open Go Go.RowKit Go.DI

end Go.DI.Th
namespace Go.DI.Th
open Go Go.RowKit Go.DI

def vparse (x : ByteArray) : MR := if (readM x).2.2.1 ≠ 0 then (0, [], (readM x).2.2) else if (checkF (readM x).1 (readM x).2.1).1 ≠ 0 then (0, [], checkF (readM x).1 (readM x).2.1) else ((readM x).1, (readM x).2.1, 0, 0, 0, 0)
theorem vparse_ev (x : ByteArray) : Ev (fun k => valid_Parse.f k x) (vparse x) := by
 unfold valid_Parse.f vparse
 obtain ⟨h1, h2⟩ := readM_ok x
 refine Ev.bind (mread_ev x) ?_
 by_cases he : (readM x).2.2.1 ≠ 0
 ·rw [if_pos he]
  exact Ev.if_pos he (Ev.now _)
 ·rw [if_neg he]
  refine Ev.if_neg he (Ev.bind (check_ev (readM x).1 (readM x).2.1 h2) ?_)
  by_cases hc : (checkF (readM x).1 (readM x).2.1).1 ≠ 0
  ·exact Ev.if_pos hc ((Ev.now _).of_eq (if_pos hc).symm)
  ·exact Ev.if_neg hc ((Ev.now _).of_eq (if_neg hc).symm)
end Go.DI.Th
namespace Go.DI.Th
open Go Go.RowKit Go.DI

theorem mwrite_read (x : ByteArray) (hx : x.size <= 4000) (h0 : (readM x).2.2.1 = 0) : Ev (fun k => model_Write.f k (readM x).1 (readM x).2.1) (modelB (readM x).1.toNat (readM x).2.1, 0) := by
 have hok := readM_ok x
 obtain ⟨e1, g1, g2, g3, g4, g5, g6⟩ := readM_fits x hx h0
 generalize readM x = R at *
 obtain ⟨f, ts, er, rest⟩ := R
 have g1 : 0 <= f := g1
 have g2 : f <= 64 := g2
 have g3 : ts.length <= 64 := g3
 have g5 : (textW (ts.flatMap treeL)).length <= 560000 := g5
 have g4 : ∀ t ∈ ts, 1 <= t.length /\ t.length <= 255 /\ ∀ n ∈ t, NdG n := g4
 have hv : ∀ t ∈ ts, ∀ n ∈ t, NdOk n := hok.2
 have hfit : fitM f ts := ⟨g1, g2, g3, fun t ht => ⟨(g4 t ht).1, (g4 t ht).2.1, fun n hn => ((g4 t ht).2.2 n hn).ok⟩⟩
 have hsz : (modelB f.toNat ts).size <= 600000 := by
  have q2 := prN_small (n := f.toNat) (by omega)
  have q3 := prN_small (n := ts.length) (by omega)
  have e1 : (⟨#[100, 101, 110, 100, 114, 111, 110, 32, 49, 10, 102, 101, 97, 116, 117, 114, 101, 115, 32]⟩ : ByteArray).size = 19 := rfl
  have e2 : (⟨#[10, 116, 114, 101, 101, 115, 32]⟩ : ByteArray).size = 7 := rfl
  have e3 : endB.size = 4 := rfl
  have e4 : (treesB ts).size = (textW (ts.flatMap treeL)).length := by rw [size_toL, trees_text]
  unfold modelB headB
  simp only [ByteArray.size_append, nl_size, e1, e2, e3, e4]
  omega
 have hw := mwrite_ev f ts hv (Nat.le_trans hsz (by decide))
 unfold writeM at hw
 rw [if_pos hfit] at hw
 exact hw
theorem cutT_small (s : ByteArray) : (cutT s).size <= 4000 := by
 unfold cutT
 split
 ·rw [size_toL, toL_extract, List.length_take]
  omega
 ·omega
theorem limR (a b c d : Int) : ∃ r, limit_Right.f a b c d = some r := by
 unfold limit_Right.f
 repeat' (first | exact ⟨_, rfl⟩ | split)
theorem news_ev (s : ByteArray) (a b c d : Int) : Ev (fun k => dendronlaw31_FrontNews.f k s a b c d) true := by
 unfold dendronlaw31_FrontNews.f
 obtain ⟨r, hr⟩ := limR a b c d
 rw [hr]
 have hp := vparse_ev (cutT s)
 refine Ev.bind (Ev.now r) (Ev.bind hp ?_)
 cases r with
 | false => exact Ev.if_neg (fun e => by cases e) (Ev.now _)
 | true =>
  refine Ev.if_pos rfl ?_
  by_cases he : (vparse (cutT s)).2.2.1 = 0
  ·refine Ev.if_pos he ?_
   have hv : (readM (cutT s)).2.2.1 = 0 /\ vparse (cutT s) = ((readM (cutT s)).1, (readM (cutT s)).2.1, 0, 0, 0, 0) := by
    unfold vparse at he ⊢
    by_cases h1 : (readM (cutT s)).2.2.1 ≠ 0
    ·rw [if_pos h1] at he
     exact absurd he h1
    ·rw [if_neg h1] at he ⊢
     by_cases h2 : (checkF (readM (cutT s)).1 (readM (cutT s)).2.1).1 ≠ 0
     ·rw [if_pos h2] at he
      exact absurd he h2
     ·rw [if_neg h2]
      exact ⟨by omega, rfl⟩
   rw [hv.2]
   exact Ev.if_pos ⟨rfl, rfl, rfl⟩ (Ev.bind (mwrite_read _ (cutT_small s) hv.1) (Ev.if_pos rfl (Ev.now _)))
  ·exact Ev.if_neg he (Ev.now _)
end Go.DI.Th
