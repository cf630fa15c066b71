/- A part of the proof: laws and walks that the last text uses: own texts, and what of the words and walks that the kit's print lays for a seat is used (cut and joined by wip/pack.py). -/
import Derived.Stop.RegionWithIn
import Derived.Sort.QuietIn
import Derived.Test.YthngomhhimdolaaS9
section
namespace Go.Proofs.Ythngomhhimdolaa.H
open Go.RowKit Go.Shelf Go.Proofs.YthngomhhimdolaaW.PrintWords Go.Proofs.YthngomhhimdolaaW.PrintLast Go.Proofs.YthngomhhimdolaaW.PrintMore Go.Proofs.Ythngomhhimdolaa.P Go.Proofs.Ythngomhhimdolaa.R
set_option linter.unusedVariables false
theorem rdI_drop (l : List Int) (j : Nat) (h : j < l.length) : l.drop j = rd l (j : Nat) :: l.drop (j + 1) := by
 rw [List.drop_eq_getElem_cons h]
 unfold rd
 simp [List.getElem?_eq_getElem h]
theorem With_l0 (l : List Int) (t : Int) (hl : l.length ≤ 5000) : ∀ (n j k : Nat) (out : List Int) (put : Bool), l.length - j = n → n < k → j ≤ l.length → out.length ≤ j + 1 → (put = false → out.length ≤ j) →
  rescindref09_With.l0 k l t out put (j : Int) = some (if t ∈ l.drop j then l else if put = true then out ++ l.drop j else out ++ insL (l.drop j) t) := by
 intro n
 induction n with
 | zero =>
  intro j k out put hn hk hjl ho hp
  obtain ⟨k, rfl⟩ : ∃ m, k = m + 1 := ⟨k - 1, by omega⟩
  rw [rescindref09_With.l0, if_neg (by omega), List.drop_eq_nil_of_le (by omega)]
  have hnil : ¬ t ∈ ([] : List Int) := List.not_mem_nil
  cases put with
  | true => rw [if_neg hnil, if_pos rfl, if_pos rfl, List.append_nil]
  | false => rw [if_neg hnil, if_neg (by decide), if_pos (by have := hp rfl; omega), if_neg (by decide)]; rfl
 | succ n ih =>
  intro j k out put hn hk hjl ho hp
  obtain ⟨k, rfl⟩ : ∃ m, k = m + 1 := ⟨k - 1, by omega⟩
  have hj : j < l.length := by omega
  rw [rescindref09_With.l0, if_pos (by omega), if_pos (by omega), rdI_drop l j hj]
  by_cases h1 : rd l (j : Nat) = t
  ·rw [if_pos h1, if_pos (by rw [h1]; exact List.mem_cons_self)]
  ·have hmem : (t ∈ rd l (j : Nat) :: l.drop (j + 1)) ↔ t ∈ l.drop (j + 1) := by
    rw [List.mem_cons]; exact ⟨fun h => by rcases h with h | h; exact absurd h.symm h1; exact h, .inr⟩
   rw [if_neg h1]
   simp only [hmem]
   cases put with
   | true =>
    have hn2 := ih (j + 1) k (out ++ [rd l (j : Nat)]) true (by omega) (by omega) (by omega) (by simp; omega) (fun h => absurd h (by decide))
    rw [List.append_assoc] at hn2
    by_cases h2 : rd l (j : Nat) > t
    ·rw [if_pos h2, if_pos rfl, if_pos (by omega), wrap_nat j (by omega), hn2]; rfl
    ·rw [if_neg h2, if_pos (by omega), wrap_nat j (by omega), hn2]; rfl
   | false =>
    have ho' := hp rfl
    by_cases h2 : rd l (j : Nat) > t
    ·have hn2 := ih (j + 1) k ((out ++ [t]) ++ [rd l (j : Nat)]) true (by omega) (by omega) (by omega) (by simp; omega) (fun h => absurd h (by decide))
     rw [List.append_assoc, List.append_assoc] at hn2
     rw [if_pos h2, if_neg (by decide), if_pos (by omega), Option.bind_some, if_pos (by simp; omega), wrap_nat j (by omega), List.append_assoc, hn2]
     rw [insL, if_pos h2]; rfl
    ·have hn2 := ih (j + 1) k (out ++ [rd l (j : Nat)]) false (by omega) (by omega) (by omega) (by simp; omega) (by simp; omega)
     rw [List.append_assoc] at hn2
     rw [if_neg h2, if_pos (by omega), wrap_nat j (by omega), hn2]
     rw [insL, if_neg h2]
     simp only [List.append_assoc, List.singleton_append]
theorem ref09_With (l : List Int) (t : Int) (hl : l.length ≤ 5000) (k : Nat) (hk : l.length < k) : rescindref09_With.f k l t = some (withL l t) := by
 unfold rescindref09_With.f withL
 have := With_l0 l t hl l.length 0 k [] false (by omega) hk (by omega) (by simp) (by simp)
 rw [show ((0 : Nat) : Int) = 0 from rfl] at this
 rw [this, List.drop_zero]
 rfl
theorem withL_len (l : List Int) (t : Int) : (withL l t).length ≤ l.length + 1 := by
 have : ∀ l : List Int, (insL l t).length = l.length + 1 := fun l => by
  induction l with
  | nil => rfl
  | cons x xs ih => rw [insL]; split <;> simp [ih]
 unfold withL
 split
 ·omega
 ·rw [this]; omega
theorem Starts_l0 (l : List S68) (hl : l.length ≤ 4096) : ∀ (n j k : Nat) (out : List Int), l.length - j = n → 6000 + n < k → out.length ≤ j → j ≤ l.length →
  rescindref29_Starts.l0 k l out (j : Int) = some (((rises (l.drop j)).map (·.f1)).foldl withL out, 0) := by
 intro n
 induction n with
 | zero =>
  intro j k out hn hk ho hjl
  obtain ⟨k, rfl⟩ : ∃ m, k = m + 1 := ⟨k - 1, by omega⟩
  rw [rescindref29_Starts.l0, if_neg (by omega), List.drop_eq_nil_of_le (by omega)]; rfl
 | succ n ih =>
  intro j k out hn hk ho hjl
  obtain ⟨k, rfl⟩ : ∃ m, k = m + 1 := ⟨k - 1, by omega⟩
  have hj : j < l.length := by omega
  rw [rescindref29_Starts.l0, if_pos (by omega), if_pos (by omega), drop_rd l j hj]
  unfold rises
  rw [List.filter_cons]
  have hr : risesB (rd_T68 l (j : Nat)) = true ↔ 0 < (rd_T68 l (j : Nat)).f2 ∧ -1 < (rd_T68 l (j : Nat)).f1 := by unfold risesB; simp
  have hskip := ih (j + 1) k out (by omega) (by omega) (by omega) (by omega)
  unfold rises at hskip
  by_cases h1 : (rd_T68 l (j : Nat)).f2 > 0
  ·rw [if_pos h1]
   by_cases h2 : (rd_T68 l (j : Nat)).f1 ≥ 0
   ·rw [if_pos h2, ref09_With out _ (by omega) k (by omega), Option.bind_some, if_pos (hr.2 ⟨h1, by omega⟩), List.map_cons, List.foldl_cons, wrap_nat j (by omega)]
    have hlen := withL_len out (rd_T68 l (j : Nat)).f1
    exact ih (j + 1) k _ (by omega) (by omega) (by omega) (by omega)
   ·rw [if_neg h2, if_neg (fun h => by have := (hr.1 h).2; omega), wrap_nat j (by omega), hskip]
  ·rw [if_neg h1, if_neg (fun h => h1 (hr.1 h).1), wrap_nat j (by omega), hskip]
def startsE (l : List S68) : List Int × Int := if checkE l 1 = 0 then (startsL l, 0) else ([], checkE l 1)
theorem checkE_zero {l : List S68} {n : Int} (h : checkE l n = 0) : mayE l = true ∧ tableE l = true ∧ 1 ≤ n ∧ n ≤ 64 := by
 unfold checkE at h
 by_cases h1 : mayE l = true
 ·rw [if_pos h1] at h
  by_cases h2 : n < 1
  ·rw [if_pos h2] at h; omega
  ·rw [if_neg h2] at h
   by_cases h3 : n > 64
   ·rw [if_pos h3] at h; omega
   ·rw [if_neg h3] at h
    by_cases h4 : tableE l = true
    ·exact ⟨h1, h4, by omega, by omega⟩
    ·rw [if_neg h4] at h; omega
 ·rw [if_neg h1] at h; omega
theorem checkE_one {l : List S68} {n : Int} (h : checkE l n = 0) : checkE l 1 = 0 := by
 obtain ⟨h1, h2, _, _⟩ := checkE_zero h
 unfold checkE
 rw [if_pos h1, if_neg (by decide), if_neg (by decide), if_pos h2]
theorem ref29_Starts {l : List S68} {m : Nat} (hm : rowsLe m l) (hm2 : m ≤ 9223372036854775806) (k : Nat) (hk : 16000 + roundsOf m < k) : rescindref29_Starts.f k l = some (startsE l) := by
 unfold rescindref29_Starts.f startsE
 rw [ref29_check hm hm2 1 k hk, Option.bind_some]
 by_cases h : checkE l 1 = 0
 ·have hlen := ((mayE_iff l).1 (checkE_zero h).1).1
  rw [if_pos h, if_pos h]
  have := Starts_l0 l hlen l.length 0 k [] (by omega) (by omega) (by simp) (by omega)
  rw [show ((0 : Nat) : Int) = 0 from rfl, List.drop_zero, starts_ref] at this
  exact this
 ·rw [if_neg h, if_neg h]
theorem counts_starts_eq {l : List S68} (h : l.length ≤ 4096) : counts_starts.f l = some (startsL l) := by unfold counts_starts.f; rw [if_pos h]
theorem counts_Starts_eq {l : List S68} (hr : okRows l) (k : Nat) (hk : 0 < k) : counts_Starts.f k l = some (startsE l) := by
 unfold counts_Starts.f startsE
 rw [counts_may_eq hr 1 k hk, Option.bind_some]
 by_cases h : checkE l 1 = 0
 ·rw [if_pos h, if_pos h, counts_starts_eq ((mayE_iff l).1 (checkE_zero h).1).1]; rfl
 ·rw [if_neg h, if_neg h]
theorem u64_in {x : Int} (h1 : 0 ≤ x) (h2 : x < 9223372036854775808) : IntKind.u64.wrap x = x := by
 have : IntKind.u64.wrap x = x % 18446744073709551616 := by unfold IntKind.wrap; simp [IntKind.signed, IntKind.bits]
 rw [this]; omega
theorem Less_eq (a b : Int) : cmp_Less_int.f a b = some (decide (a < b)) := by
 unfold cmp_Less_int.f cmp_isNaN_int.f
 simp
theorem countP_lt : ∀ (l : List Int) (t : Int), l.Pairwise (· ≤ ·) → ∀ i, i < l.length → (rd l (i : Nat) < t ↔ i < l.countP (· < t))
 | [], t, _, i, h => by simp at h
 | x :: xs, t, hs, 0, _ => by
  have hx := List.pairwise_cons.1 hs
  have e : rd (x :: xs) ((0 : Nat) : Int) = x := rfl
  rw [e, List.countP_cons]
  by_cases h : x < t
  ·simp [h]
  ·have : xs.countP (· < t) = 0 := List.countP_eq_zero.2 fun y hy => by have := hx.1 y hy; simp; omega
   rw [this]; simp [h]
 | x :: xs, t, hs, i + 1, hi => by
  have hx := List.pairwise_cons.1 hs
  have e : rd (x :: xs) ((i + 1 : Nat) : Int) = rd xs (i : Nat) := by unfold rd; simp
  rw [e, countP_lt xs t hx.2 i (by simpa using hi), List.countP_cons]
  by_cases h : x < t
  ·simp [h]
  ·have : xs.countP (· < t) = 0 := List.countP_eq_zero.2 fun y hy => by have := hx.1 y hy; simp; omega
   rw [this]; simp [h]
theorem Search_l0 (l : List Int) (t : Int) (hs : l.Pairwise (· ≤ ·)) (hl : l.length ≤ 5000) (n : Int) : ∀ (d lo hi k : Nat), hi - lo ≤ d → d < k → lo ≤ hi → hi ≤ l.length → lo ≤ l.countP (· < t) → l.countP (· < t) ≤ hi →
  ∃ b, slices_BinarySearch_int_int.l0 k l t (l.length : Int) (lo : Int) (hi : Int) = some (((l.countP (· < t) : Nat) : Int), b) := by
 intro d
 induction d with
 | zero =>
  intro lo hi k hd hk h1 h2 h3 h4
  obtain ⟨k, rfl⟩ : ∃ m, k = m + 1 := ⟨k - 1, by omega⟩
  have he : l.countP (· < t) = lo := by omega
  rw [slices_BinarySearch_int_int.l0, if_neg (by omega), he]
  by_cases h5 : lo < l.length
  ·rw [if_pos (by omega), if_pos (by omega), if_pos (by omega)]
   by_cases h6 : rd l (lo : Nat) = t
   ·rw [if_pos h6]; exact ⟨_, rfl⟩
   ·rw [if_neg h6]
    unfold slices_isNaN_int.f
    rw [Option.bind_some]
    split
    ·rw [Option.bind_some]; exact ⟨_, rfl⟩
    ·exact ⟨_, rfl⟩
  ·rw [if_neg (by omega)]; exact ⟨_, rfl⟩
 | succ d ih =>
  intro lo hi k hd hk h1 h2 h3 h4
  by_cases hlt : lo < hi
  ·obtain ⟨k, rfl⟩ : ∃ m, k = m + 1 := ⟨k - 1, by omega⟩
   have hmid : wrap64 ((IntKind.u64.wrap (wrap64 ((lo : Int) + (hi : Int)))) / 2) = (((lo + hi) / 2 : Nat) : Int) := by
    rw [wrap_in (x := (lo : Int) + (hi : Int)) (by omega) (by omega), u64_in (by omega) (by omega), wrap_in (by omega) (by omega)]; omega
   obtain ⟨mid, hm⟩ : ∃ mid, mid = (lo + hi) / 2 := ⟨_, rfl⟩
   rw [← hm] at hmid
   rw [slices_BinarySearch_int_int.l0, if_pos (by omega), hmid]
   clear hmid
   rw [if_pos (by omega), if_pos (by omega), Less_eq, Option.bind_some]
   have hc := countP_lt l t hs mid (by omega)
   by_cases h5 : rd l (mid : Nat) < t
   ·rw [if_pos (decide_eq_true h5), wrap_nat mid (by omega)]
    have := hc.1 h5
    exact ih (mid + 1) hi k (by omega) (by omega) (by omega) (by omega) (by omega) (by omega)
   ·rw [if_neg (by rw [decide_eq_false h5]; decide)]
    have : ¬ mid < l.countP (· < t) := fun h => h5 (hc.2 h)
    exact ih lo mid k (by omega) (by omega) (by omega) (by omega) (by omega) (by omega)
  ·exact ih lo hi k (by omega) (by omega) h1 h2 h3 h4
theorem Search_eq (l : List Int) (t : Int) (hs : l.Pairwise (· ≤ ·)) (hl : l.length ≤ 5000) (k : Nat) (hk : 5000 < k) : ∃ b, slices_BinarySearch_int_int.f k l t = some (((l.countP (· < t) : Nat) : Int), b) := by
 unfold slices_BinarySearch_int_int.f
 have := Search_l0 l t hs hl 0 l.length 0 l.length k (by omega) (by omega) (by omega) (by omega) (by omega) List.countP_le_length
 rwa [show ((0 : Nat) : Int) = 0 from rfl] at this
end Go.Proofs.Ythngomhhimdolaa.H
end
section
namespace Go.Proofs.Ythngomhhimdolaa.H
open Go.RowKit Go.Shelf Go.Proofs.YthngomhhimdolaaW.PrintWords Go.Proofs.YthngomhhimdolaaW.PrintLast Go.Proofs.YthngomhhimdolaaW.PrintMore Go.Proofs.Ythngomhhimdolaa.P Go.Proofs.Ythngomhhimdolaa.R
set_option linter.unusedVariables false
set_option linter.unusedSimpArgs false
attribute [local go_sem] Oper.semAt_some
set_option maxHeartbeats 2000000 in
set_option maxRecDepth 100000 in
theorem Clone_calls (A : Option Addr) (c : Nat) (r : List S64) (w : World) (hr : Kd.C k64 w A r.length r) (hbytes : r.length * 32 ≤ 140737488355328) :
  Calls Try.prog 85 #[.slice A r.length c] w fun e w' => ∃ v, e = .returned v ∧ Kd.R k64 64 w' w.heap.size (fun _ => True) v r ∧ Below w.heap.size w w' := by
 have hm := Kd.C_max hr
 have HR := Lib.hid hr
 have HBY := Lib.hid hbytes
 clear hr hbytes
 obtain ⟨i0, hi0, hz0, hz1, hz2⟩ := info_parts info64
 have hu66 := Try.underlying66
 cases A with
 | none =>
  have h0 : r = [] := by
   by_cases h : 0 < r.length
   ·obtain ⟨ad, hA, _⟩ := HR.out.2.2 h
    cases hA
   ·exact List.length_eq_zero_iff.1 (by omega)
  subst h0
  have he : ∀ W, (binOp .eql 66 (.slice none 0 c) (.slice none 0 0)).run Try.prog W = .ok (.bool true) W := fun _ => rfl
  simp only [List.length_nil]
  go_enter Try.func85, Try.ntmps85
  go_wp2
  go_ret
  exact ⟨_, rfl, Kd.R_nil _ _ _ _ _, Below.refl _ _⟩
 | some ad =>
  have HO : Hid (Kd.R k64 64 (w.alloc (.cells #[] 64 (0, 0))) w.heap.size (fun _ => True) (.slice (some ⟨w.heap.size, 0, none⟩) 0 0) []) := Lib.hid (R_of_own_nil (World.ownsRow_made w (#[] : Array Value) 0 (Nat.le_refl _) (by unfold maxLen; omega) (by simp)))
  have HB := Lib.hid ((Below.refl w.heap.size w).alloc (Nat.le_refl _) (.cells #[] 64 (0, 0)))
  have he : ∀ W, (binOp .eql 66 (.slice (some ad) r.length c) (.slice none 0 0)).run Try.prog W = .ok (.bool false) W := fun _ => rfl
  go_enter Try.func85, Try.ntmps85
  go_wp2_with (at_builtin; refine Kd.R_append_rows k64 (Rr := k64.K (w.alloc (.cells #[] 64 (0, 0)))) (w0 := w) w.heap.size rfl _ _ 66 64 _ 32 rfl Try.underlying66 info64 rfl (by decide) (by decide) _ [] r (some ad) r.length c (fun _ => True) (fun _ => False) rfl rfl HO.out (Kd.C_below HR.out HB.out) (fun x cs hk => hk) (fun _ h => h.elim) (fun _ _ => trivial) HB.out HB.out.size (by simpa using HBY.out) ?_; intro v1 w2 hR2 hB2 _ _)
  go_ret
  exact ⟨_, rfl, by simpa using hR2, hB2⟩
theorem R_kc {α : Type} {d : Kd α} {e : Nat} {n₀ : Nat} {A B : World} {base : Nat} {ok : Nat → Prop} {v : Value} {xs : List α} (h : Kd.R d e A base ok v xs) (hk : KC n₀ A B) : Kd.R d e B base ok v xs :=
 Kd.R_mono (Kd.R_move (Kd.R_bound h) (fun k hk' => by
  obtain ⟨_, _, _, q, _, cells, hc⟩ := hk'
  rw [hc]; exact hk.keep _ _ hc rfl)) (fun _ hk => hk.1)
theorem R70_put {W : World} {base g n cap : Nat} {xs : List S70} (h : Kd.R k70 70 W base (fun _ => True) (.slice (some ⟨g, 0, none⟩) n cap) xs) (j : Nat) (hj : j < xs.length) (x : Int) :
  Kd.R k70 70 (W.setCell ⟨g, j * 2 + 1, none⟩ (.int .i64 x)) base (fun _ => True) (.slice (some ⟨g, 0, none⟩) n cap) (xs.set j ⟨(rd_T70 xs (j : Nat)).f0, x⟩) := by
 obtain ⟨h0, inner, ho, hl, hr⟩ := h
 have hl2 : inner.length = xs.length * 2 := hl
 obtain ⟨ho1, ho2⟩ := ho
 rcases ho2 with ⟨hv, _⟩ | ⟨g', cap', cur, hv, hb, hg, h1, h2, h3, h4⟩
 ·cases hv
 injection hv with hv1 hv2 hv3
 injection hv1 with hv1
 injection hv1 with hv1
 subst hv1; subst hv2; subst hv3
 refine ⟨fun _ _ => trivial, inner.set (j * 2 + 1) (.int .i64 x), ⟨by rw [List.length_set, List.length_set]; exact ho1, .inr ⟨g, cap, cur.setIfInBounds (j * 2 + 1) (.int .i64 x), by rw [List.length_set], hb, ?_, by rw [List.length_set]; exact h1, h2, by simpa using h3, ?_⟩⟩, by rw [List.length_set, List.length_set]; exact hl, fun i p hi => ?_⟩
 ·simp [World.setCell, Array.getElem?_modify, hg]
 ·rw [List.length_set, ← h4, Array.toList_setIfInBounds, List.take_set]
 ·have far : ∀ (y : S70) (cs : List Value), k70.M W base (fun k => True ∧ some k ≠ some g) y cs → k70.M (W.setCell ⟨g, j * 2 + 1, none⟩ (.int .i64 x)) base (fun k => True ∧ some k ≠ some g) y cs := fun y cs hM =>
   Kd.M_far hM (p := ⟨g, j * 2 + 1, none⟩) (fun k hk e => hk.2 (by rw [e])) _
  show k70.M _ base (fun k => True ∧ some k ≠ some g) p (((inner.set (j * 2 + 1) (.int .i64 x)).drop (i * 2)).take 2)
  by_cases hij : i = j
  ·subst hij
   rw [List.getElem?_set_self hj] at hi
   obtain rfl := Option.some.inj hi
   have hrd : xs[i]? = some (rd_T70 xs (i : Nat)) := by
    unfold rd_T70
    simp [List.getElem?_eq_getElem hj]
   obtain ⟨v0, hcs, hR⟩ := k70_openM (hr i _ hrd)
   have hcs2 : (inner.drop (i * 2)).take 2 = [v0, .int .i64 (rd_T70 xs (i : Nat)).f1] := hcs
   rw [List.drop_set, if_neg (by omega), List.take_set, hcs2, show i * 2 + 1 - i * 2 = 1 by omega]
   exact far _ _ (k70_mkM W base _ ⟨(rd_T70 xs (i : Nat)).f0, x⟩ hR)
  ·rw [List.getElem?_set_ne (Ne.symm hij)] at hi
   have hM := hr i p hi
   have hM2 : k70.M W base (fun k => True ∧ some k ≠ some g) p ((inner.drop (i * 2)).take 2) := hM
   have he : ((inner.set (j * 2 + 1) (.int .i64 x)).drop (i * 2)).take 2 = (inner.drop (i * 2)).take 2 := by
    rw [List.drop_set]
    by_cases hlt : j * 2 + 1 < i * 2
    ·rw [if_pos hlt]
    ·rw [if_neg hlt, List.take_set, List.set_eq_of_length_le (by rw [List.length_take]; omega)]
   rw [he]
   exact far _ _ hM2
end Go.Proofs.Ythngomhhimdolaa.H
end
section
namespace Go.Proofs.Ythngomhhimdolaa.R
open Go.RowKit Go.Proofs.YthngomhhimdolaaW.PrintWords Go.Proofs.YthngomhhimdolaaW.PrintLast Go.Proofs.YthngomhhimdolaaW.PrintMore
theorem start_round {P : Program} {ops : Array Oper} {Q : Exit → Act → World → Prop} {S : World → Prop} {ds : List Nat} {id n lp m : Nat} {a : Act} {w : World} (l : Array Bool) (hm : P.follows .mixedOrders = true) (hd : (ops.toList.all fun o => match o.op with | .defer _ => false | _ => true) = true) (hlo : ∀ a w, ¬ Q .outgrown a w)
  (hn : ops.size = n) (hl : Array.replicate n false = l) (hS : S w.drew) (h : S w.drew → wpAnyLast P .any ops Q S ds n l a w.drew) : (Code.region id ops true).wpIn (Fence.wide.inRound lp) m P Q a w := by
 subst hn
 subst hl
 refine wpIn_region_any hm (wpAnyIn_round (fun i o ho c e => ?_) hlo _ _ _ _ (wpAny_of_last _ _ _ _ (h hS)))
 have hmem : o ∈ ops.toList := List.mem_of_getElem? (by simpa using ho)
 have := List.all_eq_true.1 hd o hmem
 rw [e] at this
 simp at this
end Go.Proofs.Ythngomhhimdolaa.R
namespace Go.Proofs.Ythngomhhimdolaa.H
open Go.RowKit Go.Shelf Go.Proofs.YthngomhhimdolaaW.PrintWords Go.Proofs.YthngomhhimdolaaW.PrintLast Go.Proofs.YthngomhhimdolaaW.PrintMore Go.Proofs.Ythngomhhimdolaa.P Go.Proofs.Ythngomhhimdolaa.R
set_option linter.unusedVariables false
set_option linter.unusedSimpArgs false
attribute [local go_sem] Oper.semAt_some
def stepW (a b : Int) (cs : List S70) (x : S68) : List S70 :=
 if x.f1 < a ∨ b ≤ x.f1 then cs
 else if 0 < cs.length ∧ sameR (rd_T70 cs ((cs.length - 1 : Nat) : Int)).f0 x.f0 = true then cs.set (cs.length - 1) ⟨(rd_T70 cs ((cs.length - 1 : Nat) : Int)).f0, wrap64 ((rd_T70 cs ((cs.length - 1 : Nat) : Int)).f1 + x.f2)⟩
 else cs ++ [⟨x.f0, x.f2⟩]
def windowF (a b : Int) (l : List S68) : List S70 := l.foldl (stepW a b) []
theorem windowF_snoc (a b : Int) (l : List S68) (x : S68) : windowF a b (l ++ [x]) = stepW a b (windowF a b l) x := by unfold windowF; rw [List.foldl_append]; rfl
theorem stepW_len (a b : Int) (cs : List S70) (x : S68) : (stepW a b cs x).length ≤ cs.length + 1 := by
 unfold stepW; split
 ·omega
 ·split <;> simp
theorem windowF_len (a b : Int) (l : List S68) : (windowF a b l).length ≤ l.length := by
 suffices h : ∀ (l : List S68) (cs : List S70), (l.foldl (stepW a b) cs).length ≤ cs.length + l.length by simpa [windowF] using h l []
 intro l
 induction l with
 | nil => intro cs; simp
 | cons x xs ih =>
  intro cs
  rw [List.foldl_cons]
  have h1 := ih (stepW a b cs x)
  have h2 := stepW_len a b cs x
  simp only [List.length_cons]; omega
structure WinI (w : World) (u : Value) (a b : Int) (pre : List S68) (W : World) : Prop where
 below : Below w.heap.size w W
 bl : Boxed W (w.heap.size + 2) 22 u
 res : W.heap[w.heap.size]? = some (.cells #[.int .i64 0, .int .i64 0, .slice none 0 0] 52 (0, 0))
 p : ∃ v, W.heap[w.heap.size + 1]? = some (.cells #[.int .i64 a, .int .i64 b, v] 52 (0, 0)) ∧ Kd.R k70 70 W w.heap.size (fun _ => True) v (windowF a b pre)
theorem WinI.kc {w : World} {u : Value} {a b : Int} {pre : List S68} {A B : World} (h : WinI w u a b pre A) (hk : KC w.heap.size A B) : WinI w u a b pre B :=
 ⟨hk.below h.below (Nat.le_refl _), hk.obj h.bl, hk.obj h.res, by obtain ⟨v, h1, h2⟩ := h.p; exact ⟨v, hk.obj h1, R_kc h2 hk⟩⟩
theorem appR_kb {n₀ c m : Nat} {W w1 : World} {v v' : Value} {ob : Addr} (hb : ∀ k, v.ownBlock = some k → n₀ ≤ k ∧ k < W.heap.size ∧ ∃ cells, W.heap[k]? = some (.cells cells 70 (0, 0))) (hgrow : W.grownBy w1 v.ownBlock) (hB : n₀ ≤ ob.block) (hBc : ob.block < c)
  (hp : ∀ k, c ≤ k → k < m → ∃ u, Boxed W k 22 u) : KB (Prun n₀ c m) W (w1.setCell ob v') := by
 refine ((KB.refl _ W).grown hgrow (fun j o hj ho hq => ?_)).setCell _ _ (fun o ho hq => prun_no hB hBc hq)
 obtain ⟨h1, h2, cells, h3⟩ := hb j hj
 rw [h3] at ho
 obtain rfl := Option.some.inj ho
 rcases hq with hq | ⟨h4, h5 | h5 | ⟨u, h5⟩⟩
 ·omega
 ·obtain ⟨u, hu⟩ := hp j h4 h5
  rw [show W.heap[j]? = _ from hu] at h3
  cases h3
 ·cases h5
 ·cases h5
set_option maxHeartbeats 4000000 in
set_option maxRecDepth 100000 in
theorem window_add {r0 r1 r2 asg rest x1 x2 x3 code : Code} (hcode : Try.f48.body = some (.seq r0 (.seq r1 (.seq (.seq r2 (.block 0 (.rangeFunc (.tmp 21) #[22] asg (.block 1 (.seq x1 (.seq x2 (.seq x3 code))))))) rest)))) (A : Option Addr) (c : Nat) (l : List S68) (g o m cc : Nat) (a b' z : Int) (w : World) (lp b : Nat) (pre : List S68) (x : S68) (A1 : Option Addr) (c1 : Nat) (W W1 : World) (m0 : Nat) (hm0 : m0 = w.heap.size + 3) (cs : List S70) (hcs : cs = windowF a b' pre)
  (hkb : KB (Prun w.heap.size (w.heap.size + 2) m0) W W1) (hi : WinI w (.slice A l.length c) a b' pre W1) (hc1 : x.f0.length ≤ c1) (hrx : Kd.C k64 W1 A1 x.f0.length x.f0) (hbx : W1.heap[b]? = some (.cells #[.slice A1 x.f0.length c1, .int .i64 x.f1, .int .i64 x.f2] 68 (0, 0))) (t7 t23 t24 t25 t26 t27 t28 t29 t30 t31 t32 t33 t34 t35 t36 t37 t38 t39 t40 t41 t42 t43 t44 t45 t46 t47 t48 t49 t50 t51 t52 t53 : Value)
  (hst : stepW a b' cs x = cs ++ [⟨x.f0, x.f2⟩]) (hlen : cs.length < 4096) (hx32 : x.f0.length * 32 ≤ 140737488355328) :
  code.wpIn (Fence.wide.inRound lp) 3 Try.prog (Exit.inBlock 1 (postM (Prun w.heap.size (w.heap.size + 2) m0) (WinI w (.slice A l.length c) a b') (fun _ _ => False) (pre ++ [x]) W))
   { tmps := #[.slice A l.length c, .slice (some ⟨g, o, none⟩) (m + 1) cc, undef, undef, .pointer (some ⟨w.heap.size, 0, none⟩), .pointer (some ⟨w.heap.size + 1, 0, none⟩), .pointer (some ⟨b, 0, none⟩), t7, .slice (some ⟨g, o, none⟩) (m + 1) cc, .pointer (some ⟨g, o, none⟩), .int .i64 a, .slice (some ⟨g, o, none⟩) (m + 1) cc, .slice (some ⟨g, o, none⟩) (m + 1) cc, .int .i64 (m + 1), .int .i64 m, .pointer (some ⟨g, o + m, none⟩), .int .i64 z, .int .i64 b', .agg #[.int .i64 a, .int .i64 b'], .agg #[.int .i64 a, .int .i64 b', .slice none 0 0], .slice A l.length c, .func (.func 111) #[] #[.pointer (some ⟨w.heap.size + 2, 0, none⟩)], .agg #[.slice A1 x.f0.length c1, .int .i64 x.f1, .int .i64 x.f2], t23, t24, t25, t26, t27, t28, t29, t30, t31, t32, t33, t34, t35, t36, t37, t38, t39, t40, t41, t42, t43, t44, t45, t46, t47, t48, t49, t50, t51, t52, t53, undef, undef, undef, undef, undef, undef, undef, undef, undef, undef, undef, undef, undef, undef, undef, undef, undef, undef, undef, undef, undef, undef, undef], defers := [] } W1 := by
 unfold Try.f48 at hcode
 injection hcode with hcode
 injection hcode with _ hcode
 injection hcode with _ hcode
 injection hcode with hcode _
 injection hcode with _ hcode
 injection hcode with _ hcode
 injection hcode with _ _ _ hcode
 injection hcode with _ hcode
 injection hcode with _ hcode
 injection hcode with _ hcode
 injection hcode with _ hcode
 subst hcode
 obtain ⟨v, hp, hR⟩ := hi.p
 have hp2 : W1.cell? ⟨w.heap.size + 1, 2, none⟩ = some v := by simp [World.cell?, hp]
 have hx0 : W1.cell? ⟨b, 0, none⟩ = some (.slice A1 x.f0.length c1) := by simp [World.cell?, hbx]
 have hx2 : W1.cell? ⟨b, 2, none⟩ = some (.int .i64 x.f2) := by simp [World.cell?, hbx]
 have HC2 := Lib.hid (And.intro hp2 (And.intro hx0 hx2))
 have HSN := Lib.hid (windowF_snoc a b' pre x)
 have HI := Lib.hid hi
 have HP := Lib.hid hp
 have HRX := Lib.hid hrx
 have HBX := Lib.hid hbx
 rw [← hcs] at hR HSN
 have HRR := Lib.hid hR
 have H32 := Lib.hid hx32
 have HKB := Lib.hid hkb
 have HST := Lib.hid hst
 clear hi hp hrx hbx hR hx32 hcs hkb hst
 refine start_round (n := 12) (S := fun w' => w'.cell? ⟨w.heap.size + 1, 2, none⟩ = some v ∧ w'.cell? ⟨b, 0, none⟩ = some (.slice A1 x.f0.length c1) ∧ w'.cell? ⟨b, 2, none⟩ = some (.int .i64 x.f2)) (ds := [11]) #[false, false, false, false, false, false, false, false, false, false, false, false] (by kernel_rfl) (by kernel_rfl) (fun _ _ h => h.elim) rfl rfl ⟨hp2, hx0, hx2⟩ (fun hHeld => ?_)
 refine pure_ (i := 0) (N := some 65) (v := ?_) (a' := ?_) #[true, false, false, false, false, false, false, false, false, false, false, false] rfl rfl (by kernel_rfl) (fun _ _ _ h => h) (Or.inl ⟨by rfl, ?_⟩) ?_ ?_
 rotate_left; (intro w'; go_simp; with_reducible rfl); rotate_left; (simp only [Act.put, List.setIfInBounds_toArray, List.set_cons_zero, List.set_cons_succ, i64_w, i32_w]; rfl)
 refine pure_ (i := 2) (N := some 67) (v := ?_) (a' := ?_) #[true, false, true, false, false, false, false, false, false, false, false, false] rfl rfl (by kernel_rfl) (fun _ _ _ h => h) (Or.inl ⟨by rfl, ?_⟩) ?_ ?_
 rotate_left; (intro w'; go_simp; with_reducible rfl); rotate_left; (simp only [Act.put, List.setIfInBounds_toArray, List.set_cons_zero, List.set_cons_succ, i64_w, i32_w]; rfl)
 refine pure_ (i := 5) (N := some 70) (v := ?_) (a' := ?_) #[true, false, true, false, false, true, false, false, false, false, false, false] rfl rfl (by kernel_rfl) (fun _ _ _ h => h) (Or.inl ⟨by rfl, ?_⟩) ?_ ?_
 rotate_left; (intro w'; go_simp; with_reducible rfl); rotate_left; (simp only [Act.put, List.setIfInBounds_toArray, List.set_cons_zero, List.set_cons_succ, i64_w, i32_w]; rfl)
 refine take_ (i := 1) (N := some 66) (v := ?_) (a' := ?_) #[true, true, true, false, false, true, false, false, false, false, false, false] rfl rfl (by kernel_rfl) (fun _ _ _ h => h) (Or.inl ⟨by rfl, ?_⟩) hHeld ?_ ?_
 rotate_left; (rintro w' ⟨s0, s1, s2⟩; go_simp; with_reducible rfl); rotate_left; (simp only [Act.put, List.setIfInBounds_toArray, List.set_cons_zero, List.set_cons_succ, i64_w, i32_w]; rfl)
 refine take_ (i := 3) (N := some 68) (v := ?_) (a' := ?_) #[true, true, true, true, false, true, false, false, false, false, false, false] rfl rfl (by kernel_rfl) (fun _ _ _ h => h) (Or.inl ⟨by rfl, ?_⟩) hHeld ?_ ?_
 rotate_left; (rintro w' ⟨s0, s1, s2⟩; go_simp; with_reducible rfl); rotate_left; (simp only [Act.put, List.setIfInBounds_toArray, List.set_cons_zero, List.set_cons_succ, i64_w, i32_w]; rfl)
 refine take_ (i := 6) (N := some 71) (v := ?_) (a' := ?_) #[true, true, true, true, false, true, true, false, false, false, false, false] rfl rfl (by kernel_rfl) (fun _ _ _ h => h) (Or.inl ⟨by rfl, ?_⟩) hHeld ?_ ?_
 rotate_left; (rintro w' ⟨s0, s1, s2⟩; go_simp; with_reducible rfl); rotate_left; (simp only [Act.put, List.setIfInBounds_toArray, List.set_cons_zero, List.set_cons_succ, i64_w, i32_w]; rfl)
 refine one_ (i := 4) (N := some 69) #[true, true, true, true, true, true, true, false, false, false, false, false] rfl rfl (by kernel_rfl) (by decide) (fun K hK => ?_)
 refine goes_ Try.func85 (by kernel_rfl) rfl #[.slice A1 x.f0.length c1] (by rfl) rfl rfl (by (try simp only [List.map_toArray, List.map_cons, List.map_nil]); first | done | rfl) ?_
 refine (Clone_calls A1 c1 x.f0 W1.drew (Kd.C_below HRX.out (Below.refl _ _).drew) H32.out).mono ?_
 rintro e w2 ⟨v2, rfl, hR2, hb2⟩
 refine ⟨v2, rfl, ?_⟩
 obtain ⟨A2, c2, rfl⟩ := Kd.R_slice hR2
 have HB2 := Lib.hid ((Below.refl W1.heap.size W1).drew.trans hb2)
 have HR2 := Lib.hid hR2
 clear hR2 hb2
 have hp2 : w2.cell? ⟨w.heap.size + 1, 2, none⟩ = some v := (Below.cell HB2.out (World.block_lt_of_cell? W1 _ HC2.out.1)).trans HC2.out.1
 have hx0 : w2.cell? ⟨b, 0, none⟩ = some (.slice A1 x.f0.length c1) := (Below.cell HB2.out (World.block_lt_of_cell? W1 _ HC2.out.2.1)).trans HC2.out.2.1
 have hx2 : w2.cell? ⟨b, 2, none⟩ = some (.int .i64 x.f2) := (Below.cell HB2.out (World.block_lt_of_cell? W1 _ HC2.out.2.2)).trans HC2.out.2.2
 refine hK.out _ _ ⟨hp2, hx0, hx2⟩ (fun hHeld => ?_)
 clear hK K
 refine norm_ (a' := ?_) ?_ ?_
 rotate_left
 ·show Act.put _ (some 69) _ = _
  simp only [Act.put, List.setIfInBounds_toArray, List.set_cons_zero, List.set_cons_succ, i64_w, i32_w]
  rfl
 refine pure_ (i := 7) (N := some 72) (v := ?_) (a' := ?_) #[true, true, true, true, true, true, true, true, false, false, false, false] rfl rfl (by kernel_rfl) (fun _ _ _ h => h) (Or.inl ⟨by rfl, ?_⟩) ?_ ?_
 rotate_left; (intro w'; go_simp; with_reducible rfl); rotate_left; (simp only [Act.put, List.setIfInBounds_toArray, List.set_cons_zero, List.set_cons_succ, i64_w, i32_w]; rfl)
 refine one_ (i := 8) (N := some 73) #[true, true, true, true, true, true, true, true, true, false, false, false] rfl rfl (by kernel_rfl) (by decide) (fun K hK => ?_)
 refine value_ (w1 := ?_) (v := ?_) (by rfl) rfl ?_ ?_
 rotate_left 2
 ·go_simp
  constructor
  ·rfl
  ·rfl
 refine hK.out _ _ ⟨(World.cell?_alloc_lt _ _ _ (World.block_lt_of_cell? _ _ hp2)).trans hp2, (World.cell?_alloc_lt _ _ _ (World.block_lt_of_cell? _ _ hx0)).trans hx0, (World.cell?_alloc_lt _ _ _ (World.block_lt_of_cell? _ _ hx2)).trans hx2⟩ (fun hHeld => ?_)
 clear hK K
 refine norm_ (a' := ?_) ?_ ?_
 rotate_left
 ·show Act.put _ (some 73) _ = _
  simp only [Act.put, List.setIfInBounds_toArray, List.set_cons_zero, List.set_cons_succ, i64_w, i32_w]
  rfl
 refine one_ (i := 9) (N := some 74) #[true, true, true, true, true, true, true, true, true, true, false, false] rfl rfl (by kernel_rfl) (by decide) (fun K hK => ?_)
 refine Kd.R_append_step k70 (W := w2) (w0 := W1) w.heap.size (by rfl) (.tmp 66) (.tmp 73) 50 70 (.agg #[(.slice none 0 0), (.int .i64 0)]) 32 rfl Try.underlying50 info70 rfl (by decide) (by decide) v cs (⟨x.f0, x.f2⟩ : S70) [.slice A2 x.f0.length c2, .int .i64 x.f2] (fun _ => True) (fun k => W1.heap.size ≤ k) rfl rfl ?aP ?aK ?aF ?aO ?aB ?aS ?aL ?_
 (case aP => exact k70_mkM _ _ _ (⟨x.f0, x.f2⟩ : S70) (Kd.R_lower (Kd.R_mono (Kd.R_bound HR2.out) (fun k hk => hk.2.1)) HI.out.below.size))
 (case aK => exact (fun k hk => ⟨trivial, fun e => by have := Kd.R_lt HRR.out k e.symm; omega⟩))
 (case aF => exact (fun _ _ => trivial))
 (case aO => exact Kd.R_below HRR.out HB2.out)
 (case aB => exact HB2.out.mono HI.out.below.size)
 (case aS => exact Nat.le_trans HI.out.below.size HB2.out.size)
 (case aL => omega)
 intro v1 w3 hR3 hB3 hg3 hat3
 have hT := Kd.R_typed HRR.out
 have hne : ∀ (k : Nat) (cells : Array Value) (t : TypeId), t ≠ 70 → W1.heap[k]? = some (.cells cells t (0, 0)) → w3.heap[k]? = some (.cells cells t (0, 0)) := fun k cells t ht hk => by
  refine (hg3.block k (Nat.lt_of_lt_of_le (lt_of_some hk) HB2.out.size) (fun e => ?_)).trans ((HB2.out.block k (lt_of_some hk)).trans hk)
  obtain ⟨cells', hc'⟩ := hT k e.symm
  rw [hk] at hc'
  injection hc' with hc'
  injection hc' with _ hc' _
  exact ht hc'
 have hbp := hne _ _ _ (by decide) HP.out
 have hbb := hne _ _ _ (by decide) HBX.out
 have hp3 : w3.cell? ⟨w.heap.size + 1, 2, none⟩ = some v := by simp [World.cell?, hbp]
 have hpf3 : w3.frozen? ⟨w.heap.size + 1, 2, none⟩ = false := by simp [World.frozen?, hbp]
 have hx03 : w3.cell? ⟨b, 0, none⟩ = some (.slice A1 x.f0.length c1) := by simp [World.cell?, hbb]
 have hx23 : w3.cell? ⟨b, 2, none⟩ = some (.int .i64 x.f2) := by simp [World.cell?, hbb]
 obtain ⟨A3, c3, hv1⟩ := Kd.R_slice hR3
 subst hv1
 have HR3 := Lib.hid hR3
 have HB3 := Lib.hid hB3
 have HG3 := Lib.hid hg3
 have HNE := Lib.hid hne
 have HBP := Lib.hid hbp
 have HAT := Lib.hid hat3
 clear hR3 hB3 hg3 hat3 hT hbp hbb hne
 refine hK.out _ _ ⟨hp3, hx03, hx23⟩ (fun hHeld => ?_)
 clear hK K
 refine norm_ (a' := ?_) ?_ ?_
 rotate_left
 ·show Act.put _ (some 74) _ = _
  simp only [Act.put, List.setIfInBounds_toArray, List.set_cons_zero, List.set_cons_succ, i64_w, i32_w]
  rfl
 refine pure_ (i := 10) (N := some 75) (v := ?_) (a' := ?_) #[true, true, true, true, true, true, true, true, true, true, true, false] rfl rfl (by kernel_rfl) (fun _ _ _ h => h) (Or.inl ⟨by rfl, ?_⟩) ?_ ?_
 rotate_left; (intro w'; go_simp; with_reducible rfl); rotate_left; (simp only [Act.put, List.setIfInBounds_toArray, List.set_cons_zero, List.set_cons_succ, i64_w, i32_w]; rfl)
 refine last_ (i := 11) (N := none) #[true, true, true, true, true, true, true, true, true, true, true, true] rfl rfl (by kernel_rfl) (by decide) (fun K hK => ?_)
 refine skip_ (w1 := ?_) (by rfl) rfl ?_ ?_
 rotate_left
 ·go_simp
  rfl
 refine hK.out _ _ ?_
 clear hK K
 refine done_ (by kernel_rfl) ?_
 have HR2b := Kd.R_below HRR.out HB2.out
 have HK1 : KB (Prun w.heap.size (w.heap.size + 2) m0) w2 (w3.setCell ⟨w.heap.size + 1, 2, none⟩ (.slice A3 (cs.length + 1) c3)) := by
  refine appR_kb (ob := ⟨w.heap.size + 1, 2, none⟩) (fun k hk => ⟨Kd.R_base HR2b k hk, Kd.R_lt HR2b k hk, Kd.R_typed HR2b k hk⟩) HG3.out (Nat.le_add_right _ _) (Nat.lt_succ_self _) (fun k h1 h2 => ?_)
  obtain rfl : k = w.heap.size + 2 := by omega
  exact ⟨_, Boxed.below HI.out.bl HB2.out⟩
 refine ⟨(HKB.out.trans (KB.of_below HB2.out)).trans HK1, (HI.out.below.trans HB3.out).setCell (p := ⟨w.heap.size + 1, 2, none⟩) (Nat.le_add_right _ _) _, ?_, ?_, .slice A3 (cs.length + 1) c3, ?_, ?_⟩
 ·exact (Below.heap_setCell _ _ _ _ (by show w.heap.size + 2 ≠ w.heap.size + 1; omega)).trans (HNE.out _ _ _ (by decide) HI.out.bl)
 ·exact (Below.heap_setCell _ _ _ _ (by show w.heap.size ≠ w.heap.size + 1; omega)).trans (HNE.out _ _ _ (by decide) HI.out.res)
 ·show (w3.heap.modify (w.heap.size + 1) _)[w.heap.size + 1]? = _
  rw [Array.getElem?_modify, if_pos rfl, HBP.out]
  rfl
 ·rw [HSN.out, HST.out]
  have h1 := HR3.out
  rw [List.length_append] at h1
  exact Kd.R_set h1 HBP.out (by decide) _ _
set_option maxHeartbeats 4000000 in
set_option maxRecDepth 100000 in
theorem window_bump {r0 r1 r2 asg rest x1 x2 x4 x5 x6 x7 code : Code} {cnd : Operand} (hcode : Try.f48.body = some (.seq r0 (.seq r1 (.seq (.seq r2 (.block 0 (.rangeFunc (.tmp 21) #[22] asg (.block 1 (.seq x1 (.seq x2 (.seq (.seq x4 (.cond cnd (.seq code x5) x6)) x7))))))) rest)))) (A : Option Addr) (c : Nat) (l : List S68) (g o m cc : Nat) (a b' z : Int) (w : World) (lp b : Nat) (pre : List S68) (x : S68) (A1 : Option Addr) (c1 : Nat) (W W1 : World) (m0 : Nat) (hm0 : m0 = w.heap.size + 3) (cs : List S70) (hcs : cs = windowF a b' pre)
  (hkb : KB (Prun w.heap.size (w.heap.size + 2) m0) W W1) (hi : WinI w (.slice A l.length c) a b' pre W1) (hc1 : x.f0.length ≤ c1) (hrx : Kd.C k64 W1 A1 x.f0.length x.f0) (hbx : W1.heap[b]? = some (.cells #[.slice A1 x.f0.length c1, .int .i64 x.f1, .int .i64 x.f2] 68 (0, 0))) (t23 t24 t25 t26 t27 t28 t29 t30 t31 t32 t33 t34 t35 t36 t37 t38 t39 t40 t41 t42 t43 t44 t45 t46 t47 t48 t49 t50 t51 t52 t53 : Value)
  (n : Nat) (hn : cs.length = n + 1) (hlen : cs.length < 4096) (hst : stepW a b' cs x = cs.set n ⟨(rd_T70 cs (n : Nat)).f0, wrap64 ((rd_T70 cs (n : Nat)).f1 + x.f2)⟩) (Q : Exit → Act → World → Prop) (hQo : ∀ a w, ¬ Q .outgrown a w) (hQp : ∀ ch a w, ¬ Q (.panic ch) a w)
  (hQ : ∀ t54 t55 t56 t57 t58 t59 t60 t61 t62 t63 t64 W3, KB (Prun w.heap.size (w.heap.size + 2) m0) W W3 → WinI w (.slice A l.length c) a b' (pre ++ [x]) W3 → Q .normal { tmps := #[.slice A l.length c, .slice (some ⟨g, o, none⟩) (m + 1) cc, undef, undef, .pointer (some ⟨w.heap.size, 0, none⟩), .pointer (some ⟨w.heap.size + 1, 0, none⟩), .pointer (some ⟨b, 0, none⟩), .int .i64 n, .slice (some ⟨g, o, none⟩) (m + 1) cc, .pointer (some ⟨g, o, none⟩), .int .i64 a, .slice (some ⟨g, o, none⟩) (m + 1) cc, .slice (some ⟨g, o, none⟩) (m + 1) cc, .int .i64 (m + 1), .int .i64 m, .pointer (some ⟨g, o + m, none⟩), .int .i64 z, .int .i64 b', .agg #[.int .i64 a, .int .i64 b'], .agg #[.int .i64 a, .int .i64 b', .slice none 0 0], .slice A l.length c, .func (.func 111) #[] #[.pointer (some ⟨w.heap.size + 2, 0, none⟩)], .agg #[.slice A1 x.f0.length c1, .int .i64 x.f1, .int .i64 x.f2], t23, t24, t25, t26, t27, t28, t29, t30, t31, t32, t33, t34, t35, t36, t37, t38, t39, t40, t41, t42, t43, t44, t45, t46, t47, t48, t49, t50, t51, t52, t53, t54, t55, t56, t57, t58, t59, t60, t61, t62, t63, t64, undef, undef, undef, undef, undef, undef, undef, undef, undef, undef, undef, undef], defers := [] } W3) :
  code.wpIn (Fence.wide.inRound lp) 3 Try.prog Q
   { tmps := #[.slice A l.length c, .slice (some ⟨g, o, none⟩) (m + 1) cc, undef, undef, .pointer (some ⟨w.heap.size, 0, none⟩), .pointer (some ⟨w.heap.size + 1, 0, none⟩), .pointer (some ⟨b, 0, none⟩), .int .i64 n, .slice (some ⟨g, o, none⟩) (m + 1) cc, .pointer (some ⟨g, o, none⟩), .int .i64 a, .slice (some ⟨g, o, none⟩) (m + 1) cc, .slice (some ⟨g, o, none⟩) (m + 1) cc, .int .i64 (m + 1), .int .i64 m, .pointer (some ⟨g, o + m, none⟩), .int .i64 z, .int .i64 b', .agg #[.int .i64 a, .int .i64 b'], .agg #[.int .i64 a, .int .i64 b', .slice none 0 0], .slice A l.length c, .func (.func 111) #[] #[.pointer (some ⟨w.heap.size + 2, 0, none⟩)], .agg #[.slice A1 x.f0.length c1, .int .i64 x.f1, .int .i64 x.f2], t23, t24, t25, t26, t27, t28, t29, t30, t31, t32, t33, t34, t35, t36, t37, t38, t39, t40, t41, t42, t43, t44, t45, t46, t47, t48, t49, t50, t51, t52, t53, undef, undef, undef, undef, undef, undef, undef, undef, undef, undef, undef, undef, undef, undef, undef, undef, undef, undef, undef, undef, undef, undef, undef], defers := [] } W1 := by
 unfold Try.f48 at hcode
 injection hcode with hcode
 injection hcode with _ hcode
 injection hcode with _ hcode
 injection hcode with hcode _
 injection hcode with _ hcode
 injection hcode with _ hcode
 injection hcode with _ _ _ hcode
 injection hcode with _ hcode
 injection hcode with _ hcode
 injection hcode with _ hcode
 injection hcode with hcode _
 injection hcode with _ hcode
 injection hcode with _ hcode _
 injection hcode with hcode _
 subst hcode
 obtain ⟨v, hp, hR⟩ := hi.p
 rw [← hcs] at hR
 obtain ⟨gv, cv, rfl, hgv⟩ : ∃ gv cv, v = .slice (some ⟨gv, 0, none⟩) (n + 1) cv ∧ w.heap.size ≤ gv := by
  obtain ⟨g', cap, hv, hb, _⟩ := Kd.R_form hR (by omega)
  exact ⟨g', cap, by rw [hv, hn], hb⟩
 have hp2 : W1.cell? ⟨w.heap.size + 1, 2, none⟩ = some (.slice (some ⟨gv, 0, none⟩) (n + 1) cv) := by simp [World.cell?, hp]
 have hx2 : W1.cell? ⟨b, 2, none⟩ = some (.int .i64 x.f2) := by simp [World.cell?, hbx]
 obtain ⟨A', c', hv', hcc, hC⟩ := Kd.R_reads hR
 injection hv' with hv1 hv2 hv3
 obtain ⟨ad, A0, c0, hA, hd0, hd1, -, -⟩ := at_T70 hC (n : Nat) (by omega) (by rw [hn]; omega)
 rw [← hv1] at hA
 cases hA
 simp only [Int.toNat_natCast] at hd1
 have hcv : W1.cell? ⟨gv, n * 2 + 1, none⟩ = some (.int .i64 (rd_T70 cs (n : Nat)).f1) := by
  have h1 : ((⟨gv, 0, none⟩ : Addr).add (n * 2)) = ⟨gv, n * 2, none⟩ := by unfold Addr.add; split <;> simp_all
  rw [h1] at hd1; exact hd1
 obtain ⟨cells, htv⟩ := Kd.R_typed hR gv rfl
 have hfv : W1.frozen? ⟨gv, n * 2 + 1, none⟩ = false := by simp [World.frozen?, htv]
 have hi1 : (n : Int) < (n : Int) + 1 := by omega
 have hi2 : (0 : Int) ≤ (n : Int) := by omega
 have HSN := Lib.hid (windowF_snoc a b' pre x)
 have HI := Lib.hid hi
 have HP := Lib.hid hp
 have HBX := Lib.hid hbx
 rw [← hcs] at HSN
 have HRR := Lib.hid hR
 have HKB := Lib.hid hkb
 have HST := Lib.hid hst
 have HTV := Lib.hid htv
 have HQ := Lib.hid hQ
 clear hi hp hrx hbx hR hcs hkb hst htv hC hd0 hd1 hQ hv1 hv2 hv3 hcc
 refine start_round (n := 12) (S := fun w' => w'.cell? ⟨w.heap.size + 1, 2, none⟩ = some (.slice (some ⟨gv, 0, none⟩) (n + 1) cv) ∧ w'.cell? ⟨b, 2, none⟩ = some (.int .i64 x.f2) ∧ w'.cell? ⟨gv, n * 2 + 1, none⟩ = some (.int .i64 (rd_T70 cs (n : Nat)).f1)) (ds := [11]) #[false, false, false, false, false, false, false, false, false, false, false, false] (by kernel_rfl) (by kernel_rfl) hQo rfl rfl ⟨hp2, hx2, hcv⟩ (fun hHeld => ?_)
 refine pure_ (i := 0) (N := some 54) (v := ?_) (a' := ?_) #[true, false, false, false, false, false, false, false, false, false, false, false] rfl rfl (by kernel_rfl) (fun _ _ _ h => (hQp _ _ _ h).elim) (Or.inl ⟨by rfl, ?_⟩) ?_ ?_
 rotate_left; (intro w'; go_simp; with_reducible rfl); rotate_left; (simp only [Act.put, List.setIfInBounds_toArray, List.set_cons_zero, List.set_cons_succ, i64_w, i32_w]; rfl)
 refine pure_ (i := 2) (N := some 56) (v := ?_) (a' := ?_) #[true, false, true, false, false, false, false, false, false, false, false, false] rfl rfl (by kernel_rfl) (fun _ _ _ h => (hQp _ _ _ h).elim) (Or.inl ⟨by rfl, ?_⟩) ?_ ?_
 rotate_left; (intro w'; go_simp; with_reducible rfl); rotate_left; (simp only [Act.put, List.setIfInBounds_toArray, List.set_cons_zero, List.set_cons_succ, i64_w, i32_w]; rfl)
 refine pure_ (i := 6) (N := some 60) (v := ?_) (a' := ?_) #[true, false, true, false, false, false, true, false, false, false, false, false] rfl rfl (by kernel_rfl) (fun _ _ _ h => (hQp _ _ _ h).elim) (Or.inl ⟨by rfl, ?_⟩) ?_ ?_
 rotate_left; (intro w'; go_simp; with_reducible rfl); rotate_left; (simp only [Act.put, List.setIfInBounds_toArray, List.set_cons_zero, List.set_cons_succ, i64_w, i32_w]; rfl)
 refine take_ (i := 1) (N := some 55) (v := ?_) (a' := ?_) #[true, true, true, false, false, false, true, false, false, false, false, false] rfl rfl (by kernel_rfl) (fun _ _ _ h => (hQp _ _ _ h).elim) (Or.inl ⟨by rfl, ?_⟩) hHeld ?_ ?_
 rotate_left; (rintro w' ⟨s0, s1, s2⟩; go_simp; with_reducible rfl); rotate_left; (simp only [Act.put, List.setIfInBounds_toArray, List.set_cons_zero, List.set_cons_succ, i64_w, i32_w]; rfl)
 refine take_ (i := 7) (N := some 61) (v := ?_) (a' := ?_) #[true, true, true, false, false, false, true, true, false, false, false, false] rfl rfl (by kernel_rfl) (fun _ _ _ h => (hQp _ _ _ h).elim) (Or.inl ⟨by rfl, ?_⟩) hHeld ?_ ?_
 rotate_left; (rintro w' ⟨s0, s1, s2⟩; go_simp; with_reducible rfl); rotate_left; (simp only [Act.put, List.setIfInBounds_toArray, List.set_cons_zero, List.set_cons_succ, i64_w, i32_w]; rfl)
 refine pure_ (i := 3) (N := some 57) (v := ?_) (a' := ?_) #[true, true, true, true, false, false, true, true, false, false, false, false] rfl rfl (by kernel_rfl) (fun _ _ _ h => (hQp _ _ _ h).elim) (Or.inl ⟨by rfl, ?_⟩) ?_ ?_
 rotate_left; (intro w'; go_simp; with_reducible rfl); rotate_left; (simp only [Act.put, List.setIfInBounds_toArray, List.set_cons_zero, List.set_cons_succ, i64_w, i32_w]; rfl)
 refine pure_ (i := 4) (N := some 58) (v := ?_) (a' := ?_) #[true, true, true, true, true, false, true, true, false, false, false, false] rfl rfl (by kernel_rfl) (fun _ _ _ h => (hQp _ _ _ h).elim) (Or.inl ⟨by rfl, ?_⟩) ?_ ?_
 rotate_left; (intro w'; go_simp; with_reducible rfl); rotate_left; (simp only [Act.put, List.setIfInBounds_toArray, List.set_cons_zero, List.set_cons_succ, i64_w, i32_w]; rfl)
 refine take_ (i := 5) (N := some 59) (v := ?_) (a' := ?_) #[true, true, true, true, true, true, true, true, false, false, false, false] rfl rfl (by kernel_rfl) (fun _ _ _ h => (hQp _ _ _ h).elim) (Or.inl ⟨by rfl, ?_⟩) hHeld ?_ ?_
 rotate_left; (rintro w' ⟨s0, s1, s2⟩; go_simp; with_reducible rfl); rotate_left; (simp only [Act.put, List.setIfInBounds_toArray, List.set_cons_zero, List.set_cons_succ, i64_w, i32_w]; rfl)
 refine pure_ (i := 8) (N := some 62) (v := ?_) (a' := ?_) #[true, true, true, true, true, true, true, true, true, false, false, false] rfl rfl (by kernel_rfl) (fun _ _ _ h => (hQp _ _ _ h).elim) (Or.inl ⟨by rfl, ?_⟩) ?_ ?_
 rotate_left; (intro w'; go_simp; with_reducible rfl); rotate_left; (simp only [Act.put, List.setIfInBounds_toArray, List.set_cons_zero, List.set_cons_succ, i64_w, i32_w]; rfl)
 refine pure_ (i := 9) (N := some 63) (v := ?_) (a' := ?_) #[true, true, true, true, true, true, true, true, true, true, false, false] rfl rfl (by kernel_rfl) (fun _ _ _ h => (hQp _ _ _ h).elim) (Or.inl ⟨by rfl, ?_⟩) ?_ ?_
 rotate_left; (intro w'; go_simp; with_reducible rfl); rotate_left; (simp only [Act.put, List.setIfInBounds_toArray, List.set_cons_zero, List.set_cons_succ, i64_w, i32_w]; rfl)
 refine pure_ (i := 10) (N := some 64) (v := ?_) (a' := ?_) #[true, true, true, true, true, true, true, true, true, true, true, false] rfl rfl (by kernel_rfl) (fun _ _ _ h => (hQp _ _ _ h).elim) (Or.inl ⟨by rfl, ?_⟩) ?_ ?_
 rotate_left; (intro w'; go_simp; with_reducible rfl); rotate_left; (simp only [Act.put, List.setIfInBounds_toArray, List.set_cons_zero, List.set_cons_succ, i64_w, i32_w]; rfl)
 refine last_ (i := 11) (N := none) #[true, true, true, true, true, true, true, true, true, true, true, true] rfl rfl (by kernel_rfl) (by decide) (fun K hK => ?_)
 have hc3 : W1.drew.cell? ⟨gv, n * 2 + 1, none⟩ = some (.int .i64 (rd_T70 cs (n : Nat)).f1) := hcv
 have hf3 : W1.drew.frozen? ⟨gv, n * 2 + 1, none⟩ = false := hfv
 refine skip_ (w1 := ?_) (by rfl) rfl ?_ ?_
 rotate_left
 ·go_simp
  rfl
 refine hK.out _ _ ?_
 clear hK K
 refine done_ (by kernel_rfl) ?_
 have hgt : ∀ (k : Nat) (cells : Array Value) (t : TypeId), t ≠ 70 → W1.heap[k]? = some (.cells cells t (0, 0)) → gv ≠ k := fun k cells' t ht hk e => by
  subst e
  rw [HTV.out] at hk
  injection hk with hk
  injection hk with _ hk _
  exact ht hk.symm
 have hoth : ∀ (k : Nat) (o : Obj), gv ≠ k → W1.heap[k]? = some o → (W1.setCell ⟨gv, n * 2 + 1, none⟩ (.int .i64 (wrap64 ((rd_T70 cs (n : Nat)).f1 + x.f2)))).heap[k]? = some o := fun k o hk ho => (Below.heap_setCell _ _ _ _ (by show k ≠ gv; exact Ne.symm hk)).trans ho
 refine HQ.out _ _ _ _ _ _ _ _ _ _ _ _ ?_ ?_
 ·refine (HKB.out.setCell _ _ (fun o ho hq => ?_)).drew
  have ho2 : o = .cells cells 70 (0, 0) := Option.some.inj (ho.symm.trans HTV.out)
  subst ho2
  rcases hq with hq | ⟨h4, h5 | h5 | ⟨u, h5⟩⟩
  ·have : gv < w.heap.size := hq
   omega
  ·have h6 : gv = w.heap.size + 2 := by have h7 : w.heap.size + 2 ≤ gv := h4; have h8 : gv < m0 := h5; omega
   exact hgt _ _ _ (by decide) HI.out.bl h6
  ·cases h5
  ·cases h5
 ·refine ⟨(HI.out.below.setCell (p := ⟨gv, n * 2 + 1, none⟩) hgv _).drew, hoth _ _ (hgt _ _ _ (by decide) HI.out.bl) HI.out.bl, hoth _ _ (hgt _ _ _ (by decide) HI.out.res) HI.out.res, _, hoth _ _ (hgt _ _ _ (by decide) HP.out) HP.out, ?_⟩
  rw [HSN.out, HST.out]
  exact Kd.R_drew (R70_put HRR.out n (by omega) _)
end Go.Proofs.Ythngomhhimdolaa.H
end
section
namespace Go.Proofs.Ythngomhhimdolaa.H
open Go.RowKit Go.Shelf Go.Proofs.YthngomhhimdolaaW.PrintWords Go.Proofs.YthngomhhimdolaaW.PrintLast Go.Proofs.YthngomhhimdolaaW.PrintMore Go.Proofs.Ythngomhhimdolaa.P Go.Proofs.Ythngomhhimdolaa.R
set_option linter.unusedVariables false
theorem compact_sublist (zs : List Int) : (Lib.compact zs).Sublist zs := by
 unfold Lib.compact Lib.compactUpTo
 have h1 : (((List.range zs.length).filter (Lib.keeps zs.toArray)).map (zs.toArray[·]!)).Sublist ((List.range zs.length).map (zs.toArray[·]!)) := List.Sublist.map _ List.filter_sublist
 have h2 : (List.range zs.length).map (zs.toArray[·]!) = zs := by
  have := Lib.range_map_get zs.toArray
  simpa using this
 rw [h2] at h1
 exact h1
theorem startsL_sorted (l : List S68) : (startsL l).Pairwise (· ≤ ·) := by
 unfold startsL srt
 refine List.Pairwise.sublist (compact_sublist _) ?_
 have := List.pairwise_mergeSort (le := fun (x y : Int) => decide (x ≤ y)) (fun a b c h1 h2 => by simp at *; omega) (fun a b => by simp; omega) ((rises l).map (·.f1))
 exact this.imp (fun h => by simpa using h)
theorem startsL_len (l : List S68) : (startsL l).length ≤ l.length := by
 unfold startsL srt
 refine Nat.le_trans (compact_sublist _).length_le ?_
 rw [List.length_mergeSort, List.length_map]
 exact List.length_filter_le _ _
def partW (l : List S68) (fs : List Int) (n : Nat) : S52 := ⟨⟨rd fs 0, wrap64 (rd fs ((n - 1 : Nat) : Int) + 1)⟩, windowF (rd fs 0) (wrap64 (rd fs ((n - 1 : Nat) : Int) + 1)) (rises l)⟩
def partsF (l : List S68) (n : Nat) : List Int → List S52
 | [] => []
 | z :: zs => if n ≤ zs.length + 1 then partW l (z :: zs) n :: partsF l n zs else []
theorem partsF_short (l : List S68) (n : Nat) : ∀ fs : List Int, fs.length < n → partsF l n fs = [] := by
 intro fs h
 cases fs with
 | nil => rfl
 | cons z zs => rw [partsF, if_neg (by simp at h; omega)]
theorem partsF_long (l : List S68) (n : Nat) (fs : List Int) (h : n ≤ fs.length) (h1 : 1 ≤ n) : partsF l n fs = partW l fs n :: partsF l n (fs.drop 1) := by
 cases fs with
 | nil => simp at h; omega
 | cons z zs => rw [partsF, if_pos (by simpa using h)]; rfl
def firstF (l : List S68) (frm : Int) : List Int := (startsL l).drop ((startsL l).countP (· < frm))
end Go.Proofs.Ythngomhhimdolaa.H
end
section
namespace Go.Proofs.Ythngomhhimdolaa.H
open Go.RowKit Go.Shelf Go.Proofs.YthngomhhimdolaaW.PrintWords Go.Proofs.YthngomhhimdolaaW.PrintLast Go.Proofs.YthngomhhimdolaaW.PrintMore Go.Proofs.Ythngomhhimdolaa.P Go.Proofs.Ythngomhhimdolaa.R
set_option linter.unusedVariables false
def openE (l : List S68) (n t : Int) : Int × Int :=
 if checkE l n = 0 then
  if 0 ≤ t ∧ t ≤ 1125899906842624 then
   if t = 1125899906842624 ∨ (startsL l).countP (· < t) = 0 ∨ n = 1 then (t, 0)
   else (rd (startsL l) (((startsL l).countP (· < t) - (n.toNat - 1) : Nat) : Int), 0)
  else (0, 13)
 else (0, checkE l n)
theorem counts_Open_eq {l : List S68} (hr : okRows l) (n t : Int) (k : Nat) (hk : 6000 < k) : counts_Open.f k l n t = some (openE l n t) := by
 unfold counts_Open.f openE
 rw [counts_may_eq hr n k (by omega), Option.bind_some]
 by_cases h : checkE l n = 0
 ·obtain ⟨h1, h2, h3, h4⟩ := checkE_zero h
  have hlen := ((mayE_iff l).1 h1).1
  have hsl := startsL_len l
  obtain ⟨k, rfl⟩ : ∃ m, k = m + 1 := ⟨k - 1, by omega⟩
  rw [if_pos h, if_pos h]
  by_cases ht0 : t < 0
  ·rw [if_pos ht0, counts_Open.j0, if_pos rfl, if_neg (by omega)]
  ·rw [if_neg ht0]
   by_cases ht1 : t > 1125899906842624
   ·rw [decide_eq_true ht1, counts_Open.j0, if_pos rfl, if_neg (by omega)]
   ·rw [decide_eq_false ht1, counts_Open.j0, if_neg (by decide)]
    have hok : 0 ≤ t ∧ t ≤ 1125899906842624 := ⟨by omega, by omega⟩
    rw [if_pos hok]
    by_cases ht2 : t = 1125899906842624
    ·rw [if_pos ht2, if_pos (Or.inl ht2)]
    ·rw [if_neg ht2, counts_starts_eq hlen, Option.bind_some]
     obtain ⟨b, hb⟩ := Search_eq (startsL l) t (startsL_sorted l) (by omega) k (by omega)
     rw [hb, Option.bind_some]
     obtain ⟨c, hc⟩ : ∃ c, c = (startsL l).countP (· < t) := ⟨_, rfl⟩
     have hcl : c ≤ (startsL l).length := by rw [hc]; exact List.countP_le_length
     rw [← hc]
     have hw : wrap64 (wrap64 ((c : Int) - n) + 1) = (c : Int) - n + 1 := by
      rw [wrap_in (x := (c : Int) - n) (by omega) (by omega), wrap_in (by omega) (by omega)]
     show (if mx 0 (wrap64 (wrap64 ((c : Int) - n) + 1)) = (c : Int) then _ else _) = _
     rw [hw]
     clear hw hb
     by_cases h5 : c = 0 ∨ n = 1
     ·have hmx : mx 0 ((c : Int) - n + 1) = c := by unfold mx; split <;> omega
      rw [if_pos hmx, if_pos (Or.inr h5)]
     ·have hmx : mx 0 ((c : Int) - n + 1) = ((c - (n.toNat - 1) : Nat) : Int) := by unfold mx; split <;> omega
      rw [hmx, if_neg (by omega), if_pos (by omega), if_pos (by omega), if_neg (by omega)]
 ·rw [if_neg h, if_neg h]
end Go.Proofs.Ythngomhhimdolaa.H
end
section
namespace Go.Proofs.Ythngomhhimdolaa.H
open Go.RowKit Go.Shelf Go.Proofs.YthngomhhimdolaaW.PrintWords Go.Proofs.YthngomhhimdolaaW.PrintLast Go.Proofs.YthngomhhimdolaaW.PrintMore Go.Proofs.Ythngomhhimdolaa.P Go.Proofs.Ythngomhhimdolaa.R
set_option linter.unusedVariables false
def cntR (a b : Int) : Int → List S83 → Int
 | s, [] => s
 | s, x :: xs => cntR a b (if 0 < x.f1 ∧ a ≤ x.f0 ∧ x.f0 ≤ b then wrap64 (s + x.f1) else s) xs
def copiesR (l : List S68) (a b : Int) : List (List S64) → List S70
 | [] => []
 | r :: rs => (if 0 < cntR a b 0 (jumpsOf l r) then [⟨r, cntR a b 0 (jumpsOf l r)⟩] else []) ++ copiesR l a b rs
def partR (l : List S68) (all : List Int) (n i : Nat) : S52 := ⟨⟨rd all (i : Nat), wrap64 (rd all ((i + (n - 1) : Nat) : Int) + 1)⟩, copiesR l (rd all (i : Nat)) (rd all ((i + (n - 1) : Nat) : Int)) (rowsOf l)⟩
def partsR (l : List S68) (all : List Int) (n : Nat) (frm : Int) : Nat → Nat → List S52
 | 0, _ => []
 | d + 1, i => if i + n ≤ all.length then (if rd all (i : Nat) < frm then [] else [partR l all n i]) ++ partsR l all n frm d (i + 1) else []
def selJ (a b : Int) (f : List S83) : List S83 := f.filter fun x => decide (0 < x.f1 ∧ a ≤ x.f0 ∧ x.f0 ≤ b)
theorem selJ_sum (a b : Int) : ∀ f : List S83, bdd f → 0 ≤ sumF (selJ a b f) ∧ sumF (selJ a b f) ≤ 1048576 * f.length ∧ (0 < sumF (selJ a b f) ↔ selJ a b f ≠ [])
 | [], _ => by simp [selJ, sumF]
 | x :: xs, h => by
  obtain ⟨h1, h2, h3⟩ := selJ_sum a b xs fun y hy => h y (List.mem_cons_of_mem _ hy)
  have hx := h x List.mem_cons_self
  have hl : ((x :: xs).length : Int) = xs.length + 1 := by simp
  unfold selJ at h1 h2 h3 ⊢
  rw [List.filter_cons]
  by_cases hc : 0 < x.f1 ∧ a ≤ x.f0 ∧ x.f0 ≤ b
  ·rw [if_pos (decide_eq_true hc), sumF]
   refine ⟨by omega, by omega, ⟨fun _ => List.cons_ne_nil _ _, fun _ => by omega⟩⟩
  ·rw [if_neg (by rw [decide_eq_false hc]; decide)]
   exact ⟨h1, by omega, h3⟩
theorem cntR_sum (a b : Int) : ∀ (f : List S83) (s : Int), bdd f → 0 ≤ s → s + 1048576 * f.length < 4611686018427387904 → cntR a b s f = s + sumF (selJ a b f)
 | [], s, _, _, _ => by simp [cntR, selJ, sumF]
 | x :: xs, s, h, h1, h2 => by
  have hb : bdd xs := fun y hy => h y (List.mem_cons_of_mem _ hy)
  have hx := h x List.mem_cons_self
  have hl : ((x :: xs).length : Int) = xs.length + 1 := by simp
  rw [cntR]
  unfold selJ
  rw [List.filter_cons]
  by_cases hc : 0 < x.f1 ∧ a ≤ x.f0 ∧ x.f0 ≤ b
  ·rw [if_pos hc, if_pos (decide_eq_true hc), wrap_in (by omega) (by omega), cntR_sum a b xs _ hb (by omega) (by omega), sumF, Int.add_assoc]; rfl
  ·rw [if_neg hc, if_neg (by rw [decide_eq_false hc]; decide), cntR_sum a b xs _ hb h1 (by omega)]; rfl
theorem rd70_end (cs : List S70) (y : S70) : rd_T70 (cs ++ [y]) (((cs ++ [y]).length - 1 : Nat) : Int) = y := by
 unfold rd_T70
 simp [List.getD_eq_getElem?_getD]
theorem set_end (cs : List S70) (y z : S70) : (cs ++ [y]).set ((cs ++ [y]).length - 1) z = cs ++ [z] := by
 simp
theorem stepW_in {a b : Int} {x : S68} (h : a ≤ x.f1 ∧ x.f1 ≤ b) (cs : List S70) (s : Int) : stepW a (b + 1) (cs ++ [⟨x.f0, s⟩]) x = cs ++ [⟨x.f0, wrap64 (s + x.f2)⟩] := by
 unfold stepW
 rw [if_neg (by omega), rd70_end, if_pos ⟨by simp, sameR_refl _⟩, set_end]
theorem stepW_new {a b : Int} {x : S68} (h : a ≤ x.f1 ∧ x.f1 ≤ b) (cs : List S70) (hc : cs = [] ∨ ∃ cs' y, cs = cs' ++ [y] ∧ y.f0 ≠ x.f0) : stepW a (b + 1) cs x = cs ++ [⟨x.f0, x.f2⟩] := by
 unfold stepW
 rw [if_neg (by omega)]
 rcases hc with rfl | ⟨cs', y, rfl, hy⟩
 ·rw [if_neg (by simp)]
 ·rw [rd70_end, if_neg (fun hh => hy (sameR_eq hh.2))]
theorem stepW_out {a b : Int} {x : S68} (h : ¬ (a ≤ x.f1 ∧ x.f1 ≤ b)) (cs : List S70) : stepW a (b + 1) cs x = cs := by
 unfold stepW; rw [if_pos (by omega)]
theorem run_more (r : List S64) (a b : Int) (ha : 0 ≤ a) : ∀ (T : List S68) (cs : List S70) (s : Int), (∀ x ∈ T, x.f0 = r) → bdd (T.map jmp) → 0 ≤ s → s + 1048576 * T.length < 4611686018427387904 →
  (rises T).foldl (stepW a (b + 1)) (cs ++ [⟨r, s⟩]) = cs ++ [⟨r, s + sumF (selJ a b (T.map jmp))⟩]
 | [], cs, s, _, _, _, _ => by simp [rises, selJ, sumF]
 | x :: xs, cs, s, hr, hb, h1, h2 => by
  have hx := hr x List.mem_cons_self
  have hbx : -1048576 ≤ x.f2 ∧ x.f2 ≤ 1048576 := hb (jmp x) (by simp)
  have hl : ((x :: xs).length : Int) = xs.length + 1 := by simp
  have hb' : bdd (xs.map jmp) := fun y hy => hb y (by rw [List.map_cons]; exact List.mem_cons_of_mem _ hy)
  have ih := fun s => run_more r a b ha xs cs s (fun y hy => hr y (List.mem_cons_of_mem _ hy)) hb'
  unfold rises selJ at ih ⊢
  rw [List.filter_cons, List.map_cons, List.filter_cons]
  have hj0 : (jmp x).f0 = x.f1 := rfl
  have hj1 : (jmp x).f1 = x.f2 := rfl
  rw [hj0, hj1]
  by_cases hc : 0 < x.f2 ∧ a ≤ x.f1 ∧ x.f1 ≤ b
  ·have hrb : risesB x = true := by unfold risesB; simp; omega
   rw [if_pos hrb, if_pos (decide_eq_true hc), List.foldl_cons, ← hx, stepW_in ⟨hc.2.1, hc.2.2⟩, hx, wrap_in (by omega) (by omega), ih _ (by omega) (by omega), sumF, hj1, Int.add_assoc]
  ·have hd : ¬ decide (0 < x.f2 ∧ a ≤ x.f1 ∧ x.f1 ≤ b) = true := by rw [decide_eq_false hc]; decide
   rw [if_neg hd]
   by_cases hrb : risesB x = true
   ·have hr2 : 0 < x.f2 ∧ -1 < x.f1 := by unfold risesB at hrb; simpa using hrb
    rw [if_pos hrb, List.foldl_cons, stepW_out (by omega), ih _ h1 (by omega)]
   ·rw [if_neg hrb, ih _ h1 (by omega)]
theorem run_first (r : List S64) (a b : Int) (ha : 0 ≤ a) : ∀ (T : List S68) (cs : List S70), (∀ x ∈ T, x.f0 = r) → bdd (T.map jmp) → T.length ≤ 1024 → (cs = [] ∨ ∃ cs' y, cs = cs' ++ [y] ∧ y.f0 ≠ r) →
  (rises T).foldl (stepW a (b + 1)) cs = cs ++ (if selJ a b (T.map jmp) = [] then [] else [⟨r, sumF (selJ a b (T.map jmp))⟩])
 | [], cs, _, _, _, _ => by simp [rises, selJ]
 | x :: xs, cs, hr, hb, h2, hcs => by
  have hx := hr x List.mem_cons_self
  have hbx : -1048576 ≤ x.f2 ∧ x.f2 ≤ 1048576 := hb (jmp x) (by simp)
  have hl : (x :: xs).length = xs.length + 1 := rfl
  have hb' : bdd (xs.map jmp) := fun y hy => hb y (by rw [List.map_cons]; exact List.mem_cons_of_mem _ hy)
  have hrx : ∀ y ∈ xs, y.f0 = r := fun y hy => hr y (List.mem_cons_of_mem _ hy)
  have ih := run_first r a b ha xs cs hrx hb' (by omega) hcs
  have more := run_more r a b ha xs cs x.f2 hrx hb'
  unfold rises selJ at ih more ⊢
  rw [List.filter_cons, List.map_cons, List.filter_cons]
  have hj0 : (jmp x).f0 = x.f1 := rfl
  have hj1 : (jmp x).f1 = x.f2 := rfl
  rw [hj0, hj1]
  by_cases hc : 0 < x.f2 ∧ a ≤ x.f1 ∧ x.f1 ≤ b
  ·have hrb : risesB x = true := by unfold risesB; simp; omega
   rw [if_pos hrb, if_pos (decide_eq_true hc), List.foldl_cons, stepW_new ⟨hc.2.1, hc.2.2⟩ cs (by rw [hx]; exact hcs), hx, more (by omega) (by omega), if_neg (List.cons_ne_nil _ _), sumF, hj1]
  ·have hd : ¬ decide (0 < x.f2 ∧ a ≤ x.f1 ∧ x.f1 ≤ b) = true := by rw [decide_eq_false hc]; decide
   rw [if_neg hd]
   by_cases hrb : risesB x = true
   ·have hr2 : 0 < x.f2 ∧ -1 < x.f1 := by unfold risesB at hrb; simpa using hrb
    rw [if_pos hrb, List.foldl_cons, stepW_out (by omega), ih]
   ·rw [if_neg hrb, ih]
def copyOf (a b : Int) (p : List S64 × List S83) : List S70 := if 0 < cntR a b 0 p.2 then [⟨p.1, cntR a b 0 p.2⟩] else []
theorem copy_run (r : List S64) (a b : Int) (f : List S83) (hb : bdd f) (hl : f.length ≤ 1024) : (if selJ a b f = [] then [] else [(⟨r, sumF (selJ a b f)⟩ : S70)]) = copyOf a b (r, f) := by
 have h := selJ_sum a b f hb
 have hc := cntR_sum a b f 0 hb (by omega) (by omega)
 rw [Int.zero_add] at hc
 unfold copyOf
 show _ = if 0 < cntR a b 0 f then [(⟨r, cntR a b 0 f⟩ : S70)] else []
 rw [hc]
 by_cases hs : selJ a b f = []
 ·rw [if_pos hs, if_neg (fun h' => h.2.2.1 h' hs)]
 ·rw [if_neg hs, if_pos (h.2.2.2 hs)]
theorem window_runs (a b : Int) (ha : 0 ≤ a) : ∀ (n : Nat) (l : List S68) (cs : List S70), l.length ≤ n → G l → lens l → (cs = [] ∨ ∃ cs' y, cs = cs' ++ [y] ∧ ∀ x ∈ l, cmpR y.f0 x.f0 < 0) →
  (rises l).foldl (stepW a (b + 1)) cs = cs ++ (runs l).flatMap (copyOf a b) := by
 intro n
 induction n with
 | zero =>
  intro l cs hl _ _ _
  obtain rfl := List.length_eq_zero_iff.1 (Nat.le_zero.1 hl)
  rw [runs_nil]; simp [rises]
 | succ n ih =>
  intro l cs hl hG hL hcs
  cases l with
  | nil => rw [runs_nil]; simp [rises]
  | cons x xs =>
   have hg := (G_run x xs).1 hG
   have hL' := (lens_cons x xs).1 hL
   have hlen := dropRun_len x.f0 xs
   have hrow : ∀ y ∈ x :: takeE x.f0 xs, y.f0 = x.f0 := fun y hy => by
    rcases List.mem_cons.1 hy with rfl | hy
    ·rfl
    ·exact takeE_row _ _ y hy
   have hf : (x :: takeE x.f0 xs).map jmp = jmp x :: takeRun x.f0 xs := by rw [List.map_cons, takeRun_map]
   have hb : bdd (jmp x :: takeRun x.f0 xs) := mayF_bound _ _ hg.2.1
   have he : x :: xs = (x :: takeE x.f0 xs) ++ dropRun x.f0 xs := by rw [List.cons_append, ← takeE_app]
   have hTl : (x :: takeE x.f0 xs).length = (jmp x :: takeRun x.f0 xs).length := by rw [← hf, List.length_map]
   have hcs1 : cs = [] ∨ ∃ cs' y, cs = cs' ++ [y] ∧ y.f0 ≠ x.f0 := by
    rcases hcs with h | ⟨cs', y, h1, h2⟩
    ·exact .inl h
    ·refine .inr ⟨cs', y, h1, fun h3 => ?_⟩
     have := h2 x List.mem_cons_self
     rw [h3, cmpR_self] at this
     omega
   rw [runs_cons, List.flatMap_cons]
   conv => lhs; rw [he]
   unfold rises
   rw [List.filter_append, List.foldl_append]
   have h1 := run_first x.f0 a b ha (x :: takeE x.f0 xs) cs hrow (by rw [hf]; exact hb) (by rw [hTl]; exact hL'.1) hcs1
   unfold rises at h1
   rw [h1, hf, copy_run x.f0 a b _ hb hL'.1]
   have h2 := ih (dropRun x.f0 xs) (cs ++ copyOf a b (x.f0, jmp x :: takeRun x.f0 xs)) (by simp at hl; omega) hg.2.2.1 hL'.2 (by
    unfold copyOf
    split
    ·exact .inr ⟨cs, _, rfl, hg.2.2.2⟩
    ·rw [List.append_nil]
     rcases hcs with h | ⟨cs', y, h1, h2⟩
     ·exact .inl h
     ·exact .inr ⟨cs', y, h1, fun d hd => h2 d (List.mem_cons_of_mem _ (by rw [takeE_app x.f0 xs]; exact List.mem_append_right _ hd))⟩)
   unfold rises at h2
   rw [h2, List.append_assoc]
theorem copiesR_runs (l : List S68) (a b : Int) : ∀ rs : List (List S64 × List S83), (∀ p ∈ rs, jumpsOf l p.1 = p.2) → copiesR l a b (rs.map (·.1)) = rs.flatMap (copyOf a b)
 | [], _ => rfl
 | p :: ps, h => by
  rw [List.map_cons, copiesR, List.flatMap_cons, copiesR_runs l a b ps (fun q hq => h q (List.mem_cons_of_mem _ hq)), h p List.mem_cons_self]; rfl
theorem window_ref {l : List S68} (hE : mayE l = true) (a b : Int) (ha : 0 ≤ a) : windowF a (b + 1) (rises l) = copiesR l a b (rowsOf l) := by
 obtain ⟨_, hG, hL⟩ := (mayE_iff l).1 hE
 unfold windowF
 rw [window_runs a b ha _ l [] (Nat.le_refl _) hG hL (.inl rfl), List.nil_append, rowsOf_G hG, copiesR_runs l a b _ (jumps_G _ _ (Nat.le_refl _) hG)]
end Go.Proofs.Ythngomhhimdolaa.H
end
section
namespace Go.Proofs.Ythngomhhimdolaa.H
open Go.RowKit Go.Shelf Go.Proofs.YthngomhhimdolaaW.PrintWords Go.Proofs.YthngomhhimdolaaW.PrintLast Go.Proofs.YthngomhhimdolaaW.PrintMore Go.Proofs.Ythngomhhimdolaa.P Go.Proofs.Ythngomhhimdolaa.R
set_option linter.unusedVariables false
theorem rd_dropI (l : List Int) (i j : Nat) : rd (l.drop i) (j : Nat) = rd l ((i + j : Nat) : Int) := by
 unfold rd
 rw [Int.toNat_natCast, Int.toNat_natCast]
 simp [List.getD_eq_getElem?_getD]
theorem starts_range {l : List S68} (hE : mayE l = true) (i : Nat) (hi : i < (startsL l).length) : 0 ≤ rd (startsL l) (i : Nat) ∧ rd (startsL l) (i : Nat) < 1125899906842624 := by
 have hm : rd (startsL l) (i : Nat) ∈ startsL l := by
  have := rdI_drop (startsL l) i hi
  have h2 : rd (startsL l) (i : Nat) ∈ (startsL l).drop i := by rw [this]; exact List.mem_cons_self
  exact List.mem_of_mem_drop h2
 rw [startsL_mem] at hm
 obtain ⟨x, hx, he⟩ := List.mem_map.1 hm
 unfold rises at hx
 have h1 := List.mem_filter.1 hx
 have h2 : 0 < x.f2 ∧ -1 < x.f1 := by have := h1.2; unfold risesB at this; simpa using this
 have h3 := edgeOk_jmp (((mayE_iff l).1 hE).2.1.1 x h1.1)
 have he' : x.f1 = rd (startsL l) (i : Nat) := he
 rw [← he']
 omega
theorem partW_partR {l : List S68} (hE : mayE l = true) (n i : Nat) (hn : 1 ≤ n) (hi : i + n ≤ (startsL l).length) : partW l ((startsL l).drop i) n = partR l (startsL l) n i := by
 have ha := starts_range hE i (by omega)
 have hb := starts_range hE (i + (n - 1)) (by omega)
 unfold partW partR
 have e0 : rd ((startsL l).drop i) 0 = rd (startsL l) (i : Nat) := by
  have := rd_dropI (startsL l) i 0
  rwa [show ((0 : Nat) : Int) = 0 from rfl, Nat.add_zero] at this
 rw [e0, rd_dropI, wrap_in (x := rd (startsL l) ((i + (n - 1) : Nat) : Int) + 1) (by omega) (by omega), window_ref hE _ _ ha.1]
theorem parts_tail {l : List S68} (hE : mayE l = true) (n : Nat) (hn : 1 ≤ n) (frm : Int) : ∀ (d i : Nat), (startsL l).length - i = d → (startsL l).countP (· < frm) ≤ i → partsR l (startsL l) n frm d i = partsF l n ((startsL l).drop i)
 | 0, i, hd, _ => by
  rw [partsR, partsF_short]
  rw [List.length_drop]; omega
 | d + 1, i, hd, hc => by
  rw [partsR]
  by_cases h : i + n ≤ (startsL l).length
  ·have hlt := countP_lt (startsL l) frm (startsL_sorted l) i (by omega)
   rw [if_pos h, if_neg (fun h' => by have := hlt.1 h'; omega), parts_tail hE n hn frm d (i + 1) (by omega) (by omega), partsF_long l n ((startsL l).drop i) (by rw [List.length_drop]; omega) hn, partW_partR hE n i hn h, List.drop_drop]; rfl
  ·rw [if_neg h, partsF_short]
   rw [List.length_drop]; omega
theorem parts_head {l : List S68} (hE : mayE l = true) (n : Nat) (hn : 1 ≤ n) (frm : Int) : ∀ (d i : Nat), (startsL l).length - i = d → i ≤ (startsL l).countP (· < frm) → partsR l (startsL l) n frm d i = partsF l n (firstF l frm)
 | d, i, hd, hc => by
  by_cases he : i = (startsL l).countP (· < frm)
  ·rw [parts_tail hE n hn frm d i hd (by omega)]
   unfold firstF
   rw [he]
  ·have hcl : (startsL l).countP (· < frm) ≤ (startsL l).length := List.countP_le_length
   obtain ⟨d', rfl⟩ : ∃ m, d = m + 1 := ⟨d - 1, by omega⟩
   rw [partsR]
   by_cases h : i + n ≤ (startsL l).length
   ·have hlt := countP_lt (startsL l) frm (startsL_sorted l) i (by omega)
    rw [if_pos h, if_pos (hlt.2 (by omega)), List.nil_append, parts_head hE n hn frm d' (i + 1) (by omega) (by omega)]
   ·rw [if_neg h]
    unfold firstF
    rw [partsF_short]
    rw [List.length_drop]; omega
theorem parts_ref {l : List S68} (hE : mayE l = true) (n : Nat) (hn : 1 ≤ n) (frm : Int) : partsR l (startsL l) n frm (startsL l).length 0 = partsF l n (firstF l frm) :=
 parts_head hE n hn frm _ 0 (by omega) (Nat.zero_le _)
end Go.Proofs.Ythngomhhimdolaa.H
end
section
namespace Go.Proofs.Ythngomhhimdolaa.H
open Go.RowKit Go.Shelf Go.Proofs.YthngomhhimdolaaW.PrintWords Go.Proofs.YthngomhhimdolaaW.PrintLast Go.Proofs.YthngomhhimdolaaW.PrintMore Go.Proofs.Ythngomhhimdolaa.P Go.Proofs.Ythngomhhimdolaa.R
set_option linter.unusedVariables false
set_option linter.unusedSimpArgs false
attribute [local go_sem] Oper.semAt_some
theorem stepW_bump {a b : Int} {cs : List S70} {x : S68} {n : Nat} (hno : ¬ (x.f1 < a ∨ b ≤ x.f1)) (hn : cs.length = n + 1) (hq : sameR (rd_T70 cs (n : Nat)).f0 x.f0 = true) : stepW a b cs x = cs.set n ⟨(rd_T70 cs (n : Nat)).f0, wrap64 ((rd_T70 cs (n : Nat)).f1 + x.f2)⟩ := by
 have e : cs.length - 1 = n := by omega
 unfold stepW
 rw [if_neg hno, e, if_pos ⟨by omega, hq⟩]
theorem stepW_add {a b : Int} {cs : List S70} {x : S68} {n : Nat} (hno : ¬ (x.f1 < a ∨ b ≤ x.f1)) (hn : cs.length = n + 1) (hq : sameR (rd_T70 cs (n : Nat)).f0 x.f0 = false) : stepW a b cs x = cs ++ [⟨x.f0, x.f2⟩] := by
 have e : cs.length - 1 = n := by omega
 unfold stepW
 rw [if_neg hno, e, if_neg (fun h => by rw [hq] at h; exact absurd h.2 (by decide))]
set_option maxHeartbeats 4000000 in
set_option maxRecDepth 100000 in
theorem window_round {r0 r1 r2 asg rest code : Code} (hcode : Try.f48.body = some (.seq r0 (.seq r1 (.seq (.seq r2 (.block 0 (.rangeFunc (.tmp 21) #[22] asg code))) rest)))) (A : Option Addr) (c : Nat) (l : List S68) (g o m cc : Nat) (a b' z : Int) (w : World) (h4 : l.length ≤ 4096) (lp b : Nat) (pre : List S68) (x : S68) (A1 : Option Addr) (c1 : Nat) (W : World) (m0 : Nat) (hm0 : m0 = w.heap.size + 3)
  (hpre : pre.length < 4096) (hx32 : x.f0.length * 32 ≤ 140737488355328)
  (hi : WinI w (.slice A l.length c) a b' pre W) (hc1 : x.f0.length ≤ c1) (hrx : Kd.C k64 W A1 x.f0.length x.f0) (hbx : W.heap[b]? = some (.cells #[.slice A1 x.f0.length c1, .int .i64 x.f1, .int .i64 x.f2] 68 (0, 0))) :
  code.wpIn (Fence.wide.inRound lp) 3 Try.prog (postM (Prun w.heap.size (w.heap.size + 2) m0) (WinI w (.slice A l.length c) a b') (fun _ _ => False) (pre ++ [x]) W)
   { tmps := #[.slice A l.length c, .slice (some ⟨g, o, none⟩) (m + 1) cc, undef, undef, .pointer (some ⟨w.heap.size, 0, none⟩), .pointer (some ⟨w.heap.size + 1, 0, none⟩), .pointer (some ⟨b, 0, none⟩), undef, .slice (some ⟨g, o, none⟩) (m + 1) cc, .pointer (some ⟨g, o, none⟩), .int .i64 a, .slice (some ⟨g, o, none⟩) (m + 1) cc, .slice (some ⟨g, o, none⟩) (m + 1) cc, .int .i64 (m + 1), .int .i64 m, .pointer (some ⟨g, o + m, none⟩), .int .i64 z, .int .i64 b', .agg #[.int .i64 a, .int .i64 b'], .agg #[.int .i64 a, .int .i64 b', .slice none 0 0], .slice A l.length c, .func (.func 111) #[] #[.pointer (some ⟨w.heap.size + 2, 0, none⟩)], .agg #[.slice A1 x.f0.length c1, .int .i64 x.f1, .int .i64 x.f2], undef, undef, undef, undef, undef, undef, undef, undef, undef, undef, undef, undef, undef, undef, undef, undef, undef, undef, undef, undef, undef, undef, undef, undef, undef, undef, undef, undef, undef, undef, undef, undef, undef, undef, undef, undef, undef, undef, undef, undef, undef, undef, undef, undef, undef, undef, undef, undef, undef, undef, undef, undef, undef, undef], defers := [] } W := by
 obtain ⟨v, hp, hR⟩ := hi.p
 have hp0 : W.cell? ⟨w.heap.size + 1, 0, none⟩ = some (.int .i64 a) := by simp [World.cell?, hp]
 have hp1 : W.cell? ⟨w.heap.size + 1, 1, none⟩ = some (.int .i64 b') := by simp [World.cell?, hp]
 have hp2 : W.cell? ⟨w.heap.size + 1, 2, none⟩ = some v := by simp [World.cell?, hp]
 have hpf : W.frozen? ⟨w.heap.size + 1, 2, none⟩ = false := by simp [World.frozen?, hp]
 have hx0 : W.cell? ⟨b, 0, none⟩ = some (.slice A1 x.f0.length c1) := by simp [World.cell?, hbx]
 have hx1 : W.cell? ⟨b, 1, none⟩ = some (.int .i64 x.f1) := by simp [World.cell?, hbx]
 have hx2 : W.cell? ⟨b, 2, none⟩ = some (.int .i64 x.f2) := by simp [World.cell?, hbx]
 have hwl := windowF_len a b' pre
 have HSN := Lib.hid (windowF_snoc a b' pre x)
 have HI := Lib.hid hi
 have HP := Lib.hid hp
 have HRX := Lib.hid hrx
 have HBX := Lib.hid hbx
 have HRR := Lib.hid hR
 have H32 := Lib.hid hx32
 obtain ⟨cs, hcs⟩ : ∃ cs, cs = windowF a b' pre := ⟨_, rfl⟩
 rw [← hcs] at hwl HSN HRR hR
 have HCS := Lib.hid hcs
 obtain ⟨Av, cv, rfl, hcv, hC⟩ := Kd.R_reads hR
 have HC := Lib.hid hC
 clear hi hp hrx hbx hR hx32 hcs hC
 have hcode' := hcode
 unfold Try.f48 at hcode
 injection hcode with hcode
 injection hcode with _ hcode
 injection hcode with _ hcode
 injection hcode with hcode _
 injection hcode with _ hcode
 injection hcode with _ hcode
 injection hcode with _ _ _ hcode
 subst hcode
 by_cases ca : x.f1 < a
 ·have hd : decide (x.f1 < a) = true := decide_eq_true ca
  have HST : Hid (stepW a b' cs x = cs) := Lib.hid (by unfold stepW; rw [if_pos (Or.inl ca)])
  clear ca
  gi_wp2_with fail
  exact ⟨KB.refl _ _, HI.out.below, HI.out.bl, HI.out.res, _, HP.out, by rw [HSN.out, HST.out]; exact HRR.out⟩
 by_cases cb : b' ≤ x.f1
 ·have hd : decide (x.f1 < a) = false := decide_eq_false ca
  have hd2 : decide (b' ≤ x.f1) = true := decide_eq_true cb
  have HST : Hid (stepW a b' cs x = cs) := Lib.hid (by unfold stepW; rw [if_pos (Or.inr cb)])
  clear ca cb
  gi_wp2_with fail
  exact ⟨KB.refl _ _, HI.out.below, HI.out.bl, HI.out.res, _, HP.out, by rw [HSN.out, HST.out]; exact HRR.out⟩
 have hda : decide (x.f1 < a) = false := decide_eq_false ca
 have hdb : decide (b' ≤ x.f1) = false := decide_eq_false cb
 have HNO : Hid (¬ (x.f1 < a ∨ b' ≤ x.f1)) := Lib.hid (by omega)
 clear ca cb
 by_cases h0 : cs.length = 0
 ·obtain rfl : cs = [] := List.length_eq_zero_iff.1 h0
  have HST : Hid (stepW a b' [] x = [⟨x.f0, x.f2⟩]) := Lib.hid (by unfold stepW; rw [if_neg HNO.out, if_neg (by simp)]; rfl)
  clear h0
  simp only [List.length_nil] at *
  gi_wp2_with fail
  refine region_quiet_round (by kernel_rfl) (by kernel_rfl) (by kernel_rfl) (fun _ _ h => h.elim) ?_
  repeat (go_big_quiet_step (fail))
  refine wpQuiet_nil ?_
  rintro _ ⟨nq, rfl⟩
  have HWQ := Lib.hid (drewN_below W nq)
  gi_wp2_with fail
  exact window_add hcode' A c l g o m cc a b' z w lp b pre x A1 c1 W (W.drewN nq) m0 hm0 [] HCS.out (KB.of_below HWQ.out) (HI.out.kc (KC.of_below HWQ.out)) hc1 (Kd.C_below HRX.out HWQ.out) (HBX.out) _ _ _ _ _ _ _ _ _ _ _ _ _ _ _ _ _ _ _ _ _ _ _ _ _ _ _ _ _ _ _ _ HST.out (by simp) H32.out
 ·obtain ⟨n, hn⟩ : ∃ n, cs.length = n + 1 := ⟨cs.length - 1, by omega⟩
  rw [hn] at hcv
  obtain ⟨ad, A0, c0, hA, hd0, hd1, hl0, hr0⟩ := at_T70 HC.out (n : Nat) (by omega) (by rw [hn]; omega)
  obtain ⟨g', cap, hv', hbg, -⟩ := Kd.R_form HRR.out (by omega)
  injection hv' with hv1 hv2 hv3
  rw [hv1] at hA
  cases hA
  subst hv1
  simp only [Int.toNat_natCast] at hd0
  have h1 : ((⟨g', 0, none⟩ : Addr).add (n * 2)) = ⟨g', n * 2, none⟩ := by unfold Addr.add; split <;> simp_all
  rw [h1] at hd0
  clear h1 hd1 hv2 hv3 h0
  rw [hn] at hp2
  have hi1 : (n : Int) < (n : Int) + 1 := by omega
  have hi2 : (0 : Int) ≤ (n : Int) := by omega
  have hw1 : wrap64 (n : Int) = (n : Int) := by unfold wrap64; omega
  have HN := Lib.hid hn
  have HR0 := Lib.hid hr0
  clear hn hr0
  cases hq : sameR (rd_T70 cs (n : Nat)).f0 x.f0 with
  | true =>
   have HE : Hid (∀ k, Calls Try.prog 84 #[.slice A0 (rd_T70 cs (n : Nat)).f0.length c0, .slice A1 x.f0.length c1] (W.drewN k) fun e w' => e = .returned (.bool true) ∧ ∃ q, w' = (W.drewN k).drewN q) := Lib.hid (fun k => hq ▸ Equal_calls A0 c0 _ A1 c1 x.f0 (W.drewN k) (Kd.C_below HR0.out (drewN_below W k)) (Kd.C_below HRX.out (drewN_below W k)))
   have HST := Lib.hid (stepW_bump HNO.out HN.out hq)
   clear hq
   gi_wp2_with fail
   refine region_quiet_round (by kernel_rfl) (by kernel_rfl) (by kernel_rfl) (fun _ _ h => h.elim) ?_
   repeat (go_big_quiet_step (exact Calls.quiet_of (HE.out _)))
   refine wpQuiet_nil ?_
   rintro _ ⟨nq, rfl⟩
   have HWQ := Lib.hid (drewN_below W nq)
   have hlen : cs.length < 4096 := Nat.lt_of_le_of_lt hwl hpre
   gi_wp2_with fail
   refine window_bump hcode' A c l g o m cc a b' z w lp b pre x A1 c1 W (W.drewN nq) m0 hm0 cs HCS.out (KB.of_below HWQ.out) (HI.out.kc (KC.of_below HWQ.out)) hc1 (Kd.C_below HRX.out HWQ.out) (HBX.out) _ _ _ _ _ _ _ _ _ _ _ _ _ _ _ _ _ _ _ _ _ _ _ _ _ _ _ _ _ _ _ n HN.out hlen HST.out _ (fun _ _ h => h.elim) (fun _ _ _ h => h.elim) (fun t54 t55 t56 t57 t58 t59 t60 t61 t62 t63 t64 W3 hk3 hw3 => ?_)
   have HK3 := Lib.hid hk3
   have HW3 := Lib.hid hw3
   clear hk3 hw3
   gi_wp2
   exact ⟨HK3.out, HW3.out⟩
  | false =>
   have HE : Hid (∀ k, Calls Try.prog 84 #[.slice A0 (rd_T70 cs (n : Nat)).f0.length c0, .slice A1 x.f0.length c1] (W.drewN k) fun e w' => e = .returned (.bool false) ∧ ∃ q, w' = (W.drewN k).drewN q) := Lib.hid (fun k => hq ▸ Equal_calls A0 c0 _ A1 c1 x.f0 (W.drewN k) (Kd.C_below HR0.out (drewN_below W k)) (Kd.C_below HRX.out (drewN_below W k)))
   have HST := Lib.hid (stepW_add HNO.out HN.out hq)
   clear hq
   gi_wp2_with fail
   refine region_quiet_round (by kernel_rfl) (by kernel_rfl) (by kernel_rfl) (fun _ _ h => h.elim) ?_
   repeat (go_big_quiet_step (exact Calls.quiet_of (HE.out _)))
   refine wpQuiet_nil ?_
   rintro _ ⟨nq, rfl⟩
   have HWQ := Lib.hid (drewN_below W nq)
   have hlen : cs.length < 4096 := Nat.lt_of_le_of_lt hwl hpre
   gi_wp2_with fail
   exact window_add hcode' A c l g o m cc a b' z w lp b pre x A1 c1 W (W.drewN nq) m0 hm0 cs HCS.out (KB.of_below HWQ.out) (HI.out.kc (KC.of_below HWQ.out)) hc1 (Kd.C_below HRX.out HWQ.out) (HBX.out) _ _ _ _ _ _ _ _ _ _ _ _ _ _ _ _ _ _ _ _ _ _ _ _ _ _ _ _ _ _ _ _ HST.out hlen H32.out
end Go.Proofs.Ythngomhhimdolaa.H
end
section
namespace Go.Proofs.Ythngomhhimdolaa.H
open Go.RowKit Go.Shelf Go.Proofs.YthngomhhimdolaaW.PrintWords Go.Proofs.YthngomhhimdolaaW.PrintLast Go.Proofs.YthngomhhimdolaaW.PrintMore Go.Proofs.Ythngomhhimdolaa.P Go.Proofs.Ythngomhhimdolaa.R
set_option linter.unusedVariables false
set_option linter.unusedSimpArgs false
attribute [local go_sem] Oper.semAt_some
theorem results_cell1 {P : Program} {fn : Func} {tmps : Array Value} {a : Tmp} {t : TypeId} {p : Addr} {v : Value} {w : World} (hr : fn.results = #[.cell a t]) (ht : tmps.getD a undef = .pointer (some p)) (hl : (loadVar t p).run P w = .ok v w) : (results fn tmps).run P w = .ok v w := by
 have ht2 : tmps[a]?.getD undef = .pointer (some p) := by rw [← Array.getD_eq_getD_getElem?]; exact ht
 unfold results
 rw [hr]
 simp [Sem.run_bind, ht2, asAddr, hl]
theorem three_cells {W : World} {n₀ : Nat} {x y z x' y' z' : Value} (h : W.heap[n₀]? = some (.cells #[x, y, z] 52 (0, 0))) : (((W.setCell ⟨n₀, 0, none⟩ x').setCell ⟨n₀, 1, none⟩ y').setCell ⟨n₀, 2, none⟩ z').heap[n₀]? = some (.cells #[x', y', z'] 52 (0, 0)) := by
 simp [World.setCell, Array.getElem?_modify, h]
set_option maxHeartbeats 4000000 in
set_option maxRecDepth 100000 in
theorem window_calls (A : Option Addr) (c : Nat) (l : List S68) (g o n cc : Nat) (a z : Int) (w : World) (hl : Kd.C k68 w A l.length l) (hrows : ∀ x ∈ l, x.f0.length * 32 ≤ 140737488355328) (h4 : l.length ≤ 4096) (hn : 1 ≤ n) (hn2 : n ≤ 4096)
  (ha : w.cell? ⟨g, o, none⟩ = some (.int .i64 a)) (hz : w.cell? ⟨g, o + (n - 1), none⟩ = some (.int .i64 z)) :
  Calls Try.prog 48 #[.slice A l.length c, .slice (some ⟨g, o, none⟩) n cc] w fun e w' => ∃ v, e = .returned (.agg #[.int .i64 a, .int .i64 (wrap64 (z + 1)), v]) ∧ Kd.R k70 70 w' w.heap.size (fun _ => True) v (windowF a (wrap64 (z + 1)) (rises l)) ∧ Below w.heap.size w w' := by
 have HL := Lib.hid hl
 have H4 := Lib.hid h4
 have HR := Lib.hid hrows
 clear hl h4 hrows
 obtain ⟨m, rfl⟩ : ∃ m, n = m + 1 := ⟨n - 1, by omega⟩
 simp only [Nat.add_sub_cancel] at hz
 have hmw : wrap64 (((m + 1 : Nat) : Int) - 1) = (m : Int) := by unfold wrap64; omega
 have hu52 := Try.underlying52
 have hu40 := Try.underlying40
 refine (callsIn_wide (n := 5)).1 ?_
 refine callsIn_of_wp_marks Try.func48 rfl trivial ?_ rfl
 simp only [Try.ntmps48, List.size_toArray, List.length_cons, List.length_nil, Nat.reduceAdd, Nat.reduceSub, Array.replicate_succ, Array.replicate_zero, List.push_toArray, List.append_toArray, List.nil_append, List.cons_append]
 gi_wp2_with fail
 have hb0 : Below w.heap.size w (((w.alloc (.cells #[.int .i64 0, .int .i64 0, .slice none 0 0] 52 (0, 0))).alloc (.cells #[.int .i64 0, .int .i64 0, .slice none 0 0] 52 (0, 0))).drew) := (((Below.refl w.heap.size w).alloc (Nat.le_refl _) _).alloc (by simp) _).drew
 have hgl : g < w.heap.size := World.block_lt_of_cell? w _ ha
 have ha2 := (Below.cell hb0 (p := ⟨g, o, none⟩) hgl).trans ha
 have hz2 := (Below.cell hb0 (p := ⟨g, o + m, none⟩) hgl).trans hz
 clear hb0
 gi_region
 gi_wp2_with fail
 refine ⟨trivial, ?_⟩
 refine (callsIn_wide.2 (rises_calls _ _ _ _)).mono ?_
 rintro e w1 ⟨rfl, rfl⟩
 gi_wp2_with fail
 have ha3 : True := trivial
 obtain ⟨W0, hW0⟩ : ∃ W0, W0 = (((w.alloc (.cells #[.int .i64 0, .int .i64 0, .slice none 0 0] 52 (0, 0))).alloc (.cells #[.int .i64 a, .int .i64 (wrap64 (z + 1)), .slice none 0 0] 52 (0, 0))).alloc (.cells #[.slice A l.length c] 22 (0, 0))).drew := ⟨_, rfl⟩
 rw [← hW0]
 have hsz : W0.heap.size = w.heap.size + 3 := by rw [hW0]; simp [World.drew]
 have hbw : Below w.heap.size w W0 := by
  rw [hW0]; exact ((((Below.refl w.heap.size w).alloc (Nat.le_refl _) _).alloc (by simp) _).alloc (by simp; omega) _).drew
 have b0 : W0.heap[w.heap.size]? = some (.cells #[.int .i64 0, .int .i64 0, .slice none 0 0] 52 (0, 0)) := by
  rw [hW0]
  show (((w.alloc _).alloc _).alloc _).heap[_]? = _
  rw [Below.heap_alloc _ _ _ (by simp; omega), Below.heap_alloc _ _ _ (by simp)]
  exact World.alloc_heap_new w _
 have b1 : W0.heap[w.heap.size + 1]? = some (.cells #[.int .i64 a, .int .i64 (wrap64 (z + 1)), .slice none 0 0] 52 (0, 0)) := by
  rw [hW0]
  show (((w.alloc _).alloc _).alloc _).heap[_]? = _
  rw [Below.heap_alloc _ _ _ (by simp)]
  have := World.alloc_heap_new (w.alloc (.cells #[.int .i64 0, .int .i64 0, .slice none 0 0] 52 (0, 0))) (.cells #[.int .i64 a, .int .i64 (wrap64 (z + 1)), .slice none 0 0] 52 (0, 0))
  rwa [World.size_alloc] at this
 have b2 : Boxed W0 (w.heap.size + 2) 22 (.slice A l.length c) := by
  rw [hW0]
  show (((w.alloc _).alloc _).alloc _).heap[_]? = _
  have := World.alloc_heap_new ((w.alloc (.cells #[.int .i64 0, .int .i64 0, .slice none 0 0] 52 (0, 0))).alloc (.cells #[.int .i64 a, .int .i64 (wrap64 (z + 1)), .slice none 0 0] 52 (0, 0))) (.cells #[.slice A l.length c] 22 (0, 0))
  rwa [World.size_alloc, World.size_alloc] at this
 clear hW0 ha2 hz2 ha hz
 obtain ⟨b', hb'⟩ : ∃ b', b' = wrap64 (z + 1) := ⟨_, rfl⟩
 rw [← hb'] at b1 ⊢
 refine rangeM (F := Fence.wide) (Pr := Prun w.heap.size (w.heap.size + 2) W0.heap.size) (OK := OKrise) (xs := rises l) (n₀ := w.heap.size) rfl (by decide) (gf := 111) (lb := #[.pointer (some ⟨w.heap.size + 2, 0, none⟩)]) rfl trivial (enters_of Try.func111 (by kernel_rfl) rfl) (by omega)
  (rises_in 4 (by decide) A c l w.heap.size (w.heap.size + 2) (w.heap.size + 2) W0 (fun W hW => Kd.C_below HL.out (hbw.trans hW)) b2 (Nat.le_refl _) (by omega))
  (fun k o hk hb => .inr ⟨by omega, .inr (.inl hb)⟩) (fun x vs W h => by obtain ⟨A1, c1, rfl, _⟩ := h; rfl)
  (WinI w (.slice A l.length c) a b') (fun _ _ => False) (fun pre A B h hk => h.kc hk) (fun c A B h hk => h)
  ⟨hbw, b2, b0, _, b1, Kd.R_nil _ _ _ _ _⟩
  (fun pre x a' W => ∃ (b : Nat) (A1 : Option Addr) (c1 : Nat), x.f0.length ≤ c1 ∧ Kd.C k64 W A1 x.f0.length x.f0 ∧ W.heap[b]? = some (.cells #[.slice A1 x.f0.length c1, .int .i64 x.f1, .int .i64 x.f2] 68 (0, 0)) ∧
   a' = { tmps := #[.slice A l.length c, .slice (some ⟨g, o, none⟩) (m + 1) cc, undef, undef, .pointer (some ⟨w.heap.size, 0, none⟩), .pointer (some ⟨w.heap.size + 1, 0, none⟩), .pointer (some ⟨b, 0, none⟩), undef, .slice (some ⟨g, o, none⟩) (m + 1) cc, .pointer (some ⟨g, o, none⟩), .int .i64 a, .slice (some ⟨g, o, none⟩) (m + 1) cc, .slice (some ⟨g, o, none⟩) (m + 1) cc, .int .i64 (m + 1), .int .i64 m, .pointer (some ⟨g, o + m, none⟩), .int .i64 z, .int .i64 b', .agg #[.int .i64 a, .int .i64 b'], .agg #[.int .i64 a, .int .i64 b', .slice none 0 0], .slice A l.length c, .func (.func 111) #[] #[.pointer (some ⟨w.heap.size + 2, 0, none⟩)], .agg #[.slice A1 x.f0.length c1, .int .i64 x.f1, .int .i64 x.f2], undef, undef, undef, undef, undef, undef, undef, undef, undef, undef, undef, undef, undef, undef, undef, undef, undef, undef, undef, undef, undef, undef, undef, undef, undef, undef, undef, undef, undef, undef, undef, undef, undef, undef, undef, undef, undef, undef, undef, undef, undef, undef, undef, undef, undef, undef, undef, undef, undef, undef, undef, undef, undef, undef], defers := [] })
  (fun pre x a' A B h hk => by
   obtain ⟨b, A1, c1, h0, h0', h1, h2⟩ := h
   exact ⟨b, A1, c1, h0, C64_kc h0' hk, hk.obj h1, h2⟩) ?assign ?body ?done ?stop
 case assign =>
  rintro lp pre x rest vs W K hxs hi ⟨A1, c1, rfl, h1, h2⟩ hsz2 hK
  gi_wp2
  exact hK _ _ ((KB.refl _ _).alloc _) (hi.kc (KC.of_below ((Below.refl _ _).alloc (Nat.le_refl _) _))) ⟨_, A1, c1, h1, Kd.C_below h2 ((Below.refl _ _).alloc (Nat.le_refl _) _), World.alloc_heap_new W _, by rw [hb']⟩
 case body =>
  rintro lp pre x rest a' W hxs hlp hlt - hi ⟨b, A1, c1, hc1, hrx, hbx, rfl⟩
  have hmem : x ∈ rises l := by rw [hxs]; exact List.mem_append_right _ List.mem_cons_self
  have hpl : pre.length < 4096 := by
   have h1 := congrArg List.length hxs
   have h2 : (rises l).length ≤ l.length := List.length_filter_le _ _
   have h3 := H4.out
   rw [List.length_append, List.length_cons] at h1
   exact Nat.lt_of_lt_of_le (by omega : pre.length < (rises l).length) (Nat.le_trans h2 h3)
  exact window_round rfl A c l g o m cc a b' z w H4.out lp b pre x A1 c1 W W0.heap.size hsz hpl (HR.out x ((List.mem_filter.1 hmem).1)) hi hc1 hrx hbx
 case done =>
  subst hb'
  rintro D W hD hi hK
  obtain ⟨v, hp, hR⟩ := hi.p
  obtain ⟨Av, cv, hv, hcv, hC⟩ := Kd.R_reads hR
  subst hv
  have hp0 : W.cell? ⟨w.heap.size + 1, 0, none⟩ = some (.int .i64 a) := by simp [World.cell?, hp]
  have hp1 : W.cell? ⟨w.heap.size + 1, 1, none⟩ = some (.int .i64 (wrap64 (z + 1))) := by simp [World.cell?, hp]
  have hp2 : W.cell? ⟨w.heap.size + 1, 2, none⟩ = some (.slice Av (windowF a (wrap64 (z + 1)) (rises l)).length cv) := by simp [World.cell?, hp]
  have hr0 : W.cell? ⟨w.heap.size, 0, none⟩ = some (.int .i64 0) := by simp [World.cell?, hi.res]
  have hr1 : W.cell? ⟨w.heap.size, 1, none⟩ = some (.int .i64 0) := by simp [World.cell?, hi.res]
  have hr2 : W.cell? ⟨w.heap.size, 2, none⟩ = some (.slice none 0 0) := by simp [World.cell?, hi.res]
  have hrf : ∀ k, W.frozen? ⟨w.heap.size, k, none⟩ = false := fun k => by simp [World.frozen?, hi.res]
  have HI := Lib.hid hi
  have HK := Lib.hid hK
  have HRR := Lib.hid hR
  have HP := Lib.hid hp
  clear hi hK hR hp hC
  gi_wp2_with fail
  have h3 := three_cells (x' := .int .i64 a) (y' := .int .i64 (wrap64 (z + 1))) (z' := .slice Av (windowF a (wrap64 (z + 1)) (rises l)).length cv) HI.out.res
  have hne : D ≠ w.heap.size := by omega
  have hmv : ∀ k, k ≠ w.heap.size → (((W.setCell ⟨w.heap.size, 0, none⟩ (.int .i64 a)).setCell ⟨w.heap.size, 1, none⟩ (.int .i64 (wrap64 (z + 1)))).setCell ⟨w.heap.size, 2, none⟩ (.slice Av (windowF a (wrap64 (z + 1)) (rises l)).length cv)).heap[k]? = W.heap[k]? := fun k hk =>
   (Below.heap_setCell _ _ _ _ hk).trans ((Below.heap_setCell _ _ _ _ hk).trans (Below.heap_setCell _ _ _ _ hk))
  have hD3 := (hmv D hne).trans HK.out
  refine ⟨by simp, .inl ⟨_, _, rfl, run_takeDeferred hD3, ?_⟩⟩
  have h4 := (World.putObj_heap_other (o := .deferred none) (Ne.symm hne)).trans h3
  refine ⟨.agg #[.int .i64 a, .int .i64 (wrap64 (z + 1)), .slice Av (windowF a (wrap64 (z + 1)) (rises l)).length cv], results_cell1 (a := 4) (t := 52) rfl rfl (run_loadVar_row _ _ 52 52 _ (0, 0) _ h4 Try.underlying52 rfl rfl), _, rfl, ?_, ?_⟩
  ·exact R_kc (n₀ := w.heap.size) (Kd.R_mono (Kd.R_move (Kd.R_types HRR.out HI.out.res (by decide)) (fun k hk => hmv k hk.2)) (fun _ hk => hk.1)) (KC.putObj _ hD3 rfl (by omega))
  ·exact KC.below (KC.putObj _ hD3 rfl (by omega)) (((HI.out.below.setCell (p := ⟨w.heap.size, 0, none⟩) (Nat.le_refl _) _).setCell (p := ⟨w.heap.size, 1, none⟩) (Nat.le_refl _) _).setCell (p := ⟨w.heap.size, 2, none⟩) (Nat.le_refl _) _) (Nat.le_refl _)
 case stop => rintro D c W hD h; exact h.elim
end Go.Proofs.Ythngomhhimdolaa.H
end
