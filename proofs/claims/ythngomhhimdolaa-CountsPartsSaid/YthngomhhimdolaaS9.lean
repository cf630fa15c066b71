/- A part of the proof: laws and walks that the last text uses: own texts, and what of the words and walks that the kit's print lays for a seat is used (cut and joined by wip/pack.py). -/
import Derived.Sort.OwnSortedInts
import Derived.Lib.OwnBridge
import Derived.Lib.RowBridge
import Derived.Test.YthngomhhimdolaaS8
section
namespace Go.Proofs.Ythngomhhimdolaa.H
open Go.RowKit Go.Shelf Go.Proofs.YthngomhhimdolaaW.PrintWords Go.Proofs.YthngomhhimdolaaW.PrintLast Go.Proofs.YthngomhhimdolaaW.PrintMore Go.Proofs.Ythngomhhimdolaa.P Go.Proofs.Ythngomhhimdolaa.R
set_option linter.unusedVariables false
set_option linter.unusedSimpArgs false
attribute [local go_sem] Oper.semAt_some
def risesB (x : S68) : Bool := decide (0 < x.f2) && decide (-1 < x.f1)
def rises (l : List S68) : List S68 := l.filter risesB
def OKrise (x : S68) (vs : Array Value) (W : World) : Prop :=
 ∃ (A : Option Addr) (c : Nat), vs = #[.agg #[.slice A x.f0.length c, .int .i64 x.f1, .int .i64 x.f2]] ∧ x.f0.length ≤ c ∧ Kd.C k64 W A x.f0.length x.f0
theorem rises_drop (l : List S68) (j : Nat) (h : j < l.length) : rises (l.drop j) = if risesB (rd_T68 l (j : Nat)) = true then rd_T68 l (j : Nat) :: rises (l.drop (j + 1)) else rises (l.drop (j + 1)) := by
 rw [drop_rd l j h]
 unfold rises
 rw [List.filter_cons]
set_option maxHeartbeats 1000000 in
theorem rises_calls (A : Option Addr) (n c : Nat) (w : World) : Calls Try.prog 80 #[.slice A n c] w fun e w' => e = .returned (.func (.func 111) #[] #[.pointer (some ⟨w.heap.size, 0, none⟩)]) ∧ w' = w.alloc (.cells #[.slice A n c] 22 (0, 0)) := by
 go_enter Try.func80, Try.ntmps80
 go_wp2
 go_ret
 exact ⟨rfl, rfl⟩
set_option maxHeartbeats 4000000 in
set_option maxRecDepth 100000 in
theorem rises_in (n : Nat) (hn : 1 ≤ n) (A : Option Addr) (c : Nat) (l : List S68) (n₀ c₀ Bx : Nat) (w : World) (hl : ∀ W, Below n₀ w W → Kd.C k68 W A l.length l) (hbx : Boxed w Bx 22 (.slice A l.length c)) (hc : c₀ ≤ Bx) (hn₀ : n₀ ≤ c₀) :
  SeqM Fence.wide n Try.prog 111 #[.pointer (some ⟨Bx, 0, none⟩)] OKrise (rises l) (Prun n₀ c₀ w.heap.size) w := by
 intro lp J Jx W hW hJ hJx hY h0
 have hnw : n₀ ≤ w.heap.size := by have := hbx.lt; omega
 have hlm : l.length ≤ 9223372036854775807 := by have := Kd.C_max (hl w (Below.refl _ _)); unfold maxLen at this; omega
 have hbox := (Boxed.below hbx hW).cell
 have hu68 := Try.underlying68
 refine callsIn_of_wp Try.func111 rfl trivial ?_ rfl
 simp only [Try.ntmps111, List.size_toArray, List.length_cons, List.length_nil, Nat.reduceAdd, Nat.reduceSub, Array.replicate_succ, Array.replicate_zero, List.push_toArray, List.append_toArray, List.nil_append, List.cons_append]
 gi_wp2
 gi_loopw [7] (fun i wr => ∃ (k : Nat) (pre : List S68), k ≤ l.length ∧ i = .int .i64 k ∧ Hid (rises l = pre ++ rises (l.drop k)) ∧ Hid (J pre wr) ∧ Hid (Below n₀ w wr)) (fun i _ => l.length - (intOf i).toNat)
 case atStart => exact ⟨0, [], Nat.zero_le _, rfl, Lib.hid (by simp), Lib.hid h0, Lib.hid ⟨hW.os, hW.tape, hW.output, hW.size, fun i hi => hW.block i (by omega)⟩⟩
 case round =>
  obtain ⟨k, pre, hk, rfl, HX, HJ, HB⟩ := hrel
  by_cases hlt : k < l.length
  ·have hltz : (k : Int) < (l.length : Int) := by omega
   have h0k : (0 : Int) ≤ (k : Int) := by omega
   obtain ⟨ad, A0, c0, hA, hc0, hc1, hc2, hl0, hr0⟩ := at_T68 (hl wr HB.out) k h0k hltz
   cases hA
   simp only [Int.toNat_natCast] at hc0 hc1 hc2
   have HR0 := Lib.hid hr0
   have HL0 := Lib.hid hl0
   have HLL := Lib.hid hl
   clear hr0 hl0 hl
   have HBA : Below wr.heap.size wr (wr.alloc (.cells #[.slice A0 (rd_T68 l k).f0.length c0, .int .i64 (rd_T68 l k).f1, .int .i64 (rd_T68 l k).f2] 68 (0, 0))) := (Below.refl _ _).alloc (Nat.le_refl _) _
   by_cases h2 : 0 < (rd_T68 l k).f2
   ·have hd1 : decide (0 < (rd_T68 l k).f2) = true := decide_eq_true h2
    by_cases h1 : -1 < (rd_T68 l k).f1
    ·have hd2 : decide (-1 < (rd_T68 l k).f1) = true := decide_eq_true h1
     have HQ : Hid (risesB (rd_T68 l k) = true) := Lib.hid (by unfold risesB; rw [hd1, hd2]; rfl)
     clear h1 h2
     have hxs : rises l = pre ++ rd_T68 l k :: rises (l.drop (k + 1)) := by
      have h1 := HX.out
      rw [rises_drop l k hlt, if_pos HQ.out] at h1
      exact h1
     obtain ⟨fn, tmps, assign, body, hy, hR⟩ := hY pre (rd_T68 l k) (rises (l.drop (k + 1))) #[.agg #[.slice A0 (rd_T68 l k).f0.length c0, .int .i64 (rd_T68 l k).f1, .int .i64 (rd_T68 l k).f2]] _ hxs (hJ _ _ _ HJ.out HBA) ⟨A0, c0, rfl, HL0.out, Kd.C_below HR0.out HBA⟩
     have HXS := Lib.hid hxs
     clear hxs
     gi_wp2
     refine hR.mono ?_
     rintro e W3 (⟨rfl, hJ3, hk3⟩ | ⟨rfl, hJx3⟩)
     ·have HJ3 := Lib.hid hJ3
      have HK3 := Lib.hid hk3
      clear hJ3 hk3 hy hR
      gi_wp2
      go_roundw
      case measure => simp [intOf]; omega
      case rel =>
       exact ⟨k + 1, pre ++ [rd_T68 l k], by omega, by go_num, Lib.hid (by rw [HXS.out, List.append_assoc]; rfl), HJ3, Lib.hid (kb_below HK3.out (HB.out.trans (HBA.mono (Nat.le_trans hnw HB.out.size))) (fun k o hk _ => .inl hk) hnw)⟩
     ·have HJ3 := Lib.hid hJx3
      clear hJx3 hy hR
      gi_wp2
      refine bodyPost_ret (results_none rfl _ _ _) rfl ?_
      exact ⟨⟨_, rfl⟩, .inr HJ3.out⟩
    ·have hd2 : decide (-1 < (rd_T68 l k).f1) = false := decide_eq_false h1
     have HQ : Hid (risesB (rd_T68 l k) = false) := Lib.hid (by unfold risesB; rw [hd1, hd2]; rfl)
     clear h1 h2
     gi_wp2_with fail
     all_goals first | (exfalso; simp only [undef, Option.some.injEq, reduceCtorEq] at *; done) | skip
     refine ⟨(fun _ h => by cases h), ?_⟩
     gi_wp2_with fail
     go_roundw
     case measure => simp [intOf]; omega
     case rel =>
      refine ⟨k + 1, pre, by omega, by go_num, Lib.hid ?_, Lib.hid (hJ _ _ _ HJ.out ?_), Lib.hid (HB.out.trans ?_)⟩
      ·have h1 := HX.out
       rw [rises_drop l k hlt, if_neg (by rw [HQ.out]; decide)] at h1
       exact h1
      ·exact HBA
      ·exact HBA.mono (Nat.le_trans hnw HB.out.size)
   ·have hd1 : decide (0 < (rd_T68 l k).f2) = false := decide_eq_false h2
    have HQ : Hid (risesB (rd_T68 l k) = false) := Lib.hid (by unfold risesB; rw [hd1]; rfl)
    clear h2
    gi_wp2_with fail
    all_goals first | (exfalso; simp only [undef, Option.some.injEq, reduceCtorEq] at *; done) | skip
    refine ⟨(fun _ h => by cases h), ?_⟩
    gi_wp2_with fail
    go_roundw
    case measure => simp [intOf]; omega
    case rel =>
     refine ⟨k + 1, pre, by omega, by go_num, Lib.hid ?_, Lib.hid (hJ _ _ _ HJ.out ?_), Lib.hid (HB.out.trans ?_)⟩
     ·have h1 := HX.out
      rw [rises_drop l k hlt, if_neg (by rw [HQ.out]; decide)] at h1
      exact h1
     ·exact HBA
     ·exact HBA.mono (Nat.le_trans hnw HB.out.size)
  ·have hltz : ¬ (k : Int) < (l.length : Int) := by omega
   have HD := Lib.hid HX.out
   gi_wp2
   go_end0
   refine ⟨⟨_, rfl⟩, .inl ?_⟩
   have h1 := HX.out
   rw [List.drop_eq_nil_of_le (by omega), show rises [] = [] from rfl, List.append_nil] at h1
   rw [h1]
   exact HJ.out
end Go.Proofs.Ythngomhhimdolaa.H
end
section
namespace Go.Proofs.Ythngomhhimdolaa.H
open Go.RowKit Go.Shelf Go.Proofs.YthngomhhimdolaaW.PrintWords Go.Proofs.YthngomhhimdolaaW.PrintLast Go.Proofs.YthngomhhimdolaaW.PrintMore Go.Proofs.Ythngomhhimdolaa.P Go.Proofs.Ythngomhhimdolaa.R
set_option linter.unusedVariables false
set_option linter.unusedSimpArgs false
attribute [local go_sem] Oper.semAt_some
abbrev OwnI (w : World) (base : Nat) (v : Value) (zs : List Int) : Prop := w.ownsRow base 3 1 v zs.length (zs.map (Value.int .i64))
def srt (zs : List Int) : List Int := zs.mergeSort fun x y => decide (x ≤ y)
theorem Sort_own {base : Nat} {v : Value} {zs : List Int} {w : World} (h : OwnI w base v zs) (hz : zs.length < 4611686018427387904) :
  Calls Try.prog 61 #[v] w fun e w' => e = .returned (.tuple #[]) ∧ OwnI w' base v (srt zs) ∧ w.grownBy w' v.ownBlock := by
 rcases h.2 with ⟨rfl, h0⟩ | ⟨g, cap, cur, rfl, hbase, hg, h1, h2, h3, h4⟩
 ·obtain rfl : zs = [] := List.length_eq_zero_iff.1 h0
  refine (Try.slices_Sort_int_none none 0 w).mono ?_
  rintro e w' ⟨rfl, rfl⟩
  exact ⟨rfl, by unfold srt; simpa using h, ⟨rfl, rfl, rfl, Nat.le_refl _, fun _ _ _ => rfl⟩⟩
 ·have hH := holds_of_blockI hg (by simpa using h4)
  refine (Try.slices_Sort_int g 0 cap zs w hH (Array.getElem?_eq_some_iff.1 hg).1 hz).mono ?_
  rintro e w' ⟨rfl, n, os, rfl⟩
  have hs := ownsRow_sortedI (n := n) (os := os) (ts := srt zs) (by unfold srt; exact List.length_mergeSort zs) hbase hg h1 h2 h3
  refine ⟨rfl, ?_, grownBy_sortedI _⟩
  unfold OwnI
  rw [show (srt zs).length = zs.length from List.length_mergeSort zs]
  exact hs
theorem Compact_own {base : Nat} {v : Value} {zs : List Int} {w : World} (h : OwnI w base v zs) (hb : base ≤ w.heap.size) :
  Calls Try.prog 81 #[v] w fun e w' => ∃ v', e = .returned v' ∧ OwnI w' base v' (Lib.compact zs) ∧ w.grownBy w' v.ownBlock := by
 rcases h.2 with ⟨rfl, h0⟩ | ⟨g, cap, cur, rfl, hbase, hg, h1, h2, h3, h4⟩
 ·obtain rfl : zs = [] := List.length_eq_zero_iff.1 h0
  refine (Try.slices_Compact_int_empty none 0 w).mono ?_
  rintro e w' ⟨rfl, rfl⟩
  exact ⟨_, rfl, h, rfl, rfl, rfl, Nat.le_refl _, fun _ _ _ => rfl⟩
 ·by_cases hz : zs.length = 0
  ·obtain rfl : zs = [] := List.length_eq_zero_iff.1 hz
   refine (Try.slices_Compact_int_empty (some ⟨g, 0, none⟩) cap w).mono ?_
   rintro e w' ⟨rfl, rfl⟩
   exact ⟨_, rfl, h, rfl, rfl, rfl, Nat.le_refl _, fun _ _ _ => rfl⟩
  have hH := holds_of_blockI hg (by simpa using h4)
  have hle := Lib.compact_length_le zs
  refine (Try.slices_Compact_int g 0 cap zs w hH (by unfold maxLen at h2; omega) h1).mono ?_
  rintro e w' ⟨rfl, q, rfl⟩
  have hc := Lib.ownsRow_putRow (q := q) (k := (Lib.compact zs).length) (ys := Lib.compact zs ++ List.replicate (zs.length - (Lib.compact zs).length) 0) h (by simp; omega) (by omega)
  rw [List.take_left] at hc
  have hg2 := grownBy_sortedI (w := w) (g := g) (n := q) (os := #[]) (Lib.compact zs ++ List.replicate (zs.length - (Lib.compact zs).length) 0).toArray
  rw [Go.Sort.grow_empty] at hg2
  exact ⟨_, rfl, hc, hg2⟩
def startsL (l : List S68) : List Int := Lib.compact (srt ((rises l).map (·.f1)))
theorem app_kb {n₀ c m B : Nat} {W w1 : World} {tmp : Obj} {v v' : Value} {e : TypeId} {size k : Nat} {xs : List Value} (hrow : W.ownsRow n₀ e size v k xs) (he : e ≠ 22) (hgrow : (W.alloc tmp).grownBy w1 v.ownBlock) (hB : n₀ ≤ B) (hBc : B < c)
  (hp : ∀ k, c ≤ k → k < m → ∃ u, Boxed W k 22 u) : KB (Prun n₀ c m) W (w1.setCell ⟨B, 0, none⟩ v') := by
 refine (((KB.refl _ W).alloc tmp).grown hgrow (fun j o hj ho hq => ?_)).setCell _ _ (fun o ho hq => prun_no hB hBc hq)
 rcases hrow.2 with ⟨rfl, _⟩ | ⟨g, cap, cur, rfl, hb, hg, _⟩
 ·simp [Value.ownBlock] at hj
 ·obtain rfl : g = j := by simpa [Value.ownBlock] using hj
  have ho2 : o = .cells cur e (0, 0) := by
   have h1 := (Below.heap_alloc W tmp g (lt_of_some hg)).trans hg
   rw [h1] at ho
   exact (Option.some.inj ho).symm
  subst ho2
  rcases hq with hq | ⟨h1, h2 | h2 | ⟨u, h2⟩⟩
  ·omega
  ·obtain ⟨u, hu⟩ := hp g h1 h2
   rw [show W.heap[g]? = _ from hu] at hg
   cases hg; exact he rfl
  ·cases h2
  ·cases h2; exact he rfl
theorem app_box {n₀ B k2 : Nat} {W w1 : World} {tmp : Obj} {v v' u : Value} {e t : TypeId} {size k : Nat} {xs : List Value} (hrow : W.ownsRow n₀ e size v k xs) (hgrow : (W.alloc tmp).grownBy w1 v.ownBlock) (hb : Boxed W k2 t u) (he : t ≠ e) (hne : k2 ≠ B) :
  Boxed (w1.setCell ⟨B, 0, none⟩ v') k2 t u := ((hb.alloc tmp).kept hgrow (hb.not_row he hrow)).other hne v'
structure StI (w : World) (u : Value) (pre : List S68) (W : World) : Prop where
 below : Below w.heap.size w W
 bl : Boxed W (w.heap.size + 2) 22 u
 box : ∃ v, Boxed W (w.heap.size + 1) 25 v ∧ OwnI W w.heap.size v (pre.map (·.f1))
theorem own_kc {n₀ base : Nat} {A B : World} {e : TypeId} {sz n : Nat} {v : Value} {xs : List Value} (h : A.ownsRow base e sz v n xs) (hk : KC n₀ A B) : B.ownsRow base e sz v n xs := by
 obtain ⟨h1, h2⟩ := h
 refine ⟨h1, ?_⟩
 rcases h2 with h2 | ⟨g, cap, cur, rfl, hg, hh, r⟩
 ·exact .inl h2
 ·exact .inr ⟨g, cap, cur, rfl, hg, hk.obj hh, r⟩
theorem StI.kc {w : World} {u : Value} {pre : List S68} {A B : World} (h : StI w u pre A) (hk : KC w.heap.size A B) : StI w u pre B :=
 ⟨hk.below h.below (Nat.le_refl _), hk.obj h.bl, by obtain ⟨v, h1, h2⟩ := h.box; exact ⟨v, hk.obj h1, own_kc h2 hk⟩⟩
set_option maxHeartbeats 4000000 in
set_option maxRecDepth 100000 in
theorem starts_yes (A : Option Addr) (c : Nat) (l : List S68) (w : World) (hl : Kd.C k68 w A l.length l) (h4 : l.length ≤ 4096) :
  Calls Try.prog 43 #[.slice A l.length c] w fun e w' => ∃ v, e = .returned v ∧ OwnI w' w.heap.size v (startsL l) ∧ Below w.heap.size w w' := by
 have HL := Lib.hid hl
 have H4 := Lib.hid h4
 clear hl h4
 refine (callsIn_wide (n := 5)).1 ?_
 refine callsIn_of_wp_marks Try.func43 rfl trivial ?_ rfl
 simp only [Try.ntmps43, List.size_toArray, List.length_cons, List.length_nil, Nat.reduceAdd, Nat.reduceSub, Array.replicate_succ, Array.replicate_zero, List.push_toArray, List.append_toArray, List.nil_append, List.cons_append]
 gi_wp2_with fail
 refine ⟨trivial, ?_⟩
 refine (callsIn_wide.2 (rises_calls _ _ _ _)).mono ?_
 rintro e w1 ⟨rfl, rfl⟩
 gi_wp2_with fail
 obtain ⟨W0, hW0⟩ : ∃ W0, W0 = (((w.alloc (.cells #[] 3 (0, 0))).alloc (.cells #[.slice (some ⟨w.heap.size, 0, none⟩) 0 0] 25 (0, 0))).alloc (.cells #[.slice A l.length c] 22 (0, 0))) := ⟨_, rfl⟩
 rw [← hW0]
 have hsz : W0.heap.size = w.heap.size + 3 := by rw [hW0]; simp
 have hbw : Below w.heap.size w W0 := by
  rw [hW0]; exact (((Below.refl w.heap.size w).alloc (Nat.le_refl _) _).alloc (by simp) _).alloc (by simp; omega) _
 have b0 : OwnI W0 w.heap.size (.slice (some ⟨w.heap.size, 0, none⟩) 0 0) [] := by
  rw [hW0]; exact ((World.ownsRow_made w (#[] : Array Value) 0 (Nat.le_refl _) (by unfold maxLen; omega) (by simp)).alloc _).alloc _
 have b1 : Boxed W0 (w.heap.size + 1) 25 (.slice (some ⟨w.heap.size, 0, none⟩) 0 0) := by
  rw [hW0]; exact (by have := Boxed.new (w.alloc (.cells #[] 3 (0, 0))) 25 (.slice (some ⟨w.heap.size, 0, none⟩) 0 0); rwa [World.size_alloc] at this : Boxed _ (w.heap.size + 1) 25 _).alloc _
 have b2 : Boxed W0 (w.heap.size + 2) 22 (.slice A l.length c) := by
  rw [hW0]; have := Boxed.new ((w.alloc (.cells #[] 3 (0, 0))).alloc (.cells #[.slice (some ⟨w.heap.size, 0, none⟩) 0 0] 25 (0, 0))) 22 (.slice A l.length c); rwa [World.size_alloc, World.size_alloc] at this
 clear hW0
 obtain ⟨i0, hi0, hz0, hz1, hz2⟩ := info_parts info3
 refine rangeM (F := Fence.wide) (Pr := Prun w.heap.size (w.heap.size + 2) W0.heap.size) (OK := OKrise) (xs := rises l) (n₀ := w.heap.size) rfl (by decide) (gf := 111) (lb := #[.pointer (some ⟨w.heap.size + 2, 0, none⟩)]) rfl trivial (enters_of Try.func111 (by kernel_rfl) rfl) (by omega)
  (rises_in 4 (by decide) A c l w.heap.size (w.heap.size + 2) (w.heap.size + 2) W0 (fun W hW => Kd.C_below HL.out (hbw.trans hW)) b2 (Nat.le_refl _) (by omega))
  (fun k o hk hb => .inr ⟨by omega, .inr (.inl hb)⟩) (fun x vs W h => by obtain ⟨A1, c1, rfl, _⟩ := h; rfl)
  (StI w (.slice A l.length c)) (fun _ _ => False) (fun pre A B h hk => h.kc hk) (fun c A B h hk => h)
  ⟨hbw, b2, _, b1, b0⟩
  (fun pre x a' W => ∃ (b : Nat) (A1 : Option Addr) (c1 : Nat), W.heap[b]? = some (.cells #[.slice A1 x.f0.length c1, .int .i64 x.f1, .int .i64 x.f2] 68 (0, 0)) ∧
   a' = { tmps := #[.slice A l.length c, undef, .slice none 0 0, .pointer (some ⟨w.heap.size + 1, 0, none⟩), .pointer (some ⟨b, 0, none⟩), .slice (some ⟨w.heap.size, 0, none⟩) 0 0, .slice A l.length c, .func (.func 111) #[] #[.pointer (some ⟨w.heap.size + 2, 0, none⟩)], .agg #[.slice A1 x.f0.length c1, .int .i64 x.f1, .int .i64 x.f2], undef, undef, undef, undef, undef, undef, undef, undef, undef], defers := [] })
  (fun pre x a' A B h hk => by
   obtain ⟨b, A1, c1, h1, h2⟩ := h
   exact ⟨b, A1, c1, hk.obj h1, h2⟩) ?assign ?body ?done ?stop
 case assign =>
  rintro lp pre x rest vs W K hxs hi ⟨A1, c1, rfl, h1, h2⟩ hsz2 hK
  gi_wp2
  exact hK _ _ ((KB.refl _ _).alloc _) (hi.kc (KC.of_below ((Below.refl _ _).alloc (Nat.le_refl _) _))) ⟨_, A1, c1, World.alloc_heap_new W _, rfl⟩
 case body =>
  rintro lp pre x rest a' W hxs hlp hlt - hi ⟨b, A1, c1, hb, rfl⟩
  obtain ⟨v, hv, hrow0⟩ := hi.box
  have hrow : W.ownsRow w.heap.size 3 1 v (pre.map (·.f1)).length ((pre.map (·.f1)).map (Value.int .i64)) := hrow0
  have hc := hv.cell
  have hx : W.cell? ⟨b, 1, none⟩ = some (.int .i64 x.f1) := by simp [World.cell?, hb]
  have hpl : pre.length ≤ 4096 := by
   have h1 := congrArg List.length hxs
   have h2 : (rises l).length ≤ l.length := List.length_filter_le _ _
   have := H4.out
   simp at h1; omega
  have HBL := Lib.hid hi.below
  have HB2 := Lib.hid hi.bl
  clear hi
  rw [show (pre.map (·.f1)).length = pre.length from List.length_map _] at hrow
  gi_wp2_with (gi_at_builtin; refine wpListIn_append_own _ rfl _ _ 25 rfl w.heap.size 3 i0 (.int .i64 0) 1 8 Try.underlying25 hi0 hz0 hz1 hz2 rfl (by decide) _ _ _ rfl (hrow.alloc _) ⟨W.heap.size, 0, none⟩ 1 1 [.int .i64 x.f1] rfl rfl (cell_one_new _ _ _) (by simp [Value.oneCell']) (by unfold maxLen; omega) (by omega) (by have := HBL.out.size; simp; omega) ?_; intro v' w1 hown' hgrow _; obtain ⟨g', cap', rfl⟩ := ownsRow_succ hown'; obtain ⟨hv1, hv2, hr2, hk2, hb2⟩ := hv.appended (by decide) hrow HBL.out.size (Nat.le_add_right _ _) hown' hgrow; have hc1 := hv1.cell; have hf1 := hv1.frozen)
  refine ⟨app_kb hrow (by decide) hgrow (Nat.le_add_right _ _) (by omega) (fun k h1 h2 => ?_), HBL.out.trans hb2, app_box hrow hgrow HB2.out (by decide) (by omega), _, hv2, ?_⟩
  ·obtain rfl : k = w.heap.size + 2 := by omega
   exact ⟨_, HB2.out⟩
  ·unfold OwnI
   simpa using hr2
 case done =>
  rintro D W hD hi hK
  obtain ⟨v, hv, hown⟩ := hi.box
  have hc := hv.cell
  have hlen : ((rises l).map (·.f1)).length < 4611686018427387904 := by
   have h2 : (rises l).length ≤ l.length := List.length_filter_le _ _
   have := H4.out
   simp; omega
  have HS := Lib.hid (Sort_own hown hlen)
  have HV := Lib.hid hv
  have HI := Lib.hid hi.below
  have HO := Lib.hid hown
  have HK := Lib.hid hK
  clear hi hown hlen hv hK
  gi_wp2_with fail
  refine ⟨trivial, ?_⟩
  refine (callsIn_wide.2 HS.out).mono ?_
  rintro e w2 ⟨rfl, hown2, hg2⟩
  have hbx2 : Boxed w2 (w.heap.size + 1) 25 v := HV.out.kept hg2 (HV.out.not_row (by decide) HO.out)
  have hb2 : Below w.heap.size w w2 := HI.out.grown hg2 HI.out.size (fun k hk => own_base HO.out k hk)
  have hK2 : w2.heap[D]? = some (.deferred (some [])) := (hg2.block D (lt_of_some HK.out) (fun hk => by
   rcases HO.out.2 with ⟨rfl, _⟩ | ⟨g, cap, cur, rfl, hb, hg, _⟩
   ·simp [Value.ownBlock] at hk
   ·obtain rfl : D = g := by simpa [Value.ownBlock] using hk
    have := HK.out
    rw [hg] at this; cases this)).trans HK.out
  have hK3 : ∀ k, v.ownBlock = some k → k ≠ D := by
   rintro k hk rfl
   rcases HO.out.2 with ⟨rfl, _⟩ | ⟨g, cap, cur, rfl, hb, hg, _⟩
   ·simp [Value.ownBlock] at hk
   ·obtain rfl : g = k := by simpa [Value.ownBlock] using hk
    have := HK.out
    rw [hg] at this; cases this
  have HK3 := Lib.hid hK3
  have HO2 := Lib.hid hown2
  have hcx := hbx2.cell
  have HC := Lib.hid (Compact_own hown2 hb2.size)
  have HBB := Lib.hid hb2
  have HKK := Lib.hid hK2
  clear hown2 hg2 hbx2 hb2 hK2 hK3
  gi_wp2_with fail
  refine ⟨trivial, ?_⟩
  refine (callsIn_wide.2 HC.out).mono ?_
  rintro e w3 ⟨v3, rfl, hown3, hg3⟩
  have HB3 := Lib.hid (HBB.out.grown hg3 HBB.out.size (fun k hk => own_base HO.out k hk))
  have HO3 := Lib.hid hown3
  have HD3 : Hid (w3.heap[D]? = some (.deferred (some []))) := Lib.hid ((hg3.block D (lt_of_some HKK.out) (fun hk => HK3.out D hk.symm rfl)).trans HKK.out)
  clear hg3 hown3
  gi_wp2
  refine ⟨by simp, .inl ⟨_, _, rfl, run_takeDeferred HD3.out, ?_⟩⟩
  exact ⟨_, results_tmp rfl _ _ _, v3, rfl, ownsRow_putObj HO3.out _ HD3.out rfl, KC.below (KC.putObj _ HD3.out rfl (by omega)) HB3.out (Nat.le_refl _)⟩
 case stop => rintro D c W hD h; exact h.elim
end Go.Proofs.Ythngomhhimdolaa.H
namespace Go.Proofs.Ythngomhhimdolaa.P
open Go.RowKit Go.Shelf Go.Proofs.YthngomhhimdolaaW.PrintWords Go.Proofs.YthngomhhimdolaaW.PrintLast Go.Proofs.YthngomhhimdolaaW.PrintMore Go.Proofs.Ythngomhhimdolaa.H Go.Proofs.Ythngomhhimdolaa.R
theorem R_int_own {w : World} {base : Nat} {v : Value} {zs : List Int} (h : OwnI w base v zs) : Kd.R (Kd.int .i64) 3 w base (fun _ => True) v zs := by
 refine ⟨fun _ _ => trivial, zs.map (Value.int .i64), h, by rw [List.length_map, show (Kd.int .i64).sz = 1 from rfl, Nat.mul_one], fun j p hj => ?_⟩
 show ((zs.map (Value.int .i64)).drop (j * 1)).take 1 = [.int .i64 p]
 have hl : j < zs.length := (List.getElem?_eq_some_iff.1 hj).1
 rw [Nat.mul_one, List.drop_eq_getElem_cons (by simpa using hl)]
 rw [List.take_succ_cons, List.take_zero, List.getElem_map]
 rw [List.getElem?_eq_getElem hl] at hj
 rw [Option.some.inj hj]
def counts_starts.f (l : List S68) : Option (List Int) := if l.length ≤ 4096 then some (startsL l) else none
theorem counts_starts.calls (A0 : Option Addr) (c0 : Nat) (l0 : List S68) (r : List Int) (w : World) (hr0 : Kd.C k68 w A0 l0.length l0) (hc0 : l0.length ≤ c0) (h : counts_starts.f l0 = some r) :
  Calls Try.prog 43 #[.slice A0 l0.length c0] w fun e w' => ∃ v0_ : Value, e = .returned v0_ ∧ Kd.R (Kd.int .i64) 3 w' w.heap.size (fun _ => True) v0_ r ∧ Below w.heap.size w w' := by
 unfold counts_starts.f at h
 by_cases h4 : l0.length ≤ 4096
 ·rw [if_pos h4] at h
  obtain rfl := Option.some.inj h
  refine (starts_yes A0 c0 l0 w hr0 h4).mono ?_
  rintro e w' ⟨v, rfl, h1, h2⟩
  exact ⟨v, rfl, R_int_own h1, h2⟩
 ·rw [if_neg h4] at h; cases h
end Go.Proofs.Ythngomhhimdolaa.P
end
section
namespace Go.Proofs.Ythngomhhimdolaa.H
open Go.RowKit Go.Shelf Go.Proofs.YthngomhhimdolaaW.PrintWords Go.Proofs.YthngomhhimdolaaW.PrintLast Go.Proofs.YthngomhhimdolaaW.PrintMore Go.Proofs.Ythngomhhimdolaa.P Go.Proofs.Ythngomhhimdolaa.R
set_option linter.unusedVariables false
theorem loop_eq (s : ByteArray) : ∀ (n i : Nat) (r : List UInt8), s.size - i = n → ByteArray.toList.loop s i r = r.reverse ++ s.data.toList.drop i := by
 intro n
 induction n with
 | zero =>
  intro i r h
  have hl : s.data.toList.length = s.size := Array.length_toList
  rw [ByteArray.toList.loop, if_neg (by omega), List.drop_eq_nil_of_le (by omega), List.append_nil]
 | succ n ih =>
  intro i r h
  have hl : s.data.toList.length = s.size := Array.length_toList
  rw [ByteArray.toList.loop, if_pos (by omega), ih (i + 1) _ (by omega), List.drop_eq_getElem_cons (i := i) (by omega)]
  have : s.get! i = s.data.toList[i]'(by omega) := by
   unfold ByteArray.get!
   have hi : i < s.data.size := by rw [← Array.length_toList]; omega
   rw [Array.getElem_toList hi]
   exact getElem!_pos s.data i hi
  rw [this, List.reverse_cons, List.append_assoc]; rfl
theorem toList_data (s : ByteArray) : s.toList = s.data.toList := by
 unfold ByteArray.toList
 have := loop_eq s _ 0 [] rfl
 simpa using this
theorem cb_zero : ∀ a b : List UInt8, Lib.compareBytes a b = 0 ↔ a = b
 | [], [] => by simp [Lib.compareBytes]
 | [], _ :: _ => by simp [Lib.compareBytes]
 | _ :: _, [] => by simp [Lib.compareBytes]
 | x :: xs, y :: ys => by
  rw [Lib.compareBytes]
  by_cases h : x < y
  ·rw [if_pos h]
   refine ⟨fun h' => by omega, fun h' => ?_⟩
   injection h' with h1 h2
   rw [h1] at h; exact absurd h (UInt8.lt_irrefl y)
  ·rw [if_neg h]
   by_cases h2 : y < x
   ·rw [if_pos h2]
    refine ⟨fun h' => by omega, fun h' => ?_⟩
    injection h' with h1 h3
    rw [h1] at h2; exact absurd h2 (UInt8.lt_irrefl y)
   ·rw [if_neg h2, cb_zero xs ys]
    have : x = y := UInt8.toNat_inj.1 (by have a1 : ¬ x.toNat < y.toNat := fun h' => h (UInt8.lt_iff_toNat_lt.2 h'); have a2 : ¬ y.toNat < x.toNat := fun h' => h2 (UInt8.lt_iff_toNat_lt.2 h'); omega)
    subst this; simp
theorem cb_trans : ∀ a b c : List UInt8, Lib.compareBytes a b < 0 → Lib.compareBytes b c < 0 → Lib.compareBytes a c < 0
 | [], [], _, h, _ => by simp [Lib.compareBytes] at h
 | [], _ :: _, [], _, h => by simp [Lib.compareBytes] at h
 | [], _ :: _, _ :: _, _, _ => by simp [Lib.compareBytes]
 | _ :: _, [], _, h, _ => by simp [Lib.compareBytes] at h
 | _ :: _, _ :: _, [], _, h => by simp [Lib.compareBytes] at h
 | x :: xs, y :: ys, z :: zs, h1, h2 => by
  rw [Lib.compareBytes] at h1 h2 ⊢
  have hxy := @UInt8.lt_iff_toNat_lt x y
  have hyx := @UInt8.lt_iff_toNat_lt y x
  have hyz := @UInt8.lt_iff_toNat_lt y z
  have hzy := @UInt8.lt_iff_toNat_lt z y
  have hxz := @UInt8.lt_iff_toNat_lt x z
  have hzx := @UInt8.lt_iff_toNat_lt z x
  by_cases a1 : x < y
  ·by_cases b1 : y < z
   ·rw [if_pos (hxz.2 (by have := hxy.1 a1; have := hyz.1 b1; omega))]; decide
   ·rw [if_neg b1] at h2
    by_cases b2 : z < y
    ·rw [if_pos b2] at h2; omega
    ·have : y = z := UInt8.toNat_inj.1 (by have c1 : ¬ y.toNat < z.toNat := fun h => b1 (hyz.2 h); have c2 : ¬ z.toNat < y.toNat := fun h => b2 (hzy.2 h); omega)
     subst this; rw [if_pos a1]; decide
  ·rw [if_neg a1] at h1
   by_cases a2 : y < x
   ·rw [if_pos a2] at h1; omega
   ·rw [if_neg a2] at h1
    have : x = y := UInt8.toNat_inj.1 (by have c1 : ¬ x.toNat < y.toNat := fun h => a1 (hxy.2 h); have c2 : ¬ y.toNat < x.toNat := fun h => a2 (hyx.2 h); omega)
    subst this
    by_cases b1 : x < z
    ·rw [if_pos b1]; decide
    ·rw [if_neg b1] at h2 ⊢
     by_cases b2 : z < x
     ·rw [if_pos b2] at h2; omega
     ·rw [if_neg b2] at h2 ⊢
      exact cb_trans xs ys zs h1 h2
theorem eqS_iff (x y : S64) : eqS x y = true ↔ x.f0 = y.f0 ∧ x.f1 = y.f1 ∧ x.f2.data.toList = y.f2.data.toList := by
 unfold eqS; rw [toList_data, toList_data]; simp [Bool.and_eq_true]
theorem cmpI_zero (a b : Int) : cmpI a b = 0 ↔ a = b := by unfold cmpI; split <;> (try split) <;> omega
theorem cmpI_neg (a b : Int) : cmpI a b < 0 ↔ a < b := by unfold cmpI; split <;> (try split) <;> omega
theorem mayVs_cases {x : S64} (h : mayVs x = true) : (x.f0 = 1 ∧ x.f2.data.toList = []) ∨ (x.f0 = 2 ∧ x.f1 = 0) := by
 rcases mayV_cases h with ⟨h1, h2⟩ | ⟨h1, h2, _⟩
 ·exact .inl ⟨h1, by rw [← toList_data]; exact h2⟩
 ·exact .inr ⟨h1, h2⟩
theorem cmpVs_may {x y : S64} (hx : mayVs x = true) (hy : mayVs y = true) : cmpVs x y = if x.f0 = 1 then (if y.f0 = 1 then cmpI x.f1 y.f1 else -1) else if y.f0 = 1 then 1 else Lib.compareBytes x.f2.data.toList y.f2.data.toList := by
 unfold cmpVs cmpV
 rw [if_pos ⟨hx, hy⟩]
theorem cmpVs_zero {x y : S64} (hx : mayVs x = true) (hy : mayVs y = true) : cmpVs x y = 0 ↔ eqS x y = true := by
 rw [cmpVs_may hx hy, eqS_iff]
 rcases mayVs_cases hx with ⟨a1, a2⟩ | ⟨a1, a2⟩ <;> rcases mayVs_cases hy with ⟨b1, b2⟩ | ⟨b1, b2⟩
 ·rw [if_pos a1, if_pos b1, cmpI_zero, a1, b1, a2, b2]; simp
 ·rw [if_pos a1, if_neg (by omega), a1, b1]; simp
 ·rw [if_neg (by omega), if_pos b1, a1, b1]; simp
 ·rw [if_neg (by omega), if_neg (by omega), cb_zero, a1, b1, a2, b2]; simp
theorem cmpVs_trans {x y z : S64} (hx : mayVs x = true) (hy : mayVs y = true) (hz : mayVs z = true) (h1 : cmpVs x y < 0) (h2 : cmpVs y z < 0) : cmpVs x z < 0 := by
 rw [cmpVs_may hx hy] at h1; rw [cmpVs_may hy hz] at h2; rw [cmpVs_may hx hz]
 rcases mayVs_cases hx with ⟨a1, a2⟩ | ⟨a1, a2⟩ <;> rcases mayVs_cases hy with ⟨b1, b2⟩ | ⟨b1, b2⟩ <;> rcases mayVs_cases hz with ⟨c1, c2⟩ | ⟨c1, c2⟩
 ·rw [if_pos a1, if_pos b1, cmpI_neg] at h1
  rw [if_pos b1, if_pos c1, cmpI_neg] at h2
  rw [if_pos a1, if_pos c1, cmpI_neg]; omega
 ·rw [if_pos a1, if_neg (by omega)]; decide
 ·rw [if_neg (by omega), if_pos c1] at h2; omega
 ·rw [if_pos a1, if_neg (by omega)]; decide
 ·rw [if_neg (by omega), if_pos b1] at h1; omega
 ·rw [if_neg (by omega), if_pos b1] at h1; omega
 ·rw [if_neg (by omega), if_pos c1] at h2; omega
 ·rw [if_neg (by omega), if_neg (by omega)] at h1
  rw [if_neg (by omega), if_neg (by omega)] at h2
  rw [if_neg (by omega), if_neg (by omega)]
  exact cb_trans _ _ _ h1 h2
theorem eqS_eq {x y : S64} (h : eqS x y = true) : x = y := by
 rw [eqS_iff] at h
 have : x.f2 = y.f2 := ByteArray.ext (Array.toList_inj.1 h.2.2)
 cases x; cases y; simp_all
theorem sameR_eq : ∀ {a b : List S64}, sameR a b = true → a = b
 | [], [], _ => rfl
 | [], _ :: _, h => by simp [sameR] at h
 | _ :: _, [], h => by simp [sameR] at h
 | x :: xs, y :: ys, h => by
  rw [sameR, Bool.and_eq_true] at h
  rw [eqS_eq h.1, sameR_eq h.2]
theorem sameR_iff (a b : List S64) : sameR a b = true ↔ a = b := ⟨sameR_eq, fun h => h ▸ sameR_refl a⟩
theorem eqS_refl (x : S64) : eqS x x = true := (eqS_iff x x).2 ⟨rfl, rfl, rfl⟩
theorem cmpL_cons (x y : S64) (xs ys : List S64) : cmpL (x :: xs) (y :: ys) = if eqS x y = true then cmpL xs ys else cmpVs x y := rfl
theorem cmpL_zero : ∀ (a b : List S64), a.all mayVs = true → b.all mayVs = true → (cmpL a b = 0 ↔ a = b)
 | [], [], _, _ => by simp [cmpL]
 | [], _ :: _, _, _ => by simp [cmpL]
 | _ :: _, [], _, _ => by simp [cmpL]
 | x :: xs, y :: ys, ha, hb => by
  rw [List.all_cons, Bool.and_eq_true] at ha hb
  rw [cmpL_cons]
  by_cases h : eqS x y = true
  ·rw [if_pos h, cmpL_zero xs ys ha.2 hb.2, eqS_eq h]; simp
  ·rw [if_neg h, cmpVs_zero ha.1 hb.1]
   exact ⟨fun h' => absurd h' h, fun h' => by injection h' with h1 _; rw [h1]; exact eqS_refl y⟩
theorem cmpVs_neg_ne {x y : S64} (hx : mayVs x = true) (hy : mayVs y = true) (h : cmpVs x y < 0) : ¬ eqS x y = true := fun he => by
 have := (cmpVs_zero hx hy).2 he; omega
theorem cmpL_trans : ∀ (a b c : List S64), a.all mayVs = true → b.all mayVs = true → c.all mayVs = true → cmpL a b < 0 → cmpL b c < 0 → cmpL a c < 0
 | [], [], _, _, _, _, h, _ => by simp [cmpL] at h
 | [], _ :: _, [], _, _, _, _, h => by simp [cmpL] at h
 | [], _ :: _, _ :: _, _, _, _, _, _ => by simp [cmpL]
 | _ :: _, [], _, _, _, _, h, _ => by simp [cmpL] at h
 | _ :: _, _ :: _, [], _, _, _, _, h => by simp [cmpL] at h
 | x :: xs, y :: ys, z :: zs, ha, hb, hc, h1, h2 => by
  rw [List.all_cons, Bool.and_eq_true] at ha hb hc
  rw [cmpL_cons] at h1 h2 ⊢
  by_cases hxy : eqS x y = true
  ·rw [if_pos hxy] at h1
   have := eqS_eq hxy
   subst this
   by_cases hyz : eqS x z = true
   ·rw [if_pos hyz] at h2 ⊢; exact cmpL_trans xs ys zs ha.2 hb.2 hc.2 h1 h2
   ·rw [if_neg hyz] at h2 ⊢; exact h2
  ·rw [if_neg hxy] at h1
   by_cases hyz : eqS y z = true
   ·have := eqS_eq hyz
    subst this
    rw [if_neg hxy]; exact h1
   ·rw [if_neg hyz] at h2
    have h3 := cmpVs_trans ha.1 hb.1 hc.1 h1 h2
    rw [if_neg (cmpVs_neg_ne ha.1 hc.1 h3)]; exact h3
theorem mayR_all {r : List S64} (h : mayR r = true) : r.all mayVs = true := by
 unfold mayR at h; rw [Bool.and_eq_true] at h; exact h.2
theorem cmpR_may {a b : List S64} (ha : mayR a = true) (hb : mayR b = true) : cmpR a b = cmpL a b := by unfold cmpR; rw [if_pos ha, if_pos hb]
theorem cmpR_zero {a b : List S64} (ha : mayR a = true) (hb : mayR b = true) : cmpR a b = 0 ↔ a = b := by
 rw [cmpR_may ha hb]; exact cmpL_zero _ _ (mayR_all ha) (mayR_all hb)
theorem cmpR_trans {a b c : List S64} (ha : mayR a = true) (hb : mayR b = true) (hc : mayR c = true) (h1 : cmpR a b < 0) (h2 : cmpR b c < 0) : cmpR a c < 0 := by
 rw [cmpR_may ha hb] at h1; rw [cmpR_may hb hc] at h2; rw [cmpR_may ha hc]; exact cmpL_trans _ _ _ (mayR_all ha) (mayR_all hb) (mayR_all hc) h1 h2
theorem cmpR_self (a : List S64) : cmpR a a = 0 := by
 by_cases h : mayR a = true
 ·exact (cmpR_zero h h).2 rfl
 ·unfold cmpR; rw [if_neg h]
def lt2 (y x : S68) : Prop := cmpR y.f0 x.f0 < 0 ∨ (y.f0 = x.f0 ∧ y.f1 < x.f1)
def edgeOk (x : S68) : Bool := mayR x.f0 && mayF (-2) [jmp x]
def G (l : List S68) : Prop := (∀ x ∈ l, edgeOk x = true) ∧ l.Pairwise lt2
def lens (l : List S68) : Prop := ∀ p ∈ runs l, p.2.length ≤ 1024
theorem edgeOk_row {x : S68} (h : edgeOk x = true) : mayR x.f0 = true := by unfold edgeOk at h; rw [Bool.and_eq_true] at h; exact h.1
theorem edgeOk_jmp {x : S68} (h : edgeOk x = true) : (-2 : Int) < x.f1 ∧ x.f1 < 1125899906842624 ∧ x.f2 ≠ 0 ∧ -1048576 ≤ x.f2 ∧ x.f2 ≤ 1048576 := by
 unfold edgeOk at h; rw [Bool.and_eq_true, mayF_step] at h
 have := h.2
 split at this
 ·assumption
 ·exact absurd this (by decide)
theorem edgeOk_mk {x : S68} (h : mayR x.f0 = true) (h2 : (-2 : Int) < x.f1 ∧ x.f1 < 1125899906842624 ∧ x.f2 ≠ 0 ∧ -1048576 ≤ x.f2 ∧ x.f2 ≤ 1048576) : edgeOk x = true := by
 unfold edgeOk; rw [h, Bool.true_and, mayF_step]; exact (if_pos h2).trans rfl
theorem lt2_trans {x y z : S68} (hx : mayR x.f0 = true) (hy : mayR y.f0 = true) (hz : mayR z.f0 = true) (h1 : lt2 x y) (h2 : lt2 y z) : lt2 x z := by
 rcases h1 with h1 | ⟨h1, h1'⟩ <;> rcases h2 with h2 | ⟨h2, h2'⟩
 ·exact .inl (cmpR_trans hx hy hz h1 h2)
 ·exact .inl (h2 ▸ h1)
 ·exact .inl (h1 ▸ h2)
 ·exact .inr ⟨h1.trans h2, by omega⟩
def takeE (r : List S64) : List S68 → List S68
 | [] => []
 | x :: xs => if sameR x.f0 r = true then x :: takeE r xs else []
theorem takeE_app (r : List S64) : ∀ l, l = takeE r l ++ dropRun r l
 | [] => rfl
 | x :: xs => by
  rw [takeE, dropRun]
  split
  ·rw [List.cons_append, ← takeE_app r xs]
  ·rfl
theorem takeE_row (r : List S64) : ∀ l, ∀ x ∈ takeE r l, x.f0 = r
 | [], x, h => by simp [takeE] at h
 | y :: ys, x, h => by
  rw [takeE] at h
  split at h
  ·next hs =>
   rcases List.mem_cons.1 h with rfl | h
   ·exact sameR_eq hs
   ·exact takeE_row r ys x h
  ·simp at h
theorem takeRun_map (r : List S64) : ∀ l, takeRun r l = (takeE r l).map jmp
 | [] => rfl
 | x :: xs => by
  rw [takeRun, takeE]
  split
  ·rw [List.map_cons, takeRun_map r xs]
  ·rfl
theorem dropRun_head (r : List S64) : ∀ l x xs, dropRun r l = x :: xs → x.f0 ≠ r
 | [], x, xs, h => by simp [dropRun] at h
 | y :: ys, x, xs, h => by
  rw [dropRun] at h
  split at h
  ·exact dropRun_head r ys x xs h
  ·next hs => injection h with h1 _; rw [← h1]; exact fun h' => hs ((sameR_iff _ _).2 h')
theorem mayF_iff : ∀ (l : List S83) (p : Int), mayF p l = true ↔ (∀ x ∈ l, p < x.f0 ∧ x.f0 < 1125899906842624 ∧ x.f1 ≠ 0 ∧ -1048576 ≤ x.f1 ∧ x.f1 ≤ 1048576) ∧ l.Pairwise (fun a b => a.f0 < b.f0)
 | [], p => by simp [mayF]
 | x :: xs, p => by
  rw [mayF_step, List.pairwise_cons]
  constructor
  ·intro h
   split at h
   ·next hc =>
    have := (mayF_iff xs x.f0).1 h
    refine ⟨fun y hy => ?_, fun y hy => (this.1 y hy).1, this.2⟩
    rcases List.mem_cons.1 hy with rfl | hy
    ·exact hc
    ·have := this.1 y hy; omega
   ·exact absurd h (by decide)
  ·intro h
   rw [if_pos (h.1 x List.mem_cons_self)]
   exact (mayF_iff xs x.f0).2 ⟨fun y hy => by have := h.1 y (List.mem_cons_of_mem _ hy); have := h.2.1 y hy; omega, h.2.2⟩
theorem G_run (x : S68) (xs : List S68) : G (x :: xs) ↔ mayR x.f0 = true ∧ mayF (-2) (jmp x :: takeRun x.f0 xs) = true ∧ G (dropRun x.f0 xs) ∧ ∀ d ∈ dropRun x.f0 xs, cmpR x.f0 d.f0 < 0 := by
 have hrow := takeE_row x.f0 xs
 have hd := dropRun_head x.f0 xs
 rw [takeRun_map]
 obtain ⟨T, hT⟩ : ∃ T, T = takeE x.f0 xs := ⟨_, rfl⟩
 obtain ⟨D, hD⟩ : ∃ D, D = dropRun x.f0 xs := ⟨_, rfl⟩
 have happ : xs = T ++ D := by rw [hT, hD]; exact takeE_app _ _
 rw [← hT] at hrow ⊢
 rw [← hD] at hd ⊢
 rw [happ, show jmp x :: T.map jmp = (x :: T).map jmp from rfl, mayF_iff, List.pairwise_map]
 unfold G
 rw [show x :: (T ++ D) = (x :: T) ++ D from rfl, List.pairwise_append]
 have hrow' : ∀ y ∈ x :: T, y.f0 = x.f0 := fun y hy => by
  rcases List.mem_cons.1 hy with rfl | hy
  ·rfl
  ·exact hrow y hy
 constructor
 ·rintro ⟨h1, h2, h3, h4⟩
  have hx := edgeOk_row (h1 x (by simp))
  refine ⟨hx, ⟨fun p hp => ?_, h2.imp_of_mem fun {a b} ha hb h => ?_⟩, ⟨fun d hd => h1 d (List.mem_append_right _ hd), h3⟩, fun d hdm => ?_⟩
  ·obtain ⟨y, hy, rfl⟩ := List.mem_map.1 hp
   exact edgeOk_jmp (h1 y (List.mem_append_left _ hy))
  ·rcases h with h | h
   ·rw [hrow' a ha, hrow' b hb, cmpR_self] at h; omega
   ·exact h.2
  ·cases hDD : D with
   | nil => rw [hDD] at hdm; simp at hdm
   | cons d0 ds =>
    have hne := hd d0 ds hDD
    have hd0 : cmpR x.f0 d0.f0 < 0 := by
     rcases h4 x (by simp) d0 (by rw [hDD]; simp) with h | h
     ·exact h
     ·exact absurd h.1.symm hne
    rw [hDD] at hdm h3
    rcases List.mem_cons.1 hdm with rfl | hdm
    ·exact hd0
    ·rcases (List.pairwise_cons.1 h3).1 d hdm with h | h
     ·exact cmpR_trans hx (edgeOk_row (h1 d0 (by rw [hDD]; simp))) (edgeOk_row (h1 d (by rw [hDD]; simp [hdm]))) hd0 h
     ·rw [← h.1]; exact hd0
 ·rintro ⟨hx, ⟨h1, h2⟩, ⟨h3, h4⟩, h5⟩
  refine ⟨fun y hy => ?_, h2.imp_of_mem fun {a b} ha hb h => .inr ⟨(hrow' a ha).trans (hrow' b hb).symm, h⟩, h4, fun a ha d hdm => .inl (by rw [hrow' a ha]; exact h5 d hdm)⟩
  rcases List.mem_append.1 hy with hy | hy
  ·exact edgeOk_mk (by rw [hrow' y hy]; exact hx) (h1 (jmp y) (List.mem_map_of_mem hy))
  ·exact h3 y hy
theorem eachB_some {holds : List S83 → Bool} {q r : List S64} {f : List S83} {rest : List (List S64 × List S83)} : eachB holds (some q) ((r, f) :: rest) = true ↔ mayR r = true ∧ cmpR q r < 0 ∧ holds f = true ∧ eachB holds (some r) rest = true := by
 rw [eachB]
 by_cases h1 : mayR r = true <;> by_cases h2 : cmpR q r < 0 <;> by_cases h3 : holds f = true <;> simp [h1, h2, h3]
theorem eachB_none {holds : List S83 → Bool} {r : List S64} {f : List S83} {rest : List (List S64 × List S83)} : eachB holds none ((r, f) :: rest) = true ↔ mayR r = true ∧ holds f = true ∧ eachB holds (some r) rest = true := by
 rw [eachB]
 by_cases h1 : mayR r = true <;> by_cases h3 : holds f = true <;> simp [h1, h3]
theorem mayJ_iff (f : List S83) : mayJ f = true ↔ f.length ≤ 1024 ∧ mayF (-2) f = true := by unfold mayJ; simp
theorem lens_cons (x : S68) (xs : List S68) : lens (x :: xs) ↔ (jmp x :: takeRun x.f0 xs).length ≤ 1024 ∧ lens (dropRun x.f0 xs) := by
 unfold lens; rw [runs_cons]; simp
theorem eachB_G : ∀ (n : Nat) (l : List S68) (q : List S64), l.length ≤ n → mayR q = true → (eachB mayJ (some q) (runs l) = true ↔ G l ∧ lens l ∧ ∀ x ∈ l, cmpR q x.f0 < 0) := by
 intro n
 induction n with
 | zero =>
  intro l q hl hq
  obtain rfl := List.length_eq_zero_iff.1 (Nat.le_zero.1 hl)
  rw [runs_nil]; simp [eachB, G, lens, runs_nil]
 | succ n ih =>
  intro l q hl hq
  cases l with
  | nil => rw [runs_nil]; simp [eachB, G, lens, runs_nil]
  | cons x xs =>
   rw [runs_cons, eachB_some, G_run, lens_cons, mayJ_iff]
   have hlen := dropRun_len x.f0 xs
   constructor
   ·rintro ⟨h1, h2, ⟨h3, h4⟩, h5⟩
    rw [ih _ _ (by simp at hl; omega) h1] at h5
    refine ⟨⟨h1, h4, h5.1, h5.2.2⟩, ⟨h3, h5.2.1⟩, fun y hy => ?_⟩
    rcases List.mem_cons.1 hy with rfl | hy
    ·exact h2
    ·rw [takeE_app x.f0 xs] at hy
     rcases List.mem_append.1 hy with hy | hy
     ·rw [takeE_row _ _ y hy]; exact h2
     ·exact cmpR_trans hq h1 (edgeOk_row (h5.1.1 y hy)) h2 (h5.2.2 y hy)
   ·rintro ⟨⟨h1, h2, h3, h4⟩, ⟨h5, h6⟩, h7⟩
    exact ⟨h1, h7 x List.mem_cons_self, ⟨h5, h2⟩, (ih _ _ (by simp at hl; omega) h1).2 ⟨h3, h6, h4⟩⟩
theorem eachB_G0 (l : List S68) : eachB mayJ none (runs l) = true ↔ G l ∧ lens l := by
 cases l with
 | nil => rw [runs_nil]; simp [eachB, G, lens, runs_nil]
 | cons x xs =>
  rw [runs_cons, eachB_none, G_run, lens_cons, mayJ_iff]
  constructor
  ·rintro ⟨h1, ⟨h3, h4⟩, h5⟩
   rw [eachB_G _ _ _ (Nat.le_refl _) h1] at h5
   exact ⟨⟨h1, h4, h5.1, h5.2.2⟩, h3, h5.2.1⟩
  ·rintro ⟨⟨h1, h2, h3, h4⟩, h5, h6⟩
   exact ⟨h1, ⟨h5, h2⟩, (eachB_G _ _ _ (Nat.le_refl _) h1).2 ⟨h3, h6, h4⟩⟩
theorem mayE_iff (l : List S68) : mayE l = true ↔ l.length ≤ 4096 ∧ G l ∧ lens l := by
 unfold mayE; rw [Bool.and_eq_true, eachB_G0, decide_eq_true_iff]
def rowIns : List (List S64) → List S64 → List (List S64)
 | [], r => [r]
 | q :: qs, r => if cmpR q r < 0 then q :: rowIns qs r else if sameR q r = true then q :: qs else r :: q :: qs
def rowsOf (l : List S68) : List (List S64) := l.foldl (fun acc x => rowIns acc x.f0) []
def nearB : Option S68 → List S68 → Bool
 | _, [] => true
 | none, x :: xs => edgeOk x && nearB (some x) xs
 | some y, x :: xs => edgeOk x && (decide (cmpR y.f0 x.f0 ≤ 0) && ((decide (cmpR y.f0 x.f0 ≠ 0) || decide (y.f1 < x.f1)) && nearB (some x) xs))
def refMay (l : List S68) : Bool := decide (l.length ≤ 4096) && (nearB none l && (rowsOf l).all fun r => decide ((jumpsOf l r).length ≤ 1024))
theorem near_step {y x : S68} (hy : mayR y.f0 = true) (hx : mayR x.f0 = true) : (cmpR y.f0 x.f0 ≤ 0 ∧ (cmpR y.f0 x.f0 ≠ 0 ∨ y.f1 < x.f1)) ↔ lt2 y x := by
 unfold lt2
 constructor
 ·rintro ⟨h1, h2⟩
  by_cases h3 : cmpR y.f0 x.f0 = 0
  ·exact .inr ⟨(cmpR_zero hy hx).1 h3, by rcases h2 with h2 | h2; exact absurd h3 h2; exact h2⟩
  ·exact .inl (by omega)
 ·rintro (h | ⟨h, h'⟩)
  ·exact ⟨by omega, .inl (by omega)⟩
  ·rw [h, cmpR_self]; exact ⟨by omega, .inr h'⟩
theorem near_some : ∀ (l : List S68) (y : S68), mayR y.f0 = true → (nearB (some y) l = true ↔ G l ∧ ∀ x ∈ l, lt2 y x)
 | [], y, _ => by simp [nearB, G]
 | x :: xs, y, hy => by
  rw [nearB, Bool.and_eq_true, Bool.and_eq_true, Bool.and_eq_true, Bool.or_eq_true, decide_eq_true_iff, decide_eq_true_iff, decide_eq_true_iff]
  constructor
  ·rintro ⟨h1, h2, h3, h4⟩
   have hx := edgeOk_row h1
   rw [near_some xs x hx] at h4
   have hlt := (near_step hy hx).1 ⟨h2, h3⟩
   refine ⟨⟨fun z hz => ?_, List.pairwise_cons.2 ⟨h4.2, h4.1.2⟩⟩, fun z hz => ?_⟩
   ·rcases List.mem_cons.1 hz with rfl | hz
    ·exact h1
    ·exact h4.1.1 z hz
   ·rcases List.mem_cons.1 hz with rfl | hz
    ·exact hlt
    ·exact lt2_trans hy hx (edgeOk_row (h4.1.1 z hz)) hlt (h4.2 z hz)
  ·rintro ⟨⟨h1, h2⟩, h3⟩
   have hx := edgeOk_row (h1 x List.mem_cons_self)
   have := (near_step hy hx).2 (h3 x List.mem_cons_self)
   exact ⟨h1 x List.mem_cons_self, this.1, this.2, (near_some xs x hx).2 ⟨⟨fun z hz => h1 z (List.mem_cons_of_mem _ hz), (List.pairwise_cons.1 h2).2⟩, (List.pairwise_cons.1 h2).1⟩⟩
theorem near_none (l : List S68) : nearB none l = true ↔ G l := by
 cases l with
 | nil => simp [nearB, G]
 | cons x xs =>
  rw [nearB, Bool.and_eq_true]
  constructor
  ·rintro ⟨h1, h2⟩
   rw [near_some xs x (edgeOk_row h1)] at h2
   refine ⟨fun z hz => ?_, List.pairwise_cons.2 ⟨h2.2, h2.1.2⟩⟩
   rcases List.mem_cons.1 hz with rfl | hz
   ·exact h1
   ·exact h2.1.1 z hz
  ·rintro ⟨h1, h2⟩
   have h0 := h1 x List.mem_cons_self
   exact ⟨h0, (near_some xs x (edgeOk_row h0)).2 ⟨⟨fun z hz => h1 z (List.mem_cons_of_mem _ hz), (List.pairwise_cons.1 h2).2⟩, (List.pairwise_cons.1 h2).1⟩⟩
theorem rowIns_end (r : List S64) : ∀ acc : List (List S64), (∀ q ∈ acc, cmpR q r < 0) → rowIns acc r = acc ++ [r]
 | [], _ => rfl
 | q :: qs, h => by
  rw [rowIns, if_pos (h q List.mem_cons_self), rowIns_end r qs (fun p hp => h p (List.mem_cons_of_mem _ hp))]; rfl
theorem rowIns_there (r : List S64) : ∀ acc : List (List S64), (∀ q ∈ acc, cmpR q r < 0) → rowIns (acc ++ [r]) r = acc ++ [r]
 | [], _ => by
  show rowIns [r] r = [r]
  rw [rowIns, if_neg (by rw [cmpR_self]; omega), if_pos (sameR_refl r)]
 | q :: qs, h => by
  show rowIns (q :: (qs ++ [r])) r = q :: (qs ++ [r])
  rw [rowIns, if_pos (h q List.mem_cons_self), rowIns_there r qs (fun p hp => h p (List.mem_cons_of_mem _ hp))]
theorem rows_run (r : List S64) (acc : List (List S64)) (h : ∀ q ∈ acc, cmpR q r < 0) : ∀ T : List S68, (∀ x ∈ T, x.f0 = r) → T.foldl (fun a x => rowIns a x.f0) (acc ++ [r]) = acc ++ [r]
 | [], _ => rfl
 | x :: xs, hT => by
  rw [List.foldl_cons, hT x List.mem_cons_self, rowIns_there r acc h]
  exact rows_run r acc h xs (fun y hy => hT y (List.mem_cons_of_mem _ hy))
theorem rows_G : ∀ (n : Nat) (l : List S68) (acc : List (List S64)), l.length ≤ n → G l → (∀ q ∈ acc, ∀ x ∈ l, cmpR q x.f0 < 0) →
  l.foldl (fun a x => rowIns a x.f0) acc = acc ++ (runs l).map (·.1) := by
 intro n
 induction n with
 | zero =>
  intro l acc hl _ _
  obtain rfl := List.length_eq_zero_iff.1 (Nat.le_zero.1 hl)
  rw [runs_nil]; simp
 | succ n ih =>
  intro l acc hl hG hacc
  cases l with
  | nil => rw [runs_nil]; simp
  | cons x xs =>
   have hg := (G_run x xs).1 hG
   have hlen := dropRun_len x.f0 xs
   have hx : ∀ q ∈ acc, cmpR q x.f0 < 0 := fun q hq => hacc q hq x List.mem_cons_self
   rw [runs_cons, List.foldl_cons, rowIns_end _ _ hx]
   conv => lhs; rw [takeE_app x.f0 xs]
   rw [List.foldl_append, rows_run x.f0 acc hx _ (takeE_row _ _), ih _ _ (by simp at hl; omega) hg.2.2.1 ?_, List.append_assoc]
   ·rfl
   ·intro q hq d hd
    rcases List.mem_append.1 hq with hq | hq
    ·exact hacc q hq d (List.mem_cons_of_mem _ (by rw [takeE_app x.f0 xs]; exact List.mem_append_right _ hd))
    ·rw [List.mem_singleton.1 hq]; exact hg.2.2.2 d hd
theorem rowsOf_G {l : List S68} (h : G l) : rowsOf l = (runs l).map (·.1) := by
 unfold rowsOf
 rw [rows_G _ l [] (Nat.le_refl _) h (by simp)]; rfl
theorem jumpsOf_nil_of {l : List S68} {r : List S64} (h : ∀ x ∈ l, x.f0 ≠ r) : jumpsOf l r = [] := by
 unfold jumpsOf
 rw [List.filter_eq_nil_iff.2 (fun x hx hs => h x hx (sameR_eq hs))]; rfl
theorem jumpsOf_all {l : List S68} {r : List S64} (h : ∀ x ∈ l, x.f0 = r) : jumpsOf l r = l.map jmp := by
 unfold jumpsOf
 rw [List.filter_eq_self.2 (fun x hx => (sameR_iff _ _).2 (h x hx))]
theorem jumpsOf_app (l m : List S68) (r : List S64) : jumpsOf (l ++ m) r = jumpsOf l r ++ jumpsOf m r := by
 unfold jumpsOf; rw [List.filter_append, List.map_append]
theorem runs_rows : ∀ (n : Nat) (l : List S68), l.length ≤ n → ∀ p ∈ runs l, ∃ x ∈ l, x.f0 = p.1 := by
 intro n
 induction n with
 | zero =>
  intro l hl p hp
  obtain rfl := List.length_eq_zero_iff.1 (Nat.le_zero.1 hl)
  rw [runs_nil] at hp; simp at hp
 | succ n ih =>
  intro l hl p hp
  cases l with
  | nil => rw [runs_nil] at hp; simp at hp
  | cons x xs =>
   rw [runs_cons] at hp
   rcases List.mem_cons.1 hp with rfl | hp
   ·exact ⟨x, List.mem_cons_self, rfl⟩
   ·have hlen := dropRun_len x.f0 xs
    obtain ⟨y, hy, h⟩ := ih _ (by simp at hl; omega) p hp
    exact ⟨y, List.mem_cons_of_mem _ (by rw [takeE_app x.f0 xs]; exact List.mem_append_right _ hy), h⟩
theorem jumps_G : ∀ (n : Nat) (l : List S68), l.length ≤ n → G l → ∀ p ∈ runs l, jumpsOf l p.1 = p.2 := by
 intro n
 induction n with
 | zero =>
  intro l hl _ p hp
  obtain rfl := List.length_eq_zero_iff.1 (Nat.le_zero.1 hl)
  rw [runs_nil] at hp; simp at hp
 | succ n ih =>
  intro l hl hG p hp
  cases l with
  | nil => rw [runs_nil] at hp; simp at hp
  | cons x xs =>
   have hg := (G_run x xs).1 hG
   have hlen := dropRun_len x.f0 xs
   have hrow : ∀ y ∈ x :: takeE x.f0 xs, y.f0 = x.f0 := fun y hy => by
    rcases List.mem_cons.1 hy with rfl | hy
    ·rfl
    ·exact takeE_row _ _ y hy
   have he : x :: xs = (x :: takeE x.f0 xs) ++ dropRun x.f0 xs := by rw [List.cons_append, ← takeE_app]
   rw [runs_cons] at hp
   rw [he, jumpsOf_app]
   rcases List.mem_cons.1 hp with rfl | hp
   ·rw [jumpsOf_all hrow, jumpsOf_nil_of (fun d hd hs => by have := hg.2.2.2 d hd; rw [hs, cmpR_self] at this; omega), List.append_nil, takeRun_map]; rfl
   ·rw [ih _ (by simp at hl; omega) hg.2.2.1 p hp, jumpsOf_nil_of (fun y hy hs => ?_), List.nil_append]
    obtain ⟨d, hd, h⟩ := runs_rows _ _ (Nat.le_refl _) p hp
    have := hg.2.2.2 d hd
    rw [h, ← hs, hrow y hy, cmpR_self] at this
    omega
theorem refMay_eq (l : List S68) : refMay l = mayE l := by
 rw [Bool.eq_iff_iff, mayE_iff]
 unfold refMay
 rw [Bool.and_eq_true, Bool.and_eq_true, decide_eq_true_iff, near_none]
 refine and_congr_right fun _ => and_congr_right fun hG => ?_
 rw [rowsOf_G hG, List.all_map, List.all_eq_true]
 unfold lens
 refine forall_congr' fun p => forall_congr' fun hp => ?_
 rw [Function.comp, decide_eq_true_iff, jumps_G _ _ (Nat.le_refl _) hG p hp]
theorem eachB_and (P : List S83 → Bool) : ∀ (rs : List (List S64 × List S83)) (q : Option (List S64)), eachB (fun f => mayJ f && P f) q rs = true ↔ eachB mayJ q rs = true ∧ ∀ p ∈ rs, P p.2 = true
 | [], q => by simp [eachB]
 | (r, f) :: rs, none => by
  rw [eachB_none, eachB_none, eachB_and P rs, Bool.and_eq_true]
  constructor
  ·rintro ⟨a, ⟨b, c⟩, d, e⟩
   exact ⟨⟨a, b, d⟩, fun p hp => by rcases List.mem_cons.1 hp with rfl | hp; exact c; exact e p hp⟩
  ·rintro ⟨⟨a, b, d⟩, e⟩
   exact ⟨a, ⟨b, e (r, f) List.mem_cons_self⟩, d, fun p hp => e p (List.mem_cons_of_mem _ hp)⟩
 | (r, f) :: rs, some q => by
  rw [eachB_some, eachB_some, eachB_and P rs, Bool.and_eq_true]
  constructor
  ·rintro ⟨a, a', ⟨b, c⟩, d, e⟩
   exact ⟨⟨a, a', b, d⟩, fun p hp => by rcases List.mem_cons.1 hp with rfl | hp; exact c; exact e p hp⟩
  ·rintro ⟨⟨a, a', b, d⟩, e⟩
   exact ⟨a, a', ⟨b, e (r, f) List.mem_cons_self⟩, d, fun p hp => e p (List.mem_cons_of_mem _ hp)⟩
theorem tableE_eq (l : List S68) : tableE l = (mayE l && (rowsOf l).all fun r => decide (0 ≤ leastJ (jumpsOf l r))) := by
 rw [Bool.eq_iff_iff, Bool.and_eq_true]
 unfold tableE
 rw [Bool.and_eq_true, show tableJ = (fun f => mayJ f && decide (0 ≤ leastJ f)) from rfl, eachB_and]
 have hm : mayE l = true ↔ decide (l.length ≤ 4096) = true ∧ eachB mayJ none (runs l) = true := by unfold mayE; rw [Bool.and_eq_true]
 rw [← and_assoc, ← hm]
 refine and_congr_right fun h => ?_
 have hG := ((mayE_iff l).1 h).2.1
 rw [rowsOf_G hG, List.all_map, List.all_eq_true]
 refine forall_congr' fun p => forall_congr' fun hp => ?_
 rw [Function.comp, jumps_G _ _ (Nat.le_refl _) hG p hp]
def insL : List Int → Int → List Int
 | [], t => [t]
 | x :: xs, t => if x > t then t :: x :: xs else x :: insL xs t
def withL (l : List Int) (t : Int) : List Int := if t ∈ l then l else insL l t
theorem insL_mem (t y : Int) : ∀ l, y ∈ insL l t ↔ y = t ∨ y ∈ l
 | [] => by simp [insL]
 | x :: xs => by
  rw [insL]
  split
  ·simp
  ·rw [List.mem_cons, insL_mem t y xs, List.mem_cons]
   constructor
   ·rintro (h | h | h)
    ·exact .inr (.inl h)
    ·exact .inl h
    ·exact .inr (.inr h)
   ·rintro (h | h | h)
    ·exact .inr (.inl h)
    ·exact .inl h
    ·exact .inr (.inr h)
theorem insL_sorted (t : Int) : ∀ l : List Int, l.Pairwise (· < ·) → t ∉ l → (insL l t).Pairwise (· < ·)
 | [], _, _ => by simp [insL]
 | x :: xs, h, ht => by
  rw [insL]
  have hx := List.pairwise_cons.1 h
  rw [List.mem_cons, not_or] at ht
  split
  ·next hlt =>
   refine List.pairwise_cons.2 ⟨fun y hy => ?_, h⟩
   rcases List.mem_cons.1 hy with rfl | hy
   ·exact hlt
   ·have := hx.1 y hy; omega
  ·refine List.pairwise_cons.2 ⟨fun y hy => ?_, insL_sorted t xs hx.2 ht.2⟩
   rw [insL_mem] at hy
   rcases hy with rfl | hy
   ·have := ht.1; omega
   ·exact hx.1 y hy
theorem withL_mem (l : List Int) (t y : Int) : y ∈ withL l t ↔ y = t ∨ y ∈ l := by
 unfold withL
 split
 ·next h => exact ⟨.inr, fun h' => by rcases h' with rfl | h'; exact h; exact h'⟩
 ·exact insL_mem t y l
theorem withL_sorted (l : List Int) (t : Int) (h : l.Pairwise (· < ·)) : (withL l t).Pairwise (· < ·) := by
 unfold withL
 split
 ·exact h
 ·next ht => exact insL_sorted t l h ht
theorem withs (ts : List Int) : ∀ l : List Int, l.Pairwise (· < ·) → (ts.foldl withL l).Pairwise (· < ·) ∧ ∀ y, y ∈ ts.foldl withL l ↔ y ∈ l ∨ y ∈ ts := by
 induction ts with
 | nil => intro l h; exact ⟨h, fun y => by simp⟩
 | cons t ts ih =>
  intro l h
  have := ih (withL l t) (withL_sorted l t h)
  refine ⟨this.1, fun y => ?_⟩
  rw [List.foldl_cons, this.2 y, withL_mem, List.mem_cons]
  constructor
  ·rintro ((h | h) | h)
   ·exact .inr (.inl h)
   ·exact .inl h
   ·exact .inr (.inr h)
  ·rintro (h | h | h)
   ·exact .inl (.inr h)
   ·exact .inl (.inl h)
   ·exact .inr h
theorem sorted_eq : ∀ a b : List Int, a.Pairwise (· < ·) → b.Pairwise (· < ·) → (∀ y, y ∈ a ↔ y ∈ b) → a = b
 | [], [], _, _, _ => rfl
 | [], y :: ys, _, _, h => absurd ((h y).2 List.mem_cons_self) (by simp)
 | x :: xs, [], _, _, h => absurd ((h x).1 List.mem_cons_self) (by simp)
 | x :: xs, y :: ys, ha, hb, h => by
  have a1 := List.pairwise_cons.1 ha
  have b1 := List.pairwise_cons.1 hb
  have hxy : x = y := by
   have h1 := (h x).1 List.mem_cons_self
   have h2 := (h y).2 List.mem_cons_self
   rcases List.mem_cons.1 h1 with h1 | h1
   ·exact h1
   ·rcases List.mem_cons.1 h2 with h2 | h2
    ·exact h2.symm
    ·have := b1.1 x h1; have := a1.1 y h2; omega
  subst hxy
  rw [sorted_eq xs ys a1.2 b1.2 fun z => ?_]
  constructor
  ·intro hz
   have := (h z).1 (List.mem_cons_of_mem _ hz)
   rcases List.mem_cons.1 this with rfl | this
   ·have := a1.1 z hz; omega
   ·exact this
  ·intro hz
   have := (h z).2 (List.mem_cons_of_mem _ hz)
   rcases List.mem_cons.1 this with rfl | this
   ·have := b1.1 z hz; omega
   ·exact this
theorem compact_inv (d : Array Int) (hs : ∀ j, j + 1 < d.size → d[j]! ≤ d[j + 1]!) : ∀ m, m ≤ d.size → (Lib.compactUpTo d m).Pairwise (· < ·) ∧ (∀ y, y ∈ Lib.compactUpTo d m ↔ ∃ j, j < m ∧ y = d[j]!) ∧ (∀ y ∈ Lib.compactUpTo d m, y ≤ d[m - 1]!)
 | 0, _ => by simp [Lib.compactUpTo]
 | m + 1, hm => by
  obtain ⟨h1, h2, h3⟩ := compact_inv d hs m (by omega)
  rw [Lib.compactUpTo_succ]
  by_cases hk : Lib.keeps d m = true
  ·rw [if_pos hk]
   have hlt : ∀ y ∈ Lib.compactUpTo d m, y < d[m]! := fun y hy => by
    have hy3 := h3 y hy
    cases m with
    | zero => simp [Lib.compactUpTo] at hy
    | succ m =>
     have := hs m (by omega)
     have hne : d[m + 1]! ≠ d[m]! := by
      unfold Lib.keeps at hk
      rw [decide_eq_true_iff] at hk
      rcases hk with hk | hk
      ·omega
      ·exact hk
     rw [Nat.add_sub_cancel] at hy3
     omega
   refine ⟨List.pairwise_append.2 ⟨h1, by simp, fun a ha b hb => by rw [List.mem_singleton.1 hb]; exact hlt a ha⟩, fun y => ?_, fun y hy => ?_⟩
   ·rw [List.mem_append, h2, List.mem_singleton]
    constructor
    ·rintro (⟨j, hj, h⟩ | h)
     ·exact ⟨j, by omega, h⟩
     ·exact ⟨m, by omega, h⟩
    ·rintro ⟨j, hj, h⟩
     by_cases hjm : j = m
     ·exact .inr (hjm ▸ h)
     ·exact .inl ⟨j, by omega, h⟩
   ·rw [Nat.add_sub_cancel]
    rcases List.mem_append.1 hy with hy | hy
    ·have := hlt y hy; omega
    ·rw [List.mem_singleton.1 hy]; omega
  ·rw [if_neg hk, List.append_nil]
   have hk' : m ≠ 0 ∧ d[m]! = d[m - 1]! := by
    unfold Lib.keeps at hk
    rw [decide_eq_true_iff, not_or] at hk
    exact ⟨hk.1, Classical.not_not.1 hk.2⟩
   refine ⟨h1, fun y => ?_, fun y hy => by rw [Nat.add_sub_cancel, hk'.2]; exact h3 y hy⟩
   rw [h2]
   constructor
   ·rintro ⟨j, hj, h⟩; exact ⟨j, by omega, h⟩
   ·rintro ⟨j, hj, h⟩
    by_cases hjm : j = m
    ·exact ⟨m - 1, by omega, by rw [h, hjm]; exact hk'.2⟩
    ·exact ⟨j, by omega, h⟩
theorem compact_sorted (zs : List Int) (hs : zs.Pairwise (· ≤ ·)) : (Lib.compact zs).Pairwise (· < ·) ∧ ∀ y, y ∈ Lib.compact zs ↔ y ∈ zs := by
 have hget : ∀ j (h : j < zs.length), zs.toArray[j]! = zs[j] := fun j h => by simp [getElem!_pos, h]
 have hs' : ∀ j, j + 1 < zs.toArray.size → zs.toArray[j]! ≤ zs.toArray[j + 1]! := fun j hj => by
  have hj' : j + 1 < zs.length := by simpa using hj
  rw [hget j (by omega), hget (j + 1) hj']
  exact List.pairwise_iff_getElem.1 hs j (j + 1) (by omega) hj' (by omega)
 have := compact_inv zs.toArray hs' zs.length (by simp)
 refine ⟨this.1, fun y => (this.2.1 y).trans ?_⟩
 constructor
 ·rintro ⟨j, hj, rfl⟩; rw [hget j hj]; exact List.getElem_mem _
 ·intro hy
  obtain ⟨j, hj, rfl⟩ := List.mem_iff_getElem.1 hy
  exact ⟨j, hj, (hget j hj).symm⟩
theorem srt_sorted (zs : List Int) : (srt zs).Pairwise (· ≤ ·) := by
 unfold srt
 have := List.pairwise_mergeSort (le := fun (x y : Int) => decide (x ≤ y)) (fun a b c h1 h2 => by simp at *; omega) (fun a b => by simp; omega) zs
 exact this.imp (fun h => by simpa using h)
theorem startsL_strict (l : List S68) : (startsL l).Pairwise (· < ·) := (compact_sorted _ (srt_sorted _)).1
theorem startsL_mem (l : List S68) (y : Int) : y ∈ startsL l ↔ y ∈ (rises l).map (·.f1) := by
 unfold startsL
 rw [(compact_sorted _ (srt_sorted _)).2]
 unfold srt
 exact List.mem_mergeSort
theorem starts_ref (l : List S68) : ((rises l).map (·.f1)).foldl withL [] = startsL l := by
 have := withs ((rises l).map (·.f1)) [] List.Pairwise.nil
 exact sorted_eq _ _ this.1 (startsL_strict l) fun y => by rw [this.2, startsL_mem]; simp
end Go.Proofs.Ythngomhhimdolaa.H
end
section
namespace Go.Proofs.Ythngomhhimdolaa.H
open Go.RowKit Go.Shelf Go.Proofs.YthngomhhimdolaaW.PrintWords Go.Proofs.YthngomhhimdolaaW.PrintLast Go.Proofs.YthngomhhimdolaaW.PrintMore Go.Proofs.Ythngomhhimdolaa.P Go.Proofs.Ythngomhhimdolaa.R
set_option linter.unusedVariables false
theorem size_zero {s : ByteArray} (h : s.toList = []) : s.size = 0 := by
 rw [toList_data] at h
 rw [← size_list, h]; rfl
theorem ref05_Compare (a1 a2 : Int) (s : ByteArray) (b1 b2 : Int) (s' : ByteArray) (k : Nat) (hk : 140 < k) : rescindref05_Compare.f k a1 a2 s b1 b2 s' = some (cmpV a1 a2 s b1 b2 s') := by
 unfold rescindref05_Compare.f
 rw [ref05_May, Option.bind_some, ref05_May, Option.bind_some]
 obtain ⟨k, rfl⟩ : ∃ m, k = m + 1 := ⟨k - 1, by omega⟩
 cases h1 : mayV a1 a2 s with
 | false => rw [if_neg (by decide), rescindref05_Compare.j0, if_pos rfl, cmpV_none1 h1]
 | true =>
  rw [if_pos rfl]
  cases h2 : mayV b1 b2 s' with
  | false => rw [Bool.not_false, rescindref05_Compare.j0, if_pos rfl, cmpV_none2 h2]
  | true =>
   rw [Bool.not_true, rescindref05_Compare.j0, if_neg (by decide)]
   have hc : cmpV a1 a2 s b1 b2 s' = if a1 = 1 then (if b1 = 1 then cmpI a2 b2 else -1) else if b1 = 1 then 1 else Lib.compareBytes s.data.toList s'.data.toList := by
    unfold cmpV; exact if_pos ⟨h1, h2⟩
   rw [hc]
   clear hc
   rcases mayV_cases h1 with ⟨rfl, e1⟩ | ⟨rfl, rfl, e1⟩ <;> rcases mayV_cases h2 with ⟨rfl, e2⟩ | ⟨rfl, rfl, e2⟩
   ·rw [if_pos rfl, if_pos rfl, if_pos rfl]
    unfold cmpI
    by_cases hab : a2 = b2
    ·have z1 := size_zero e1
     have z2 := size_zero e2
     have := cmp_text s s' (by omega) 1 a2 1 b2 0 0 k (by omega) (by omega) (by omega) (by omega)
     rw [if_pos hab, if_neg (by omega), if_neg (by omega)]
     rw [show ((0 : Nat) : Int) = 0 from rfl] at this
     rw [this, ← toList_data, ← toList_data, e1, e2]; rfl
    ·rw [if_neg hab]
     by_cases hlt : a2 < b2
     ·rw [if_pos hlt, if_pos hlt]
     ·rw [if_neg hlt, if_neg hlt, if_pos (by omega)]
   ·rw [if_neg (by decide), if_pos rfl, if_pos rfl, if_neg (by decide)]
   ·rw [if_neg (by decide), if_neg (by decide), if_neg (by decide), if_pos rfl]
   ·rw [if_pos rfl, if_pos rfl, if_neg (by decide), if_neg (by decide)]
    have := cmp_text s s' (by omega) 2 0 2 0 s.size 0 k (by omega) (by omega) (by omega) (by omega)
    rw [show ((0 : Nat) : Int) = 0 from rfl] at this
    rw [this]; rfl
theorem ref06_Compare_l0 (a b : List S64) (ha : a.all mayVs = true) (hb : b.all mayVs = true) (h8 : a.length ≤ 8) : ∀ (n j k : Nat), a.length - j = n → 2 * n + 150 < k → j ≤ a.length → j ≤ b.length →
  rescindref06_Compare.l0 k a b (j : Int) = some (cmpL (a.drop j) (b.drop j)) := by
 intro n
 induction n with
 | zero =>
  intro j k hn hk h1 h2
  obtain ⟨k, rfl⟩ : ∃ m, k = m + 2 := ⟨k - 2, by omega⟩
  have e1 : a.drop j = [] := List.drop_eq_nil_of_le (by omega)
  rw [rescindref06_Compare.l0, if_neg (by omega), rescindref06_Compare.j2, if_neg (by decide), e1]
  by_cases h3 : j < b.length
  ·rw [if_pos (by omega), rd64_drop b j h3]; rfl
  ·rw [if_neg (by omega), if_neg (by omega), List.drop_eq_nil_of_le (by omega)]; rfl
 | succ n ih =>
  intro j k hn hk h1 h2
  obtain ⟨k, rfl⟩ : ∃ m, k = m + 2 := ⟨k - 2, by omega⟩
  have hj : j < a.length := by omega
  have hw : wrap64 ((j : Int) + 1) = ((j + 1 : Nat) : Int) := by rw [wrap_in] <;> omega
  rw [rescindref06_Compare.l0, if_pos (by omega), rescindref06_Compare.j2, rd64_drop a j hj]
  by_cases h3 : j < b.length
  ·rw [if_pos (decide_eq_true (by omega)), if_pos (by omega), if_pos (by omega), if_pos (by omega), ref05_Compare _ _ _ _ _ _ k (by omega), Option.bind_some, rd64_drop b j h3, cmpL_cons]
   have m1 : mayVs (rd_T64 a (j : Nat)) = true := List.all_eq_true.1 ha _ (by unfold rd_T64; simpa using getD_mem a _ j hj)
   have m2 : mayVs (rd_T64 b (j : Nat)) = true := List.all_eq_true.1 hb _ (by unfold rd_T64; simpa using getD_mem b _ j h3)
   have hz := cmpVs_zero m1 m2
   rw [show cmpV (rd_T64 a (j : Nat)).f0 (rd_T64 a (j : Nat)).f1 (rd_T64 a (j : Nat)).f2 (rd_T64 b (j : Nat)).f0 (rd_T64 b (j : Nat)).f1 (rd_T64 b (j : Nat)).f2 = cmpVs (rd_T64 a (j : Nat)) (rd_T64 b (j : Nat)) from rfl]
   by_cases h4 : eqS (rd_T64 a (j : Nat)) (rd_T64 b (j : Nat)) = true
   ·rw [if_pos (hz.2 h4), if_pos h4, hw]
    exact ih (j + 1) k (by omega) (by omega) (by omega) (by omega)
   ·rw [if_neg (fun h => h4 (hz.1 h)), if_neg h4]
  ·rw [if_neg (by rw [decide_eq_false (by omega)]; decide), if_neg (by omega), if_pos (by omega), show b.drop j = [] from List.drop_eq_nil_of_le (by omega)]; rfl
theorem ref06_Compare (a b : List S64) (k : Nat) (hk : 180 < k) : rescindref06_Compare.f k a b = some (cmpR a b) := by
 unfold rescindref06_Compare.f
 rw [ref06_May a k (by omega), Option.bind_some, ref06_May b k (by omega), Option.bind_some]
 obtain ⟨k, rfl⟩ : ∃ m, k = m + 1 := ⟨k - 1, by omega⟩
 unfold cmpR
 by_cases h1 : mayR a = true
 ·rw [if_pos h1, if_pos h1]
  by_cases h2 : mayR b = true
  ·have h8 : a.length ≤ 8 := by unfold mayR at h1; rw [Bool.and_eq_true, decide_eq_true_iff] at h1; exact h1.1
   rw [h2, Bool.not_true, rescindref06_Compare.j0, if_neg (by decide), if_pos rfl]
   have := ref06_Compare_l0 a b (mayR_all h1) (mayR_all h2) h8 a.length 0 k (by omega) (by omega) (by omega) (by omega)
   simpa using this
  ·rw [if_neg h2]
   have : mayR b = false := by simpa using h2
   rw [this, Bool.not_false, rescindref06_Compare.j0, if_pos rfl]
 ·rw [if_neg h1, if_neg h1, rescindref06_Compare.j0, if_pos rfl]
end Go.Proofs.Ythngomhhimdolaa.H
end
section
namespace Go.Proofs.Ythngomhhimdolaa.H
open Go.RowKit Go.Shelf Go.Proofs.YthngomhhimdolaaW.PrintWords Go.Proofs.YthngomhhimdolaaW.PrintLast Go.Proofs.YthngomhhimdolaaW.PrintMore Go.Proofs.Ythngomhhimdolaa.P Go.Proofs.Ythngomhhimdolaa.R
set_option linter.unusedVariables false
theorem wrap_nat (j : Nat) (h : j < 4611686018427387904) : wrap64 ((j : Int) + 1) = ((j + 1 : Nat) : Int) := by rw [wrap_in] <;> omega
theorem rowIns_mem (r : List S64) : ∀ (acc : List (List S64)), ∀ q ∈ rowIns acc r, q ∈ acc ∨ q = r
 | [], q, h => by rw [rowIns] at h; exact .inr (List.mem_singleton.1 h)
 | p :: ps, q, h => by
  rw [rowIns] at h
  split at h
  ·rcases List.mem_cons.1 h with rfl | h
   ·exact .inl List.mem_cons_self
   ·rcases rowIns_mem r ps q h with h | h
    ·exact .inl (List.mem_cons_of_mem _ h)
    ·exact .inr h
  ·split at h
   ·exact .inl h
   ·rcases List.mem_cons.1 h with rfl | h
    ·exact .inr rfl
    ·exact .inl h
theorem rowIns_len (r : List S64) : ∀ (acc : List (List S64)), (rowIns acc r).length ≤ acc.length + 1
 | [] => by simp [rowIns]
 | p :: ps => by
  rw [rowIns]
  split
  ·have := rowIns_len r ps; simp only [List.length_cons]; omega
  ·split <;> simp
theorem rdL3_drop (l : List (List S64)) (j : Nat) (h : j < l.length) : l.drop j = rd_L3 l (j : Nat) :: l.drop (j + 1) := by
 rw [List.drop_eq_getElem_cons h]
 unfold rd_L3
 simp [List.getElem?_eq_getElem h]
theorem rdL3_mem (l : List (List S64)) (j : Nat) (h : j < l.length) : rd_L3 l (j : Nat) ∈ l := by
 have := rdL3_drop l j h
 have h2 : rd_L3 l (j : Nat) ∈ l.drop j := by rw [this]; exact List.mem_cons_self
 exact List.mem_of_mem_drop h2
theorem Rows_l1 (l : List S68) (m : Nat) (hm2 : m ≤ 9223372036854775806) (hl : l.length ≤ 4096) (j : Nat) (hj : j < l.length) (acc : List (List S64)) (hacc : acc.length ≤ 4096) (ha : ∀ q ∈ acc, q.length ≤ m) (K : Nat) (v : List (List S64)) :
  ∀ (n p k : Nat), acc.length - p = n → p ≤ acc.length → (∀ k', K ≤ k' → rescindref10_Rows.l0 k' l (acc.take p ++ rowIns (acc.drop p) (rd_T68 l (j : Nat)).f0) ((j + 1 : Nat) : Int) = some v) → K + n + m + 200 < k →
  rescindref10_Rows.l1 k l acc (j : Int) (p : Int) = some v := by
 intro n
 induction n with
 | zero =>
  intro p k hn hp hv hk
  obtain ⟨k, rfl⟩ : ∃ m, k = m + 1 := ⟨k - 1, by omega⟩
  have e1 : acc.drop p = [] := List.drop_eq_nil_of_le (by omega)
  have e2 : acc.take p = acc := List.take_of_length_le (by omega)
  rw [rescindref10_Rows.l1, if_neg (by omega)]
  simp only [Option.bind_some, Int.toNat_natCast, e1, e2, List.nil_append, List.append_nil, List.length_nil, List.length_append, List.length_singleton]
  rw [if_pos (by omega), if_pos (by omega), if_pos (by omega), if_pos (by omega), if_pos (by omega), if_pos (by omega), if_pos (by omega), wrap_nat j (by omega)]
  have := hv k (by omega)
  rw [e1, e2, rowIns] at this
  exact this
 | succ n ih =>
  intro p k hn hp hv hk
  obtain ⟨k, rfl⟩ : ∃ m, k = m + 1 := ⟨k - 1, by omega⟩
  have hpl : p < acc.length := by omega
  have hd := rdL3_drop acc p hpl
  rw [hd, rowIns] at hv
  have c1 : (p : Int) < (acc.length : Int) := by omega
  have c2 : (0 : Int) ≤ (p : Int) := by omega
  have c3 : (0 : Int) ≤ (j : Int) := by omega
  have c4 : (j : Int) < (l.length : Int) := by omega
  rw [rescindref10_Rows.l1]
  simp only [c1, c2, c3, c4, if_true]
  rw [ref06_Compare _ _ k (by omega), Option.bind_some]
  by_cases h1 : cmpR (rd_L3 acc (p : Nat)) (rd_T68 l (j : Nat)).f0 < 0
  ·rw [if_pos h1, wrap_nat p (by omega)]
   rw [if_pos h1] at hv
   refine ih (p + 1) k (by omega) (by omega) (fun k' hk' => ?_) (by omega)
   have := hv k' hk'
   rw [List.take_succ_eq_append_getElem hpl, List.append_assoc]
   have hg : acc[p] = rd_L3 acc (p : Nat) := by
    rw [List.drop_eq_getElem_cons hpl] at hd
    injection hd
   rw [hg]
   exact this
  ·rw [if_neg h1, ref_Same _ _ (by have := ha _ (rdL3_mem acc p hpl); omega) k (by have := ha _ (rdL3_mem acc p hpl); omega), Option.bind_some]
   rw [if_neg h1] at hv
   by_cases h2 : sameR (rd_L3 acc (p : Nat)) (rd_T68 l (j : Nat)).f0 = true
   ·rw [if_pos h2, wrap_nat j (by omega)]
    rw [if_pos h2, ← hd, List.take_append_drop] at hv
    exact hv k (by omega)
   ·rw [if_neg h2]
    rw [if_neg h2, ← hd] at hv
    have hs : (acc.take p).length + (acc.drop p).length = acc.length := by rw [← List.length_append, List.take_append_drop]
    simp only [Option.bind_some, Int.toNat_natCast, List.nil_append, List.length_nil, List.length_append, List.length_singleton]
    rw [if_pos (by omega), if_pos (by omega), if_pos (by omega), if_pos (by omega), wrap_nat j (by omega), List.append_assoc]
    exact hv k (by omega)
theorem Rows_l0 (l : List S68) (m : Nat) (hm : ∀ x ∈ l, x.f0.length ≤ m) (hm2 : m ≤ 9223372036854775806) (hl : l.length ≤ 4096) : ∀ (n j k : Nat) (acc : List (List S64)), l.length - j = n → acc.length ≤ j → j ≤ l.length → (∀ q ∈ acc, q.length ≤ m) → n * (m + 5000) + 1 ≤ k →
  rescindref10_Rows.l0 k l acc (j : Int) = some ((l.drop j).foldl (fun a x => rowIns a x.f0) acc) := by
 intro n
 induction n with
 | zero =>
  intro j k acc hn ha hjl hq hk
  obtain ⟨k, rfl⟩ : ∃ m, k = m + 1 := ⟨k - 1, by omega⟩
  rw [rescindref10_Rows.l0, if_neg (by omega), List.drop_eq_nil_of_le (by omega)]; rfl
 | succ n ih =>
  intro j k acc hn ha hjl hq hk
  have hmul : (n + 1) * (m + 5000) = n * (m + 5000) + (m + 5000) := Nat.succ_mul _ _
  obtain ⟨k, rfl⟩ : ∃ m, k = m + 1 := ⟨k - 1, by omega⟩
  have hj : j < l.length := by omega
  rw [rescindref10_Rows.l0, if_pos (by omega), drop_rd l j hj, List.foldl_cons]
  have hlen := rowIns_len (rd_T68 l (j : Nat)).f0 acc
  refine Rows_l1 l m hm2 hl j hj acc (by omega) hq (n * (m + 5000) + 1) _ acc.length 0 k (by omega) (by omega) (fun k' hk' => ?_) (by omega)
  rw [List.take_zero, List.nil_append, List.drop_zero]
  refine ih (j + 1) k' _ (by omega) (by omega) (by omega) (fun q hq' => ?_) hk'
  rcases rowIns_mem _ _ q hq' with h | h
  ·exact hq q h
  ·rw [h]; exact hm _ (rd_mem68 l j hj)
theorem ref10_Rows (l : List S68) (m : Nat) (hm : ∀ x ∈ l, x.f0.length ≤ m) (hm2 : m ≤ 9223372036854775806) (hl : l.length ≤ 4096) (k : Nat) (hk : l.length * (m + 5000) + 1 ≤ k) : rescindref10_Rows.f k l = some (rowsOf l) := by
 unfold rescindref10_Rows.f rowsOf
 have := Rows_l0 l m hm hm2 hl l.length 0 k [] (by omega) (by simp) (by omega) (by simp) hk
 simpa using this
theorem rowsOf_mem : ∀ (l : List S68) (acc : List (List S64)), ∀ q ∈ l.foldl (fun a x => rowIns a x.f0) acc, q ∈ acc ∨ ∃ x ∈ l, x.f0 = q
 | [], acc, q, h => .inl h
 | x :: xs, acc, q, h => by
  rw [List.foldl_cons] at h
  rcases rowsOf_mem xs _ q h with h | ⟨y, hy, h⟩
  ·rcases rowIns_mem _ _ q h with h | h
   ·exact .inl h
   ·exact .inr ⟨x, List.mem_cons_self, h.symm⟩
  ·exact .inr ⟨y, List.mem_cons_of_mem _ hy, h⟩
theorem rowsOf_len : ∀ (l : List S68) (acc : List (List S64)), (l.foldl (fun a x => rowIns a x.f0) acc).length ≤ acc.length + l.length
 | [], acc => by simp
 | x :: xs, acc => by
  rw [List.foldl_cons]
  have h1 := rowsOf_len xs (rowIns acc x.f0)
  have h2 := rowIns_len x.f0 acc
  rw [List.length_cons]; omega
end Go.Proofs.Ythngomhhimdolaa.H
end
section
namespace Go.Proofs.Ythngomhhimdolaa.H
open Go.RowKit Go.Shelf Go.Proofs.YthngomhhimdolaaW.PrintWords Go.Proofs.YthngomhhimdolaaW.PrintLast Go.Proofs.YthngomhhimdolaaW.PrintMore Go.Proofs.Ythngomhhimdolaa.P Go.Proofs.Ythngomhhimdolaa.R
set_option linter.unusedVariables false
theorem mul_bound (a b c : Nat) (h : a ≤ b) : a * c + 1 ≤ b * c + 1 := Nat.succ_le_succ (Nat.mul_le_mul h (Nat.le_refl c))
def roundsOf (m : Nat) : Nat := 4096 * (m + 5000) + 10000
def rowsLe (m : Nat) (l : List S68) : Prop := ∀ x ∈ l, x.f0.length ≤ m
theorem Rows_big {l : List S68} {m : Nat} (hm : rowsLe m l) (hm2 : m ≤ 9223372036854775806) (hl : l.length ≤ 4096) (k : Nat) (hk : roundsOf m < k) : rescindref10_Rows.f k l = some (rowsOf l) := by
 unfold roundsOf at hk
 have h : 4096 * (m + 5000) + 1 ≤ k := by omega
 exact ref10_Rows l m hm hm2 hl k (Nat.le_trans (mul_bound l.length 4096 (m + 5000) hl) h)
theorem Jumps_big {l : List S68} {m : Nat} (hm : rowsLe m l) (hm2 : m ≤ 9223372036854775806) (hl : l.length ≤ 4096) (r : List S64) (k : Nat) (hk : roundsOf m < k) : rescindref10_Jumps.f k l r = some (jumpsOf l r) := by
 unfold roundsOf at hk
 exact ref10_Jumps l r m hm hm2 hl k (by omega)
theorem May_l1 {l : List S68} {m : Nat} (hm : rowsLe m l) (hm2 : m ≤ 9223372036854775806) (hl : l.length ≤ 4096) (rs : List (List S64)) (hr : rs.length ≤ 4096) : ∀ (n j k : Nat), rs.length - j = n → n + 1 + roundsOf m < k →
  rescindref10_May.l1 k l rs (j : Int) = some ((rs.drop j).all fun r => decide ((jumpsOf l r).length ≤ 1024)) := by
 intro n
 induction n with
 | zero =>
  intro j k hn hk
  obtain ⟨k, rfl⟩ : ∃ m, k = m + 1 := ⟨k - 1, by omega⟩
  rw [rescindref10_May.l1, if_neg (by omega), List.drop_eq_nil_of_le (by omega)]; rfl
 | succ n ih =>
  intro j k hn hk
  obtain ⟨k, rfl⟩ : ∃ m, k = m + 1 := ⟨k - 1, by omega⟩
  rw [rescindref10_May.l1, if_pos (by omega), if_pos (by omega), Jumps_big hm hm2 hl _ k (by omega), Option.bind_some, rdL3_drop rs j (by omega), List.all_cons]
  by_cases h : (jumpsOf l (rd_L3 rs (j : Nat))).length ≤ 1024
  ·rw [if_neg (by omega), decide_eq_true h, Bool.true_and, wrap_nat j (by omega), ih (j + 1) k (by omega) (by omega)]
  ·rw [if_pos (by omega), decide_eq_false h, Bool.false_and]
def prevOf (l : List S68) (j : Nat) : Option S68 := if j = 0 then none else some (rd_T68 l ((j - 1 : Nat) : Int))
theorem mayJ_one (x : S68) : mayJ [(⟨x.f1, x.f2⟩ : S83)] = mayF (-2) [jmp x] := by unfold mayJ; rw [decide_eq_true (by simp), Bool.true_and]; rfl
theorem near_prev (l : List S68) (j : Nat) (x : S68) (xs : List S68) : nearB (prevOf l j) (x :: xs) = (edgeOk x && (if j = 0 then nearB (some x) xs else
  (decide (cmpR (rd_T68 l ((j - 1 : Nat) : Int)).f0 x.f0 ≤ 0) && ((decide (cmpR (rd_T68 l ((j - 1 : Nat) : Int)).f0 x.f0 ≠ 0) || decide ((rd_T68 l ((j - 1 : Nat) : Int)).f1 < x.f1)) && nearB (some x) xs)))) := by
 unfold prevOf
 by_cases h : j = 0
 ·rw [if_pos h, if_pos h]; rfl
 ·rw [if_neg h, if_neg h]; rfl
theorem May_l0 {l : List S68} {m : Nat} (hm : rowsLe m l) (hm2 : m ≤ 9223372036854775806) (hl : l.length ≤ 4096) : ∀ (n j k : Nat), l.length - j = n → 2 * n + 5000 + roundsOf m < k →
  rescindref10_May.l0 k l (j : Int) = some (nearB (prevOf l j) (l.drop j) && (rowsOf l).all fun r => decide ((jumpsOf l r).length ≤ 1024)) := by
 intro n
 induction n with
 | zero =>
  intro j k hn hk
  obtain ⟨k, rfl⟩ : ∃ m, k = m + 1 := ⟨k - 1, by omega⟩
  have hr : (rowsOf l).length ≤ 4096 := by have := rowsOf_len l []; unfold rowsOf; simp at this; omega
  rw [rescindref10_May.l0, if_neg (by omega), Rows_big hm hm2 hl k (by omega), Option.bind_some, List.drop_eq_nil_of_le (by omega)]
  have := May_l1 hm hm2 hl (rowsOf l) hr (rowsOf l).length 0 k (by omega) (by omega)
  rw [show ((0 : Nat) : Int) = 0 from rfl] at this
  rw [this, List.drop_zero]
  unfold prevOf
  split <;> rw [nearB, Bool.true_and]
 | succ n ih =>
  intro j k hn hk
  obtain ⟨k, rfl⟩ : ∃ m, k = m + 2 := ⟨k - 2, by omega⟩
  have hj : j < l.length := by omega
  have hnext := ih (j + 1) k (by omega) (by omega)
  have hp : prevOf l (j + 1) = some (rd_T68 l (j : Nat)) := by unfold prevOf; rw [if_neg (by omega), Nat.add_sub_cancel]
  rw [hp] at hnext
  unfold roundsOf at hk
  rw [rescindref10_May.l0, if_pos (by omega), if_pos (by omega), ref06_May _ _ (by omega), Option.bind_some, ref09_May _ _ (by simp; omega), Option.bind_some, mayJ_one, drop_rd l j hj, near_prev]
  obtain ⟨x, hx⟩ : ∃ x, x = rd_T68 l (j : Nat) := ⟨_, rfl⟩
  obtain ⟨A, hA⟩ : ∃ A, A = (rowsOf l).all fun r => decide ((jumpsOf l r).length ≤ 1024) := ⟨_, rfl⟩
  rw [← hA] at hnext ⊢
  rw [← hx] at hnext ⊢
  have hbad : rescindref10_May.j1 (k + 1) l (j : Int) true = some false := by rw [rescindref10_May.j1, if_pos rfl]
  unfold edgeOk
  by_cases h1 : mayR x.f0 = true
  ·rw [if_pos h1, h1, Bool.true_and]
   by_cases h2 : mayF (-2) [jmp x] = true
   ·rw [h2, Bool.true_and, Bool.not_true, rescindref10_May.j1, if_neg (by decide)]
    by_cases h0 : j = 0
    ·rw [if_pos (by omega), if_pos h0, wrap_nat j (by omega), hnext]
    ·have hw2 : wrap64 ((j : Int) - 1) = ((j - 1 : Nat) : Int) := by rw [wrap_in] <;> omega
     rw [hw2]
     clear hw2
     rw [if_neg (by omega), if_neg h0, if_pos (by omega), if_pos (by omega), if_pos (by omega), if_pos (by omega), ref06_Compare _ _ k (by omega), Option.bind_some, ← hx, wrap_nat j (by omega), hnext]
     by_cases h3 : cmpR (rd_T68 l ((j - 1 : Nat) : Int)).f0 x.f0 > 0
     ·rw [if_pos h3, decide_eq_false (by omega)]; rfl
     ·rw [if_neg h3, decide_eq_true (show _ ≤ (0 : Int) by omega), Bool.true_and]
      by_cases h4 : cmpR (rd_T68 l ((j - 1 : Nat) : Int)).f0 x.f0 = 0
      ·rw [if_pos h4]
       by_cases h5 : (rd_T68 l ((j - 1 : Nat) : Int)).f1 ≥ x.f1
       ·rw [if_pos h5, decide_eq_false (fun h => h h4), decide_eq_false (show ¬ (rd_T68 l ((j - 1 : Nat) : Int)).f1 < x.f1 by omega)]; rfl
       ·rw [if_neg h5, decide_eq_true (show (rd_T68 l ((j - 1 : Nat) : Int)).f1 < x.f1 by omega), Bool.or_true, Bool.true_and]
      ·rw [if_neg h4, decide_eq_true h4, Bool.true_or, Bool.true_and]
   ·have h2' : mayF (-2) [jmp x] = false := by simpa using h2
    rw [h2', Bool.not_false, hbad]; rfl
  ·have h1' : mayR x.f0 = false := by simpa using h1
   rw [if_neg h1, hbad, h1']; rfl
theorem ref10_May {l : List S68} {m : Nat} (hm : rowsLe m l) (hm2 : m ≤ 9223372036854775806) (k : Nat) (hk : 15000 + roundsOf m < k) : rescindref10_May.f k l = some (mayE l) := by
 rw [← refMay_eq]
 unfold rescindref10_May.f refMay
 by_cases hl : l.length ≤ 4096
 ·have := May_l0 hm hm2 hl l.length 0 k (by omega) (by omega)
  rw [if_neg (by omega), decide_eq_true hl, Bool.true_and]
  rw [show ((0 : Nat) : Int) = 0 from rfl] at this
  rw [this]; rfl
 ·rw [if_pos (by omega), decide_eq_false hl]; rfl
end Go.Proofs.Ythngomhhimdolaa.H
end
section
namespace Go.Proofs.Ythngomhhimdolaa.P
open Go.RowKit Go.Proofs.YthngomhhimdolaaW.PrintWords Go.Proofs.YthngomhhimdolaaW.PrintLast Go.Proofs.YthngomhhimdolaaW.PrintMore
attribute [local go_sem] max2_int min2_int max_two min_two max_three min_three max_four min_four   -- for this text's walks alone
set_option linter.unusedVariables false
set_option linter.unusedSimpArgs false
def counts_may.j0 : Nat → List (S68) → Bool → Option (Int)
 | 0, _, _ => none
 | k + 1, x0, x5 => if x5 = true then (some 2) else ((edge_Table.f x0).bind fun t102 => (if t102 = true then (some 0) else (some 20)))
def counts_may.f (k : Nat) (l0 : List (S68)) (a1 : Int) : Option (Int) := (edge_May.f l0).bind fun t101 => (if t101 = true then (if a1 < 1 then (counts_may.j0 k l0 true) else (counts_may.j0 k l0 (decide (a1 > 64)))) else (counts_may.j0 k l0 true))
set_option maxHeartbeats 8000000 in
set_option maxRecDepth 100000 in
theorem counts_may.calls (k : Nat) (A0 : Option Addr) (c0 : Nat) (l0 : List (S68)) (a1 : Int) (r : Int) (w : World) (hr0 : Kd.C k68 w A0 l0.length l0) (hc0 : l0.length ≤ c0) (h : counts_may.f k l0 a1 = some r) :
  Calls Try.prog 42 #[.slice A0 l0.length c0, .int .i64 a1] w fun e w' => e = .returned (.int .i64 r) ∧ Below w.heap.size w w' := by
 have HR0 := Aside0.mk hr0
 have HC0 := Aside0.mk hc0
 clear hr0 hc0
 have HB := Aside0.mk (Below.refl w.heap.size w)
 have H : ((edge_May.f l0).bind fun t101 => (if t101 = true then (if a1 < 1 then (counts_may.j0 k l0 true) else (counts_may.j0 k l0 (decide (a1 > 64)))) else (counts_may.j0 k l0 true))) = some r := h
 clear h
 have HC3 := Aside0.mk H
 clear H
 go_enter Try.func42, Try.ntmps42
 go_upto_region 1 with (fail)
 go_cut [5] (fun v5 wc => ∃ (kq : Nat) (x5_2 : Bool), v5 = .bool x5_2 ∧ Aside0 (counts_may.j0 kq l0 x5_2 = some r) ∧ Aside0 (kq ≤ k) ∧ Aside0 (Below w.heap.size w wc))
 case first =>
  have H := HC3.out
  clear HC3
  replace H := Option.bind_eq_some_iff.mp H
  obtain ⟨t101, A40, H⟩ := H
  replace H : (if t101 = true then (if a1 < 1 then (counts_may.j0 k l0 true) else (counts_may.j0 k l0 (decide (a1 > 64)))) else (counts_may.j0 k l0 true)) = some r := H
  have A4 := Aside0.mk A40
  clear A40
  by_cases c5 : t101 = true
  ·subst c5
   have H1 : (if a1 < 1 then (counts_may.j0 k l0 true) else (counts_may.j0 k l0 (decide (a1 > 64)))) = some r := by rw [if_pos rfl] at H; exact H
   clear H
   have H := H1
   clear H1
   by_cases c6 : a1 < 1
   ·rw [if_pos c6] at H
    have c6b0 : decide (a1 < 1) = true := decide_eq_true c6
    clear c6
    (first | rw [c6b0] | (simp only [i64_w, i32_w]; rw [c6b0]) | skip)
    have H' := Aside0.mk H
    clear H
    go_wp2_with (first | ((with_reducible refine gate_callee (f := 58) rfl ?_); refine goesL_ (some 7) rfl rfl Try.func58 (by kernel_rfl) rfl #[.slice A0 l0.length c0] rfl (by (try simp only [List.map_toArray, List.map_cons, List.map_nil]); first | done | rfl | (simp only [List.length_drop, List.length_take]; rfl)) ?_; (with_reducible refine (edge_May.calls _ _ l0 true _ ?side1 ?side2 A4.out).mono ?_); (case side1 => repeat (first | exact (Kd.C_below HR0.out HB.out) | (with_reducible refine Kd.C_alloc ?_ _) | (with_reducible refine Kd.C_drewN ?_ _) | (with_reducible refine Kd.C_drew ?_))); (case side2 => exact HC0.out); rintro e w7 ⟨rfl, hb⟩; refine ⟨_, rfl, ?_⟩; have n0_ := Aside0.mk (below_step (by repeat (first | (with_reducible first | exact HB.out | apply below_alloc | apply pw_below_drewN | apply below_drew1) | exact HB.out)) hb); clear HB; have HB := n0_; clear n0_; (try clear hb); (try clear hb2); (try clear hk); (try clear hi)))
    go_meet
    case rel => exact ⟨_, (true), (by first | rfl | (simp; done) | (simp [*]; done)), H', ⟨by first | omega | exact Nat.le_refl _⟩, ⟨by repeat (first | (with_reducible first | exact HB.out | apply below_alloc | apply pw_below_drewN | apply below_drew1) | exact HB.out)⟩⟩
   ·rw [if_neg c6] at H
    have c6b0 : decide (a1 < 1) = false := decide_eq_false c6
    clear c6
    (first | rw [c6b0] | (simp only [i64_w, i32_w]; rw [c6b0]) | skip)
    have H' := Aside0.mk H
    clear H
    go_wp2_with (first | ((with_reducible refine gate_callee (f := 58) rfl ?_); refine goesL_ (some 7) rfl rfl Try.func58 (by kernel_rfl) rfl #[.slice A0 l0.length c0] rfl (by (try simp only [List.map_toArray, List.map_cons, List.map_nil]); first | done | rfl | (simp only [List.length_drop, List.length_take]; rfl)) ?_; (with_reducible refine (edge_May.calls _ _ l0 true _ ?side1 ?side2 A4.out).mono ?_); (case side1 => repeat (first | exact (Kd.C_below HR0.out HB.out) | (with_reducible refine Kd.C_alloc ?_ _) | (with_reducible refine Kd.C_drewN ?_ _) | (with_reducible refine Kd.C_drew ?_))); (case side2 => exact HC0.out); rintro e w8 ⟨rfl, hb⟩; refine ⟨_, rfl, ?_⟩; have n0_ := Aside0.mk (below_step (by repeat (first | (with_reducible first | exact HB.out | apply below_alloc | apply pw_below_drewN | apply below_drew1) | exact HB.out)) hb); clear HB; have HB := n0_; clear n0_; (try clear hb); (try clear hb2); (try clear hk); (try clear hi)))
    go_meet
    case rel => exact ⟨_, (decide (a1 > 64)), (by first | rfl | (simp; done) | (simp [*]; done)), H', ⟨by first | omega | exact Nat.le_refl _⟩, ⟨by repeat (first | (with_reducible first | exact HB.out | apply below_alloc | apply pw_below_drewN | apply below_drew1) | exact HB.out)⟩⟩
  ·replace c5 := Bool.eq_false_iff.mpr c5
   subst c5
   have H1 : (counts_may.j0 k l0 true) = some r := by rw [if_neg (show ¬ (false = true) by decide)] at H; exact H
   clear H
   have H := H1
   clear H1
   have H' := Aside0.mk H
   clear H
   go_wp2_with (first | ((with_reducible refine gate_callee (f := 58) rfl ?_); refine goesL_ (some 7) rfl rfl Try.func58 (by kernel_rfl) rfl #[.slice A0 l0.length c0] rfl (by (try simp only [List.map_toArray, List.map_cons, List.map_nil]); first | done | rfl | (simp only [List.length_drop, List.length_take]; rfl)) ?_; (with_reducible refine (edge_May.calls _ _ l0 false _ ?side1 ?side2 A4.out).mono ?_); (case side1 => repeat (first | exact (Kd.C_below HR0.out HB.out) | (with_reducible refine Kd.C_alloc ?_ _) | (with_reducible refine Kd.C_drewN ?_ _) | (with_reducible refine Kd.C_drew ?_))); (case side2 => exact HC0.out); rintro e w9 ⟨rfl, hb⟩; refine ⟨_, rfl, ?_⟩; have n0_ := Aside0.mk (below_step (by repeat (first | (with_reducible first | exact HB.out | apply below_alloc | apply pw_below_drewN | apply below_drew1) | exact HB.out)) hb); clear HB; have HB := n0_; clear n0_; (try clear hb); (try clear hb2); (try clear hk); (try clear hi)))
   go_meet
   case rel => exact ⟨_, (true), (by first | rfl | (simp; done) | (simp [*]; done)), H', ⟨by first | omega | exact Nat.le_refl _⟩, ⟨by repeat (first | (with_reducible first | exact HB.out | apply below_alloc | apply pw_below_drewN | apply below_drew1) | exact HB.out)⟩⟩
 case rest =>
  clear HC3
  try clear p2
  try clear c4
  try clear c5
  try clear c6
  try clear c6b0
  obtain ⟨kq, x5_2, rfl, HA, HJ2, HB⟩ := hcut
  cases kq with
  | zero => exact absurd HA.out (by simp [counts_may.j0])
  | succ kj2 =>
   have H := HA.out
   clear HA
   simp only [counts_may.j0] at H
   by_cases c10 : x5_2 = true
   ·subst c10
    have H1 : (some 2) = some r := by rw [if_pos rfl] at H; exact H
    clear H
    have H := H1
    clear H1
    obtain rfl := Option.some.inj H
    go_wp2
    go_ret
    exact ⟨by first | rfl | (simp [errW_none, errW_some] <;> rfl) | (simp [*, errW_none, errW_some] <;> rfl), by repeat (first | (with_reducible first | exact HB.out | apply below_alloc | apply pw_below_drewN | apply below_drew1) | exact HB.out)⟩
   ·replace c10 := Bool.eq_false_iff.mpr c10
    subst c10
    have H1 : ((edge_Table.f l0).bind fun t102 => (if t102 = true then (some 0) else (some 20))) = some r := by rw [if_neg (show ¬ (false = true) by decide)] at H; exact H
    clear H
    have H := H1
    clear H1
    replace H := Option.bind_eq_some_iff.mp H
    obtain ⟨t102, A110, H⟩ := H
    replace H : (if t102 = true then (some 0) else (some 20)) = some r := H
    have A11 := Aside0.mk A110
    clear A110
    by_cases c12 : t102 = true
    ·subst c12
     have H1 : (some 0) = some r := by rw [if_pos rfl] at H; exact H
     clear H
     have H := H1
     clear H1
     obtain rfl := Option.some.inj H
     go_wp2_with (first | ((with_reducible refine gate_callee (f := 38) rfl ?_); refine goesL_ (some 19) rfl rfl Try.func38 (by kernel_rfl) rfl #[.slice A0 l0.length c0] rfl (by (try simp only [List.map_toArray, List.map_cons, List.map_nil]); first | done | rfl | (simp only [List.length_drop, List.length_take]; rfl)) ?_; (with_reducible refine (edge_Table.calls _ _ l0 true _ ?side1 ?side2 A11.out).mono ?_); (case side1 => repeat (first | exact (Kd.C_below HR0.out HB.out) | (with_reducible refine Kd.C_alloc ?_ _) | (with_reducible refine Kd.C_drewN ?_ _) | (with_reducible refine Kd.C_drew ?_))); (case side2 => exact HC0.out); rintro e w13 ⟨rfl, hb⟩; refine ⟨_, rfl, ?_⟩; have n0_ := Aside0.mk (below_step (by repeat (first | (with_reducible first | exact HB.out | apply below_alloc | apply pw_below_drewN | apply below_drew1) | exact HB.out)) hb); clear HB; have HB := n0_; clear n0_; (try clear hb); (try clear hb2); (try clear hk); (try clear hi)))
     go_ret
     exact ⟨by first | rfl | (simp [errW_none, errW_some] <;> rfl) | (simp [*, errW_none, errW_some] <;> rfl), by repeat (first | (with_reducible first | exact HB.out | apply below_alloc | apply pw_below_drewN | apply below_drew1) | exact HB.out)⟩
    ·replace c12 := Bool.eq_false_iff.mpr c12
     subst c12
     have H1 : (some 20) = some r := by rw [if_neg (show ¬ (false = true) by decide)] at H; exact H
     clear H
     have H := H1
     clear H1
     obtain rfl := Option.some.inj H
     go_wp2_with (first | ((with_reducible refine gate_callee (f := 38) rfl ?_); refine goesL_ (some 19) rfl rfl Try.func38 (by kernel_rfl) rfl #[.slice A0 l0.length c0] rfl (by (try simp only [List.map_toArray, List.map_cons, List.map_nil]); first | done | rfl | (simp only [List.length_drop, List.length_take]; rfl)) ?_; (with_reducible refine (edge_Table.calls _ _ l0 false _ ?side1 ?side2 A11.out).mono ?_); (case side1 => repeat (first | exact (Kd.C_below HR0.out HB.out) | (with_reducible refine Kd.C_alloc ?_ _) | (with_reducible refine Kd.C_drewN ?_ _) | (with_reducible refine Kd.C_drew ?_))); (case side2 => exact HC0.out); rintro e w14 ⟨rfl, hb⟩; refine ⟨_, rfl, ?_⟩; have n0_ := Aside0.mk (below_step (by repeat (first | (with_reducible first | exact HB.out | apply below_alloc | apply pw_below_drewN | apply below_drew1) | exact HB.out)) hb); clear HB; have HB := n0_; clear n0_; (try clear hb); (try clear hb2); (try clear hk); (try clear hi)))
     go_ret
     exact ⟨by first | rfl | (simp [errW_none, errW_some] <;> rfl) | (simp [*, errW_none, errW_some] <;> rfl), by repeat (first | (with_reducible first | exact HB.out | apply below_alloc | apply pw_below_drewN | apply below_drew1) | exact HB.out)⟩
end Go.Proofs.Ythngomhhimdolaa.P
end
section
namespace Go.Proofs.Ythngomhhimdolaa.H
open Go.RowKit Go.Shelf Go.Proofs.YthngomhhimdolaaW.PrintWords Go.Proofs.YthngomhhimdolaaW.PrintLast Go.Proofs.YthngomhhimdolaaW.PrintMore Go.Proofs.Ythngomhhimdolaa.P Go.Proofs.Ythngomhhimdolaa.R
set_option linter.unusedVariables false
theorem roundsOf_ge (m : Nat) : 10000 ≤ roundsOf m := Nat.le_add_left _ _
def valF (t : Int) : List S83 → Int
 | [] => 0
 | x :: xs => (if x.f0 ≤ t then x.f1 else 0) + valF t xs
def sumF : List S83 → Int
 | [] => 0
 | x :: xs => x.f1 + sumF xs
def bdd (l : List S83) : Prop := ∀ x ∈ l, -1048576 ≤ x.f1 ∧ x.f1 ≤ 1048576
theorem Value_l0 (l : List S83) (h : l.length ≤ 1024) (hb : bdd l) (t : Int) : ∀ (n j k : Nat) (v : Int), l.length - j = n → n < k → -(1048576 * j) ≤ v → v ≤ 1048576 * j → rescindref09_Value.l0 k l t v (j : Int) = some (v + valF t (l.drop j)) := by
 intro n
 induction n with
 | zero =>
  intro j k v hn hk h1 h2
  obtain ⟨k, rfl⟩ : ∃ m, k = m + 1 := ⟨k - 1, by omega⟩
  rw [rescindref09_Value.l0, if_neg (by omega), List.drop_eq_nil_of_le (by omega), valF, Int.add_zero]
 | succ n ih =>
  intro j k v hn hk h1 h2
  obtain ⟨k, rfl⟩ : ∃ m, k = m + 1 := ⟨k - 1, by omega⟩
  have hj : j < l.length := by omega
  have hx := hb _ (rd_mem83 l j hj)
  rw [rescindref09_Value.l0, if_pos (by omega), if_pos (by omega), drop83 l j hj, valF]
  by_cases hle : (rd_T83 l (j : Nat)).f0 ≤ t
  ·rw [if_pos hle, if_pos hle, wrap_in (x := v + (rd_T83 l (j : Nat)).f1) (by omega) (by omega), wrap_nat j (by omega), ih (j + 1) k _ (by omega) (by omega) (by omega) (by omega), Int.add_assoc]
  ·rw [if_neg hle, if_neg hle, wrap_nat j (by omega), ih (j + 1) k _ (by omega) (by omega) (by omega) (by omega), Int.zero_add]
theorem ref09_Value (l : List S83) (h : l.length ≤ 1024) (hb : bdd l) (t : Int) (k : Nat) (hk : l.length < k) : rescindref09_Value.f k l t = some (valF t l) := by
 unfold rescindref09_Value.f
 have := Value_l0 l h hb t l.length 0 k 0 (by omega) hk (by omega) (by omega)
 rw [show ((0 : Nat) : Int) = 0 from rfl] at this
 rw [this, Int.zero_add, List.drop_zero]
theorem Least_l0 (l : List S83) (h : l.length ≤ 1024) (hb : bdd l) : ∀ (n j k : Nat) (v : Int), l.length - j = n → n + l.length + 1 < k → rescindref09_Least.l0 k l v (j : Int) = some ((l.drop j).foldl (fun m x => mn m (valF x.f0 l)) v) := by
 intro n
 induction n with
 | zero =>
  intro j k v hn hk
  obtain ⟨k, rfl⟩ : ∃ m, k = m + 1 := ⟨k - 1, by omega⟩
  rw [rescindref09_Least.l0, if_neg (by omega), List.drop_eq_nil_of_le (by omega)]; rfl
 | succ n ih =>
  intro j k v hn hk
  obtain ⟨k, rfl⟩ : ∃ m, k = m + 1 := ⟨k - 1, by omega⟩
  have hj : j < l.length := by omega
  rw [rescindref09_Least.l0, if_pos (by omega), if_pos (by omega), ref09_Value l h hb _ k (by omega), Option.bind_some, drop83 l j hj, List.foldl_cons]
  by_cases hlt : valF (rd_T83 l (j : Nat)).f0 l < v
  ·rw [if_pos hlt, Option.bind_some, wrap_nat j (by omega), ih (j + 1) k _ (by omega) (by omega)]
   unfold mn; rw [if_pos hlt]
  ·rw [if_neg hlt, wrap_nat j (by omega), ih (j + 1) k _ (by omega) (by omega)]
   unfold mn; rw [if_neg hlt]
theorem valF_app (t : Int) : ∀ a b : List S83, valF t (a ++ b) = valF t a + valF t b
 | [], b => by rw [List.nil_append, valF, Int.zero_add]
 | x :: xs, b => by rw [List.cons_append, valF, valF, valF_app t xs b, Int.add_assoc]
theorem valF_all (t : Int) : ∀ l : List S83, (∀ x ∈ l, x.f0 ≤ t) → valF t l = sumF l
 | [], _ => rfl
 | x :: xs, h => by rw [valF, sumF, if_pos (h x List.mem_cons_self), valF_all t xs fun y hy => h y (List.mem_cons_of_mem _ hy)]
theorem valF_none (t : Int) : ∀ l : List S83, (∀ x ∈ l, t < x.f0) → valF t l = 0
 | [], _ => rfl
 | x :: xs, h => by rw [valF, if_neg (by have := h x List.mem_cons_self; omega), valF_none t xs fun y hy => h y (List.mem_cons_of_mem _ hy)]; rfl
theorem sumF_app : ∀ a b : List S83, sumF (a ++ b) = sumF a + sumF b
 | [], b => by rw [List.nil_append, sumF, Int.zero_add]
 | x :: xs, b => by rw [List.cons_append, sumF, sumF, sumF_app xs b, Int.add_assoc]
theorem least_run : ∀ (suf pre : List S83) (b : Int), (pre ++ suf).Pairwise (fun a c => a.f0 < c.f0) → suf.foldl (fun m x => mn m (valF x.f0 (pre ++ suf))) b = leastF (sumF pre) b suf
 | [], pre, b, _ => by rw [leastF]; rfl
 | x :: xs, pre, b, h => by
  have hp := List.pairwise_append.1 h
  have hx := List.pairwise_cons.1 hp.2.1
  have hv : valF x.f0 (pre ++ x :: xs) = sumF pre + x.f1 := by
   rw [valF_app, valF_all _ pre (fun y hy => by have := hp.2.2 y hy x List.mem_cons_self; omega), valF, if_pos (Int.le_refl _), valF_none _ xs (fun y hy => hx.1 y hy), Int.add_zero]
  rw [List.foldl_cons, hv, leastF]
  have he : pre ++ x :: xs = (pre ++ [x]) ++ xs := by rw [List.append_assoc]; rfl
  rw [he, least_run xs (pre ++ [x]) _ (by rw [← he]; exact h), sumF_app]
  rw [sumF, sumF, Int.add_zero]
theorem ref09_Least (l : List S83) (k : Nat) (hk : 4000 < k) : rescindref09_Least.f k l = some (leastJ l) ∨ 1024 < l.length := by
 by_cases h : l.length ≤ 1024
 ·refine .inl ?_
  unfold rescindref09_Least.f leastJ
  rw [ref09_May l k (by omega), Option.bind_some]
  by_cases hm : mayJ l = true
  ·rw [if_pos hm, if_pos hm]
   have hf := ((mayJ_iff l).1 hm).2
   have hb : bdd l := mayF_bound l _ hf
   rw [mayF_iff] at hf
   rw [ref09_Value l h hb _ k (by omega), Option.bind_some]
   have hl := Least_l0 l h hb l.length 0 k (valF (-1) l) (by omega) (by omega)
   rw [show ((0 : Nat) : Int) = 0 from rfl, List.drop_zero] at hl
   have hr := least_run l [] (valF (-1) l) (by rw [List.nil_append]; exact hf.2)
   simp only [List.nil_append, sumF] at hr
   rw [hl, hr]
   cases l with
   | nil => rfl
   | cons x xs =>
    have h1 := (hf.1 x List.mem_cons_self).1
    have h2 := (List.pairwise_cons.1 hf.2).1
    have hv : valF (-1) xs = 0 := valF_none _ xs fun y hy => by have := h2 y hy; omega
    rw [valF, hv]
    by_cases he : x.f0 = -1
    ·rw [if_pos (by omega), Int.add_zero]
     exact congrArg some (if_pos he).symm
    ·rw [if_neg (by omega)]
     exact congrArg some (if_neg he).symm
  ·rw [if_neg hm, if_neg hm]
 ·exact .inr (by omega)
theorem Table_l0 {l : List S68} {m : Nat} (hm : rowsLe m l) (hm2 : m ≤ 9223372036854775806) (hl : l.length ≤ 4096) (rs : List (List S64)) (hr : rs.length ≤ 4096) (hj : ∀ r ∈ rs, (jumpsOf l r).length ≤ 1024) : ∀ (n j k : Nat), rs.length - j = n → n + 1 + roundsOf m < k →
  rescindref10_Table.l0 k l rs (j : Int) = some ((rs.drop j).all fun r => decide (0 ≤ leastJ (jumpsOf l r))) := by
 intro n
 induction n with
 | zero =>
  intro j k hn hk
  obtain ⟨k, rfl⟩ : ∃ m, k = m + 1 := ⟨k - 1, by omega⟩
  rw [rescindref10_Table.l0, if_neg (by omega), List.drop_eq_nil_of_le (by omega)]; rfl
 | succ n ih =>
  intro j k hn hk
  obtain ⟨k, rfl⟩ : ∃ m, k = m + 1 := ⟨k - 1, by omega⟩
  have hjr : j < rs.length := by omega
  have hL : rescindref09_Least.f k (jumpsOf l (rd_L3 rs (j : Nat))) = some (leastJ (jumpsOf l (rd_L3 rs (j : Nat)))) := by
   rcases ref09_Least (jumpsOf l (rd_L3 rs (j : Nat))) k (by have := roundsOf_ge m; omega) with h | h
   ·exact h
   ·have := hj _ (rdL3_mem rs j hjr); omega
  rw [rescindref10_Table.l0, if_pos (by omega), if_pos (by omega), Jumps_big hm hm2 hl _ k (by omega), Option.bind_some, hL, Option.bind_some, rdL3_drop rs j hjr, List.all_cons]
  by_cases h : 0 ≤ leastJ (jumpsOf l (rd_L3 rs (j : Nat)))
  ·rw [if_neg (by omega), decide_eq_true h, Bool.true_and, wrap_nat j (by omega), ih (j + 1) k (by omega) (by omega)]
  ·rw [if_pos (by omega), decide_eq_false h, Bool.false_and]
theorem ref10_Table {l : List S68} {m : Nat} (hm : rowsLe m l) (hm2 : m ≤ 9223372036854775806) (k : Nat) (hk : 15000 + roundsOf m < k) : rescindref10_Table.f k l = some (tableE l) := by
 unfold rescindref10_Table.f
 rw [ref10_May hm hm2 k hk, Option.bind_some, tableE_eq]
 by_cases h : mayE l = true
 ·have hM := (mayE_iff l).1 h
  have hlen : (rowsOf l).length ≤ 4096 := by have := rowsOf_len l []; unfold rowsOf; simp at this; omega
  rw [if_pos h, h, Bool.true_and, Rows_big hm hm2 hM.1 k (by omega), Option.bind_some]
  have hj : ∀ r ∈ rowsOf l, (jumpsOf l r).length ≤ 1024 := by
   have h2 := refMay_eq l
   rw [h] at h2
   unfold refMay at h2
   rw [Bool.and_eq_true, Bool.and_eq_true, List.all_eq_true] at h2
   intro r hr
   simpa using h2.2.2 r hr
  have := Table_l0 hm hm2 hM.1 (rowsOf l) hlen hj (rowsOf l).length 0 k (by omega) (by omega)
  rw [show ((0 : Nat) : Int) = 0 from rfl, List.drop_zero] at this
  exact this
 ·have h' : mayE l = false := by simpa using h
  rw [h', if_neg (by decide), Bool.false_and]
def checkE (l : List S68) (n : Int) : Int := if mayE l = true then (if n < 1 then 2 else if n > 64 then 2 else if tableE l = true then 0 else 20) else 2
theorem ref29_check {l : List S68} {m : Nat} (hm : rowsLe m l) (hm2 : m ≤ 9223372036854775806) (n : Int) (k : Nat) (hk : 16000 + roundsOf m < k) : rescindref29_check.f k l n = some (checkE l n) := by
 unfold rescindref29_check.f checkE
 rw [ref10_May hm hm2 k (by omega), Option.bind_some]
 obtain ⟨k, rfl⟩ : ∃ m, k = m + 1 := ⟨k - 1, by omega⟩
 by_cases h : mayE l = true
 ·rw [if_pos h, if_pos h]
  by_cases h1 : n < 1
  ·rw [if_pos h1, if_pos h1, rescindref29_check.j0, if_pos rfl]
  ·rw [if_neg h1, if_neg h1, rescindref29_check.j0]
   by_cases h2 : n > 64
   ·rw [if_pos (decide_eq_true h2), if_pos h2]
   ·rw [if_neg (by rw [decide_eq_false h2]; decide), if_neg h2, ref10_Table hm hm2 k (by omega), Option.bind_some]
    split <;> rfl
 ·rw [if_neg h, if_neg h, rescindref29_check.j0, if_pos rfl]
theorem counts_may_eq {l : List S68} (hr : okRows l) (n : Int) (k : Nat) (hk : 0 < k) : counts_may.f k l n = some (checkE l n) := by
 unfold counts_may.f checkE edge_May.f
 rw [if_pos hr, Option.bind_some]
 obtain ⟨k, rfl⟩ : ∃ m, k = m + 1 := ⟨k - 1, by omega⟩
 by_cases h : mayE l = true
 ·rw [if_pos h, if_pos h]
  by_cases h1 : n < 1
  ·rw [if_pos h1, if_pos h1, counts_may.j0, if_pos rfl]
  ·rw [if_neg h1, if_neg h1, counts_may.j0]
   by_cases h2 : n > 64
   ·rw [if_pos (decide_eq_true h2), if_pos h2]
   ·rw [if_neg (by rw [decide_eq_false h2]; decide), if_neg h2]
    unfold edge_Table.f
    rw [if_pos hr, Option.bind_some]
    split <;> rfl
 ·rw [if_neg h, if_neg h, counts_may.j0, if_pos rfl]
end Go.Proofs.Ythngomhhimdolaa.H
end
section
namespace Go.Proofs.Ythngomhhimdolaa.P
open Go.RowKit Go.Proofs.YthngomhhimdolaaW.PrintWords Go.Proofs.YthngomhhimdolaaW.PrintLast Go.Proofs.YthngomhhimdolaaW.PrintMore
attribute [local go_sem] max2_int min2_int max_two min_two max_three min_three max_four min_four   -- for this text's walks alone
set_option linter.unusedVariables false
set_option linter.unusedSimpArgs false
def counts_Starts.f (k : Nat) (l0 : List (S68)) : Option (List Int × Int) := (counts_may.f k l0 1).bind fun t103 => (if t103 = 0 then ((counts_starts.f l0).bind fun t104 => (some (t104, 0))) else (some (([] : List Int), t103)))
set_option maxHeartbeats 8000000 in
set_option maxRecDepth 100000 in
theorem counts_Starts.calls (k : Nat) (A0 : Option Addr) (c0 : Nat) (l0 : List (S68)) (r1 : List Int) (r2 : Int) (w : World) (hr0 : Kd.C k68 w A0 l0.length l0) (hc0 : l0.length ≤ c0) (h : counts_Starts.f k l0 = some (r1, r2)) :
  Calls Try.prog 17 #[.slice A0 l0.length c0] w fun e w' => ∃ v0_ : Value, e = .returned (.tuple #[v0_, .int .i64 r2]) ∧ Kd.R (Kd.int .i64) 3 w' w.heap.size (fun _ => True) v0_ r1 ∧ Below w.heap.size w w' := by
 have HR0 := Aside0.mk hr0
 have HC0 := Aside0.mk hc0
 clear hr0 hc0
 have HB := Aside0.mk (Below.refl w.heap.size w)
 have H : ((counts_may.f k l0 1).bind fun t103 => (if t103 = 0 then ((counts_starts.f l0).bind fun t104 => (some (t104, 0))) else (some (([] : List Int), t103)))) = some (r1, r2) := h
 clear h
 replace H := Option.bind_eq_some_iff.mp H
 obtain ⟨t103, A20, H⟩ := H
 replace H : (if t103 = 0 then ((counts_starts.f l0).bind fun t104 => (some (t104, 0))) else (some (([] : List Int), t103))) = some (r1, r2) := H
 have A2 := Aside0.mk A20
 clear A20
 by_cases c3 : t103 = 0
 ·rw [if_pos c3] at H
  have c3b0 : (t103 == 0) = true := beq_iff_eq.mpr c3
  have c3b1 : (t103 != 0) = false := bne_eq_false_iff_eq.mpr c3
  clear c3
  replace H := Option.bind_eq_some_iff.mp H
  obtain ⟨t104, A40, H⟩ := H
  replace H : (some (t104, 0)) = some (r1, r2) := H
  have A4 := Aside0.mk A40
  clear A40
  simp only [Option.some.injEq, Prod.mk.injEq] at H
  obtain ⟨rfl, rfl⟩ := H
  go_enter Try.func17, Try.ntmps17
  go_wp2_with (first | ((with_reducible refine gate_callee (f := 42) rfl ?_); refine goesL_ (some 6) rfl rfl Try.func42 (by kernel_rfl) rfl #[.slice A0 l0.length c0, .int .i64 1] rfl (by (try simp only [List.map_toArray, List.map_cons, List.map_nil]); first | done | rfl | (simp only [List.length_drop, List.length_take]; rfl)) ?_; (with_reducible refine (counts_may.calls k _ _ l0 1 t103 _ ?side1 ?side2 A2.out).mono ?_); (case side1 => repeat (first | exact HR0.out | (with_reducible refine Kd.C_alloc ?_ _) | (with_reducible refine Kd.C_drewN ?_ _) | (with_reducible refine Kd.C_drew ?_))); (case side2 => exact HC0.out); rintro e w5 ⟨rfl, hb⟩; refine ⟨_, rfl, ?_⟩; have n0_ := Aside0.mk (below_step (by repeat (first | (with_reducible first | exact HB.out | apply below_alloc | apply pw_below_drewN | apply below_drew1) | exact HB.out)) hb); clear HB; have HB := n0_; clear n0_; (try clear hb); (try clear hb2); (try clear hk); (try clear hi)) | ((with_reducible refine gate_callee (f := 43) rfl ?_); refine goesL_ (some 11) rfl rfl Try.func43 (by kernel_rfl) rfl #[.slice A0 l0.length c0] rfl (by (try simp only [List.map_toArray, List.map_cons, List.map_nil]); first | done | rfl | (simp only [List.length_drop, List.length_take]; rfl)) ?_; (with_reducible refine (counts_starts.calls _ _ l0 t104 _ ?side1 ?side2 A4.out).mono ?_); (case side1 => repeat (first | exact (Kd.C_below HR0.out HB.out) | (with_reducible refine Kd.C_alloc ?_ _) | (with_reducible refine Kd.C_drewN ?_ _) | (with_reducible refine Kd.C_drew ?_))); (case side2 => exact HC0.out); rintro e w6 ⟨v105, rfl, ho0, hb⟩; refine ⟨_, rfl, ?_⟩; have n0_ := Aside0.mk (Kd.R_lower ho0 (below_size (by repeat (first | (with_reducible first | exact HB.out | apply below_alloc | apply pw_below_drewN | apply below_drew1) | exact HB.out)))); have n1_ := Aside0.mk (below_step (by repeat (first | (with_reducible first | exact HB.out | apply below_alloc | apply pw_below_drewN | apply below_drew1) | exact HB.out)) hb); clear HB; have HO106 := n0_; have HB := n1_; clear n0_ n1_; (try clear hb); (try clear hb2); (try clear hk); (try clear hi); (try clear ho0)))
  go_ret2
  exact ⟨_, by first | rfl | (simp [errW_none, errW_some] <;> rfl) | (simp [*, errW_none, errW_some] <;> rfl), by (with_reducible repeat (first | apply Kd.R_alloc | apply Kd.R_drewN | apply Kd.R_drew)); exact HO106.out, by repeat (first | (with_reducible first | exact HB.out | apply below_alloc | apply pw_below_drewN | apply below_drew1) | exact HB.out)⟩
 ·rw [if_neg c3] at H
  have c3b0 : (t103 == 0) = false := beq_eq_false_iff_ne.mpr c3
  have c3b1 : (t103 != 0) = true := bne_iff_ne.mpr c3
  simp only [Option.some.injEq, Prod.mk.injEq] at H
  obtain ⟨rfl, rfl⟩ := H
  go_enter Try.func17, Try.ntmps17
  go_wp2_with (first | ((with_reducible refine gate_callee (f := 42) rfl ?_); refine goesL_ (some 6) rfl rfl Try.func42 (by kernel_rfl) rfl #[.slice A0 l0.length c0, .int .i64 1] rfl (by (try simp only [List.map_toArray, List.map_cons, List.map_nil]); first | done | rfl | (simp only [List.length_drop, List.length_take]; rfl)) ?_; (with_reducible refine (counts_may.calls k _ _ l0 1 t103 _ ?side1 ?side2 A2.out).mono ?_); (case side1 => repeat (first | exact HR0.out | (with_reducible refine Kd.C_alloc ?_ _) | (with_reducible refine Kd.C_drewN ?_ _) | (with_reducible refine Kd.C_drew ?_))); (case side2 => exact HC0.out); rintro e w7 ⟨rfl, hb⟩; refine ⟨_, rfl, ?_⟩; have n0_ := Aside0.mk (below_step (by repeat (first | (with_reducible first | exact HB.out | apply below_alloc | apply pw_below_drewN | apply below_drew1) | exact HB.out)) hb); clear HB; have HB := n0_; clear n0_; (try clear hb); (try clear hb2); (try clear hk); (try clear hi)))
  go_ret2
  exact ⟨_, by first | rfl | (simp [errW_none, errW_some] <;> rfl) | (simp [*, errW_none, errW_some] <;> rfl), by first | exact Kd.R_nil _ _ _ _ _ | exact Kd.N_nil _ _ _ _ _ | exact Kd.V_nil _ _ _ _ _ | exact Kd.Q_nil _ _ _ _ _ | exact Kd.S_nil _ _ _ _ _, by repeat (first | (with_reducible first | exact HB.out | apply below_alloc | apply pw_below_drewN | apply below_drew1) | exact HB.out)⟩
end Go.Proofs.Ythngomhhimdolaa.P
end
section
namespace Go.Proofs.Ythngomhhimdolaa.P
open Go.RowKit Go.Proofs.YthngomhhimdolaaW.PrintWords Go.Proofs.YthngomhhimdolaaW.PrintLast Go.Proofs.YthngomhhimdolaaW.PrintMore
attribute [local go_sem] max2_int min2_int max_two min_two max_three min_three max_four min_four   -- for this text's walks alone
set_option linter.unusedVariables false
set_option linter.unusedSimpArgs false
def counts_Open.j0 : Nat → List (S68) → Int → Int → Bool → Option (Int × Int)
 | 0, _, _, _, _ => none
 | k + 1, x0, x1, x2, x19 => if x19 = true then (some (0, 13)) else (if x2 = 1125899906842624 then (some (x2, 0)) else ((counts_starts.f x0).bind fun t116 => ((slices_BinarySearch_int_int.f k t116 x2).bind fun bt119 => (if (mx 0 (wrap64 ((wrap64 (bt119.1 - x1)) + 1))) = bt119.1 then (some (x2, 0)) else (if 0 ≤ (mx 0 (wrap64 ((wrap64 (bt119.1 - x1)) + 1))) then (if (mx 0 (wrap64 ((wrap64 (bt119.1 - x1)) + 1))) < (t116.length : Int) then (some (rd t116 (mx 0 (wrap64 ((wrap64 (bt119.1 - x1)) + 1))), 0)) else (none)) else (none))))))
def counts_Open.f (k : Nat) (l0 : List (S68)) (a1 : Int) (a2 : Int) : Option (Int × Int) := (counts_may.f k l0 a1).bind fun t115 => (if t115 = 0 then (if a2 < 0 then (counts_Open.j0 k l0 a1 a2 true) else (counts_Open.j0 k l0 a1 a2 (decide (a2 > 1125899906842624)))) else (some (0, t115)))
set_option maxHeartbeats 8000000 in
set_option maxRecDepth 100000 in
theorem counts_Open.calls (k : Nat) (A0 : Option Addr) (c0 : Nat) (l0 : List (S68)) (a1 : Int) (a2 : Int) (r1 : Int) (r2 : Int) (w : World) (hr0 : Kd.C k68 w A0 l0.length l0) (hc0 : l0.length ≤ c0) (h : counts_Open.f k l0 a1 a2 = some (r1, r2)) :
  Calls Try.prog 19 #[.slice A0 l0.length c0, .int .i64 a1, .int .i64 a2] w fun e w' => e = .returned (.tuple #[.int .i64 r1, .int .i64 r2]) ∧ Below w.heap.size w w' := by
 have HR0 := Aside0.mk hr0
 have HC0 := Aside0.mk hc0
 clear hr0 hc0
 have HB := Aside0.mk (Below.refl w.heap.size w)
 have H : ((counts_may.f k l0 a1).bind fun t115 => (if t115 = 0 then (if a2 < 0 then (counts_Open.j0 k l0 a1 a2 true) else (counts_Open.j0 k l0 a1 a2 (decide (a2 > 1125899906842624)))) else (some (0, t115)))) = some (r1, r2) := h
 clear h
 replace H := Option.bind_eq_some_iff.mp H
 obtain ⟨t115, A40, H⟩ := H
 replace H : (if t115 = 0 then (if a2 < 0 then (counts_Open.j0 k l0 a1 a2 true) else (counts_Open.j0 k l0 a1 a2 (decide (a2 > 1125899906842624)))) else (some (0, t115))) = some (r1, r2) := H
 have A4 := Aside0.mk A40
 clear A40
 by_cases c5 : t115 = 0
 ·rw [if_pos c5] at H
  have c5b0 : (t115 == 0) = true := beq_iff_eq.mpr c5
  have c5b1 : (t115 != 0) = false := bne_eq_false_iff_eq.mpr c5
  clear c5
  have HC6 := Aside0.mk H
  clear H
  go_enter Try.func19, Try.ntmps19
  go_upto_region 4 with (first | ((with_reducible refine gate_callee (f := 42) rfl ?_); refine goesL_ (some 15) rfl rfl Try.func42 (by kernel_rfl) rfl #[.slice A0 l0.length c0, .int .i64 a1] rfl (by (try simp only [List.map_toArray, List.map_cons, List.map_nil]); first | done | rfl | (simp only [List.length_drop, List.length_take]; rfl)) ?_; (with_reducible refine (counts_may.calls k _ _ l0 a1 t115 _ ?side1 ?side2 A4.out).mono ?_); (case side1 => repeat (first | exact HR0.out | (with_reducible refine Kd.C_alloc ?_ _) | (with_reducible refine Kd.C_drewN ?_ _) | (with_reducible refine Kd.C_drew ?_))); (case side2 => exact HC0.out); rintro e w7 ⟨rfl, hb⟩; refine ⟨_, rfl, ?_⟩; have n0_ := Aside0.mk (below_step (by repeat (first | (with_reducible first | exact HB.out | apply below_alloc | apply pw_below_drewN | apply below_drew1) | exact HB.out)) hb); clear HB; have HB := n0_; clear n0_; (try clear hb); (try clear hb2); (try clear hk); (try clear hi)))
  (try simp only [Act.put, List.setIfInBounds_toArray, List.set_cons_zero, List.set_cons_succ])
  go_cut [19] (fun v19 wc => ∃ (kq : Nat) (x19_5 : Bool), v19 = .bool x19_5 ∧ Aside0 (counts_Open.j0 kq l0 a1 a2 x19_5 = some (r1, r2)) ∧ Aside0 (kq ≤ k) ∧ Aside0 (Below w.heap.size w wc))
  case first =>
   have H := HC6.out
   clear HC6
   by_cases c8 : a2 < 0
   ·rw [if_pos c8] at H
    have c8b0 : decide (a2 < 0) = true := decide_eq_true c8
    clear c8
    (first | rw [c8b0] | (simp only [i64_w, i32_w]; rw [c8b0]) | skip)
    have H' := Aside0.mk H
    clear H
    go_wp2
    go_meet
    case rel => exact ⟨_, (true), (by first | rfl | (simp; done) | (simp [*]; done)), H', ⟨by first | omega | exact Nat.le_refl _⟩, ⟨by repeat (first | (with_reducible first | exact HB.out | apply below_alloc | apply pw_below_drewN | apply below_drew1) | exact HB.out)⟩⟩
   ·rw [if_neg c8] at H
    have c8b0 : decide (a2 < 0) = false := decide_eq_false c8
    clear c8
    (first | rw [c8b0] | (simp only [i64_w, i32_w]; rw [c8b0]) | skip)
    have H' := Aside0.mk H
    clear H
    go_wp2
    go_meet
    case rel => exact ⟨_, (decide (a2 > 1125899906842624)), (by first | rfl | (simp; done) | (simp [*]; done)), H', ⟨by first | omega | exact Nat.le_refl _⟩, ⟨by repeat (first | (with_reducible first | exact HB.out | apply below_alloc | apply pw_below_drewN | apply below_drew1) | exact HB.out)⟩⟩
  case rest =>
   clear HC6
   try clear c1
   try clear p2
   try clear c4
   try clear c5
   try clear c5b0
   try clear c5b1
   try clear c8
   try clear c8b0
   obtain ⟨kq, x19_5, rfl, HA, HJ5, HB⟩ := hcut
   cases kq with
   | zero => exact absurd HA.out (by simp [counts_Open.j0])
   | succ kj5 =>
    have H := HA.out
    clear HA
    simp only [counts_Open.j0] at H
    by_cases c9 : x19_5 = true
    ·subst c9
     have H1 : (some (0, 13)) = some (r1, r2) := by rw [if_pos rfl] at H; exact H
     clear H
     have H := H1
     clear H1
     simp only [Option.some.injEq, Prod.mk.injEq] at H
     obtain ⟨rfl, rfl⟩ := H
     go_wp2
     go_ret2
     exact ⟨by first | rfl | (simp [errW_none, errW_some] <;> rfl) | (simp [*, errW_none, errW_some] <;> rfl), by repeat (first | (with_reducible first | exact HB.out | apply below_alloc | apply pw_below_drewN | apply below_drew1) | exact HB.out)⟩
    ·replace c9 := Bool.eq_false_iff.mpr c9
     subst c9
     have H1 : (if a2 = 1125899906842624 then (some (a2, 0)) else ((counts_starts.f l0).bind fun t116 => ((slices_BinarySearch_int_int.f kj5 t116 a2).bind fun bt119 => (if (mx 0 (wrap64 ((wrap64 (bt119.1 - a1)) + 1))) = bt119.1 then (some (a2, 0)) else (if 0 ≤ (mx 0 (wrap64 ((wrap64 (bt119.1 - a1)) + 1))) then (if (mx 0 (wrap64 ((wrap64 (bt119.1 - a1)) + 1))) < (t116.length : Int) then (some (rd t116 (mx 0 (wrap64 ((wrap64 (bt119.1 - a1)) + 1))), 0)) else (none)) else (none)))))) = some (r1, r2) := by rw [if_neg (show ¬ (false = true) by decide)] at H; exact H
     clear H
     have H := H1
     clear H1
     by_cases c10 : a2 = 1125899906842624
     ·rw [if_pos c10] at H
      have c10b0 : (a2 == 1125899906842624) = true := beq_iff_eq.mpr c10
      have c10b1 : (a2 != 1125899906842624) = false := bne_eq_false_iff_eq.mpr c10
      clear c10
      simp only [Option.some.injEq, Prod.mk.injEq] at H
      obtain ⟨rfl, rfl⟩ := H
      go_wp2
      go_ret2
      exact ⟨by first | rfl | (simp [errW_none, errW_some] <;> rfl) | (simp [*, errW_none, errW_some] <;> rfl), by repeat (first | (with_reducible first | exact HB.out | apply below_alloc | apply pw_below_drewN | apply below_drew1) | exact HB.out)⟩
     ·rw [if_neg c10] at H
      have c10b0 : (a2 == 1125899906842624) = false := beq_eq_false_iff_ne.mpr c10
      have c10b1 : (a2 != 1125899906842624) = true := bne_iff_ne.mpr c10
      replace H := Option.bind_eq_some_iff.mp H
      obtain ⟨t116, A110, H⟩ := H
      replace H : ((slices_BinarySearch_int_int.f kj5 t116 a2).bind fun bt119 => (if (mx 0 (wrap64 ((wrap64 (bt119.1 - a1)) + 1))) = bt119.1 then (some (a2, 0)) else (if 0 ≤ (mx 0 (wrap64 ((wrap64 (bt119.1 - a1)) + 1))) then (if (mx 0 (wrap64 ((wrap64 (bt119.1 - a1)) + 1))) < (t116.length : Int) then (some (rd t116 (mx 0 (wrap64 ((wrap64 (bt119.1 - a1)) + 1))), 0)) else (none)) else (none)))) = some (r1, r2) := H
      have A11 := Aside0.mk A110
      clear A110
      replace H := Option.bind_eq_some_iff.mp H
      obtain ⟨⟨t119, t120⟩, A120, H⟩ := H
      replace H : (if (mx 0 (wrap64 ((wrap64 (t119 - a1)) + 1))) = t119 then (some (a2, 0)) else (if 0 ≤ (mx 0 (wrap64 ((wrap64 (t119 - a1)) + 1))) then (if (mx 0 (wrap64 ((wrap64 (t119 - a1)) + 1))) < (t116.length : Int) then (some (rd t116 (mx 0 (wrap64 ((wrap64 (t119 - a1)) + 1))), 0)) else (none)) else (none))) = some (r1, r2) := H
      have A12 := Aside0.mk A120
      clear A120
      obtain ⟨ji13, hji13⟩ : ∃ j_ : Int, (mx 0 (wrap64 ((wrap64 (t119 - a1)) + 1))) = j_ := ⟨_, rfl⟩
      replace H : (if (ji13) = t119 then (some (a2, 0)) else (if 0 ≤ (ji13) then (if (ji13) < (t116.length : Int) then (some (rd t116 (ji13), 0)) else (none)) else (none))) = some (r1, r2) := by first | (rw [hji13] at H; exact H) | (simp only [hji13] at H ⊢; exact H)
      (try rw [hji13] at A11)
      (try rw [hji13] at A12)
      have hji13_ : (if 0 < (wrap64 ((wrap64 (t119 - a1)) + 1)) then (wrap64 ((wrap64 (t119 - a1)) + 1)) else 0) = ji13 := hji13
      by_cases c14 : (ji13) = t119
      ·rw [if_pos c14] at H
       have c14b0 : ((ji13) == t119) = true := beq_iff_eq.mpr c14
       have c14b1 : ((ji13) != t119) = false := bne_eq_false_iff_eq.mpr c14
       clear c14
       simp only [Option.some.injEq, Prod.mk.injEq] at H
       obtain ⟨rfl, rfl⟩ := H
       go_wp2_with (first | ((with_reducible refine gate_callee (f := 43) rfl ?_); refine goesL_ (some 31) rfl rfl Try.func43 (by kernel_rfl) rfl #[.slice A0 l0.length c0] rfl (by (try simp only [List.map_toArray, List.map_cons, List.map_nil]); first | done | rfl | (simp only [List.length_drop, List.length_take]; rfl)) ?_; (with_reducible refine (counts_starts.calls _ _ l0 t116 _ ?side1 ?side2 A11.out).mono ?_); (case side1 => repeat (first | exact (Kd.C_below HR0.out HB.out) | (with_reducible refine Kd.C_alloc ?_ _) | (with_reducible refine Kd.C_drewN ?_ _) | (with_reducible refine Kd.C_drew ?_))); (case side2 => exact HC0.out); rintro e w15 ⟨v117, rfl, ho0, hb⟩; refine ⟨_, rfl, ?_⟩; have n0_ := Aside0.mk (Kd.R_lower ho0 (below_size (by repeat (first | (with_reducible first | exact HB.out | apply below_alloc | apply pw_below_drewN | apply below_drew1) | exact HB.out)))); have n1_ := Aside0.mk (below_step (by repeat (first | (with_reducible first | exact HB.out | apply below_alloc | apply pw_below_drewN | apply below_drew1) | exact HB.out)) hb); clear HB; have HO118 := n0_; have HB := n1_; clear n0_ n1_; (try clear hb); (try clear hb2); (try clear hk); (try clear hi); (try clear ho0); obtain ⟨Ao16, co16, eo16⟩ := Kd.R_slice HO118.out; subst eo16) | ((with_reducible refine gate_callee (f := 46) rfl ?_); refine goesL_ (some 35) rfl rfl Try.func46 (by kernel_rfl) rfl #[.slice Ao16 t116.length co16, .int .i64 a2] rfl (by (try simp only [List.map_toArray, List.map_cons, List.map_nil]); first | done | rfl | (simp only [List.length_drop, List.length_take]; rfl)) ?_; (with_reducible refine (slices_BinarySearch_int_int.calls kj5 _ _ t116 a2 t119 t120 _ ?side1 ?side2 A12.out).mono ?_); (case side1 => repeat (first | exact (Kd.R_reads' HO118.out).2.2 | (with_reducible refine Kd.C_alloc ?_ _) | (with_reducible refine Kd.C_drewN ?_ _) | (with_reducible refine Kd.C_drew ?_))); (case side2 => exact (Kd.R_reads' HO118.out).2.1); rintro e w' ⟨rfl, ⟨nd, rfl⟩⟩; refine ⟨_, rfl, ?_⟩))
       go_ret2
       exact ⟨by first | rfl | (simp [errW_none, errW_some] <;> rfl) | (simp only [← hji13]; first | rfl | (simp [errW_none, errW_some] <;> rfl)) | (simp [*, errW_none, errW_some] <;> rfl), by repeat (first | (with_reducible first | exact HB.out | apply below_alloc | apply pw_below_drewN | apply below_drew1) | exact HB.out)⟩
      ·rw [if_neg c14] at H
       have c14b0 : ((ji13) == t119) = false := beq_eq_false_iff_ne.mpr c14
       have c14b1 : ((ji13) != t119) = true := bne_iff_ne.mpr c14
       by_cases c17 : 0 ≤ (ji13)
       ·rw [if_pos c17] at H
        have c17b0 : decide (0 ≤ (ji13)) = true := decide_eq_true c17
        clear c17
        by_cases c18 : (ji13) < (t116.length : Int)
        ·rw [if_pos c18] at H
         have c18b0 : decide ((ji13) < (t116.length : Int)) = true := decide_eq_true c18
         clear c18
         simp only [Option.some.injEq, Prod.mk.injEq] at H
         obtain ⟨rfl, rfl⟩ := H
         go_wp2_with (first | ((with_reducible refine gate_callee (f := 43) rfl ?_); refine goesL_ (some 31) rfl rfl Try.func43 (by kernel_rfl) rfl #[.slice A0 l0.length c0] rfl (by (try simp only [List.map_toArray, List.map_cons, List.map_nil]); first | done | rfl | (simp only [List.length_drop, List.length_take]; rfl)) ?_; (with_reducible refine (counts_starts.calls _ _ l0 t116 _ ?side1 ?side2 A11.out).mono ?_); (case side1 => repeat (first | exact (Kd.C_below HR0.out HB.out) | (with_reducible refine Kd.C_alloc ?_ _) | (with_reducible refine Kd.C_drewN ?_ _) | (with_reducible refine Kd.C_drew ?_))); (case side2 => exact HC0.out); rintro e w19 ⟨v117, rfl, ho0, hb⟩; refine ⟨_, rfl, ?_⟩; have n0_ := Aside0.mk (Kd.R_lower ho0 (below_size (by repeat (first | (with_reducible first | exact HB.out | apply below_alloc | apply pw_below_drewN | apply below_drew1) | exact HB.out)))); have n1_ := Aside0.mk (below_step (by repeat (first | (with_reducible first | exact HB.out | apply below_alloc | apply pw_below_drewN | apply below_drew1) | exact HB.out)) hb); clear HB; have HO118 := n0_; have HB := n1_; clear n0_ n1_; (try clear hb); (try clear hb2); (try clear hk); (try clear hi); (try clear ho0); obtain ⟨Ao20, co20, eo20⟩ := Kd.R_slice HO118.out; subst eo20) | ((with_reducible refine gate_callee (f := 46) rfl ?_); refine goesL_ (some 35) rfl rfl Try.func46 (by kernel_rfl) rfl #[.slice Ao20 t116.length co20, .int .i64 a2] rfl (by (try simp only [List.map_toArray, List.map_cons, List.map_nil]); first | done | rfl | (simp only [List.length_drop, List.length_take]; rfl)) ?_; (with_reducible refine (slices_BinarySearch_int_int.calls kj5 _ _ t116 a2 t119 t120 _ ?side1 ?side2 A12.out).mono ?_); (case side1 => repeat (first | exact (Kd.R_reads' HO118.out).2.2 | (with_reducible refine Kd.C_alloc ?_ _) | (with_reducible refine Kd.C_drewN ?_ _) | (with_reducible refine Kd.C_drew ?_))); (case side2 => exact (Kd.R_reads' HO118.out).2.1); rintro e w' ⟨rfl, ⟨nd, rfl⟩⟩; refine ⟨_, rfl, ?_⟩; have p121 : 0 ≤ ((ji13) : Int) := of_decide_eq_true (by first | (with_reducible assumption) | assumption); have q121 : (ji13) < (t116.length : Int) := of_decide_eq_true (by first | (with_reducible assumption) | assumption); obtain ⟨ad121, e121, hx121_0⟩ := Kd.at_int (Kd.R_reads' HO118.out).2.2 (ji13) p121 q121; cases e121; replace p121 := eq_true p121; replace q121 := eq_true q121))
         go_ret2
         exact ⟨by first | rfl | (simp [errW_none, errW_some] <;> rfl) | (simp only [← hji13]; first | rfl | (simp [errW_none, errW_some] <;> rfl)) | (simp [*, errW_none, errW_some] <;> rfl), by repeat (first | (with_reducible first | exact HB.out | apply below_alloc | apply pw_below_drewN | apply below_drew1) | exact HB.out)⟩
        ·rw [if_neg c18] at H
         exact absurd H (by simp)
       ·rw [if_neg c17] at H
        exact absurd H (by simp)
 ·rw [if_neg c5] at H
  have c5b0 : (t115 == 0) = false := beq_eq_false_iff_ne.mpr c5
  have c5b1 : (t115 != 0) = true := bne_iff_ne.mpr c5
  simp only [Option.some.injEq, Prod.mk.injEq] at H
  obtain ⟨rfl, rfl⟩ := H
  go_enter Try.func19, Try.ntmps19
  go_wp2_with (first | ((with_reducible refine gate_callee (f := 42) rfl ?_); refine goesL_ (some 15) rfl rfl Try.func42 (by kernel_rfl) rfl #[.slice A0 l0.length c0, .int .i64 a1] rfl (by (try simp only [List.map_toArray, List.map_cons, List.map_nil]); first | done | rfl | (simp only [List.length_drop, List.length_take]; rfl)) ?_; (with_reducible refine (counts_may.calls k _ _ l0 a1 t115 _ ?side1 ?side2 A4.out).mono ?_); (case side1 => repeat (first | exact HR0.out | (with_reducible refine Kd.C_alloc ?_ _) | (with_reducible refine Kd.C_drewN ?_ _) | (with_reducible refine Kd.C_drew ?_))); (case side2 => exact HC0.out); rintro e w21 ⟨rfl, hb⟩; refine ⟨_, rfl, ?_⟩; have n0_ := Aside0.mk (below_step (by repeat (first | (with_reducible first | exact HB.out | apply below_alloc | apply pw_below_drewN | apply below_drew1) | exact HB.out)) hb); clear HB; have HB := n0_; clear n0_; (try clear hb); (try clear hb2); (try clear hk); (try clear hi)))
  go_ret2
  exact ⟨by first | rfl | (simp [errW_none, errW_some] <;> rfl) | (simp [*, errW_none, errW_some] <;> rfl), by repeat (first | (with_reducible first | exact HB.out | apply below_alloc | apply pw_below_drewN | apply below_drew1) | exact HB.out)⟩
end Go.Proofs.Ythngomhhimdolaa.P
end
