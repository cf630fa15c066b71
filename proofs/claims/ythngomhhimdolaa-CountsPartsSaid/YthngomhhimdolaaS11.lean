/- A part of the proof: laws and walks that the last text uses: own texts, and what of the words and walks that the kit's print lays for a seat is used (cut and joined by wip/pack.py). -/
import Derived.Test.YthngomhhimdolaaS10
section
namespace Go.Proofs.Ythngomhhimdolaa.H
open Go.RowKit Go.Shelf Go.Proofs.YthngomhhimdolaaW.PrintWords Go.Proofs.YthngomhhimdolaaW.PrintLast Go.Proofs.YthngomhhimdolaaW.PrintMore Go.Proofs.Ythngomhhimdolaa.P Go.Proofs.Ythngomhhimdolaa.R
set_option linter.unusedVariables false
set_option linter.unusedSimpArgs false
theorem wrap_addz (i n : Nat) (h : i + n ≤ 1000) : wrap64 ((i : Int) + (n : Int)) = (i : Int) + (n : Int) := by unfold wrap64; omega
theorem wrap_addo (i : Nat) (h : i ≤ 1000) : wrap64 ((i : Int) + 1) = ((i + 1 : Nat) : Int) := by unfold wrap64; omega
theorem wrap_sub1 (i n : Nat) (h : i + n ≤ 1000) : wrap64 ((i : Int) + (n : Int) - 1) = (i : Int) + (n : Int) - 1 := by unfold wrap64; omega
attribute [local go_sem] wrap_addz wrap_addo wrap_sub1
theorem cell3 {W : World} {g : Nat} {x y z z' : Value} (h : W.heap[g]? = some (.cells #[x, y, z] 52 (0, 0))) : (W.setCell ⟨g, 2, none⟩ z').heap[g]? = some (.cells #[x, y, z'] 52 (0, 0)) := by
 simp [World.setCell, Array.getElem?_modify, h]
theorem cell2 {W : World} {g : Nat} {x y y' : Value} (h : W.heap[g]? = some (.cells #[x, y] 70 (0, 0))) : (W.setCell ⟨g, 1, none⟩ y').heap[g]? = some (.cells #[x, y'] 70 (0, 0)) := by
 simp [World.setCell, Array.getElem?_modify, h]
theorem N_own_nil {α : Type} {d : Kd α} {e : Nat} {w : World} {base : Nat} {v : Value} (h : w.ownsRow base e d.sz v 0 []) : Kd.N d e w base (fun _ => True) v [] := Kd.R_N (R_of_own_nil h)
set_option maxHeartbeats 4000000 in
set_option maxRecDepth 100000 in
theorem refParts_walk (k : Nat) (A : Option Addr) (c : Nat) (l : List S68) (n : Nat) (frm : Int) (w : World) (hc : l.length ≤ c) (hl : Kd.C k68 w A l.length l) (h60 : l.length ≤ 60) (hn : 1 ≤ n) (hn2 : n ≤ 64)
  (hck : rescindref29_check.f k l (n : Int) = some 0) (htk : rescindref02_Tick.f frm = some true) (all : List Int) (hst : rescindref29_Starts.f k l = some (all, 0)) (hal : all.length ≤ 60)
  (rows : List (List S64)) (hrw : rescindref10_Rows.f k l = some rows) (hrl : rows.length ≤ 60) (hrows : rows = rowsOf l) (hj : ∀ r, rescindref10_Jumps.f k l r = some (jumpsOf l r)) :
  Calls Try.prog 22 #[.slice A l.length c, .int .i64 n, .int .i64 frm] w fun e w' => ∃ v, e = .returned (.tuple #[v, .int .i64 0]) ∧ Kd.N k52 52 w' w.heap.size (fun _ => True) v (partsR l all n frm all.length 0) ∧ Below w.heap.size w w' := by
 have hu52 := Try.underlying52
 have hu40 := Try.underlying40
 have hu32 := Try.underlying32
 have hu70 := Try.underlying70
 have HL := Lib.hid hl
 have HCK := Lib.hid (rescindref29_check.calls k A c l (n : Int) 0 w hl hc hck)
 have HTK := Lib.hid htk
 have HST := Lib.hid hst
 have HRW := Lib.hid hrw
 have HJ := Lib.hid hj
 have HRS := Lib.hid hrows
 clear hl hck htk hst hrw hj hrows
 go_enter Try.func22, Try.ntmps22
 go_wp2_with fail
 refine HCK.out.mono ?_
 rintro e w1 ⟨rfl, hb1⟩
 have HB1 := Lib.hid hb1
 clear hb1
 go_wp2_with fail
 refine (rescindref02_Tick.calls frm true w1 HTK.out).mono ?_
 rintro e w2 ⟨rfl, ⟨nd, rfl⟩⟩
 have HB2 := Lib.hid (below_dn HB1.out nd)
 go_wp2_with fail
 refine (rescindref29_Starts.calls k A c l all 0 _ (Kd.C_below HL.out HB2.out) hc HST.out).mono ?_
 rintro e w3 ⟨v3, rfl, hR3, hb3⟩
 have HB3 := Lib.hid (HB2.out.trans (hb3.mono HB2.out.size))
 have HR3 := Lib.hid (Kd.R_lower hR3 HB2.out.size)
 clear hR3 hb3
 go_wp2_with fail
 refine (rescindref10_Rows.calls k (fun k_ => k_ < w3.heap.size) A c l rows _ (Kd.V_mk hc (Kd.C_F k68_heap (Kd.C_below HL.out HB3.out))) HRW.out).mono ?_
 rintro e w4 ⟨v4, rfl, hN4, hb4⟩
 have HB4 := Lib.hid (HB3.out.trans (hb4.mono HB3.out.size))
 have HR4 := Lib.hid (Kd.R_reads (Kd.R_below HR3.out hb4))
 have HN4 := Lib.hid (Kd.N_reads hN4)
 obtain ⟨A3, c3, rfl, hc3, hC3⟩ := HR4.out
 obtain ⟨A4, c4, rfl, hc4, hC4⟩ := HN4.out
 have HC3 := Lib.hid hC3
 have HC4 := Lib.hid hC4
 have HL4 := Lib.hid (Kd.C_below HL.out HB4.out)
 clear hb4 HR3 HR4 HN4 hN4 hC3 hC4 HCK HTK HST HRW HB1 HB2 HB3
 go_wp2_with fail
 go_loopg [12, 13, 14, 15, 16, 17, 18] (all.length + 1) (fun gg v12 v13 v14 v15 v16 v17 v18 wr => ∃ (d i : Nat) (pre : List S52), d < gg ∧ all.length = i + d ∧ v13 = .int .i64 i ∧ Hid (pre ++ partsR l all n frm d i = partsR l all n frm all.length 0) ∧ pre.length ≤ i ∧ Hid (Kd.N k52 52 wr w4.heap.size (fun _ => True) v12 pre) ∧ Hid (Below w4.heap.size w4 wr))
 case atStart =>
  exact ⟨all.length, 0, [], by omega, by omega, rfl, Lib.hid rfl, by simp, Lib.hid (N_own_nil (World.ownsRow_made _ (#[] : Array Value) 0 (by simp) (by unfold maxLen; omega) (by simp))), Lib.hid ((Below.refl _ _).alloc (Nat.le_refl _) _)⟩
 case round =>
  obtain ⟨d, i, pre, hgg, hdi, rfl, HP, hpl, HRP, HBR⟩ := hrel
  obtain ⟨wo, hwo⟩ : ∃ x, x = wr := ⟨_, rfl⟩
  subst hwo
  by_cases hin : i + n ≤ all.length
  ·obtain ⟨d', rfl⟩ : ∃ m, d = m + 1 := ⟨d - 1, by omega⟩
   have hd1 : decide ((i : Int) + (n : Int) ≤ (all.length : Int)) = true := decide_eq_true (by omega)
   have hi1 : (i : Int) < (all.length : Int) := by omega
   have hi2 : (0 : Int) ≤ (i : Int) := by omega
   have hi3 : i + n ≤ 1000 := by omega
   have hi4 : i ≤ 1000 := by omega
   obtain ⟨ad, hA, hx⟩ := Kd.at_int (Kd.C_below HC3.out HBR.out) (i : Int) hi2 hi1
   subst hA
   have hx1 : wo.cell? (ad.add i) = some (.int .i64 (rd all (i : Nat))) := by rw [Int.toNat_natCast] at hx; exact hx
   clear hx
   obtain ⟨a, ha⟩ : ∃ a, a = rd all (i : Nat) := ⟨_, rfl⟩
   have HA := Lib.hid ha
   rw [← ha] at hx1
   clear ha
   by_cases hfr : a < frm
   ·have hd2 : decide (a < frm) = true := decide_eq_true hfr
    have HP2 : Hid (pre ++ partsR l all n frm d' (i + 1) = partsR l all n frm all.length 0) := Lib.hid (by rw [← HP.out, partsR, if_pos hin, if_pos (by rw [← HA.out]; exact hfr), List.nil_append])
    go_wp2_with fail
    go_roundg (d' + 1)
    case measure => omega
    case rel => exact ⟨d', i + 1, pre, by omega, by omega, rfl, HP2, by omega, HRP, HBR⟩
   ·have hd2 : decide (a < frm) = false := decide_eq_false hfr
    have hj0 : (0 : Int) ≤ (i : Int) + (n : Int) - 1 := by omega
    have hj1 : (1 : Int) ≤ (i : Int) + (n : Int) := by omega
    have hj2 : (i : Int) + (n : Int) - 1 < (all.length : Int) := by omega
    obtain ⟨b, hb⟩ : ∃ b, b = rd all ((i + (n - 1) : Nat) : Int) := ⟨_, rfl⟩
    have hx2 : wo.cell? (ad.add (((i : Int) + (n : Int)).toNat - 1)) = some (.int .i64 b) := by
     rw [hb]
     obtain ⟨ad2, hA2, hx2⟩ := Kd.at_int (Kd.C_below HC3.out HBR.out) ((i : Int) + (n : Int) - 1) hj0 hj2
     cases hA2
     rw [show ((i : Int) + (n : Int)).toNat - 1 = ((i : Int) + (n : Int) - 1).toNat by omega, hx2, show (i : Int) + (n : Int) - 1 = ((i + (n - 1) : Nat) : Int) by omega]
    have HB := Lib.hid hb
    clear hb
    have HDI := Lib.hid hdi
    have HFR := Lib.hid hfr
    clear hdi hj0
    go_wp2_with fail
    refine start_ (n := 16) (S := fun w' => w'.cell? (ad.add i) = some (.int .i64 a) ∧ w'.cell? (ad.add (((i : Int) + (n : Int)).toNat - 1)) = some (.int .i64 b)) (ds := [15]) #[false, false, false, false, false, false, false, false, false, false, false, false, false, false, false, false] (by kernel_rfl) rfl rfl ⟨hx1, hx2⟩ (fun hHeld => ?_)
    refine pure_ (i := 0) (N := some 50) (v := ?_) (a' := ?_) #[true, false, false, false, false, false, false, false, false, false, false, false, false, false, false, false] rfl rfl (by kernel_rfl) (fun _ _ _ h => h) (Or.inl ⟨by rfl, ?_⟩) ?_ ?_
    rotate_left; (intro w'; go_simp; with_reducible rfl); rotate_left; (simp only [Act.put, List.setIfInBounds_toArray, List.set_cons_zero, List.set_cons_succ, i64_w, i32_w]; rfl)
    refine pure_ (i := 1) (N := some 51) (v := ?_) (a' := ?_) #[true, true, false, false, false, false, false, false, false, false, false, false, false, false, false, false] rfl rfl (by kernel_rfl) (fun _ _ _ h => h) (Or.inl ⟨by rfl, ?_⟩) ?_ ?_
    rotate_left; (intro w'; go_simp; with_reducible rfl); rotate_left; (simp only [Act.put, List.setIfInBounds_toArray, List.set_cons_zero, List.set_cons_succ, i64_w, i32_w]; rfl)
    refine pure_ (i := 2) (N := some 52) (v := ?_) (a' := ?_) #[true, true, true, false, false, false, false, false, false, false, false, false, false, false, false, false] rfl rfl (by kernel_rfl) (fun _ _ _ h => h) (Or.inl ⟨by rfl, ?_⟩) ?_ ?_
    rotate_left; (intro w'; go_simp; with_reducible rfl); rotate_left; (simp only [Act.put, List.setIfInBounds_toArray, List.set_cons_zero, List.set_cons_succ, i64_w, i32_w]; rfl)
    refine pure_ (i := 4) (N := some 54) (v := ?_) (a' := ?_) #[true, true, true, false, true, false, false, false, false, false, false, false, false, false, false, false] rfl rfl (by kernel_rfl) (fun _ _ _ h => h) (Or.inl ⟨by rfl, ?_⟩) ?_ ?_
    rotate_left; (intro w'; go_simp; with_reducible rfl); rotate_left; (simp only [Act.put, List.setIfInBounds_toArray, List.set_cons_zero, List.set_cons_succ, i64_w, i32_w]; rfl)
    refine pure_ (i := 5) (N := some 55) (v := ?_) (a' := ?_) #[true, true, true, false, true, true, false, false, false, false, false, false, false, false, false, false] rfl rfl (by kernel_rfl) (fun _ _ _ h => h) (Or.inl ⟨by rfl, ?_⟩) ?_ ?_
    rotate_left; (intro w'; go_simp; with_reducible rfl); rotate_left; (simp only [Act.put, List.setIfInBounds_toArray, List.set_cons_zero, List.set_cons_succ, i64_w, i32_w]; rfl)
    refine pure_ (i := 6) (N := some 56) (v := ?_) (a' := ?_) #[true, true, true, false, true, true, true, false, false, false, false, false, false, false, false, false] rfl rfl (by kernel_rfl) (fun _ _ _ h => h) (Or.inl ⟨by rfl, ?_⟩) ?_ ?_
    rotate_left; (intro w'; go_simp; with_reducible rfl); rotate_left; (simp only [Act.put, List.setIfInBounds_toArray, List.set_cons_zero, List.set_cons_succ, i64_w, i32_w]; rfl)
    refine pure_ (i := 7) (N := some 57) (v := ?_) (a' := ?_) #[true, true, true, false, true, true, true, true, false, false, false, false, false, false, false, false] rfl rfl (by kernel_rfl) (fun _ _ _ h => h) (Or.inl ⟨by rfl, ?_⟩) ?_ ?_
    rotate_left; (intro w'; go_simp; with_reducible rfl); rotate_left; (simp only [Act.put, List.setIfInBounds_toArray, List.set_cons_zero, List.set_cons_succ, i64_w, i32_w]; rfl)
    refine pure_ (i := 8) (N := some 58) (v := ?_) (a' := ?_) #[true, true, true, false, true, true, true, true, true, false, false, false, false, false, false, false] rfl rfl (by kernel_rfl) (fun _ _ _ h => h) (Or.inl ⟨by rfl, ?_⟩) ?_ ?_
    rotate_left; (intro w'; go_simp; with_reducible rfl); rotate_left; (simp only [Act.put, List.setIfInBounds_toArray, List.set_cons_zero, List.set_cons_succ, i64_w, i32_w]; rfl)
    refine pure_ (i := 9) (N := some 59) (v := ?_) (a' := ?_) #[true, true, true, false, true, true, true, true, true, true, false, false, false, false, false, false] rfl rfl (by kernel_rfl) (fun _ _ _ h => h) (Or.inl ⟨by rfl, ?_⟩) ?_ ?_
    rotate_left; (intro w'; go_simp; with_reducible rfl); rotate_left; (simp only [Act.put, List.setIfInBounds_toArray, List.set_cons_zero, List.set_cons_succ, i64_w, i32_w]; rfl)
    refine take_ (i := 3) (N := some 53) (v := ?_) (a' := ?_) #[true, true, true, true, true, true, true, true, true, true, false, false, false, false, false, false] rfl rfl (by kernel_rfl) (fun _ _ _ h => h) (Or.inl ⟨by rfl, ?_⟩) hHeld ?_ ?_
    rotate_left; (rintro w' ⟨s0, s1⟩; go_simp; with_reducible rfl); rotate_left; (simp only [Act.put, List.setIfInBounds_toArray, List.set_cons_zero, List.set_cons_succ, i64_w, i32_w]; rfl)
    refine take_ (i := 10) (N := some 60) (v := ?_) (a' := ?_) #[true, true, true, true, true, true, true, true, true, true, true, false, false, false, false, false] rfl rfl (by kernel_rfl) (fun _ _ _ h => h) (Or.inl ⟨by rfl, ?_⟩) hHeld ?_ ?_
    rotate_left; (rintro w' ⟨s0, s1⟩; go_simp; with_reducible rfl); rotate_left; (simp only [Act.put, List.setIfInBounds_toArray, List.set_cons_zero, List.set_cons_succ, i64_w, i32_w]; rfl)
    refine pure_ (i := 11) (N := some 61) (v := ?_) (a' := ?_) #[true, true, true, true, true, true, true, true, true, true, true, true, false, false, false, false] rfl rfl (by kernel_rfl) (fun _ _ _ h => h) (Or.inl ⟨by rfl, ?_⟩) ?_ ?_
    rotate_left; (intro w'; go_simp; with_reducible rfl); rotate_left; (simp only [Act.put, List.setIfInBounds_toArray, List.set_cons_zero, List.set_cons_succ, i64_w, i32_w]; rfl)
    refine pure_ (i := 12) (N := some 62) (v := ?_) (a' := ?_) #[true, true, true, true, true, true, true, true, true, true, true, true, true, false, false, false] rfl rfl (by kernel_rfl) (fun _ _ _ h => h) (Or.inl ⟨by rfl, ?_⟩) ?_ ?_
    rotate_left; (intro w'; go_simp; with_reducible rfl); rotate_left; (simp only [Act.put, List.setIfInBounds_toArray, List.set_cons_zero, List.set_cons_succ, i64_w, i32_w]; rfl)
    refine pure_ (i := 13) (N := some 63) (v := ?_) (a' := ?_) #[true, true, true, true, true, true, true, true, true, true, true, true, true, true, false, false] rfl rfl (by kernel_rfl) (fun _ _ _ h => h) (Or.inl ⟨by rfl, ?_⟩) ?_ ?_
    rotate_left; (intro w'; go_simp; with_reducible rfl); rotate_left; (simp only [Act.put, List.setIfInBounds_toArray, List.set_cons_zero, List.set_cons_succ, i64_w, i32_w]; rfl)
    refine one_ (i := 14) (N := some 14) #[true, true, true, true, true, true, true, true, true, true, true, true, true, true, true, false] rfl rfl (by kernel_rfl) (by decide) (fun K hK => ?_)
    refine box_step ?hg (N := 14) ?hd (cs := #[.int .i64 0, .int .i64 0, .slice none 0 0]) (t := 52) ?hr ?_; (case hd => rfl); (case hg => rfl); (case hr => first | (go_simp; done) | (go_simp; rfl))
    intro gp hgp wp hbox hbp
    have HGP := Lib.hid hgp
    clear hgp
    have HBOX := Lib.hid hbox
    have HBP := Lib.hid hbp
    clear hbox hbp
    refine hK.out _ _ ⟨(HBP.out.cell (World.block_lt_of_cell? _ _ hHeld.1)).trans hHeld.1, (HBP.out.cell (World.block_lt_of_cell? _ _ hHeld.2)).trans hHeld.2⟩ (fun hHeld => ?_)
    clear hK K
    refine norm_ (a' := ?_) ?_ ?_
    rotate_left
    ·show Act.put _ (some 14) _ = _
     simp only [Act.put, List.setIfInBounds_toArray, List.set_cons_zero, List.set_cons_succ, i64_w, i32_w]
     rfl
    refine last_ (i := 15) (N := none) #[true, true, true, true, true, true, true, true, true, true, true, true, true, true, true, true] rfl rfl (by kernel_rfl) (by decide) (fun K hK => ?_)
    have hs0 : wp.cell? ⟨gp, 0, none⟩ = some (.int .i64 0) := (blk_cell HBOX.out 0).trans rfl
    have hfs0 := blk_frozen HBOX.out 0
    have hs1 : wp.cell? ⟨gp, 1, none⟩ = some (.int .i64 0) := (blk_cell HBOX.out 1).trans rfl
    have hfs1 := blk_frozen HBOX.out 1
    have hs2 : wp.cell? ⟨gp, 2, none⟩ = some (.slice none 0 0) := (blk_cell HBOX.out 2).trans rfl
    have hfs2 := blk_frozen HBOX.out 2
    refine skip_ (w1 := ?_) (by rfl) rfl ?_ ?_
    rotate_left
    ·go_simp
     rfl
    refine hK.out _ _ ?_
    refine done_ (by kernel_rfl) ?_
    clear hK K
    simp only [wrap_addz i n hi3, wrap_sub1 i n hi3]
    have HG5 : Hid (gp = wo.heap.size) := Lib.hid HGP.out
    have HB5 : Hid (Below wo.heap.size wo (((wp.setCell ⟨gp, 0, none⟩ (.int .i64 a)).setCell ⟨gp, 1, none⟩ (.int .i64 (wrap64 (b + 1)))).setCell ⟨gp, 2, none⟩ (.slice none 0 0))) := Lib.hid ((((below_step (below_drew1 (Below.refl wo.heap.size wo)) HBP.out).setCell (p := ⟨gp, 0, none⟩) (Nat.le_of_eq HG5.out.symm) _).setCell (p := ⟨gp, 1, none⟩) (Nat.le_of_eq HG5.out.symm) _).setCell (p := ⟨gp, 2, none⟩) (Nat.le_of_eq HG5.out.symm) _)
    have HX5 := Lib.hid (three_cells (x' := .int .i64 a) (y' := .int .i64 (wrap64 (b + 1))) (z' := .slice none 0 0) HBOX.out)
    have HX1 := Lib.hid hx1
    have HX2 := Lib.hid hx2
    clear hs0 hfs0 hs1 hfs1 hs2 hfs2 hx1 hx2 hHeld
    clear HGP HBOX HBP
    generalize (((wp.setCell ⟨gp, 0, none⟩ (.int .i64 a)).setCell ⟨gp, 1, none⟩ (.int .i64 (wrap64 (b + 1)))).setCell ⟨gp, 2, none⟩ (.slice none 0 0)) = w5 at HB5 HX5 ⊢
    go_wp2_with fail
    go_loopg [15, 16, 17, 18] (rows.length + 1) (fun gg v15 v16 v17 v18 w6 => ∃ (e kk : Nat) (cs : List S70) (vR : Value), e < gg ∧ rows.length = kk + e ∧ v15 = .int .i64 kk ∧ Hid (cs ++ copiesR l a b (rows.drop kk) = copiesR l a b rows) ∧ cs.length ≤ kk ∧ Hid (Kd.N k70 70 w6 wo.heap.size (fun k => k < w4.heap.size ∨ gp < k) vR cs) ∧ Hid (w6.heap[gp]? = some (.cells #[.int .i64 a, .int .i64 (wrap64 (b + 1)), vR] 52 (0, 0))) ∧ Hid (Below wo.heap.size wo w6))
    case atStart =>
     exact ⟨rows.length, 0, [], .slice none 0 0, by omega, by omega, rfl, Lib.hid rfl, by simp, Lib.hid (Kd.N_nil _ _ _ _ _), HX5, HB5⟩
    case round =>
     obtain ⟨e, kk, cs, vR, hge, hre, rfl, HPC, hcl, HNR, HXR, HB6⟩ := hrel
     by_cases hkk : kk < rows.length
     ·have hd4 : decide ((kk : Int) < (rows.length : Int)) = true := decide_eq_true (by omega)
      obtain ⟨e', rfl⟩ : ∃ m, e = m + 1 := ⟨e - 1, by omega⟩
      have hk1 : (kk : Int) < (rows.length : Int) := by omega
      have hk2 : (0 : Int) ≤ (kk : Int) := by omega
      obtain ⟨wi, hwi⟩ : ∃ x, x = wr := ⟨_, rfl⟩
      subst hwi
      obtain ⟨ad4, Ak, ck, hA4, hxk0, hck, hCk⟩ := at_L3 HC4.out (kk : Int) hk2 hk1
      subst hA4
      obtain ⟨r, hr⟩ : ∃ r, r = rd_L3 rows (kk : Nat) := ⟨_, rfl⟩
      rw [Int.toNat_natCast] at hxk0
      rw [← hr] at hxk0 hck hCk
      have HBW := Lib.hid (HBR.out.trans (HB6.out.mono HBR.out.size))
      have hxk : wi.cell? (ad4.add kk) = some (.slice Ak r.length ck) := (HBW.out.cell (World.block_lt_of_cell? _ _ hxk0)).trans hxk0
      have HXK := Lib.hid hxk
      have HCK := Lib.hid hCk
      have HR := Lib.hid hr
      have HRE := Lib.hid hre
      obtain ⟨f, hf⟩ : ∃ f, f = jumpsOf l r := ⟨_, rfl⟩
      have HF := Lib.hid hf
      have HFL : Hid (f.length ≤ 60) := Lib.hid (by rw [hf]; exact Nat.le_trans (jumpsOf_len l r) h60)
      have HJ2 := Lib.hid (HJ.out r)
      rw [← hf] at HJ2
      have HCKL := Lib.hid hck
      clear hr hf hre hxk0 hCk
      go_wp2_with fail
      refine (rescindref10_Jumps.calls k A c l Ak ck r f wi (Kd.C_below HL4.out HBW.out) hc (Kd.C_below HCK.out HBW.out) HCKL.out HJ2.out).mono ?_
      rintro e0 w7 ⟨v7, rfl, hR7, hb7⟩
      obtain ⟨Af, cf, rfl, hcf, hC7⟩ := Kd.R_reads hR7
      have HC7 := Lib.hid hC7
      have HB7 := Lib.hid hb7
      have hxk7 : w7.cell? (ad4.add kk) = some (.slice Ak r.length ck) := (hb7.cell (World.block_lt_of_cell? _ _ HXK.out)).trans HXK.out
      have HXK7 := Lib.hid hxk7
      clear hR7 hC7 hb7 hxk
      go_wp2_with fail
      go_loopg [18] (f.length + 1) (fun gg v18 w8 => ∃ (e2 j : Nat) (s : Int), e2 < gg ∧ f.length = j + e2 ∧ v18 = .int .i64 j ∧ Hid (cntR a b s (f.drop j) = cntR a b 0 f) ∧ Hid (w8.heap[w7.heap.size]? = some (.cells #[.slice Ak r.length ck, .int .i64 s] 70 (0, 0))) ∧ Hid (Below w7.heap.size w7 w8))
      case atStart =>
       exact ⟨f.length, 0, 0, by omega, by omega, rfl, Lib.hid rfl, Lib.hid (blk_new w7 _), Lib.hid ((Below.refl _ _).alloc (Nat.le_refl _) _)⟩
      case round =>
       obtain ⟨e2, j, s, hge2, hfe, rfl, HPS, HXC, HB8⟩ := hrel
       by_cases hjf : j < f.length
       ·obtain ⟨e2', rfl⟩ : ∃ m, e2 = m + 1 := ⟨e2 - 1, by omega⟩
        have hd5 : decide ((j : Int) < (f.length : Int)) = true := decide_eq_true (by omega)
        have hf1 : (j : Int) < (f.length : Int) := by omega
        have hf2 : (0 : Int) ≤ (j : Int) := by omega
        have hjw : j ≤ 1000 := by have := HFL.out; omega
        obtain ⟨adf, hAf, hxf0, hxf1⟩ := at_T83 (Kd.C_below HC7.out HB8.out) (j : Int) hf2 hf1
        subst hAf
        rw [Int.toNat_natCast] at hxf0 hxf1
        obtain ⟨x, hx⟩ : ∃ x, x = rd_T83 f (j : Nat) := ⟨_, rfl⟩
        rw [← hx] at hxf0 hxf1
        have HX := Lib.hid hx
        have HJF := Lib.hid hjf
        have HFE := Lib.hid hfe
        have HW8 := Lib.hid ((HB6.out.trans (HB7.out.mono HB6.out.size)).trans (HB8.out.mono (Nat.le_trans HB6.out.size HB7.out.size)))
        have hx1 : wr.cell? (ad.add i) = some (.int .i64 a) := (HW8.out.cell (World.block_lt_of_cell? _ _ HX1.out)).trans HX1.out
        have hx2 : wr.cell? (ad.add (((i : Int) + (n : Int)).toNat - 1)) = some (.int .i64 b) := (HW8.out.cell (World.block_lt_of_cell? _ _ HX2.out)).trans HX2.out
        have hi1 : (i : Int) < (all.length : Int) := by have := HDI.out; omega
        have hi2 : (0 : Int) ≤ (i : Int) := by omega
        have hi3 : i + n ≤ 1000 := by omega
        have hj1 : (1 : Int) ≤ (i : Int) + (n : Int) := by omega
        have hj2 : (i : Int) + (n : Int) - 1 < (all.length : Int) := by omega
        have hc1 : wr.cell? ⟨w7.heap.size, 1, none⟩ = some (.int .i64 s) := (blk_cell HXC.out 1).trans rfl
        clear hx hfe
        by_cases h1 : 0 < x.f1
        ·have hb1 : decide (0 < x.f1) = true := decide_eq_true h1
         have H1 := Lib.hid h1
         clear h1
         by_cases h2 : a ≤ x.f0
         ·have hb2 : decide (a ≤ x.f0) = true := decide_eq_true h2
          have H2 := Lib.hid h2
          clear h2
          go_wp2_with fail
          refine start_ (n := 33) (S := fun w' => w'.cell? ⟨(adf.add (j * 2)).block, (adf.add (j * 2)).off + 1, none⟩ = some (.int .i64 x.f1) ∧ w'.cell? (adf.add (j * 2)) = some (.int .i64 x.f0) ∧ w'.cell? (ad.add i) = some (.int .i64 a) ∧ w'.cell? (ad.add (((i : Int) + (n : Int)).toNat - 1)) = some (.int .i64 b)) (ds := []) #[false, false, false, false, false, false, false, false, false, false, false, false, false, false, false, false, false, false, false, false, false, false, false, false, false, false, false, false, false, false, false, false, false] (by kernel_rfl) rfl rfl ⟨hxf1, hxf0, hx1, hx2⟩ (fun hHeld => ?_)
          refine pure_ (i := 0) (N := some 87) (v := ?_) (a' := ?_) #[true, false, false, false, false, false, false, false, false, false, false, false, false, false, false, false, false, false, false, false, false, false, false, false, false, false, false, false, false, false, false, false, false] rfl rfl (by kernel_rfl) (fun _ _ _ h => h) (Or.inl ⟨by rfl, ?_⟩) ?_ ?_
          rotate_left; (intro w'; go_simp; with_reducible rfl); rotate_left; (simp only [Act.put, List.setIfInBounds_toArray, List.set_cons_zero, List.set_cons_succ, i64_w, i32_w]; rfl)
          refine pure_ (i := 1) (N := some 88) (v := ?_) (a' := ?_) #[true, true, false, false, false, false, false, false, false, false, false, false, false, false, false, false, false, false, false, false, false, false, false, false, false, false, false, false, false, false, false, false, false] rfl rfl (by kernel_rfl) (fun _ _ _ h => h) (Or.inl ⟨by rfl, ?_⟩) ?_ ?_
          rotate_left; (intro w'; go_simp; with_reducible rfl); rotate_left; (simp only [Act.put, List.setIfInBounds_toArray, List.set_cons_zero, List.set_cons_succ, i64_w, i32_w]; rfl)
          refine pure_ (i := 2) (N := some 89) (v := ?_) (a' := ?_) #[true, true, true, false, false, false, false, false, false, false, false, false, false, false, false, false, false, false, false, false, false, false, false, false, false, false, false, false, false, false, false, false, false] rfl rfl (by kernel_rfl) (fun _ _ _ h => h) (Or.inl ⟨by rfl, ?_⟩) ?_ ?_
          rotate_left; (intro w'; go_simp; with_reducible rfl); rotate_left; (simp only [Act.put, List.setIfInBounds_toArray, List.set_cons_zero, List.set_cons_succ, i64_w, i32_w]; rfl)
          refine pure_ (i := 3) (N := some 90) (v := ?_) (a' := ?_) #[true, true, true, true, false, false, false, false, false, false, false, false, false, false, false, false, false, false, false, false, false, false, false, false, false, false, false, false, false, false, false, false, false] rfl rfl (by kernel_rfl) (fun _ _ _ h => h) (Or.inl ⟨by rfl, ?_⟩) ?_ ?_
          rotate_left; (intro w'; go_simp; with_reducible rfl); rotate_left; (simp only [Act.put, List.setIfInBounds_toArray, List.set_cons_zero, List.set_cons_succ, i64_w, i32_w]; rfl)
          refine take_ (i := 4) (N := some 91) (v := ?_) (a' := ?_) #[true, true, true, true, true, false, false, false, false, false, false, false, false, false, false, false, false, false, false, false, false, false, false, false, false, false, false, false, false, false, false, false, false] rfl rfl (by kernel_rfl) (fun _ _ _ h => h) (Or.inl ⟨by rfl, ?_⟩) hHeld ?_ ?_
          rotate_left; (rintro w' ⟨s0, s1, s2, s3⟩; go_simp; with_reducible rfl); rotate_left; (simp only [Act.put, List.setIfInBounds_toArray, List.set_cons_zero, List.set_cons_succ, i64_w, i32_w]; rfl)
          refine pure_ (i := 5) (N := some 92) (v := ?_) (a' := ?_) #[true, true, true, true, true, true, false, false, false, false, false, false, false, false, false, false, false, false, false, false, false, false, false, false, false, false, false, false, false, false, false, false, false] rfl rfl (by kernel_rfl) (fun _ _ _ h => h) (Or.inl ⟨by rfl, ?_⟩) ?_ ?_
          rotate_left; (intro w'; go_simp; with_reducible rfl); rotate_left; (simp only [Act.put, List.setIfInBounds_toArray, List.set_cons_zero, List.set_cons_succ, i64_w, i32_w]; rfl)
          refine pure_ (i := 6) (N := some 93) (v := ?_) (a' := ?_) #[true, true, true, true, true, true, true, false, false, false, false, false, false, false, false, false, false, false, false, false, false, false, false, false, false, false, false, false, false, false, false, false, false] rfl rfl (by kernel_rfl) (fun _ _ _ h => h) (Or.inl ⟨by rfl, ?_⟩) ?_ ?_
          rotate_left; (intro w'; go_simp; with_reducible rfl); rotate_left; (simp only [Act.put, List.setIfInBounds_toArray, List.set_cons_zero, List.set_cons_succ, i64_w, i32_w]; rfl)
          refine pure_ (i := 7) (N := some 94) (v := ?_) (a' := ?_) #[true, true, true, true, true, true, true, true, false, false, false, false, false, false, false, false, false, false, false, false, false, false, false, false, false, false, false, false, false, false, false, false, false] rfl rfl (by kernel_rfl) (fun _ _ _ h => h) (Or.inl ⟨by rfl, ?_⟩) ?_ ?_
          rotate_left; (intro w'; go_simp; with_reducible rfl); rotate_left; (simp only [Act.put, List.setIfInBounds_toArray, List.set_cons_zero, List.set_cons_succ, i64_w, i32_w]; rfl)
          refine pure_ (i := 8) (N := some 95) (v := ?_) (a' := ?_) #[true, true, true, true, true, true, true, true, true, false, false, false, false, false, false, false, false, false, false, false, false, false, false, false, false, false, false, false, false, false, false, false, false] rfl rfl (by kernel_rfl) (fun _ _ _ h => h) (Or.inl ⟨by rfl, ?_⟩) ?_ ?_
          rotate_left; (intro w'; go_simp; with_reducible rfl); rotate_left; (simp only [Act.put, List.setIfInBounds_toArray, List.set_cons_zero, List.set_cons_succ, i64_w, i32_w]; rfl)
          refine pure_ (i := 9) (N := some 96) (v := ?_) (a' := ?_) #[true, true, true, true, true, true, true, true, true, true, false, false, false, false, false, false, false, false, false, false, false, false, false, false, false, false, false, false, false, false, false, false, false] rfl rfl (by kernel_rfl) (fun _ _ _ h => h) (Or.inl ⟨by rfl, ?_⟩) ?_ ?_
          rotate_left; (intro w'; go_simp; with_reducible rfl); rotate_left; (simp only [Act.put, List.setIfInBounds_toArray, List.set_cons_zero, List.set_cons_succ, i64_w, i32_w]; rfl)
          refine pure_ (i := 10) (N := some 97) (v := ?_) (a' := ?_) #[true, true, true, true, true, true, true, true, true, true, true, false, false, false, false, false, false, false, false, false, false, false, false, false, false, false, false, false, false, false, false, false, false] rfl rfl (by kernel_rfl) (fun _ _ _ h => h) (Or.inl ⟨by rfl, ?_⟩) ?_ ?_
          rotate_left; (intro w'; go_simp; with_reducible rfl); rotate_left; (simp only [Act.put, List.setIfInBounds_toArray, List.set_cons_zero, List.set_cons_succ, i64_w, i32_w]; rfl)
          refine take_ (i := 11) (N := some 98) (v := ?_) (a' := ?_) #[true, true, true, true, true, true, true, true, true, true, true, true, false, false, false, false, false, false, false, false, false, false, false, false, false, false, false, false, false, false, false, false, false] rfl rfl (by kernel_rfl) (fun _ _ _ h => h) (Or.inl ⟨by rfl, ?_⟩) hHeld ?_ ?_
          rotate_left; (rintro w' ⟨s0, s1, s2, s3⟩; go_simp; with_reducible rfl); rotate_left; (simp only [Act.put, List.setIfInBounds_toArray, List.set_cons_zero, List.set_cons_succ, i64_w, i32_w]; rfl)
          refine pure_ (i := 12) (N := some 99) (v := ?_) (a' := ?_) #[true, true, true, true, true, true, true, true, true, true, true, true, true, false, false, false, false, false, false, false, false, false, false, false, false, false, false, false, false, false, false, false, false] rfl rfl (by kernel_rfl) (fun _ _ _ h => h) (Or.inl ⟨by rfl, ?_⟩) ?_ ?_
          rotate_left; (intro w'; go_simp; with_reducible rfl); rotate_left; (simp only [Act.put, List.setIfInBounds_toArray, List.set_cons_zero, List.set_cons_succ, i64_w, i32_w]; rfl)
          refine pure_ (i := 13) (N := some 100) (v := ?_) (a' := ?_) #[true, true, true, true, true, true, true, true, true, true, true, true, true, true, false, false, false, false, false, false, false, false, false, false, false, false, false, false, false, false, false, false, false] rfl rfl (by kernel_rfl) (fun _ _ _ h => h) (Or.inl ⟨by rfl, ?_⟩) ?_ ?_
          rotate_left; (intro w'; go_simp; with_reducible rfl); rotate_left; (simp only [Act.put, List.setIfInBounds_toArray, List.set_cons_zero, List.set_cons_succ, i64_w, i32_w]; rfl)
          refine pure_ (i := 14) (N := some 101) (v := ?_) (a' := ?_) #[true, true, true, true, true, true, true, true, true, true, true, true, true, true, true, false, false, false, false, false, false, false, false, false, false, false, false, false, false, false, false, false, false] rfl rfl (by kernel_rfl) (fun _ _ _ h => h) (Or.inl ⟨by rfl, ?_⟩) ?_ ?_
          rotate_left; (intro w'; go_simp; with_reducible rfl); rotate_left; (simp only [Act.put, List.setIfInBounds_toArray, List.set_cons_zero, List.set_cons_succ, i64_w, i32_w]; rfl)
          refine take_ (i := 15) (N := some 102) (v := ?_) (a' := ?_) #[true, true, true, true, true, true, true, true, true, true, true, true, true, true, true, true, false, false, false, false, false, false, false, false, false, false, false, false, false, false, false, false, false] rfl rfl (by kernel_rfl) (fun _ _ _ h => h) (Or.inl ⟨by rfl, ?_⟩) hHeld ?_ ?_
          rotate_left; (rintro w' ⟨s0, s1, s2, s3⟩; go_simp; with_reducible rfl); rotate_left; (simp only [Act.put, List.setIfInBounds_toArray, List.set_cons_zero, List.set_cons_succ, i64_w, i32_w]; rfl)
          refine pure_ (i := 16) (N := some 103) (v := ?_) (a' := ?_) #[true, true, true, true, true, true, true, true, true, true, true, true, true, true, true, true, true, false, false, false, false, false, false, false, false, false, false, false, false, false, false, false, false] rfl rfl (by kernel_rfl) (fun _ _ _ h => h) (Or.inl ⟨by rfl, ?_⟩) ?_ ?_
          rotate_left; (intro w'; go_simp; with_reducible rfl); rotate_left; (simp only [Act.put, List.setIfInBounds_toArray, List.set_cons_zero, List.set_cons_succ, i64_w, i32_w]; rfl)
          refine pure_ (i := 17) (N := some 104) (v := ?_) (a' := ?_) #[true, true, true, true, true, true, true, true, true, true, true, true, true, true, true, true, true, true, false, false, false, false, false, false, false, false, false, false, false, false, false, false, false] rfl rfl (by kernel_rfl) (fun _ _ _ h => h) (Or.inl ⟨by rfl, ?_⟩) ?_ ?_
          rotate_left; (intro w'; go_simp; with_reducible rfl); rotate_left; (simp only [Act.put, List.setIfInBounds_toArray, List.set_cons_zero, List.set_cons_succ, i64_w, i32_w]; rfl)
          refine pure_ (i := 18) (N := some 105) (v := ?_) (a' := ?_) #[true, true, true, true, true, true, true, true, true, true, true, true, true, true, true, true, true, true, true, false, false, false, false, false, false, false, false, false, false, false, false, false, false] rfl rfl (by kernel_rfl) (fun _ _ _ h => h) (Or.inl ⟨by rfl, ?_⟩) ?_ ?_
          rotate_left; (intro w'; go_simp; with_reducible rfl); rotate_left; (simp only [Act.put, List.setIfInBounds_toArray, List.set_cons_zero, List.set_cons_succ, i64_w, i32_w]; rfl)
          refine pure_ (i := 19) (N := some 106) (v := ?_) (a' := ?_) #[true, true, true, true, true, true, true, true, true, true, true, true, true, true, true, true, true, true, true, true, false, false, false, false, false, false, false, false, false, false, false, false, false] rfl rfl (by kernel_rfl) (fun _ _ _ h => h) (Or.inl ⟨by rfl, ?_⟩) ?_ ?_
          rotate_left; (intro w'; go_simp; with_reducible rfl); rotate_left; (simp only [Act.put, List.setIfInBounds_toArray, List.set_cons_zero, List.set_cons_succ, i64_w, i32_w]; rfl)
          refine pure_ (i := 20) (N := some 107) (v := ?_) (a' := ?_) #[true, true, true, true, true, true, true, true, true, true, true, true, true, true, true, true, true, true, true, true, true, false, false, false, false, false, false, false, false, false, false, false, false] rfl rfl (by kernel_rfl) (fun _ _ _ h => h) (Or.inl ⟨by rfl, ?_⟩) ?_ ?_
          rotate_left; (intro w'; go_simp; with_reducible rfl); rotate_left; (simp only [Act.put, List.setIfInBounds_toArray, List.set_cons_zero, List.set_cons_succ, i64_w, i32_w]; rfl)
          refine pure_ (i := 21) (N := some 108) (v := ?_) (a' := ?_) #[true, true, true, true, true, true, true, true, true, true, true, true, true, true, true, true, true, true, true, true, true, true, false, false, false, false, false, false, false, false, false, false, false] rfl rfl (by kernel_rfl) (fun _ _ _ h => h) (Or.inl ⟨by rfl, ?_⟩) ?_ ?_
          rotate_left; (intro w'; go_simp; with_reducible rfl); rotate_left; (simp only [Act.put, List.setIfInBounds_toArray, List.set_cons_zero, List.set_cons_succ, i64_w, i32_w]; rfl)
          refine pure_ (i := 22) (N := some 109) (v := ?_) (a' := ?_) #[true, true, true, true, true, true, true, true, true, true, true, true, true, true, true, true, true, true, true, true, true, true, true, false, false, false, false, false, false, false, false, false, false] rfl rfl (by kernel_rfl) (fun _ _ _ h => h) (Or.inl ⟨by rfl, ?_⟩) ?_ ?_
          rotate_left; (intro w'; go_simp; with_reducible rfl); rotate_left; (simp only [Act.put, List.setIfInBounds_toArray, List.set_cons_zero, List.set_cons_succ, i64_w, i32_w]; rfl)
          refine take_ (i := 23) (N := some 110) (v := ?_) (a' := ?_) #[true, true, true, true, true, true, true, true, true, true, true, true, true, true, true, true, true, true, true, true, true, true, true, true, false, false, false, false, false, false, false, false, false] rfl rfl (by kernel_rfl) (fun _ _ _ h => h) (Or.inl ⟨by rfl, ?_⟩) hHeld ?_ ?_
          rotate_left; (rintro w' ⟨s0, s1, s2, s3⟩; go_simp; with_reducible rfl); rotate_left; (simp only [Act.put, List.setIfInBounds_toArray, List.set_cons_zero, List.set_cons_succ, i64_w, i32_w]; rfl)
          refine pure_ (i := 24) (N := some 111) (v := ?_) (a' := ?_) #[true, true, true, true, true, true, true, true, true, true, true, true, true, true, true, true, true, true, true, true, true, true, true, true, true, false, false, false, false, false, false, false, false] rfl rfl (by kernel_rfl) (fun _ _ _ h => h) (Or.inl ⟨by rfl, ?_⟩) ?_ ?_
          rotate_left; (intro w'; go_simp; with_reducible rfl); rotate_left; (simp only [Act.put, List.setIfInBounds_toArray, List.set_cons_zero, List.set_cons_succ, i64_w, i32_w]; rfl)
          refine pure_ (i := 25) (N := some 112) (v := ?_) (a' := ?_) #[true, true, true, true, true, true, true, true, true, true, true, true, true, true, true, true, true, true, true, true, true, true, true, true, true, true, false, false, false, false, false, false, false] rfl rfl (by kernel_rfl) (fun _ _ _ h => h) (Or.inl ⟨by rfl, ?_⟩) ?_ ?_
          rotate_left; (intro w'; go_simp; with_reducible rfl); rotate_left; (simp only [Act.put, List.setIfInBounds_toArray, List.set_cons_zero, List.set_cons_succ, i64_w, i32_w]; rfl)
          refine pure_ (i := 26) (N := some 113) (v := ?_) (a' := ?_) #[true, true, true, true, true, true, true, true, true, true, true, true, true, true, true, true, true, true, true, true, true, true, true, true, true, true, true, false, false, false, false, false, false] rfl rfl (by kernel_rfl) (fun _ _ _ h => h) (Or.inl ⟨by rfl, ?_⟩) ?_ ?_
          rotate_left; (intro w'; go_simp; with_reducible rfl); rotate_left; (simp only [Act.put, List.setIfInBounds_toArray, List.set_cons_zero, List.set_cons_succ, i64_w, i32_w]; rfl)
          refine pure_ (i := 27) (N := some 114) (v := ?_) (a' := ?_) #[true, true, true, true, true, true, true, true, true, true, true, true, true, true, true, true, true, true, true, true, true, true, true, true, true, true, true, true, false, false, false, false, false] rfl rfl (by kernel_rfl) (fun _ _ _ h => h) (Or.inl ⟨by rfl, ?_⟩) ?_ ?_
          rotate_left; (intro w'; go_simp; with_reducible rfl); rotate_left; (simp only [Act.put, List.setIfInBounds_toArray, List.set_cons_zero, List.set_cons_succ, i64_w, i32_w]; rfl)
          refine pure_ (i := 28) (N := some 115) (v := ?_) (a' := ?_) #[true, true, true, true, true, true, true, true, true, true, true, true, true, true, true, true, true, true, true, true, true, true, true, true, true, true, true, true, true, false, false, false, false] rfl rfl (by kernel_rfl) (fun _ _ _ h => h) (Or.inl ⟨by rfl, ?_⟩) ?_ ?_
          rotate_left; (intro w'; go_simp; with_reducible rfl); rotate_left; (simp only [Act.put, List.setIfInBounds_toArray, List.set_cons_zero, List.set_cons_succ, i64_w, i32_w]; rfl)
          refine pure_ (i := 29) (N := some 116) (v := ?_) (a' := ?_) #[true, true, true, true, true, true, true, true, true, true, true, true, true, true, true, true, true, true, true, true, true, true, true, true, true, true, true, true, true, true, false, false, false] rfl rfl (by kernel_rfl) (fun _ _ _ h => h) (Or.inl ⟨by rfl, ?_⟩) ?_ ?_
          rotate_left; (intro w'; go_simp; with_reducible rfl); rotate_left; (simp only [Act.put, List.setIfInBounds_toArray, List.set_cons_zero, List.set_cons_succ, i64_w, i32_w]; rfl)
          refine take_ (i := 30) (N := some 117) (v := ?_) (a' := ?_) #[true, true, true, true, true, true, true, true, true, true, true, true, true, true, true, true, true, true, true, true, true, true, true, true, true, true, true, true, true, true, true, false, false] rfl rfl (by kernel_rfl) (fun _ _ _ h => h) (Or.inl ⟨by rfl, ?_⟩) hHeld ?_ ?_
          rotate_left; (rintro w' ⟨s0, s1, s2, s3⟩; go_simp; with_reducible rfl); rotate_left; (simp only [Act.put, List.setIfInBounds_toArray, List.set_cons_zero, List.set_cons_succ, i64_w, i32_w]; rfl)
          refine pure_ (i := 31) (N := some 118) (v := ?_) (a' := ?_) #[true, true, true, true, true, true, true, true, true, true, true, true, true, true, true, true, true, true, true, true, true, true, true, true, true, true, true, true, true, true, true, true, false] rfl rfl (by kernel_rfl) (fun _ _ _ h => h) (Or.inl ⟨by rfl, ?_⟩) ?_ ?_
          rotate_left; (intro w'; go_simp; with_reducible rfl); rotate_left; (simp only [Act.put, List.setIfInBounds_toArray, List.set_cons_zero, List.set_cons_succ, i64_w, i32_w]; rfl)
          refine pure_ (i := 32) (N := some 119) (v := ?_) (a' := ?_) #[true, true, true, true, true, true, true, true, true, true, true, true, true, true, true, true, true, true, true, true, true, true, true, true, true, true, true, true, true, true, true, true, true] rfl rfl (by kernel_rfl) (fun _ _ _ h => h) (Or.inl ⟨by rfl, ?_⟩) ?_ ?_
          rotate_left; (intro w'; go_simp; with_reducible rfl); rotate_left; (simp only [Act.put, List.setIfInBounds_toArray, List.set_cons_zero, List.set_cons_succ, i64_w, i32_w]; rfl)
          refine done_ (by kernel_rfl) ?_
          clear hHeld
          by_cases h3 : x.f0 ≤ b
          ·have HCC : Hid (0 < x.f1 ∧ a ≤ x.f0 ∧ x.f0 ≤ b) := Lib.hid ⟨H1.out, H2.out, h3⟩
           go_wp2_with fail
           refine start_ (n := 10) (S := fun w' => w'.cell? ⟨w7.heap.size, 1, none⟩ = some (.int .i64 s) ∧ w'.cell? ⟨(adf.add (j * 2)).block, (adf.add (j * 2)).off + 1, none⟩ = some (.int .i64 x.f1)) (ds := [9]) #[false, false, false, false, false, false, false, false, false, false] (by kernel_rfl) rfl rfl ⟨hc1, hxf1⟩ (fun hHeld => ?_)
           refine pure_ (i := 0) (N := some 120) (v := ?_) (a' := ?_) #[true, false, false, false, false, false, false, false, false, false] rfl rfl (by kernel_rfl) (fun _ _ _ h => h) (Or.inl ⟨by rfl, ?_⟩) ?_ ?_
           rotate_left; (intro w'; go_simp; with_reducible rfl); rotate_left; (simp only [Act.put, List.setIfInBounds_toArray, List.set_cons_zero, List.set_cons_succ, i64_w, i32_w]; rfl)
           refine pure_ (i := 2) (N := some 122) (v := ?_) (a' := ?_) #[true, false, true, false, false, false, false, false, false, false] rfl rfl (by kernel_rfl) (fun _ _ _ h => h) (Or.inl ⟨by rfl, ?_⟩) ?_ ?_
           rotate_left; (intro w'; go_simp; with_reducible rfl); rotate_left; (simp only [Act.put, List.setIfInBounds_toArray, List.set_cons_zero, List.set_cons_succ, i64_w, i32_w]; rfl)
           refine pure_ (i := 3) (N := some 123) (v := ?_) (a' := ?_) #[true, false, true, true, false, false, false, false, false, false] rfl rfl (by kernel_rfl) (fun _ _ _ h => h) (Or.inl ⟨by rfl, ?_⟩) ?_ ?_
           rotate_left; (intro w'; go_simp; with_reducible rfl); rotate_left; (simp only [Act.put, List.setIfInBounds_toArray, List.set_cons_zero, List.set_cons_succ, i64_w, i32_w]; rfl)
           refine pure_ (i := 4) (N := some 124) (v := ?_) (a' := ?_) #[true, false, true, true, true, false, false, false, false, false] rfl rfl (by kernel_rfl) (fun _ _ _ h => h) (Or.inl ⟨by rfl, ?_⟩) ?_ ?_
           rotate_left; (intro w'; go_simp; with_reducible rfl); rotate_left; (simp only [Act.put, List.setIfInBounds_toArray, List.set_cons_zero, List.set_cons_succ, i64_w, i32_w]; rfl)
           refine pure_ (i := 5) (N := some 125) (v := ?_) (a' := ?_) #[true, false, true, true, true, true, false, false, false, false] rfl rfl (by kernel_rfl) (fun _ _ _ h => h) (Or.inl ⟨by rfl, ?_⟩) ?_ ?_
           rotate_left; (intro w'; go_simp; with_reducible rfl); rotate_left; (simp only [Act.put, List.setIfInBounds_toArray, List.set_cons_zero, List.set_cons_succ, i64_w, i32_w]; rfl)
           refine take_ (i := 1) (N := some 121) (v := ?_) (a' := ?_) #[true, true, true, true, true, true, false, false, false, false] rfl rfl (by kernel_rfl) (fun _ _ _ h => h) (Or.inl ⟨by rfl, ?_⟩) hHeld ?_ ?_
           rotate_left; (rintro w' ⟨s0, s1⟩; go_simp; with_reducible rfl); rotate_left; (simp only [Act.put, List.setIfInBounds_toArray, List.set_cons_zero, List.set_cons_succ, i64_w, i32_w]; rfl)
           refine take_ (i := 6) (N := some 126) (v := ?_) (a' := ?_) #[true, true, true, true, true, true, true, false, false, false] rfl rfl (by kernel_rfl) (fun _ _ _ h => h) (Or.inl ⟨by rfl, ?_⟩) hHeld ?_ ?_
           rotate_left; (rintro w' ⟨s0, s1⟩; go_simp; with_reducible rfl); rotate_left; (simp only [Act.put, List.setIfInBounds_toArray, List.set_cons_zero, List.set_cons_succ, i64_w, i32_w]; rfl)
           refine pure_ (i := 7) (N := some 127) (v := ?_) (a' := ?_) #[true, true, true, true, true, true, true, true, false, false] rfl rfl (by kernel_rfl) (fun _ _ _ h => h) (Or.inl ⟨by rfl, ?_⟩) ?_ ?_
           rotate_left; (intro w'; go_simp; with_reducible rfl); rotate_left; (simp only [Act.put, List.setIfInBounds_toArray, List.set_cons_zero, List.set_cons_succ, i64_w, i32_w]; rfl)
           refine pure_ (i := 8) (N := some 128) (v := ?_) (a' := ?_) #[true, true, true, true, true, true, true, true, true, false] rfl rfl (by kernel_rfl) (fun _ _ _ h => h) (Or.inl ⟨by rfl, ?_⟩) ?_ ?_
           rotate_left; (intro w'; go_simp; with_reducible rfl); rotate_left; (simp only [Act.put, List.setIfInBounds_toArray, List.set_cons_zero, List.set_cons_succ, i64_w, i32_w]; rfl)
           refine last_ (i := 9) (N := none) #[true, true, true, true, true, true, true, true, true, true] rfl rfl (by kernel_rfl) (by decide) (fun K hK => ?_)
           have hfc1 : wr.drew.drew.frozen? ⟨w7.heap.size, 1, none⟩ = false := blk_frozen HXC.out 1
           have hc9 : wr.drew.drew.cell? ⟨w7.heap.size, 1, none⟩ = some (.int .i64 s) := hc1
           refine skip_ (w1 := ?_) (by rfl) rfl ?_ ?_
           rotate_left
           ·go_simp
            rfl
           refine hK.out _ _ ?_
           refine done_ (by kernel_rfl) ?_
           clear hK K
           go_wp2_with fail
           go_roundg (e2' + 1)
           case measure => omega
           case rel => exact ⟨e2', j + 1, wrap64 (s + x.f1), by omega, by have := HFE.out; omega, rfl, Lib.hid (by rw [← HPS.out, drop83 f j HJF.out, ← HX.out, cntR, if_pos HCC.out]), Lib.hid (cell2 HXC.out), Lib.hid ((below_drew1 (below_drew1 HB8.out)).setCell (p := ⟨w7.heap.size, 1, none⟩) (Nat.le_refl _) _)⟩
          ·have HNC : Hid (¬ (0 < x.f1 ∧ a ≤ x.f0 ∧ x.f0 ≤ b)) := Lib.hid (fun h => h3 h.2.2)
           have h4 : b < x.f0 := Int.not_le.1 h3
           clear h3
           go_wp2_with fail
           go_roundg (e2' + 1)
           case measure => omega
           case rel => exact ⟨e2', j + 1, s, by omega, by have := HFE.out; omega, rfl, Lib.hid (by rw [← HPS.out, drop83 f j HJF.out, ← HX.out, cntR, if_neg HNC.out]), HXC, Lib.hid (below_drew1 HB8.out)⟩
         ·have HNC : Hid (¬ (0 < x.f1 ∧ a ≤ x.f0 ∧ x.f0 ≤ b)) := Lib.hid (fun h => h2 h.2.1)
          have hb2 : decide (a ≤ x.f0) = false := decide_eq_false h2
          clear h2
          go_wp2_with fail
          go_quiet (fail)
          go_wp2_with fail
          go_roundg (e2' + 1)
          case measure => omega
          case rel => exact ⟨e2', j + 1, s, by omega, by have := HFE.out; omega, rfl, Lib.hid (by rw [← HPS.out, drop83 f j HJF.out, ← HX.out, cntR, if_neg HNC.out]), HXC, Lib.hid (below_dn HB8.out _)⟩
        ·have HNC : Hid (¬ (0 < x.f1 ∧ a ≤ x.f0 ∧ x.f0 ≤ b)) := Lib.hid (fun h => h1 h.1)
         have hb1 : decide (0 < x.f1) = false := decide_eq_false h1
         clear h1
         go_wp2_with fail
         go_quiet (fail)
         go_wp2_with fail
         go_roundg (e2' + 1)
         case measure => omega
         case rel => exact ⟨e2', j + 1, s, by omega, by have := HFE.out; omega, rfl, Lib.hid (by rw [← HPS.out, drop83 f j HJF.out, ← HX.out, cntR, if_neg HNC.out]), HXC, Lib.hid (below_dn HB8.out _)⟩
       ·have hd5 : decide ((j : Int) < (f.length : Int)) = false := decide_eq_false (by omega)
        have HS : Hid (s = cntR a b 0 f) := Lib.hid (by rw [← HPS.out, List.drop_eq_nil_of_le (by omega)]; rfl)
        have hc1 : wr.cell? ⟨w7.heap.size, 1, none⟩ = some (.int .i64 s) := (blk_cell HXC.out 1).trans rfl
        have HBI := Lib.hid (HB7.out.trans (HB8.out.mono HB7.out.size))
        have HBO := Lib.hid (HB6.out.trans (HBI.out.mono HB6.out.size))
        have HB4W := Lib.hid (HBW.out.trans (HBI.out.mono HBW.out.size))
        have HDR : Hid (rows.drop kk = r :: rows.drop (kk + 1)) := Lib.hid (by rw [rdL3_drop rows kk (by omega), ← HR.out])
        by_cases hs0 : 0 < s
        ·have hd6 : decide (0 < s) = true := decide_eq_true hs0
         have HPC2 : Hid ((cs ++ [(⟨r, s⟩ : S70)]) ++ copiesR l a b (rows.drop (kk + 1)) = copiesR l a b rows) := Lib.hid (by
          rw [← HPC.out, HDR.out, copiesR, ← HF.out, ← HS.out, if_pos hs0, List.append_assoc])
         have HX6 : Hid (wr.heap[gp]? = some (.cells #[.int .i64 a, .int .i64 (wrap64 (b + 1)), vR] 52 (0, 0))) := Lib.hid ((HBI.out.block gp (blk_lt HXR.out)).trans HXR.out)
         have HN6 := Lib.hid (Kd.N_below HNR.out HBI.out)
         have hp2 : wr.cell? ⟨gp, 2, none⟩ = some vR := (blk_cell HX6.out 2).trans rfl
         have hc0 : wr.cell? ⟨w7.heap.size, 0, none⟩ = some (.slice Ak r.length ck) := (blk_cell HXC.out 0).trans rfl
         have hkw : kk ≤ 1000 := by omega
         have hgw : gp < wr.heap.size := blk_lt HX6.out
         have HGW := Lib.hid hgw
         have hlen : (cs.length + 1) * 32 ≤ 140737488355328 := by omega
         have HLEN := Lib.hid hlen
         have HWO4 : Hid (w4.heap.size ≤ wo.heap.size) := Lib.hid HBR.out.size
         clear hs0 hgw hlen
         go_wp2_with (at_builtin; refine Kd.N_append k70 (W := wr) (w0 := wo) wo.heap.size rfl (.tmp 133) (.tmp 135) 50 70 (.agg #[.slice none 0 0, .int .i64 0]) 32 rfl Try.underlying50 info70 rfl (by decide) (by decide) vR cs ⟨r, s⟩ [.slice Ak r.length ck, .int .i64 s] (fun k => k < w4.heap.size ∨ gp < k) (fun k => k < w4.heap.size) rfl rfl (k70_mkF _ _ ⟨r, s⟩ HCKL.out (Kd.F_below (Kd.C_F k64_heap HCK.out) HB4W.out)) (fun k hk => ⟨.inl hk, fun e => by have h2 := Kd.N_base HN6.out k e.symm; have h3 := HWO4.out; omega⟩) (fun k hk => .inr (Nat.lt_of_lt_of_le HGW.out hk)) HN6.out HBO.out HBO.out.size HLEN.out ?_; intro v9 w9 hN9 hB9 hg9 hat9; obtain ⟨A9, c9, h9⟩ := Kd.N_slice hN9; rw [List.length_append, List.length_singleton] at h9; subst h9; have hx9 := blk_grown HX6.out hg9 (Kd.N_away HN6.out (fun k hk e => by have h3 := HWO4.out; have h4 := HG5.out; omega)); have hq9 : w9.cell? ⟨gp, 2, none⟩ = some vR := (blk_cell hx9 2).trans rfl; have hf9 := blk_frozen hx9 2; have HX9 := Lib.hid hx9; have HN9 := Lib.hid hN9; have HB9 := Lib.hid hB9; clear hx9 hN9 hB9 hg9 hat9)
         go_roundg (e' + 1)
         case measure => omega
         case rel => exact ⟨e', kk + 1, cs ++ [⟨r, s⟩], .slice A9 (cs.length + 1) c9, by omega, by have := HRE.out; omega, rfl, HPC2, by rw [List.length_append, List.length_singleton]; omega, Lib.hid (Kd.N_far HN9.out (fun k hk => by have h3 := HWO4.out; have h4 := HG5.out; show k ≠ gp; omega) _), Lib.hid (cell3 HX9.out), Lib.hid (HB9.out.setCell (p := ⟨gp, 2, none⟩) (Nat.le_of_eq HG5.out.symm) _)⟩
        ·have hd6 : decide (0 < s) = false := decide_eq_false hs0
         have HPC2 : Hid (cs ++ copiesR l a b (rows.drop (kk + 1)) = copiesR l a b rows) := Lib.hid (by
          rw [← HPC.out, HDR.out, copiesR, ← HF.out, ← HS.out, if_neg hs0, List.nil_append])
         have HX6 : Hid (wr.heap[gp]? = some (.cells #[.int .i64 a, .int .i64 (wrap64 (b + 1)), vR] 52 (0, 0))) := Lib.hid ((HBI.out.block gp (blk_lt HXR.out)).trans HXR.out)
         have HN6 := Lib.hid (Kd.N_below HNR.out HBI.out)
         have hkw : kk ≤ 1000 := by omega
         clear hs0
         go_wp2_with fail
         go_roundg (e' + 1)
         case measure => omega
         case rel => exact ⟨e', kk + 1, cs, vR, by omega, by have := HRE.out; omega, rfl, HPC2, by omega, HN6, HX6, HBO⟩
     ·have hd4 : decide ((kk : Int) < (rows.length : Int)) = false := decide_eq_false (by omega)
      have HCS : Hid (cs = copiesR l a b rows) := Lib.hid (by
       rw [← HPC.out, List.drop_eq_nil_of_le (by omega), copiesR, List.append_nil])
      obtain ⟨A6, c6, rfl⟩ := Kd.N_slice HNR.out
      have hs0 : wr.cell? ⟨gp, 0, none⟩ = some (.int .i64 a) := (blk_cell HXR.out 0).trans rfl
      have hs1 : wr.cell? ⟨gp, 1, none⟩ = some (.int .i64 (wrap64 (b + 1))) := (blk_cell HXR.out 1).trans rfl
      have hs2 : wr.cell? ⟨gp, 2, none⟩ = some (.slice A6 cs.length c6) := (blk_cell HXR.out 2).trans rfl
      have HRE := Lib.hid hre
      have HPT : Hid ((pre ++ [(⟨⟨a, wrap64 (b + 1)⟩, cs⟩ : S52)]) ++ partsR l all n frm d' (i + 1) = partsR l all n frm all.length 0) := Lib.hid (by
       rw [← HP.out, partsR, if_pos hin, if_neg (by rw [← HA.out]; exact Int.not_lt.2 HFR.out), List.append_assoc]
       unfold partR
       rw [← HA.out, ← HB.out, HCS.out, HRS.out])
      have hlen : (pre.length + 1) * 40 ≤ 140737488355328 := by have := HDI.out; omega
      have HLEN := Lib.hid hlen
      have hc6 : cs.length ≤ c6 := (Kd.N_reads' HNR.out).2.1
      have HC6 := Lib.hid hc6
      have HBW := Lib.hid (HBR.out.trans (HB6.out.mono HBR.out.size))
      clear hre hlen hc6
      go_wp2_with (at_builtin; refine Kd.N_append k52 (W := wr) (w0 := w4) w4.heap.size rfl (.tmp 138) (.tmp 140) 32 52 (.agg #[.int .i64 0, .int .i64 0, .slice none 0 0]) 40 rfl Try.underlying32 info52 rfl (by decide) (by decide) u12 pre ⟨⟨a, wrap64 (b + 1)⟩, cs⟩ [.int .i64 a, .int .i64 (wrap64 (b + 1)), .slice A6 cs.length c6] (fun _ => True) (fun k => k < w4.heap.size ∨ wo.heap.size ≤ k) rfl rfl (k52_mkF _ _ ⟨⟨a, wrap64 (b + 1)⟩, cs⟩ HC6.out (Kd.F_mono (Kd.N_F HNR.out) (fun k hk => hk.imp_right (fun h => Nat.le_of_lt (HG5.out ▸ h))))) (fun k hk => ⟨trivial, fun e => by have h1 := Kd.N_lt HRP.out k e.symm; have h2 := Kd.N_base HRP.out k e.symm; omega⟩) (fun _ _ => trivial) (Kd.N_below HRP.out HB6.out) HBW.out HBW.out.size HLEN.out ?_; intro v7 w7 hN7 hB7 _ _)
      have HN7 := Lib.hid hN7
      have HB7 := Lib.hid hB7
      clear hN7 hB7
      go_roundg (d' + 1)
      case measure => omega
      case rel => exact ⟨d', i + 1, pre ++ [⟨⟨a, wrap64 (b + 1)⟩, cs⟩], by omega, by have := HDI.out; omega, rfl, HPT, by rw [List.length_append, List.length_singleton]; omega, HN7, HB7⟩
  ·have hd1 : decide ((i : Int) + (n : Int) ≤ (all.length : Int)) = false := decide_eq_false (by omega)
   have hi3 : i + n ≤ 1000 := by omega
   have HT : Hid (pre = partsR l all n frm all.length 0) := Lib.hid (by
    rw [← HP.out]
    cases d with
    | zero => rw [partsR, List.append_nil]
    | succ d => rw [partsR, if_neg hin, List.append_nil])
   have hpl2 : (pre.length : Int) ≤ 1024 := by omega
   have hd3 : decide ((1024 : Int) < (pre.length : Int)) = false := decide_eq_false (by omega)
   obtain ⟨A5, c5, rfl⟩ := Kd.N_slice HRP.out
   go_wp2_with fail
   go_ret2
   exact ⟨_, rfl, HT.out ▸ Kd.N_lower HRP.out HB4.out.size, HB4.out.trans (HBR.out.mono HB4.out.size)⟩
end Go.Proofs.Ythngomhhimdolaa.H
end
section
namespace Go.Proofs.Ythngomhhimdolaa.H
open Go.RowKit Go.Shelf Go.Proofs.YthngomhhimdolaaW.PrintWords Go.Proofs.YthngomhhimdolaaW.PrintLast Go.Proofs.YthngomhhimdolaaW.PrintMore Go.Proofs.Ythngomhhimdolaa.P Go.Proofs.Ythngomhhimdolaa.R
set_option linter.unusedVariables false
set_option linter.unusedSimpArgs false
set_option maxHeartbeats 4000000 in
set_option maxRecDepth 100000 in
theorem Parts_walk (A : Option Addr) (c : Nat) (l : List S68) (n : Nat) (frm : Int) (w : World) (hc : l.length ≤ c) (hl : Kd.C k68 w A l.length l) (hrows : ∀ x ∈ l, x.f0.length * 32 ≤ 140737488355328) (h4 : l.length ≤ 4096) (hn : 1 ≤ n) (hn2 : n ≤ 64)
  (hm : counts_may.f 1 l (n : Int) = some 0) (hf1 : 0 ≤ frm) (hf2 : frm ≤ 1125899906842624) (fd : List Int) (hF : firstF l frm = fd) :
  Calls Try.prog 21 #[.slice A l.length c, .int .i64 n, .int .i64 frm] w fun e w' => ∃ v, e = .returned (.tuple #[v, .int .i64 (if (fd.length : Int) - n + 1 > 1024 then 7 else 0)]) ∧ Kd.R k52 52 w' w.heap.size (fun _ => True) v (if (fd.length : Int) - n + 1 > 1024 then [] else partsF l n fd) ∧ Below w.heap.size w w' := by
 have hd1 : decide (frm < 0) = false := decide_eq_false (by omega)
 have hd2 : decide (1125899906842624 < frm) = false := decide_eq_false (by omega)
 have hu52 := Try.underlying52
 have hu40 := Try.underlying40
 have hu32 := Try.underlying32
 have HL := Lib.hid hl
 have HR := Lib.hid hrows
 have H4 := Lib.hid h4
 have HM := Lib.hid (counts_may.calls 1 A c l (n : Int) 0 w hl hc hm)
 have HF1 := Lib.hid hf1
 have HF := Lib.hid hF
 have HF2 := Lib.hid hf2
 clear hl hrows h4 hm hf1 hf2 hF
 go_enter Try.func21, Try.ntmps21
 go_wp2_with fail
 refine HM.out.mono ?_
 rintro e w1 ⟨rfl, hb1⟩
 have HB1 := Lib.hid hb1
 clear hb1
 go_wp2_with fail
 refine (starts_yes A c l w1 (Kd.C_below HL.out HB1.out) H4.out).mono ?_
 rintro e w2 ⟨v2, rfl, hown, hb2⟩
 have HB2 := Lib.hid (HB1.out.trans (hb2.mono HB1.out.size))
 have HSO := Lib.hid (startsL_sorted l)
 have hsl := Nat.le_trans (startsL_len l) H4.out
 clear hb2
 obtain ⟨fs, hfs⟩ : ∃ fs, fs = startsL l := ⟨_, rfl⟩
 rw [← hfs] at hown hsl HSO
 have HFS := Lib.hid hfs
 clear hfs
 rcases hown.2 with ⟨rfl, h0⟩ | ⟨g, cap, cur, rfl, hbg, hg, hcap, hcm, hcs, hct⟩
 ·have hfs0 : fs = [] := List.length_eq_zero_iff.1 h0
  have hfd0 : fd = [] := by
   have h1 := HF.out
   unfold firstF at h1
   rw [← HFS.out, hfs0] at h1
   exact h1.symm
  have HBS := Lib.hid (Try.slices_BinarySearch_int_empty none 0 frm w2)
  subst hfd0
  have HPE : Hid (partsF l n [] = []) := Lib.hid rfl
  have hnz : ¬ (n : Int) ≤ 0 := by omega
  have hd5 : decide ((n : Int) ≤ 0) = false := decide_eq_false hnz
  have hw1 : wrap64 (-(n : Int)) = -(n : Int) := by unfold wrap64; omega
  have hw2 : wrap64 (-(n : Int) + 1) = -(n : Int) + 1 := by unfold wrap64; omega
  have hd3 : decide (1024 < -(n : Int) + 1) = false := decide_eq_false (by omega)
  have hif : ¬ ((0 : Int) - (n : Int) + 1 > 1024) := by omega
  clear hown hfs0 h0
  go_wp2_with fail
  refine HBS.out.mono ?_
  rintro e w3 ⟨rfl, rfl⟩
  go_wp2_with fail
  go_loopg [12, 13] 1 (fun gg f p wr => 0 < gg ∧ f = .slice none 0 0 ∧ Hid (Kd.R k52 52 wr w3.heap.size (fun _ => True) p []) ∧ Hid (Below w3.heap.size w3 wr))
  case atStart => exact ⟨by omega, rfl, Lib.hid (R_of_own_nil (World.ownsRow_made _ (#[] : Array Value) 0 (by simp) (by unfold maxLen; omega) (by simp))), Lib.hid ((Below.refl _ _).alloc (Nat.le_refl _) _)⟩
  case round =>
   obtain ⟨hgg, rfl, HRP, HBR⟩ := hrel
   go_wp2_with fail
   all_goals go_ret2
   all_goals exact ⟨u13, rfl, Kd.R_lower HRP.out HB2.out.size, HB2.out.trans (HBR.out.mono HB2.out.size)⟩
 ·have hcell : ∀ j, j < fs.length → w2.cell? ⟨g, 0 + j, none⟩ = some (.int .i64 (fs.getD j 0)) := fun j hj => by
   have := (holds_of_blockI hg (by simpa using hct) j (by simpa using hj)).1
   rw [this]; simp [hj]
  have HBS := Lib.hid (Try.slices_BinarySearch_int g 0 fs.length cap fs frm w2 (Nat.le_refl _) (by omega) hcell (by rw [List.take_length]; exact HSO.out))
  have HCELL := Lib.hid hcell
  have HCT := Lib.hid hct
  have HG := Lib.hid hg
  obtain ⟨i, hi⟩ : ∃ i, i = fs.countP (· < frm) := ⟨_, rfl⟩
  have hile : i ≤ fs.length := by rw [hi]; exact List.countP_le_length
  have HFF : Hid (firstF l frm = fs.drop i) := Lib.hid (by unfold firstF; rw [← HFS.out, ← hi])
  rw [List.take_length, ← hi] at HBS
  clear hcell hct hg hown hcs hcm hi
  have hile2 : (i : Int) ≤ (fs.length : Int) := by omega
  have hi0 : (0 : Int) ≤ (i : Int) := by omega
  have hfc : (fs.length : Int) ≤ (cap : Int) := by omega
  have HFD : Hid (fd = fs.drop i) := Lib.hid (HF.out.symm.trans HFF.out)
  have hdl : fd.length = fs.length - i := by rw [HFD.out]; exact List.length_drop
  have hsub : (fs.length : Int) - (i : Int) = (fd.length : Int) := by omega
  have hw1 : wrap64 ((fd.length : Int) - (n : Int)) = (fd.length : Int) - n := by unfold wrap64; omega
  have hw2 : wrap64 ((fd.length : Int) - (n : Int) + 1) = (fd.length : Int) - n + 1 := by unfold wrap64; omega
  go_wp2_with fail
  refine HBS.out.mono ?_
  rintro e w3 ⟨rfl, q, rfl⟩
  by_cases h1024 : (fd.length : Int) - n + 1 > 1024
  ·have hd3 : decide (1024 < (fd.length : Int) - n + 1) = true := decide_eq_true h1024
   go_wp2_with fail
   go_ret2
   exact ⟨_, rfl, Kd.R_nil _ _ _ _ _, below_dn HB2.out q⟩
  ·have hd3 : decide (1024 < (fd.length : Int) - n + 1) = false := decide_eq_false h1024
   go_wp2_with fail
   ·go_loopg [12, 13] (fd.length + 1) (fun gg f p wr => ∃ (o cl : Nat) (fl : List Int) (pre : List S52), fl.length ≤ cl ∧ fl.length < gg ∧ f = .slice (some ⟨g, o, none⟩) fl.length cl ∧ Hid (∀ j, j < fl.length → w2.cell? ⟨g, o + j, none⟩ = some (.int .i64 (fl.getD j 0))) ∧ Hid (partsF l n fd = pre ++ partsF l n fl) ∧ pre.length + fl.length ≤ fd.length ∧ Hid (Kd.R k52 52 wr w2.heap.size (fun _ => True) p pre) ∧ Hid (Below w2.heap.size w2 wr))
    case atStart =>
     exact ⟨0, 0, [], [], by simp, by simp, by simp, Lib.hid (fun j hj => absurd hj (Nat.not_lt_zero _)), Lib.hid (by rw [partsF_short l n fd (by omega), partsF_short l n [] (by simp; omega)]; rfl), by simp, Lib.hid (R_of_own_nil (World.ownsRow_made _ (#[] : Array Value) 0 (by simp) (by unfold maxLen; omega) (by simp))), Lib.hid (below_dn ((Below.refl _ _).alloc (Nat.le_refl _) _) _)⟩
    case round =>
     obtain ⟨o, cl, fl, pre, hcl, hgg, rfl, HC, HP, hpl, HRP, HBR⟩ := hrel
     by_cases hnl : n ≤ fl.length
     ·exact absurd hnl (by omega)
     ·have hnz : ¬ (n : Int) ≤ (fl.length : Int) := by omega
      have hd5 : decide ((n : Int) ≤ (fl.length : Int)) = false := decide_eq_false hnz
      have HX : partsF l n fd = pre := by rw [HP.out, partsF_short l n fl (by omega), List.append_nil]
      go_wp2_with fail
      go_ret2
      exact ⟨u13, rfl, Kd.R_lower HRP.out HB2.out.size, HB2.out.trans (HBR.out.mono HB2.out.size)⟩
   ·go_loopg [12, 13] (fd.length + 1) (fun gg f p wr => ∃ (o cl : Nat) (fl : List Int) (pre : List S52), fl.length ≤ cl ∧ fl.length < gg ∧ f = .slice (some ⟨g, o, none⟩) fl.length cl ∧ Hid (∀ j, j < fl.length → w2.cell? ⟨g, o + j, none⟩ = some (.int .i64 (fl.getD j 0))) ∧ Hid (partsF l n fd = pre ++ partsF l n fl) ∧ pre.length + fl.length ≤ fd.length ∧ Hid (Kd.R k52 52 wr w2.heap.size (fun _ => True) p pre) ∧ Hid (Below w2.heap.size w2 wr))
    case atStart =>
     exact ⟨i, fs.length - i, fd, [], by omega, by omega, by rw [hdl], Lib.hid (fun j hj => by have := HCELL.out (i + j) (by omega); rw [Nat.zero_add] at this; rw [this, HFD.out]; simp), Lib.hid rfl, by simp, Lib.hid (R_of_own_nil (World.ownsRow_made _ (#[] : Array Value) 0 (by simp) (by unfold maxLen; omega) (by simp))), Lib.hid (below_dn ((Below.refl _ _).alloc (Nat.le_refl _) _) _)⟩
    case round =>
     obtain ⟨o, cl, fl, pre, hcl, hgg, rfl, HC, HP, hpl, HRP, HBR⟩ := hrel
     by_cases hnl : n ≤ fl.length
     ·have hnz : (n : Int) ≤ (fl.length : Int) := by omega
      have hd5 : decide ((n : Int) ≤ (fl.length : Int)) = true := decide_eq_true hnz
      have hx0 : wr.cell? ⟨g, o, none⟩ = some (.int .i64 (rd fl 0)) := by
       have h1 := HC.out 0 (by omega)
       rw [Nat.add_zero] at h1
       exact (Below.cell HBR.out (World.block_lt_of_cell? w2 _ h1)).trans h1
      have hxn : wr.cell? ⟨g, o + (n - 1), none⟩ = some (.int .i64 (rd fl ((n - 1 : Nat) : Int))) := by
       have h1 := HC.out (n - 1) (by omega)
       have h2 := (Below.cell HBR.out (World.block_lt_of_cell? w2 _ h1)).trans h1
       rw [h2]; unfold rd; rw [Int.toNat_natCast]
      have HBW := Lib.hid (HB2.out.trans (HBR.out.mono HB2.out.size))
      have HW := Lib.hid (window_calls A c l g o n n _ _ wr (Kd.C_below HL.out HBW.out) HR.out H4.out hn (by omega) hx0 hxn)
      have hfnc : (n : Int) ≤ (cl : Int) := by omega
      clear hx0 hxn
      go_wp2_with fail
      refine HW.out.mono ?_
      rintro e w4 ⟨v4, rfl, hR4, hb4⟩
      obtain ⟨A4, c4, rfl⟩ := Kd.R_slice hR4
      have HR4 := Lib.hid hR4
      have HB4 := Lib.hid hb4
      have HB5 := Lib.hid (HBR.out.trans (hb4.mono HBR.out.size))
      have HPL : Hid ((pre.length + 1) * 40 ≤ 140737488355328) := Lib.hid (by omega)
      clear hR4 hb4
      go_wp2_with (at_builtin; refine Kd.R_append k52 (W := w4) (w0 := w2) w2.heap.size rfl (.tmp 52) (.tmp 59) 32 52 (.agg #[.int .i64 0, .int .i64 0, .slice none 0 0]) 40 rfl Try.underlying32 info52 rfl (by decide) (by decide) u13 pre (partW l fl n) [.int .i64 (rd fl 0), .int .i64 (wrap64 (rd fl ((n - 1 : Nat) : Int) + 1)), .slice A4 (windowF (rd fl 0) (wrap64 (rd fl ((n - 1 : Nat) : Int) + 1)) (rises l)).length c4] (fun _ => True) (fun k => wr.heap.size ≤ k) rfl rfl (k52_mkM _ _ _ (partW l fl n) (Kd.R_lower (Kd.R_mono (Kd.R_bound HR4.out) (fun k hk => hk.2.1)) HBR.out.size)) (fun k hk => ⟨trivial, fun e => by have := Kd.R_lt HRP.out k e.symm; omega⟩) (fun _ _ => trivial) (Kd.R_below HRP.out HB4.out) HB5.out HB5.out.size HPL.out ?_; intro v6 w6 hR6 hB6 _ _)
      ·have HLD : Hid ((fl.drop 1).length = fl.length - 1) := Lib.hid (by rw [List.length_drop])
       have HR7 := Lib.hid hR6
       have HB7 := Lib.hid hB6
       clear hR6 hB6
       go_roundg fl.length
       case measure => omega
       case rel =>
        exact ⟨o, 0, fl.drop 1, pre ++ [partW l fl n], by rw [HLD.out]; omega, by rw [HLD.out]; omega, by rw [HLD.out], Lib.hid (fun j hj => by have h1 := HLD.out; omega), Lib.hid (by rw [HP.out, partsF_long l n fl hnl hn, List.append_assoc]; rfl), by rw [HLD.out, List.length_append, List.length_singleton]; omega, HR7, HB7⟩
      ·have HLD : Hid ((fl.drop 1).length = fl.length - 1) := Lib.hid (by rw [List.length_drop])
       have HR7 := Lib.hid hR6
       have HB7 := Lib.hid hB6
       clear hR6 hB6
       go_roundg fl.length
       case measure => omega
       case rel =>
        exact ⟨o + 1, cl - 1, fl.drop 1, pre ++ [partW l fl n], by rw [HLD.out]; omega, by rw [HLD.out]; omega, by rw [HLD.out], Lib.hid (fun j hj => by have h1 := HLD.out; have h2 := HC.out (j + 1) (by omega); rw [show o + 1 + j = o + (j + 1) by omega, h2]; simp), Lib.hid (by rw [HP.out, partsF_long l n fl hnl hn, List.append_assoc]; rfl), by rw [HLD.out, List.length_append, List.length_singleton]; omega, HR7, HB7⟩
     ·have hnz : ¬ (n : Int) ≤ (fl.length : Int) := by omega
      have hd5 : decide ((n : Int) ≤ (fl.length : Int)) = false := decide_eq_false hnz
      have HX : partsF l n fd = pre := by rw [HP.out, partsF_short l n fl (by omega), List.append_nil]
      go_wp2_with fail
      go_ret2
      exact ⟨u13, rfl, Kd.R_lower HRP.out HB2.out.size, HB2.out.trans (HBR.out.mono HB2.out.size)⟩
end Go.Proofs.Ythngomhhimdolaa.H
namespace Go.Proofs.Ythngomhhimdolaa.P
open Go.RowKit Go.Shelf Go.Proofs.YthngomhhimdolaaW.PrintWords Go.Proofs.YthngomhhimdolaaW.PrintLast Go.Proofs.YthngomhhimdolaaW.PrintMore Go.Proofs.Ythngomhhimdolaa.H Go.Proofs.Ythngomhhimdolaa.R
def counts_Parts.g (l : List S68) (n frm : Int) : Int × List S52 :=
 if frm < 0 ∨ 1125899906842624 < frm then (13, [])
 else if ((firstF l frm).length : Int) - n + 1 > 1024 then (7, []) else (0, partsF l n.toNat (firstF l frm))
def counts_Parts.f (l : List S68) (n frm : Int) : Option (List S52 × Int) :=
 (counts_may.f 1 l n).bind fun e => if e = 0 then (if okRows l ∧ l.length ≤ 4096 ∧ 1 ≤ n ∧ n ≤ 64 then some ((counts_Parts.g l n frm).2, (counts_Parts.g l n frm).1) else none) else some ([], e)
set_option maxHeartbeats 4000000 in
set_option maxRecDepth 100000 in
theorem counts_Parts.calls (A0 : Option Addr) (c0 : Nat) (l0 : List S68) (a1 a2 : Int) (r1 : List S52) (r2 : Int) (w : World) (hr0 : Kd.C k68 w A0 l0.length l0) (hc0 : l0.length ≤ c0) (h : counts_Parts.f l0 a1 a2 = some (r1, r2)) :
  Calls Try.prog 21 #[.slice A0 l0.length c0, .int .i64 a1, .int .i64 a2] w fun e w' => ∃ v0_ : Value, e = .returned (.tuple #[v0_, .int .i64 r2]) ∧ Kd.R k52 52 w' w.heap.size (fun _ => True) v0_ r1 ∧ Below w.heap.size w w' := by
 unfold counts_Parts.f at h
 obtain ⟨e, hm, h⟩ := Option.bind_eq_some_iff.mp h
 by_cases he : e = 0
 ·subst he
  rw [if_pos rfl] at h
  by_cases hb : okRows l0 ∧ l0.length ≤ 4096 ∧ 1 ≤ a1 ∧ a1 ≤ 64
  ·rw [if_pos hb] at h
   obtain ⟨hb1, hb2, hb3, hb4⟩ := hb
   have h := Option.some.inj h
   by_cases hf : a2 < 0 ∨ 1125899906842624 < a2
   ·have hg : counts_Parts.g l0 a1 a2 = (13, []) := by unfold counts_Parts.g; rw [if_pos hf]
    rw [hg] at h
    injection h with h1 h2
    subst h1; subst h2
    have HM := Lib.hid (counts_may.calls 1 A0 c0 l0 a1 0 w hr0 hc0 hm)
    clear hm hr0 hc0 hb1 hb2 hb3 hb4 hg
    by_cases hf1 : a2 < 0
    ·have hd1 : decide (a2 < 0) = true := decide_eq_true hf1
     clear hf
     go_enter Try.func21, Try.ntmps21
     go_wp2_with fail
     refine HM.out.mono ?_
     rintro e w1 ⟨rfl, hb1⟩
     go_wp2_with fail
     all_goals first | (exfalso; simp only [undef, Option.some.injEq, reduceCtorEq] at *; done) | skip
     go_ret2
     exact ⟨_, rfl, Kd.R_nil _ _ _ _ _, hb1⟩
    ·have hd1 : decide (a2 < 0) = false := decide_eq_false hf1
     have hd2 : decide (1125899906842624 < a2) = true := decide_eq_true (by omega)
     clear hf hf1
     go_enter Try.func21, Try.ntmps21
     go_wp2_with fail
     refine HM.out.mono ?_
     rintro e w1 ⟨rfl, hb1⟩
     go_wp2_with fail
     all_goals first | (exfalso; simp only [undef, Option.some.injEq, reduceCtorEq] at *; done) | skip
     go_ret2
     exact ⟨_, rfl, Kd.R_nil _ _ _ _ _, hb1⟩
   ·obtain ⟨n, rfl⟩ : ∃ n : Nat, a1 = n := ⟨a1.toNat, by omega⟩
    refine (Parts_walk A0 c0 l0 n a2 w hc0 hr0 hb1 hb2 (by omega) (by omega) hm (by omega) (by omega) _ rfl).mono ?_
    rintro e w' ⟨v, rfl, h1, h2⟩
    unfold counts_Parts.g at h
    rw [if_neg hf] at h
    refine ⟨v, ?_, ?_, h2⟩
    ·by_cases hc : ((firstF l0 a2).length : Int) - n + 1 > 1024
     ·rw [if_pos hc] at h ⊢
      injection h with h3 h4
      rw [← h4]
     ·rw [if_neg hc] at h ⊢
      injection h with h3 h4
      rw [← h4]
    ·by_cases hc : ((firstF l0 a2).length : Int) - n + 1 > 1024
     ·rw [if_pos hc] at h h1
      injection h with h3 h4
      rw [← h3]; exact h1
     ·rw [if_neg hc] at h h1
      injection h with h3 h4
      rw [← h3, Int.toNat_natCast]; exact h1
  ·rw [if_neg hb] at h; cases h
 ·rw [if_neg he] at h
  have h := Option.some.inj h
  injection h with h1 h2
  subst h1; subst h2
  have HM := Lib.hid (counts_may.calls 1 A0 c0 l0 a1 e w hr0 hc0 hm)
  have hb0 : (e == 0) = false := beq_eq_false_iff_ne.mpr he
  have hb1 : (e != 0) = true := bne_iff_ne.mpr he
  clear hm hr0 hc0
  go_enter Try.func21, Try.ntmps21
  go_wp2_with fail
  refine HM.out.mono ?_
  rintro e w1 ⟨rfl, hb1⟩
  go_wp2_with fail
  go_ret2
  exact ⟨_, rfl, Kd.R_nil _ _ _ _ _, hb1⟩
end Go.Proofs.Ythngomhhimdolaa.P
end
section
namespace Go.Proofs.Ythngomhhimdolaa.H
open Go.RowKit Go.Shelf Go.Proofs.YthngomhhimdolaaW.PrintWords Go.Proofs.YthngomhhimdolaaW.PrintLast Go.Proofs.YthngomhhimdolaaW.PrintMore Go.Proofs.Ythngomhhimdolaa.P Go.Proofs.Ythngomhhimdolaa.R
set_option linter.unusedVariables false
theorem rd70_mem (l : List S70) (j : Nat) (h : j < l.length) : rd_T70 l (j : Nat) ∈ l := by
 unfold rd_T70; simpa using getD_mem l z70 j h
theorem rd52_mem (l : List S52) (j : Nat) (h : j < l.length) : rd_T52 l (j : Nat) ∈ l := by
 unfold rd_T52; simpa using getD_mem l z52 j h
theorem SameCopies_l0 (cs : List S70) (m : Nat) (hm : ∀ q ∈ cs, q.f0.length ≤ m) (hm2 : m ≤ 9223372036854775806) (hl : cs.length ≤ 1000) : ∀ (d j k : Nat), cs.length - j = d → d + m + 1 < k → rescindref27_SameCopies.l0 k cs cs (j : Int) = some true := by
 intro d
 induction d with
 | zero =>
  intro j k hd hk
  obtain ⟨k, rfl⟩ : ∃ m, k = m + 1 := ⟨k - 1, by omega⟩
  rw [rescindref27_SameCopies.l0, if_neg (by omega)]
 | succ d ih =>
  intro j k hd hk
  obtain ⟨k, rfl⟩ : ∃ m, k = m + 1 := ⟨k - 1, by omega⟩
  have hq := hm _ (rd70_mem cs j (by omega))
  rw [rescindref27_SameCopies.l0, if_pos (by omega), if_pos (by omega), if_pos (by omega), if_pos rfl, ref_Same _ _ (by omega) k (by omega), Option.bind_some, sameR_refl, if_pos rfl, wrap_nat j (by omega)]
  exact ih (j + 1) k (by omega) (by omega)
theorem SameCopies_self (cs : List S70) (m : Nat) (hm : ∀ q ∈ cs, q.f0.length ≤ m) (hm2 : m ≤ 9223372036854775806) (hl : cs.length ≤ 1000) (k : Nat) (hk : 1002 + m < k) : rescindref27_SameCopies.f k cs cs = some true := by
 unfold rescindref27_SameCopies.f
 rw [if_pos rfl]
 exact SameCopies_l0 cs m hm hm2 hl cs.length 0 k (by omega) (by omega)
theorem Same_l0 (ps : List S52) (m : Nat) (hm : ∀ p ∈ ps, p.f1.length ≤ 1000 ∧ ∀ q ∈ p.f1, q.f0.length ≤ m) (hm2 : m ≤ 9223372036854775806) (hl : ps.length ≤ 1000) : ∀ (d j k : Nat), ps.length - j = d → d + m + 1005 < k → rescindref27_Same.l0 k ps ps (j : Int) = some true := by
 intro d
 induction d with
 | zero =>
  intro j k hd hk
  obtain ⟨k, rfl⟩ : ∃ m, k = m + 1 := ⟨k - 1, by omega⟩
  rw [rescindref27_Same.l0, if_neg (by omega)]
 | succ d ih =>
  intro j k hd hk
  obtain ⟨k, rfl⟩ : ∃ m, k = m + 1 := ⟨k - 1, by omega⟩
  have hq := hm _ (rd52_mem ps j (by omega))
  rw [rescindref27_Same.l0, if_pos (by omega), if_pos (by omega), if_pos (by omega), if_neg (by simp), SameCopies_self _ m hq.2 hm2 hq.1 k (by omega), Option.bind_some, if_pos rfl, wrap_nat j (by omega)]
  exact ih (j + 1) k (by omega) (by omega)
theorem Same_self (ps : List S52) (m : Nat) (hm : ∀ p ∈ ps, p.f1.length ≤ 1000 ∧ ∀ q ∈ p.f1, q.f0.length ≤ m) (hm2 : m ≤ 9223372036854775806) (hl : ps.length ≤ 1000) (k : Nat) (hk : 3000 + m < k) : rescindref27_Same.f k ps ps = some true := by
 unfold rescindref27_Same.f
 rw [if_pos rfl]
 exact Same_l0 ps m hm hm2 hl ps.length 0 k (by omega) (by omega)
theorem copiesR_len (l : List S68) (a b : Int) : ∀ rs : List (List S64), (copiesR l a b rs).length ≤ rs.length
 | [] => Nat.le_refl _
 | r :: rs => by
  rw [copiesR, List.length_append]
  have := copiesR_len l a b rs
  split <;> simp <;> omega
theorem copiesR_row (l : List S68) (a b : Int) : ∀ rs : List (List S64), ∀ q ∈ copiesR l a b rs, q.f0 ∈ rs
 | [], q, h => by simp [copiesR] at h
 | r :: rs, q, h => by
  rw [copiesR] at h
  rcases List.mem_append.1 h with h | h
  ·split at h
   ·rw [List.mem_singleton.1 h]; exact List.mem_cons_self
   ·simp at h
  ·exact List.mem_cons_of_mem _ (copiesR_row l a b rs q h)
theorem partsR_len (l : List S68) (all : List Int) (n : Nat) (frm : Int) : ∀ d i, (partsR l all n frm d i).length ≤ d
 | 0, i => by simp [partsR]
 | d + 1, i => by
  rw [partsR]
  have := partsR_len l all n frm d (i + 1)
  split
  ·rw [List.length_append]
   split <;> simp <;> omega
  ·simp
theorem partsR_mem (l : List S68) (all : List Int) (n : Nat) (frm : Int) : ∀ d i, ∀ p ∈ partsR l all n frm d i, ∃ j, p = partR l all n j
 | 0, i, p, h => by simp [partsR] at h
 | d + 1, i, p, h => by
  rw [partsR] at h
  split at h
  ·rcases List.mem_append.1 h with h | h
   ·split at h
    ·simp at h
    ·exact ⟨i, List.mem_singleton.1 h⟩
   ·exact partsR_mem l all n frm d (i + 1) p h
  ·simp at h
def partsE (l : List S68) (n frm : Int) : List S52 × Int :=
 if checkE l n = 0 then (if 0 ≤ frm ∧ frm ≤ 1125899906842624 then (partsR l (startsL l) n.toNat frm (startsL l).length 0, 0) else ([], 13)) else ([], checkE l n)
theorem counts_Parts_eq {l : List S68} (hr : okRows l) (h60 : l.length ≤ 60) (n frm : Int) : counts_Parts.f l n frm = some (partsE l n frm) := by
 unfold counts_Parts.f partsE
 rw [counts_may_eq hr n 1 (by decide), Option.bind_some]
 by_cases h : checkE l n = 0
 ·obtain ⟨h1, h2, h3, h4⟩ := checkE_zero h
  rw [if_pos h, if_pos h, if_pos ⟨hr, by omega, h3, h4⟩]
  have hn : n = (n.toNat : Int) := by omega
  unfold counts_Parts.g
  by_cases hf : 0 ≤ frm ∧ frm ≤ 1125899906842624
  ·have hl : (firstF l frm).length ≤ 60 := by
    unfold firstF
    rw [List.length_drop]
    have := startsL_len l
    omega
   rw [if_neg (by omega), if_pos hf, if_neg (by omega), parts_ref h1 n.toNat (by omega)]
  ·rw [if_pos (by omega), if_neg hf]
 ·rw [if_neg h, if_neg h]
theorem partsE_same {l : List S68} (hr : okRows l) (h60 : l.length ≤ 60) (n frm : Int) (k : Nat) (hk : 4398046511104 + 3000 < k) : rescindref27_Same.f k (partsE l n frm).1 (partsE l n frm).1 = some true := by
 have key : ∀ p ∈ (partsE l n frm).1, p.f1.length ≤ 1000 ∧ ∀ q ∈ p.f1, q.f0.length ≤ 4398046511104 := by
  unfold partsE
  split
  ·split
   ·intro p hp
    obtain ⟨j, rfl⟩ := partsR_mem l _ _ _ _ _ p hp
    have hlen : (rowsOf l).length ≤ 60 := by have := rowsOf_len l []; unfold rowsOf; simp at this; omega
    refine ⟨?_, fun q hq => ?_⟩
    ·have := copiesR_len l (rd (startsL l) (j : Nat)) (rd (startsL l) ((j + (n.toNat - 1) : Nat) : Int)) (rowsOf l)
     unfold partR
     exact Nat.le_trans this (by omega)
    ·have hq2 := copiesR_row l _ _ _ q hq
     rcases rowsOf_mem l [] q.f0 hq2 with h | ⟨x, hx, he⟩
     ·simp at h
     ·rw [← he]; have := hr x hx; omega
   ·intro p hp; simp at hp
  ·intro p hp; simp at hp
 have hl : (partsE l n frm).1.length ≤ 1000 := by
  unfold partsE
  split
  ·split
   ·have h1 := partsR_len l (startsL l) n.toNat frm (startsL l).length 0
    have h2 := startsL_len l
    exact Nat.le_trans h1 (by omega)
   ·simp
  ·simp
 exact Same_self _ 4398046511104 key (by decide) hl k (by omega)
end Go.Proofs.Ythngomhhimdolaa.H
end
