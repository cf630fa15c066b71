/- CountsParts: the windows of so many starts, and their rows, are those that the document says: for every list of edges, number, and tick. No condition. -/
import Derived.OpenShut
import Derived.ShutString
import Derived.ChangeOld
import Derived.SizedLaws
import Derived.Carry
import Derived.Deep.Slices
import Derived.Deep.Strs
import Derived.Test.YthngomhhimdolaaRows
import Derived.ProofKit
import Derived.Test.YthngomhhimdolaaS12
section
namespace Go.Proofs.Ythngomhhimdolaa.P
open Go.RowKit Go.Proofs.YthngomhhimdolaaW.PrintWords Go.Proofs.YthngomhhimdolaaW.PrintLast Go.Proofs.YthngomhhimdolaaW.PrintMore
attribute [local go_sem] max2_int min2_int max_two min_two max_three min_three max_four min_four   -- for this text's walks alone
set_option linter.unusedVariables false
set_option linter.unusedSimpArgs false
mutual
def rescindlaw29_CountsStarts.j0 : Nat → List (S68) → Int → Int → List Int → List Int → Bool → Option (Bool)
 | 0, _, _, _, _, _, _ => none
 | k + 1, x0, x1, x2, x7, x9, x39 => if x39 = true then (some false) else (rescindlaw29_CountsStarts.l0 k x0 x1 x2 x7 x9 0)
def rescindlaw29_CountsStarts.l0 : Nat → List (S68) → Int → Int → List Int → List Int → Int → Option (Bool)
 | 0, _, _, _, _, _, _ => none
 | k + 1, x0, x1, x2, x7, x9, x11 => if x11 < (x7.length : Int) then (if 0 ≤ x11 then (if x11 < (x9.length : Int) then (if (rd x7 x11) = (rd x9 x11) then (rescindlaw29_CountsStarts.l0 k x0 x1 x2 x7 x9 (wrap64 (x11 + 1))) else (some false)) else (none)) else (none)) else ((counts_Open.f k x0 x1 x2).bind fun bt332 => ((rescindref29_Open.f k x0 x1 x2).bind fun bt334 => ((rescindlaw29_live.f k).bind fun t336 => (if t336 = true then (if bt332.1 = bt334.1 then (some (bt332.2 == bt334.2)) else (some false)) else (some false)))))
end
def rescindlaw29_CountsStarts.f (k : Nat) (l0 : List (S68)) (a1 : Int) (a2 : Int) : Option (Bool) := (rescindlaw29_few.f l0).bind fun t320 => (if t320 = true then ((counts_Starts.f k l0).bind fun bt322 => ((rescindref29_Starts.f k l0).bind fun bt326 => (if bt322.2 = bt326.2 then (rescindlaw29_CountsStarts.j0 k l0 a1 a2 bt322.1 bt326.1 ((bt322.1.length : Int) != (bt326.1.length : Int))) else (rescindlaw29_CountsStarts.j0 k l0 a1 a2 bt322.1 bt326.1 true)))) else ((rescindlaw29_live.f k).bind fun t321 => (some t321)))
end Go.Proofs.Ythngomhhimdolaa.P
end
section
namespace Go.Proofs.Ythngomhhimdolaa.H
open Go.RowKit Go.Shelf Go.Proofs.YthngomhhimdolaaW.PrintWords Go.Proofs.YthngomhhimdolaaW.PrintLast Go.Proofs.YthngomhhimdolaaW.PrintMore Go.Proofs.Ythngomhhimdolaa.P Go.Proofs.Ythngomhhimdolaa.R
set_option linter.unusedVariables false
def one64 (n : Int) : List S64 := [⟨1, n, ⟨#[]⟩⟩]
def liveL : List S68 := [⟨one64 1, 2, 1⟩, ⟨one64 2, 5, 1⟩, ⟨one64 2, 7, -1⟩, ⟨one64 2, 8, 1⟩]
theorem empty_list : (⟨#[]⟩ : ByteArray).toList = [] := by rw [toList_data]
theorem one_may (n : Int) : mayR (one64 n) = true := by
 unfold mayR one64
 simp [mayVs, mayV, empty_list]
theorem one_same (a b : Int) : sameR (one64 a) (one64 b) = decide (a = b) := by
 unfold one64
 simp [sameR, eqS]
 by_cases h : a = b <;> simp [h]
theorem live_ok : okRows liveL := by
 intro x hx
 unfold liveL at hx
 simp at hx
 rcases hx with rfl | rfl | rfl | rfl <;> (unfold one64; simp)
theorem one_cmp (a b : Int) : cmpR (one64 a) (one64 b) = cmpI a b := by
 rw [cmpR_may (one_may a) (one_may b)]
 unfold one64
 rw [cmpL_cons]
 by_cases h : a = b
 ·subst h
  rw [if_pos (eqS_refl _), (cmpI_zero a a).2 rfl]; rfl
 ·rw [if_neg (fun h' => h ((eqS_iff _ _).1 h').2.1)]
  unfold cmpVs cmpV
  simp [mayV, empty_list]
theorem live_runs : runs liveL = [(one64 1, [⟨2, 1⟩]), (one64 2, [⟨5, 1⟩, ⟨7, -1⟩, ⟨8, 1⟩])] := by
 unfold liveL
 simp [runs_cons, runs_nil, takeRun, dropRun, one_same, jmp]
theorem live_may : mayE liveL = true := by
 unfold mayE
 rw [live_runs]
 simp [eachB, one_may, one_cmp, cmpI, mayJ, mayF]
 decide
theorem live_table : tableE liveL = true := by
 unfold tableE
 rw [live_runs]
 simp [eachB, one_may, one_cmp, cmpI, tableJ, leastJ, mayJ, mayF, leastF, mn]
 decide
theorem live_check (n : Int) (h1 : 1 ≤ n) (h2 : n ≤ 64) : checkE liveL n = 0 := by
 unfold checkE
 rw [if_pos live_may, if_neg (by omega), if_neg (by omega), if_pos live_table]
theorem live_rises : rises liveL = [⟨one64 1, 2, 1⟩, ⟨one64 2, 5, 1⟩, ⟨one64 2, 8, 1⟩] := by
 unfold liveL rises
 simp [risesB]
theorem live_starts : startsL liveL = [2, 5, 8] := by
 rw [← starts_ref, live_rises]
 decide
theorem live_open : openE liveL 2 6 = (5, 0) := by
 unfold openE
 rw [if_pos (live_check 2 (by decide) (by decide)), live_starts]
 decide
theorem live_window1 : windowF 2 6 (rises liveL) = [⟨one64 1, 1⟩, ⟨one64 2, 1⟩] := by
 rw [live_rises]
 simp [windowF, stepW, rd_T70, one_same]
theorem live_window2 : windowF 5 9 (rises liveL) = [⟨one64 2, 2⟩] := by
 rw [live_rises]
 have h2 : wrap64 2 = 2 := wrap_in (by omega) (by omega)
 simp [windowF, stepW, rd_T70, one_same, h2]
theorem live_part (fs : List Int) (a b : Int) (h1 : rd fs 0 = a) (h2 : rd fs ((2 - 1 : Nat) : Int) + 1 = b) (hb : 0 ≤ b ∧ b < 1000) : partW liveL fs 2 = ⟨⟨a, b⟩, windowF a b (rises liveL)⟩ := by
 unfold partW
 rw [h1, h2, wrap_in (x := b) (by omega) (by omega)]
theorem live_parts : counts_Parts.f liveL 2 0 = some ([⟨⟨2, 6⟩, [⟨one64 1, 1⟩, ⟨one64 2, 1⟩]⟩, ⟨⟨5, 9⟩, [⟨one64 2, 2⟩]⟩], 0) := by
 unfold counts_Parts.f
 rw [counts_may_eq live_ok 2 1 (by decide), live_check 2 (by decide) (by decide), Option.bind_some, if_pos rfl, if_pos ⟨live_ok, by decide, by decide, by decide⟩]
 have hf : firstF liveL 0 = [2, 5, 8] := by unfold firstF; rw [live_starts]; decide
 have hg : counts_Parts.g liveL 2 0 = (0, partsF liveL 2 [2, 5, 8]) := by
  unfold counts_Parts.g
  rw [if_neg (by decide), hf, if_neg (by decide)]; rfl
 have hp : partsF liveL 2 [2, 5, 8] = [⟨⟨2, 6⟩, windowF 2 6 (rises liveL)⟩, ⟨⟨5, 9⟩, windowF 5 9 (rises liveL)⟩] := by
  rw [partsF_long _ _ _ (by decide) (by decide), live_part [2, 5, 8] 2 6 rfl (by decide) (by decide)]
  show _ :: partsF liveL 2 [5, 8] = _
  rw [partsF_long _ _ _ (by decide) (by decide), live_part [5, 8] 5 9 rfl (by decide) (by decide)]
  show _ :: _ :: partsF liveL 2 [8] = _
  rw [partsF_short _ _ _ (by decide)]
 rw [hg, hp, live_window1, live_window2]
theorem live29 (k : Nat) (hk : 6000 < k) : rescindlaw29_live.f k = some true := by
 unfold rescindlaw29_live.f
 simp only [Option.bind_some]
 show (counts_Starts.f k liveL).bind _ = _
 rw [counts_Starts_eq live_ok k (by omega), Option.bind_some]
 show (counts_Open.f k liveL 2 6).bind _ = _
 rw [counts_Open_eq live_ok 2 6 k hk, Option.bind_some, live_open]
 show (counts_Parts.f liveL 2 0).bind _ = _
 rw [live_parts, Option.bind_some]
 unfold startsE
 rw [if_pos (live_check 1 (by decide) (by decide)), live_starts]
 rfl
end Go.Proofs.Ythngomhhimdolaa.H
end
section
namespace Go.Proofs.Ythngomhhimdolaa.H
open Go.RowKit Go.Shelf Go.Proofs.YthngomhhimdolaaW.PrintWords Go.Proofs.YthngomhhimdolaaW.PrintLast Go.Proofs.YthngomhhimdolaaW.PrintMore Go.Proofs.Ythngomhhimdolaa.P Go.Proofs.Ythngomhhimdolaa.R
set_option linter.unusedVariables false
set_option linter.unusedSimpArgs false
theorem okRows_le' {l : List S68} (h : okRows l) : rowsLe 4398046511104 l := fun x hx => by have := h x hx; omega
theorem tick_eq (t : Int) : rescindref02_Tick.f t = some (decide (0 ≤ t ∧ t ≤ 1125899906842624)) := by
 unfold rescindref02_Tick.f
 by_cases a : t ≥ 0
 ·rw [if_pos a]; congr 1; rw [decide_eq_decide]; exact ⟨fun b => ⟨a, b⟩, fun b => b.2⟩
 ·rw [if_neg a, decide_eq_false (by omega)]
set_option maxHeartbeats 4000000 in
set_option maxRecDepth 100000 in
theorem refParts_err (k : Nat) (A : Option Addr) (c : Nat) (l : List S68) (n frm ev : Int) (w : World) (hc : l.length ≤ c) (hl : Kd.C k68 w A l.length l) (hck : rescindref29_check.f k l n = some ev) (he : ev ≠ 0) :
  Calls Try.prog 22 #[.slice A l.length c, .int .i64 n, .int .i64 frm] w fun e w' => e = .returned (.tuple #[.slice none 0 0, .int .i64 ev]) ∧ Below w.heap.size w w' := by
 have HCK := Lib.hid (rescindref29_check.calls k A c l n ev w hl hc hck)
 have hb0 : (ev == 0) = false := beq_eq_false_iff_ne.mpr he
 have hb1 : (ev != 0) = true := bne_iff_ne.mpr he
 clear hl hck
 go_enter Try.func22, Try.ntmps22
 go_wp2_with fail
 refine HCK.out.mono ?_
 rintro e w1 ⟨rfl, hb2⟩
 go_wp2_with fail
 go_ret2
 exact ⟨by simp, hb2⟩
set_option maxHeartbeats 4000000 in
set_option maxRecDepth 100000 in
theorem refParts_tick (k : Nat) (A : Option Addr) (c : Nat) (l : List S68) (n frm : Int) (w : World) (hc : l.length ≤ c) (hl : Kd.C k68 w A l.length l) (hck : rescindref29_check.f k l n = some 0) (ht : rescindref02_Tick.f frm = some false) :
  Calls Try.prog 22 #[.slice A l.length c, .int .i64 n, .int .i64 frm] w fun e w' => e = .returned (.tuple #[.slice none 0 0, .int .i64 13]) ∧ Below w.heap.size w w' := by
 have HCK := Lib.hid (rescindref29_check.calls k A c l n 0 w hl hc hck)
 have HT := Lib.hid ht
 clear hl hck ht
 go_enter Try.func22, Try.ntmps22
 go_wp2_with fail
 refine HCK.out.mono ?_
 rintro e w1 ⟨rfl, hb2⟩
 go_wp2_with fail
 refine (rescindref02_Tick.calls frm false w1 HT.out).mono ?_
 rintro e w2 ⟨rfl, ⟨nd, rfl⟩⟩
 go_wp2_with fail
 go_ret2
 exact ⟨by simp, below_dn hb2 nd⟩
theorem C_none {α : Type} (d : Kd α) (w : World) : Kd.C d w none 0 [] := ⟨rfl, Nat.zero_le _, fun h => absurd h (Nat.lt_irrefl 0)⟩
theorem refParts_calls (A : Option Addr) (c : Nat) (l : List S68) (n frm : Int) (w : World) (hc : l.length ≤ c) (hl : Kd.C k68 w A l.length l) (hr : okRows l) (h60 : l.length ≤ 60) :
  Calls Try.prog 22 #[.slice A l.length c, .int .i64 n, .int .i64 frm] w fun e w' => ∃ A' c', e = .returned (.tuple #[.slice A' (partsE l n frm).1.length c', .int .i64 (partsE l n frm).2]) ∧ (partsE l n frm).1.length ≤ c' ∧ Kd.C k52 w' A' (partsE l n frm).1.length (partsE l n frm).1 ∧ Below w.heap.size w w' := by
 have hm := okRows_le' hr
 obtain ⟨R, hR⟩ : ∃ R, R = roundsOf 4398046511104 := ⟨_, rfl⟩
 obtain ⟨k, hk⟩ : ∃ k, k = 50000 + R := ⟨_, rfl⟩
 have hck : ∀ n, rescindref29_check.f k l n = some (checkE l n) := fun n => ref29_check hm (by decide) n k (by rw [← hR]; omega)
 unfold partsE
 by_cases h : checkE l n = 0
 ·obtain ⟨h1, h2, h3, h4⟩ := checkE_zero h
  rw [if_pos h]
  by_cases hf : 0 ≤ frm ∧ frm ≤ 1125899906842624
  ·rw [if_pos hf]
   have hn : (n.toNat : Int) = n := by omega
   have hsl := startsL_len l
   have hrl : (rowsOf l).length ≤ 60 := by have := rowsOf_len l []; unfold rowsOf; simp at this; omega
   have hst : rescindref29_Starts.f k l = some (startsL l, 0) := by
    rw [ref29_Starts hm (by decide) k (by rw [← hR]; omega)]
    unfold startsE
    rw [if_pos (checkE_one h)]
   have hrw : rescindref10_Rows.f k l = some (rowsOf l) := Rows_big hm (by decide) (by omega) k (by rw [← hR]; omega)
   have hj : ∀ r, rescindref10_Jumps.f k l r = some (jumpsOf l r) := fun r => Jumps_big hm (by decide) (by omega) r k (by rw [← hR]; omega)
   have hc0 := hck n
   rw [h, ← hn] at hc0
   have := refParts_walk k A c l n.toNat frm w hc hl h60 (by omega) (by omega) hc0 (by rw [tick_eq, decide_eq_true hf]) (startsL l) hst (by omega) (rowsOf l) hrw hrl rfl hj
   rw [hn] at this
   refine this.mono ?_
   rintro e w' ⟨v, rfl, hN, hb⟩
   obtain ⟨A', c', rfl, hcc, hC⟩ := Kd.N_reads hN
   exact ⟨A', c', rfl, hcc, hC, hb⟩
  ·rw [if_neg hf]
   have hc0 := hck n
   rw [h] at hc0
   refine (refParts_tick k A c l n frm w hc hl hc0 (by rw [tick_eq, decide_eq_false hf])).mono ?_
   rintro e w' ⟨rfl, hb⟩
   exact ⟨none, 0, rfl, Nat.le_refl _, C_none _ _, hb⟩
 ·rw [if_neg h]
  refine (refParts_err k A c l n frm _ w hc hl (hck n) h).mono ?_
  rintro e w' ⟨rfl, hb⟩
  exact ⟨none, 0, rfl, Nat.le_refl _, C_none _ _, hb⟩
end Go.Proofs.Ythngomhhimdolaa.H
end
section
namespace Go.Proofs.Ythngomhhimdolaa.H
open Go.RowKit Go.Shelf Go.Proofs.YthngomhhimdolaaW.PrintWords Go.Proofs.YthngomhhimdolaaW.PrintLast Go.Proofs.YthngomhhimdolaaW.PrintMore Go.Proofs.Ythngomhhimdolaa.P Go.Proofs.Ythngomhhimdolaa.R
set_option linter.unusedVariables false
set_option linter.unusedSimpArgs false
set_option maxHeartbeats 4000000 in
set_option maxRecDepth 100000 in
theorem CountsParts_calls (A : Option Addr) (c : Nat) (l : List S68) (n frm : Int) (w : World) (hl : Kd.C k68 w A l.length l) (hc : l.length ≤ c) (hr : okRows l) :
  Calls Try.prog 4 #[.slice A l.length c, .int .i64 n, .int .i64 frm] w fun e w' => e = .returned (.bool true) ∧ Below w.heap.size w w' := by
 have HL := Lib.hid hl
 have HLV : ∀ w, Hid (Calls Try.prog 16 #[] w fun e w' => e = .returned (.bool true) ∧ Below w.heap.size w w') := fun w => Lib.hid (rescindlaw29_live.calls 6001 true w (live29 6001 (by decide)))
 have HLL := Lib.hid HLV
 clear HLV
 by_cases hf : (l.length : Int) ≤ 60
 ·have HFE := Lib.hid (rescindlaw29_few.calls A c l true w hl hc (by unfold rescindlaw29_few.f; rw [decide_eq_true hf]))
  have h60 : l.length ≤ 60 := by omega
  obtain ⟨P, E, hPE⟩ : ∃ P E, partsE l n frm = (P, E) := ⟨_, _, rfl⟩
  have h1 := counts_Parts_eq hr h60 n frm
  rw [hPE] at h1
  have H1 := Lib.hid h1
  have h3 : rescindref27_Same.f 4398046600000 P P = some true := by
   have := partsE_same hr h60 n frm 4398046600000 (by decide)
   rwa [hPE] at this
  have H3 := Lib.hid h3
  have H2 : Hid (∀ w, Kd.C k68 w A l.length l → Calls Try.prog 22 #[.slice A l.length c, .int .i64 n, .int .i64 frm] w fun e w' => ∃ A' c', e = .returned (.tuple #[.slice A' P.length c', .int .i64 E]) ∧ P.length ≤ c' ∧ Kd.C k52 w' A' P.length P ∧ Below w.heap.size w w') := Lib.hid (fun w hl => by
   have := refParts_calls A c l n frm w hc hl hr h60
   rwa [hPE] at this)
  clear hl hf h1 h3 hPE h60 hr
  go_enter Try.func4, Try.ntmps4
  go_wp2_with fail
  refine HFE.out.mono ?_
  rintro e w1 ⟨rfl, ⟨nd, rfl⟩⟩
  have HB1 : Hid (Below w.heap.size w (w.drewN nd)) := Lib.hid (below_dn (Below.refl _ _) nd)
  go_wp2_with fail
  refine (counts_Parts.calls A c l n frm P E _ (Kd.C_below HL.out HB1.out) hc H1.out).mono ?_
  rintro e w2 ⟨v2, rfl, hR2, hb2⟩
  have HB2 := Lib.hid (HB1.out.trans (hb2.mono HB1.out.size))
  obtain ⟨A2, c2, rfl, hc2, hC2⟩ := Kd.R_reads hR2
  have HC2 := Lib.hid hC2
  have HCC2 := Lib.hid hc2
  clear hR2 hb2 hC2 hc2
  go_wp2_with fail
  refine (H2.out w2 (Kd.C_below HL.out HB2.out)).mono ?_
  rintro e w3 ⟨A3, c3, rfl, hc3, hC3, hb3⟩
  have HB3 := Lib.hid (HB2.out.trans (hb3.mono HB2.out.size))
  have HC3 := Lib.hid hC3
  have HCC3 := Lib.hid hc3
  have HC23 := Lib.hid (Kd.C_below HC2.out hb3)
  clear hc3 hC3 hb3
  go_wp2_with fail
  refine (HLL.out w3).out.mono ?_
  rintro e w4 ⟨rfl, hb4⟩
  have HB4 := Lib.hid (HB3.out.trans (hb4.mono HB3.out.size))
  have HC24 := Lib.hid (Kd.C_below HC23.out hb4)
  have HC34 := Lib.hid (Kd.C_below HC3.out hb4)
  clear hb4
  go_wp2_with fail
  refine (rescindref27_Same.calls 4398046600000 A2 c2 P A3 c3 P true w4 HC24.out HCC2.out HC34.out HCC3.out H3.out).mono ?_
  rintro e w5 ⟨rfl, ⟨nd5, rfl⟩⟩
  go_wp2_with fail
  go_ret
  exact ⟨by simp, below_dn HB4.out nd5⟩
 ·have HFE := Lib.hid (rescindlaw29_few.calls A c l false w hl hc (by unfold rescindlaw29_few.f; rw [decide_eq_false hf]))
  clear hl hf hr
  go_enter Try.func4, Try.ntmps4
  go_wp2_with fail
  refine HFE.out.mono ?_
  rintro e w1 ⟨rfl, ⟨nd, rfl⟩⟩
  have HB1 : Hid (Below w.heap.size w (w.drewN nd)) := Lib.hid (below_dn (Below.refl _ _) nd)
  go_wp2_with fail
  refine (HLL.out _).out.mono ?_
  rintro e w4 ⟨rfl, hb4⟩
  have HB4 := Lib.hid (HB1.out.trans (hb4.mono HB1.out.size))
  go_wp2_with fail
  go_ret
  exact ⟨by simp, HB4.out⟩
end Go.Proofs.Ythngomhhimdolaa.H
end
section
namespace Go.Proofs.Ythngomhhimdolaa.H
open Go.RowKit Go.Shelf Go.Proofs.YthngomhhimdolaaW.PrintWords Go.Proofs.YthngomhhimdolaaW.PrintLast Go.Proofs.YthngomhhimdolaaW.PrintMore Go.Proofs.Ythngomhhimdolaa.P Go.Proofs.Ythngomhhimdolaa.R
open Go.ChangeShapes Go.WideShapes Go.Deep
set_option linter.unusedVariables false
section
variable {H : Type} {enc : TypeId × Value → H} {W : World} {base : Nat} {spare : Nat → Bool} {held : Bool}
theorem size3 : Try.prog.cellsOf 3 = 1 := by kernel_rfl
theorem size9 : Try.prog.cellsOf 9 = 1 := by kernel_rfl
theorem size62 : Try.prog.cellsOf 62 = 1 := by kernel_rfl
theorem size64 : Try.prog.cellsOf 64 = 3 := by kernel_rfl
theorem size66 : Try.prog.cellsOf 66 = 1 := by kernel_rfl
theorem size68 : Try.prog.cellsOf 68 = 3 := by kernel_rfl
theorem bytes64 : Try.prog.bytesOf 64 = 32 := by kernel_rfl
theorem three {α : Type} {l : List α} (h : l.length = 3) : ∃ a b c, l = [a, b, c] := by
 match l, h with
 | [a, b, c], _ => exact ⟨a, b, c, rfl⟩
theorem open64 {n : Nat} {cs : List Value} {x : DataW H × List MemPlace} (h : DataW.trod enc Try.prog W base spare held n 64 cs = some x) : ∃ y : S64, k64.K W y cs := by
 obtain ⟨y0, y1, y2, m, rfl, hl, h0, h1, h2⟩ := trod_struct3 Try.underlying64 h
 rw [size64] at hl
 obtain ⟨a, b, c, rfl⟩ := three hl
 simp only [size62, size3, size9, List.drop_zero, List.drop_succ_cons, List.take_succ_cons, List.take_zero] at h0 h1 h2
 obtain ⟨i0, e0, _⟩ := DataW.trod_int Try.underlying62 h0
 obtain ⟨i1, e1, _⟩ := DataW.trod_int Try.underlying3 h1
 obtain ⟨s, e2, _⟩ := DataW.trod_string Try.underlying9 h2
 injection e0 with e0; injection e1 with e1; injection e2 with e2
 subst e0; subst e1; subst e2
 exact ⟨⟨i0, i1, s⟩, k64_mk W ⟨i0, i1, s⟩⟩
theorem open_list {α : Type} (d : Kd α) (z : α) {t e : TypeId} (ht : Try.prog.underlying t = some (.slice e)) (hs : Try.prog.cellsOf e = d.sz) (Q : α → DataW H → Prop)
  (hel : ∀ n cs x, DataW.trod enc Try.prog W base spare held n e cs = some x → ∃ y, d.K W y cs ∧ Q y x.1) {fuel : Nat} {v : Value} {x : DataW H × List MemPlace} (h : DataW.trod enc Try.prog W base spare held fuel t [v] = some x) :
  ∃ (A : Option Addr) (c : Nat) (ys : List α) (E R : List (DataW H)), v = .slice A ys.length c ∧ ys.length ≤ c ∧ Kd.C d W A ys.length ys ∧ (x.1 = .nil ∧ ys = [] ∨ x.1 = .slice E R ∧ E.length = ys.length ∧ ∀ (i : Nat) (y : α), ys[i]? = some y → ∃ D : DataW H, E[i]? = some D ∧ Q y D) := by
 rcases open_slice ht h with ⟨hcs, rfl⟩ | ⟨a, len, cap, m, n, D, Pl, hcs, hb, hl, hm, hmm, rfl, hx⟩
 ·injection hcs with hcs
  subst hcs
  exact ⟨none, 0, [], [], [], rfl, Nat.le_refl _, ⟨rfl, Nat.zero_le _, fun h => absurd h (Nat.lt_irrefl 0)⟩, .inl ⟨rfl, rfl⟩⟩
 ·injection hcs with hcs
  subst hcs
  have hlm : len ≤ m := by rw [hmm]; split; exact hl; exact Nat.le_refl _
  letI : Inhabited α := ⟨z⟩
  obtain ⟨Y, hY⟩ := choose_lt (α := α) (n := len) (p := fun i y => ∃ cs', d.K W y cs' ∧ Q y (D i) ∧ ∀ j u, cs'[j]? = some u → W.cell? (a.add (i * d.sz + j)) = some u) (fun i hi => by
   obtain ⟨cs', h1, h2⟩ := hx i (by omega)
   obtain ⟨y, hy, hq⟩ := hel _ _ _ h2
   obtain ⟨_, hlen, hcell⟩ := World.cells?_some h1
   refine ⟨y, cs', hy, hq, fun j u hu => ?_⟩
   have hj : j < Try.prog.cellsOf e := by
    rw [← hlen]; exact (List.getElem?_eq_some_iff.1 hu).1
   have := hcell j hj
   rw [hu, Deep.add_add, hs] at this
   exact this)
  have hlen : ((List.range len).map Y).length = len := by simp
  have hget : ∀ (i : Nat) (y : α), ((List.range len).map Y)[i]? = some y → i < len ∧ y = Y i := fun i y hi => by
   have h1 : i < len := by have := (List.getElem?_eq_some_iff.1 hi).1; simpa using this
   refine ⟨h1, ?_⟩
   rw [List.getElem?_map, List.getElem?_range h1] at hi
   exact (Option.some.inj hi).symm
  refine ⟨some a, cap, (List.range len).map Y, (List.range len).map D, (List.range (m - len)).map (fun j => D (len + j)), by rw [hlen], by rw [hlen]; exact hl, ?_, .inr ⟨rfl, by simp, fun i y hi => ?_⟩⟩
  ·rw [hlen]
   refine ⟨hlen, ?_, fun _ => ⟨a, rfl, fun j p hj => ?_⟩⟩
   ·have : maxLen ≤ 9223372036854775807 := by decide
    omega
   ·obtain ⟨h1, rfl⟩ := hget j p hj
    obtain ⟨cs', k1, _, k3⟩ := hY j h1
    exact ⟨cs', d.K_len k1, k1, k3⟩
  ·obtain ⟨h1, rfl⟩ := hget i y hi
   obtain ⟨cs', _, k2, _⟩ := hY i h1
   refine ⟨D i, ?_, k2⟩
   rw [List.getElem?_map, List.getElem?_range h1]; rfl
def rowQ (y : S68) (D : DataW H) : Prop := y.f0 = [] ∨ ∃ E R l1 l2, D = .agg [.slice E R, l1, l2] ∧ E.length = y.f0.length
theorem open68 {n : Nat} {cs : List Value} {x : DataW H × List MemPlace} (h : DataW.trod enc Try.prog W base spare held n 68 cs = some x) : ∃ y : S68, k68.K W y cs ∧ rowQ y x.1 := by
 obtain ⟨y0, y1, y2, m, rfl, hl, h0, h1, h2⟩ := trod_struct3 Try.underlying68 h
 rw [size68] at hl
 obtain ⟨a, b, c, rfl⟩ := three hl
 simp only [size66, size3, List.drop_zero, List.drop_succ_cons, List.take_succ_cons, List.take_zero] at h0 h1 h2
 obtain ⟨A, cp, r, E, R, rfl, hc, hC, hE⟩ := open_list k64 z64 Try.underlying66 size64 (fun _ _ => True) (fun n cs x h => by obtain ⟨y, hy⟩ := open64 h; exact ⟨y, hy, trivial⟩) h0
 obtain ⟨i1, e1, _⟩ := DataW.trod_int Try.underlying3 h1
 obtain ⟨i2, e2, _⟩ := DataW.trod_int Try.underlying3 h2
 injection e1 with e1; injection e2 with e2
 subst e1; subst e2
 refine ⟨⟨r, i1, i2⟩, k68_mk W ⟨r, i1, i2⟩ hc hC, ?_⟩
 rcases hE with ⟨_, h⟩ | ⟨h, hl, _⟩
 ·exact .inl h
 ·refine .inr ⟨E, R, y1.1, y2.1, ?_, hl⟩
  show DataW.agg [y0.1, y1.1, y2.1] = _
  rw [h]
theorem weightsAll_mem {e : TypeId} : ∀ {E : List (DataW H)} {i : Nat} {D : DataW H}, E[i]? = some D → ∀ n ∈ D.weights Try.prog e, n ∈ DataW.weightsAll Try.prog e E
 | [], i, D, h, n, hn => by simp at h
 | x :: xs, 0, D, h, n, hn => by
  rw [DataW.weightsAll]
  have : x = D := by simpa using h
  rw [this]; exact List.mem_append_left _ hn
 | x :: xs, i + 1, D, h, n, hn => by
  rw [DataW.weightsAll]
  exact List.mem_append_right _ (weightsAll_mem (by simpa using h) n hn)
theorem open_edges {v : Value} {d : DataW H} {ps : List MemPlace} {ts : List TypeId} {ds : List (DataW H)} {j : Nat}
  (hsz : (DataW.weightsEach Try.prog ts ds).all (· ≤ reachBytes) = true) (ht : ts[j]? = some 22) (hd : ds[j]? = some d) (h : DataW.Trod enc Try.prog W base spare held 22 v d ps) :
  v.cells.toList = [v] → ∃ (A : Option Addr) (c : Nat) (l : List S68), v = .slice A l.length c ∧ l.length ≤ c ∧ Kd.C k68 W A l.length l ∧ okRows l := by
 intro hv
 obtain ⟨fuel, hf⟩ := h
 rw [hv] at hf
 obtain ⟨A, c, l, E, R, rfl, hc, hC, hE⟩ := open_list k68 z68 Try.underlying22 size68 rowQ (fun n cs x h => open68 h) hf
 refine ⟨A, c, l, rfl, hc, hC, fun x hx => ?_⟩
 obtain ⟨i, hi, rfl⟩ := List.mem_iff_getElem.1 hx
 rcases hE with ⟨_, rfl⟩ | ⟨hd', hl, hq⟩
 ·simp at hi
 ·have hd2 : d = .slice E R := hd'
  subst hd2
  obtain ⟨D, hD, hQ⟩ := hq i _ (List.getElem?_eq_getElem hi)
  rcases hQ with h0 | ⟨E', R', l1, l2, rfl, hlen⟩
  ·rw [h0]; simp
  ·have hw : (E'.length + R'.length) * 32 ∈ DataW.weightsEach Try.prog ts ds := by
    refine DataW.weights_mem_each ht hd _ ?_
    rw [DataW.weights, Try.underlying22]
    refine List.mem_cons_of_mem _ (List.mem_append_left _ (weightsAll_mem hD _ ?_))
    rw [DataW.weights, Try.underlying68]
    show _ ∈ DataW.weightsEach Try.prog [66, 3, 3] [.slice E' R', l1, l2]
    rw [DataW.weightsEach]
    refine List.mem_append_left _ ?_
    rw [DataW.weights, Try.underlying66]
    show _ ∈ (E'.length + R'.length) * Try.prog.bytesOf 64 :: _
    rw [bytes64]
    exact List.mem_cons_self
   have := List.all_eq_true.1 hsz _ hw
   have h2 : (E'.length + R'.length) * 32 ≤ reachBytes := by simpa using this
   have h3 : reachBytes = 140737488351232 := by decide
   rw [h3] at h2
   omega
end
end Go.Proofs.Ythngomhhimdolaa.H
end
section
namespace Go.Proofs.Ythngomhhimdolaa.countsParts
open Go.ChangeShapes Go.WideShapes Go.ChangeAt Go.RowKit
open Go.ChangeMaps (open_string shut_string)
set_option linter.unusedVariables false
theorem own : ownKnob Try.prog.godebug = none := by kernel_rfl
theorem laidOut : laidOutB Try.prog = true := by kernel_rfl
set_option maxHeartbeats 2000000 in
set_option maxRecDepth 100000 in
theorem lifted (os : Os) (started : os.Started) (H : Type) (enc : TypeId × Value → H) :
  ReturnsInHanded {} Try.checked os 4 .any (Rows.countsPartsSpec.pre6 enc Try.prog Try.f4 Rows.countsPartsRow.domain false) (Rows.countsPartsSpec.post enc Try.prog Try.f4 false true false false) := by
 refine returnsInHanded_of_change_sized (C := Try.checked) own started (by kernel_rfl) Try.func4
  (ChangeSpec.witness6 (enc := enc) (C := Try.checked) false ⟨#[], #[.slice none 0 0, .int .i64 0, .int .i64 0], []⟩ 8 (by kernel_rfl) (by kernel_rfl) (by kernel_rfl) (by kernel_rfl)) ?_
 intro W base args ds gs before hval0 hW hcnd hsz0 _
 have hsz : (DataW.weightsEach Try.prog (Try.f4.params.toList ++ Rows.countsPartsSpec.plain.varTypes Try.prog) (ds ++ gs)).all (· ≤ reachBytes) = true := hsz0
 have hval : ∀ (j : Nat) t v, Try.f4.params[j]? = some t → args[j]? = some v → Value.okWide Try.prog W .any base t v := hval0
 have hW' := hW
 obtain ⟨p, q, hA0, hV, rfl, hfz, hnd⟩ := hW
 have hA : DataW.TrodAll enc Try.prog W 0 (fun _ => true) true Try.f4.params.toList args.toList ds p := hA0
 rw [Try.params4] at hA hval hsz
 obtain ⟨v0, vs0, d0, ds0, p0, q0, hargs, rfl, rfl, h0, r0⟩ := trodAll_cons hA
 obtain ⟨v1, vs1, d1, ds1, p1, q1, rfl, rfl, rfl, h1, r1⟩ := trodAll_cons r0
 obtain ⟨v2, vs2, d2, ds2, p2, q2, rfl, rfl, rfl, h2, r2⟩ := trodAll_cons r1
 obtain ⟨rfl, rfl, rfl⟩ := trodAll_nil r2
 obtain rfl : args = #[v0, v1, v2] := by cases args; simp_all
 obtain ⟨rfl, rfl⟩ := trodVars_none hV
 have k0 := h0
 have lt0 : ∀ x ∈ p0, x.block < W.heap.size := by obtain ⟨m, hm⟩ := k0; exact DataW.trod_lt m _ _ _ hm
 obtain ⟨A', len', cap', rfl⟩ := okWide_slice Try.underlying22 (hval 0 22 v0 rfl rfl)
 obtain ⟨A, c, l, hv, hc, hC, hok⟩ := Ythngomhhimdolaa.H.open_edges hsz (j := 0) rfl rfl h0 rfl
 obtain ⟨rfl, rfl, rfl⟩ : A' = A ∧ len' = l.length ∧ cap' = c := by injection hv with a b c; exact ⟨a, b, c⟩
 clear hv
 obtain ⟨a1, rfl, rfl, rfl, w1⟩ := open_int Try.underlying3 (hval 1 3 v1 rfl rfl) h1
 obtain ⟨a2, rfl, rfl, rfl, w2⟩ := open_int Try.underlying3 (hval 2 3 v2 rfl rfl) h2
 clear hA0 hval0 hsz0 hsz
 refine (Ythngomhhimdolaa.H.CountsParts_calls A' cap' l a1 a2 W hC hc hok).mono fun e W' ⟨he, bel⟩ => ?_
 subst he
 exact ⟨_, rfl, _, _, _, [], _, [], hW', trodAll_mk1 (shut_bool Try.underlying4 _), (trodAll_cons_mk (Below.trod laidOut (by kernel_rfl) (of_decide_eq_true (by kernel_rfl)) k0 bel lt0) (trodAll_cons_mk (shut_int Try.underlying3 w1) (trodAll_cons_mk (shut_int Try.underlying3 w2) trodAll_mk0))), rfl, bel.frame _, fun h => by cases h⟩
theorem over : Rows.countsPartsRow.holds Try.pinned (OpenSpec.ofChange Rows.countsPartsSpec) :=
 OpenClaim.holds_of_wide 4 Try.f4 rfl rfl rfl rfl rfl rfl rfl ⟨rfl, rfl, rfl, rfl, rfl⟩ rfl rfl rfl rfl rfl (by kernel_rfl) Try.func4 (by kernel_rfl)
  (of_decide_eq_true (by kernel_rfl)) (by unfold Func.isWrapper; first | (rw [if_pos (by decide +kernel)]; kernel_rfl) | (rw [if_neg (by decide +kernel)]; exact ⟨rfl, rfl⟩))
  (fun os started H enc _ => lifted os started H enc)
theorem proved : Rows.CountsPartsSaid := over
end Go.Proofs.Ythngomhhimdolaa.countsParts
namespace Go.Proofs.Ythngomhhimdolaa
theorem countsParts_holds : Rows.CountsPartsSaid := countsParts.proved
end Go.Proofs.Ythngomhhimdolaa
end
