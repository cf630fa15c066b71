/- A part of the proof: laws and walks that the last text uses: own texts, and what of the words and walks that the kit's print lays for a seat is used (cut and joined by wip/pack.py). -/
import Derived.Shelf.Small.Bits
import Derived.Shelf.Small.Strs
import Derived.Shelf.Small.Wraps
import Derived.Shelf.Strconv.Itoa0
import Derived.Shelf.Sort.Plain
import Derived.Ground.Names2Prog
import Derived.Shelf.Slices.CompactI
import Derived.Shelf.Slices.SearchI
import Derived.Shelf.Slices.Cells
import Derived.Shelf.Slices.In.SortNone
import Derived.Shelf.Slices.Empties
import Derived.Shelf.Abstract
import Derived.RangeFuncBox
import Derived.Shelf.RegionOpen
import Derived.OwnWalkIn
import Derived.TacticsInMore
import Derived.LoopNIn
import Derived.LoopIn
import Derived.Test.YthngomhhimdolaaS7
section
namespace Go.Proofs
open Go.Shelf
def Try.lays213_ren : Go.Shelf.Ren := ⟨fun | 213 => 146 | 265 => 147 | n => n, fun | 9 => 9 | 3 => 3 | n => n, fun | n => n⟩
open Go.RowKit in
def Try.lays106_ren : Go.Shelf.Ren := ⟨fun | 106 => 143 | 213 => 146 | 265 => 147 | n => n, fun | 9 => 9 | 3 => 3 | n => n, fun | n => n⟩
theorem Try.lays106 : Go.Proofs.Lays.n106 Try.prog Try.lays106_ren := {
 mixed := by kernel_rfl
 f106 := Try.func143.trans (congrArg some (by kernel_rfl))
 f213 := Try.func146.trans (congrArg some (by kernel_rfl))
 f265 := Try.func147.trans (congrArg some (by kernel_rfl))
 t3 := Try.underlying3
 a3 := Try.isAgg3
 z3 := Try.sizeOf3
 v3 := Try.zeroValue3
 t9 := Try.underlying9
 a9 := Try.isAgg9
 z9 := Try.sizeOf9
 v9 := Try.zeroValue9 }
open Go.RowKit in
theorem Try.strings_Compare (a b : ByteArray) (w : World) :
  Calls Try.prog 143 #[.string a, .string b] w fun e w' => e = .returned (.int .i64 (Lib.compareBytes a.data.toList b.data.toList)) ∧ w' = w := Any.strings_Compare Try.lays106 a b w
open Go.RowKit in
open Go.RowKit in
def Try.lays189_ren : Go.Shelf.Ren := ⟨fun | 189 => 61 | 125 => 96 | 257 => 95 | 128 => 124 | 129 => 125 | 294 => 116 | 295 => 117 | 296 => 118 | 297 => 119 | 298 => 120 | 299 => 121 | 216 => 82 | 300 => 122 | 301 => 123 | 328 => 136 | 329 => 137 | 330 => 138 | 331 => 139 | 332 => 140 | 215 => 112 | 343 => 144 | n => n, fun | 28 => 25 | 3 => 3 | 46 => 116 | 0 => 0 | 51 => 146 | 53 => 148 | 4 => 4 | 183 => 140 | 182 => 139 | 131 => 74 | 5 => 5 | 9 => 9 | 218 => 155 | 222 => 159 | 228 => 170 | 229 => 171 | n => n, fun | n => n⟩
theorem Try.lays189 : Go.Proofs.Lays.n189 Try.prog Try.lays189_ren := {
 mixed := by kernel_rfl
 f125 := Try.func96.trans (congrArg some (by kernel_rfl))
 f128 := Try.func124.trans (congrArg some (by kernel_rfl))
 f129 := Try.func125.trans (congrArg some (by kernel_rfl))
 f189 := Try.func61.trans (congrArg some (by kernel_rfl))
 f215 := Try.func112.trans (congrArg some (by kernel_rfl))
 f216 := Try.func82.trans (congrArg some (by kernel_rfl))
 f257 := Try.func95.trans (congrArg some (by kernel_rfl))
 f294 := Try.func116.trans (congrArg some (by kernel_rfl))
 f295 := Try.func117.trans (congrArg some (by kernel_rfl))
 f296 := Try.func118.trans (congrArg some (by kernel_rfl))
 f297 := Try.func119.trans (congrArg some (by kernel_rfl))
 f298 := Try.func120.trans (congrArg some (by kernel_rfl))
 f299 := Try.func121.trans (congrArg some (by kernel_rfl))
 f300 := Try.func122.trans (congrArg some (by kernel_rfl))
 f301 := Try.func123.trans (congrArg some (by kernel_rfl))
 f328 := Try.func136.trans (congrArg some (by kernel_rfl))
 f329 := Try.func137.trans (congrArg some (by kernel_rfl))
 f330 := Try.func138.trans (congrArg some (by kernel_rfl))
 f331 := Try.func139.trans (congrArg some (by kernel_rfl))
 f332 := Try.func140.trans (congrArg some (by kernel_rfl))
 f343 := Try.func144.trans (congrArg some (by kernel_rfl))
 t0 := Try.underlying0
 a0 := Try.isAgg0
 z0 := Try.sizeOf0
 v0 := Try.zeroValue0
 t3 := Try.underlying3
 a3 := Try.isAgg3
 z3 := Try.sizeOf3
 v3 := Try.zeroValue3
 t4 := Try.underlying4
 a4 := Try.isAgg4
 z4 := Try.sizeOf4
 v4 := Try.zeroValue4
 t5 := Try.underlying5
 a5 := Try.isAgg5
 z5 := Try.sizeOf5
 v5 := Try.zeroValue5
 t9 := Try.underlying9
 a9 := Try.isAgg9
 z9 := Try.sizeOf9
 v9 := Try.zeroValue9
 t28 := Try.underlying25
 a28 := Try.isAgg25
 z28 := Try.sizeOf25
 v28 := Try.zeroValue25
 t46 := Try.underlying116
 a46 := Try.isAgg116
 z46 := Try.sizeOf116
 v46 := Try.zeroValue116
 t51 := Try.underlying146
 a51 := Try.isAgg146
 z51 := Try.sizeOf146
 v51 := Try.zeroValue146
 t53 := Try.underlying148
 a53 := Try.isAgg148
 z53 := Try.sizeOf148
 v53 := Try.zeroValue148
 t131 := Try.underlying74
 a131 := Try.isAgg74
 z131 := Try.sizeOf74
 v131 := Try.zeroValue74
 t182 := Try.underlying139
 a182 := Try.isAgg139
 z182 := Try.sizeOf139
 v182 := Try.zeroValue139
 t183 := Try.underlying140
 a183 := Try.isAgg140
 z183 := Try.sizeOf140
 v183 := Try.zeroValue140
 t218 := Try.underlying155
 a218 := Try.isAgg155
 z218 := Try.sizeOf155
 v218 := Try.zeroValue155
 t222 := Try.underlying159
 a222 := Try.isAgg159
 z222 := Try.sizeOf159
 v222 := Try.zeroValue159
 t228 := Try.underlying170
 a228 := Try.isAgg170
 z228 := Try.sizeOf170
 v228 := Try.zeroValue170
 t229 := Try.underlying171
 a229 := Try.isAgg171
 z229 := Try.sizeOf171
 v229 := Try.zeroValue171 }
open Go.Sort Go.RowKit in
theorem Try.slices_Sort_int (blk off cap : Nat) (zs : List Int) (w : World) (hH : Holds (Value.int .i64) w blk off zs.toArray) (hblk : blk < w.heap.size) (hsz : zs.length < 4611686018427387904) :
  Calls Try.prog 61 #[.slice (some ⟨blk, off, none⟩) zs.length cap] w fun e w' =>
   e = .returned (.tuple #[]) ∧ ∃ n os, w' = grow (putRow (Value.int .i64) (Sort.ahead w n) blk off (zs.mergeSort fun x y => decide (x ≤ y)).toArray) os := Any.slices_Sort_int Try.lays189 blk off cap zs w hH hblk hsz
def Try.laysNm220_ren : Go.Shelf.Ren := ⟨fun | 20 => 81 | n => n, fun | 22 => 25 | 3 => 3 | 4 => 4 | 0 => 0 | n => n, fun | n => n⟩
theorem Try.laysNm220 : Go.Proofs.Lays2.n20 Try.prog Try.laysNm220_ren := {
 mixed := by kernel_rfl
 f20 := Try.func81.trans (congrArg some (by kernel_rfl))
 t0 := Try.underlying0
 a0 := Try.isAgg0
 z0 := Try.sizeOf0
 v0 := Try.zeroValue0
 t3 := Try.underlying3
 a3 := Try.isAgg3
 z3 := Try.sizeOf3
 v3 := Try.zeroValue3
 t4 := Try.underlying4
 a4 := Try.isAgg4
 z4 := Try.sizeOf4
 v4 := Try.zeroValue4
 t22 := Try.underlying25
 a22 := Try.isAgg25
 z22 := Try.sizeOf25
 v22 := Try.zeroValue25
 i3 := by kernel_rfl }
open Go.RowKit Go.Lib Go.Sort in
open Go.RowKit Go.Lib Go.Sort in
theorem Try.slices_Compact_int (blk off cap : Nat) (zs : List Int) (w : World) (hH : Holds (Value.int .i64) w blk off zs.toArray) (hsz : zs.length ≤ 9223372036854775807) (hcap : zs.length ≤ cap) :
  Calls Try.prog 81 #[.slice (some ⟨blk, off, none⟩) zs.length cap] w fun e w' => e = .returned (.slice (some ⟨blk, off, none⟩) (Lib.compact zs).length cap) ∧ ∃ q, w' = putRow (Value.int .i64) (Sort.ahead w q) blk off (Lib.compact zs ++ List.replicate (zs.length - (Lib.compact zs).length) 0).toArray := Any.slices_Compact_int Try.laysNm220 blk off cap zs w hH hsz hcap
open Go.RowKit Go.Lib Go.Sort in
theorem Try.slices_Compact_int_empty (a : Option Addr) (cap : Nat) (w : World) :
  Calls Try.prog 81 #[.slice a 0 cap] w fun e w' => e = .returned (.slice a 0 cap) ∧ w' = w := Any.slices_Compact_int_empty Try.laysNm220 a cap w
open Go.RowKit Go.Lib in
open Go.RowKit Go.Lib in
open Go.RowKit Go.Lib in
def Try.laysNm225_ren : Go.Shelf.Ren := ⟨fun | 25 => 46 | 31 => 82 | 32 => 83 | 37 => 112 | n => n, fun | 22 => 25 | 3 => 3 | 4 => 4 | 40 => 116 | 0 => 0 | n => n, fun | n => n⟩
theorem Try.laysNm225 : Go.Proofs.Lays2.n25 Try.prog Try.laysNm225_ren := {
 mixed := by kernel_rfl
 f25 := Try.func46.trans (congrArg some (by kernel_rfl))
 f31 := Try.func82.trans (congrArg some (by kernel_rfl))
 f32 := Try.func83.trans (congrArg some (by kernel_rfl))
 f37 := Try.func112.trans (congrArg some (by kernel_rfl))
 t0 := Try.underlying0
 a0 := Try.isAgg0
 z0 := Try.sizeOf0
 v0 := Try.zeroValue0
 t3 := Try.underlying3
 a3 := Try.isAgg3
 z3 := Try.sizeOf3
 v3 := Try.zeroValue3
 t4 := Try.underlying4
 a4 := Try.isAgg4
 z4 := Try.sizeOf4
 v4 := Try.zeroValue4
 t22 := Try.underlying25
 a22 := Try.isAgg25
 z22 := Try.sizeOf25
 v22 := Try.zeroValue25
 t40 := Try.underlying116
 a40 := Try.isAgg116
 z40 := Try.sizeOf116
 v40 := Try.zeroValue116 }
open Go.RowKit Go.Lib in
theorem Try.slices_BinarySearch_int (b off n c : Nat) (zs : List Int) (x : Int) (w : World) (hz : n ≤ zs.length) (hbig : n < 4611686018427387904) (hc : ∀ j, j < zs.length → w.cell? ⟨b, off + j, none⟩ = some (.int .i64 (zs.getD j 0))) (hs : (zs.take n).Pairwise (· ≤ ·)) :
  Calls Try.prog 46 #[.slice (some ⟨b, off, none⟩) n c, .int .i64 x] w fun e w' => e = .returned (.tuple #[.int .i64 ((zs.take n).countP (· < x) : Nat), .bool ((zs.take n).contains x)]) ∧ ∃ q, w' = w.drewN q := Any.slices_BinarySearch_int Try.laysNm225 b off n c zs x w hz hbig hc hs
open Go.RowKit Go.Lib Go.Sort in
open Go.RowKit Go.Sort in
theorem Try.slices_Sort_int_none (p : Option Addr) (cap : Nat) (w : World) :
  Calls Try.prog 61 #[.slice p 0 cap] w fun e w' => e = .returned (.tuple #[]) ∧ w' = w := Any.slices_Sort_int_none Try.lays189 p cap w
open Go.RowKit Go.Lib in
theorem Try.slices_BinarySearch_int_empty (a : Option Addr) (c : Nat) (x : Int) (w : World) :
  Calls Try.prog 46 #[.slice a 0 c, .int .i64 x] w fun e w' => e = .returned (.tuple #[.int .i64 0, .bool false]) ∧ w' = w := Any.slices_BinarySearch_int_empty Try.laysNm225 a c x w
end Go.Proofs
end
section
namespace Go.Proofs.Ythngomhhimdolaa.H
open Go.RowKit
set_option linter.unusedVariables false
set_option linter.unusedSimpArgs false
def cmpI (a b : Int) : Int := if a < b then -1 else if b < a then 1 else 0
def cmpV (k n : Int) (s : ByteArray) (k' n' : Int) (s' : ByteArray) : Int :=
 if mayV k n s = true ∧ mayV k' n' s' = true then
  if k = 1 then (if k' = 1 then cmpI n n' else -1) else if k' = 1 then 1 else Lib.compareBytes s.data.toList s'.data.toList
 else 0
set_option maxHeartbeats 1000000 in
theorem isNaN_num (a : Int) (w : World) : Calls Try.prog 145 #[.int .i64 a] w fun e w' => e = .returned (.bool false) ∧ w = w' := by
 go_enter Try.func145, Try.ntmps145
 go_wp2
 go_ret
 exact ⟨by simp, rfl⟩
set_option maxHeartbeats 1000000 in
theorem cmp_num (a b : Int) (w : World) : Calls Try.prog 142 #[.int .i64 a, .int .i64 b] w fun e w' => e = .returned (.int .i64 (cmpI a b)) ∧ w = w' := by
 unfold cmpI
 by_cases h1 : a < b
 ·have hb : decide (a < b) = true := decide_eq_true h1
  rw [if_pos h1]
  clear h1
  go_enter Try.func142, Try.ntmps142
  go_wp2_with (go_at_call 145; refine (isNaN_num _ _).mono ?_; rintro e w1 ⟨rfl, rfl⟩)
  go_ret
  exact ⟨rfl, rfl⟩
 ·have hb : decide (a < b) = false := decide_eq_false h1
  rw [if_neg h1]
  by_cases h2 : b < a
  ·have hc : decide (b < a) = true := decide_eq_true h2
   rw [if_pos h2]
   clear h1 h2
   go_enter Try.func142, Try.ntmps142
   go_wp2_with (go_at_call 145; refine (isNaN_num _ _).mono ?_; rintro e w1 ⟨rfl, rfl⟩)
   go_ret
   exact ⟨rfl, rfl⟩
  ·have hc : decide (b < a) = false := decide_eq_false h2
   rw [if_neg h2]
   clear h1 h2
   go_enter Try.func142, Try.ntmps142
   go_wp2_with (go_at_call 145; refine (isNaN_num _ _).mono ?_; rintro e w1 ⟨rfl, rfl⟩)
   go_ret
   exact ⟨rfl, rfl⟩
theorem cmpV_none1 {k n : Int} {s : ByteArray} {k' n' : Int} {s' : ByteArray} (h : mayV k n s = false) : cmpV k n s k' n' s' = 0 := by unfold cmpV; rw [if_neg (by simp [h])]
theorem cmpV_none2 {k n : Int} {s : ByteArray} {k' n' : Int} {s' : ByteArray} (h : mayV k' n' s' = false) : cmpV k n s k' n' s' = 0 := by unfold cmpV; rw [if_neg (by simp [h])]
theorem below_dn {B : Nat} {w W : World} (h : Below B w W) (n : Nat) : Below B w (W.drewN n) := ⟨h.os, h.tape, h.output, h.size, h.block⟩
theorem below_two {w w1 : World} {o o' : Obj} (h : Below ((w.alloc o).alloc o').heap.size ((w.alloc o).alloc o') w1) : Below w.heap.size w w1 := below_then' (below_then' h)
theorem below_more {w w1 w2 : World} (h : Below w.heap.size w w1) (k : Below w1.heap.size w1 w2) : Below w.heap.size w w2 := h.trans (k.mono h.size)
theorem bcell {W w1 : World} (hb : Below W.heap.size W w1) : (∀ b o, b < W.heap.size → w1.cell? ⟨b, o, none⟩ = W.cell? ⟨b, o, none⟩) ∧ (∀ b o, b < W.heap.size → w1.frozen? ⟨b, o, none⟩ = W.frozen? ⟨b, o, none⟩) :=
 ⟨fun b o h => hb.cell (p := ⟨b, o, none⟩) h, fun b o h => hb.frozen (p := ⟨b, o, none⟩) h⟩
set_option maxHeartbeats 2000000 in
theorem value_Compare_nn (n n' : Int) (s s' : ByteArray) (w : World) (hs : s.toList = []) (hs' : s'.toList = []) :
  Calls Try.prog 135 #[.agg #[.int .i64 1, .int .i64 n, .string s], .agg #[.int .i64 1, .int .i64 n', .string s']] w fun e w' => e = .returned (.int .i64 (cmpI n n')) ∧ Below w.heap.size w w' := by
 have H := Lib.hid hs
 have H' := Lib.hid hs'
 clear hs hs'
 have hta : ∀ (v : Value) (W : World), (Instr.typeAssert (.iface 165 v) 162 165 true).run Try.prog W = .ok (.tuple #[v, .bool true]) W := fun v W => by kernel_rfl
 go_enter Try.func135, Try.ntmps135
 go_wp2_with fail
 refine (of_num _ _ _ H.out).mono ?_
 rintro e w1 ⟨rfl, hb⟩
 obtain ⟨hc, hf⟩ := bcell hb
 go_wp2_with fail
 refine (of_num _ _ _ H'.out).mono ?_
 rintro e w2 ⟨rfl, hb2⟩
 obtain ⟨hc2, hf2⟩ := bcell hb2
 go_wp2_with (go_at_call 142; refine (cmp_num _ _ _).mono ?_; rintro e w1 ⟨rfl, rfl⟩)
 go_ret
 exact ⟨rfl, below_two (below_more hb hb2)⟩
set_option maxHeartbeats 2000000 in
theorem value_Compare_nt (n : Int) (s s' : ByteArray) (w : World) (hs : s.toList = []) (hs' : (s'.size : Int) ≤ 64) :
  Calls Try.prog 135 #[.agg #[.int .i64 1, .int .i64 n, .string s], .agg #[.int .i64 2, .int .i64 0, .string s']] w fun e w' => e = .returned (.int .i64 (-1)) ∧ Below w.heap.size w w' := by
 have H := Lib.hid hs
 have H' := Lib.hid hs'
 clear hs hs'
 have hta : ∀ (v : Value) (W : World), (Instr.typeAssert (.iface 165 v) 162 165 true).run Try.prog W = .ok (.tuple #[v, .bool true]) W := fun v W => by kernel_rfl
 have hta2 : ∀ (v : Value) (W : World), (Instr.typeAssert (.iface 169 v) 162 165 true).run Try.prog W = .ok (.tuple #[.int .i64 0, .bool false]) W := fun v W => by kernel_rfl
 go_enter Try.func135, Try.ntmps135
 go_wp2_with fail
 refine (of_num _ _ _ H.out).mono ?_
 rintro e w1 ⟨rfl, hb⟩
 obtain ⟨hc, hf⟩ := bcell hb
 go_wp2_with fail
 refine (of_text _ _ H'.out).mono ?_
 rintro e w2 ⟨rfl, hb2⟩
 obtain ⟨hc2, hf2⟩ := bcell hb2
 go_wp2
 go_ret
 exact ⟨rfl, below_two (below_more hb hb2)⟩
set_option maxHeartbeats 2000000 in
theorem value_Compare_tn (n' : Int) (s s' : ByteArray) (w : World) (hs : (s.size : Int) ≤ 64) (hs' : s'.toList = []) :
  Calls Try.prog 135 #[.agg #[.int .i64 2, .int .i64 0, .string s], .agg #[.int .i64 1, .int .i64 n', .string s']] w fun e w' => e = .returned (.int .i64 1) ∧ Below w.heap.size w w' := by
 have H := Lib.hid hs
 have H' := Lib.hid hs'
 clear hs hs'
 have hta : ∀ (v : Value) (W : World), (Instr.typeAssert (.iface 165 v) 162 165 true).run Try.prog W = .ok (.tuple #[v, .bool true]) W := fun v W => by kernel_rfl
 have hta2 : ∀ (v : Value) (W : World), (Instr.typeAssert (.iface 169 v) 162 165 true).run Try.prog W = .ok (.tuple #[.int .i64 0, .bool false]) W := fun v W => by kernel_rfl
 go_enter Try.func135, Try.ntmps135
 go_wp2_with fail
 refine (of_text _ _ H.out).mono ?_
 rintro e w1 ⟨rfl, hb⟩
 obtain ⟨hc, hf⟩ := bcell hb
 go_wp2_with fail
 refine (of_num _ _ _ H'.out).mono ?_
 rintro e w2 ⟨rfl, hb2⟩
 obtain ⟨hc2, hf2⟩ := bcell hb2
 go_wp2
 go_ret
 exact ⟨rfl, below_two (below_more hb hb2)⟩
set_option maxHeartbeats 2000000 in
theorem value_Compare_tt (s s' : ByteArray) (w : World) (hs : (s.size : Int) ≤ 64) (hs' : (s'.size : Int) ≤ 64) :
  Calls Try.prog 135 #[.agg #[.int .i64 2, .int .i64 0, .string s], .agg #[.int .i64 2, .int .i64 0, .string s']] w fun e w' => e = .returned (.int .i64 (Lib.compareBytes s.data.toList s'.data.toList)) ∧ Below w.heap.size w w' := by
 have H := Lib.hid hs
 have H' := Lib.hid hs'
 clear hs hs'
 have hta2 : ∀ (v : Value) (W : World), (Instr.typeAssert (.iface 169 v) 162 165 true).run Try.prog W = .ok (.tuple #[.int .i64 0, .bool false]) W := fun v W => by kernel_rfl
 have hta3 : ∀ (v : Value) (W : World), (Instr.typeAssert (.iface 169 v) 162 169 false).run Try.prog W = .ok v W := fun v W => by kernel_rfl
 go_enter Try.func135, Try.ntmps135
 go_wp2_with fail
 refine (of_text _ _ H.out).mono ?_
 rintro e w1 ⟨rfl, hb⟩
 obtain ⟨hc, hf⟩ := bcell hb
 go_wp2_with fail
 refine (of_text _ _ H'.out).mono ?_
 rintro e w2 ⟨rfl, hb2⟩
 obtain ⟨hc2, hf2⟩ := bcell hb2
 go_wp2_with fail
 go_quiet ((go_at_call 143; exact Calls.quiet_of_same ((Try.strings_Compare _ _ _).mono fun _ _ h => ⟨h.1, h.2⟩)))
 go_wp2
 go_ret
 exact ⟨rfl, below_dn (below_two (below_more hb hb2)) _⟩
set_option maxHeartbeats 2000000 in
theorem value_Compare_none1 (k n : Int) (s : ByteArray) (k' n' : Int) (s' : ByteArray) (w : World) (h : mayV k n s = false) :
  Calls Try.prog 135 #[.agg #[.int .i64 k, .int .i64 n, .string s], .agg #[.int .i64 k', .int .i64 n', .string s']] w fun e w' => e = .returned (.int .i64 0) ∧ Below w.heap.size w w' := by
 have H := Lib.hid h
 clear h
 cases h' : mayV k' n' s' with
 | false =>
  have H' := Lib.hid h'
  clear h'
  go_enter Try.func135, Try.ntmps135
  go_wp2_with fail
  refine (of_none _ _ _ _ H.out).mono ?_
  rintro e w1 ⟨rfl, hb⟩
  obtain ⟨hc, hf⟩ := bcell hb
  go_wp2_with fail
  refine (of_none _ _ _ _ H'.out).mono ?_
  rintro e w2 ⟨rfl, hb2⟩
  go_wp2
  go_ret
  exact ⟨rfl, below_two (below_more hb hb2)⟩
 | true =>
  rcases mayV_cases h' with ⟨rfl, hs⟩ | ⟨rfl, rfl, hs⟩
  ·have H' := Lib.hid hs
   clear h' hs
   go_enter Try.func135, Try.ntmps135
   go_wp2_with fail
   refine (of_none _ _ _ _ H.out).mono ?_
   rintro e w1 ⟨rfl, hb⟩
   obtain ⟨hc, hf⟩ := bcell hb
   go_wp2_with fail
   refine (of_num _ _ _ H'.out).mono ?_
   rintro e w2 ⟨rfl, hb2⟩
   go_wp2
   go_ret
   exact ⟨rfl, below_two (below_more hb hb2)⟩
  ·have H' := Lib.hid hs
   clear h' hs
   go_enter Try.func135, Try.ntmps135
   go_wp2_with fail
   refine (of_none _ _ _ _ H.out).mono ?_
   rintro e w1 ⟨rfl, hb⟩
   obtain ⟨hc, hf⟩ := bcell hb
   go_wp2_with fail
   refine (of_text _ _ H'.out).mono ?_
   rintro e w2 ⟨rfl, hb2⟩
   go_wp2
   go_ret
   exact ⟨rfl, below_two (below_more hb hb2)⟩
set_option maxHeartbeats 2000000 in
theorem value_Compare_none2 (k n : Int) (s : ByteArray) (k' n' : Int) (s' : ByteArray) (w : World) (h : mayV k n s = true) (h' : mayV k' n' s' = false) :
  Calls Try.prog 135 #[.agg #[.int .i64 k, .int .i64 n, .string s], .agg #[.int .i64 k', .int .i64 n', .string s']] w fun e w' => e = .returned (.int .i64 0) ∧ Below w.heap.size w w' := by
 have H' := Lib.hid h'
 clear h'
 rcases mayV_cases h with ⟨rfl, hs⟩ | ⟨rfl, rfl, hs⟩
 ·have H := Lib.hid hs
  clear h hs
  go_enter Try.func135, Try.ntmps135
  go_wp2_with fail
  refine (of_num _ _ _ H.out).mono ?_
  rintro e w1 ⟨rfl, hb⟩
  obtain ⟨hc, hf⟩ := bcell hb
  go_wp2_with fail
  refine (of_none _ _ _ _ H'.out).mono ?_
  rintro e w2 ⟨rfl, hb2⟩
  go_wp2
  go_ret
  exact ⟨rfl, below_two (below_more hb hb2)⟩
 ·have H := Lib.hid hs
  clear h hs
  go_enter Try.func135, Try.ntmps135
  go_wp2_with fail
  refine (of_text _ _ H.out).mono ?_
  rintro e w1 ⟨rfl, hb⟩
  obtain ⟨hc, hf⟩ := bcell hb
  go_wp2_with fail
  refine (of_none _ _ _ _ H'.out).mono ?_
  rintro e w2 ⟨rfl, hb2⟩
  go_wp2
  go_ret
  exact ⟨rfl, below_two (below_more hb hb2)⟩
theorem value_Compare_calls (k n : Int) (s : ByteArray) (k' n' : Int) (s' : ByteArray) (w : World) :
  Calls Try.prog 135 #[.agg #[.int .i64 k, .int .i64 n, .string s], .agg #[.int .i64 k', .int .i64 n', .string s']] w fun e w' => e = .returned (.int .i64 (cmpV k n s k' n' s')) ∧ Below w.heap.size w w' := by
 cases h : mayV k n s with
 | false => rw [cmpV_none1 h]; exact value_Compare_none1 _ _ _ _ _ _ w h
 | true =>
  cases h' : mayV k' n' s' with
  | false => rw [cmpV_none2 h']; exact value_Compare_none2 _ _ _ _ _ _ w h h'
  | true =>
   rw [show cmpV k n s k' n' s' = if k = 1 then (if k' = 1 then cmpI n n' else -1) else if k' = 1 then 1 else Lib.compareBytes s.data.toList s'.data.toList from by unfold cmpV; rw [if_pos ⟨h, h'⟩]]
   rcases mayV_cases h with ⟨rfl, hs⟩ | ⟨rfl, rfl, hs⟩
   ·rcases mayV_cases h' with ⟨rfl, hs'⟩ | ⟨rfl, rfl, hs'⟩
    ·rw [if_pos rfl, if_pos rfl]; exact value_Compare_nn _ _ _ _ w hs hs'
    ·rw [if_pos rfl, if_neg (by decide)]; exact value_Compare_nt _ _ _ w hs hs'
   ·rcases mayV_cases h' with ⟨rfl, hs'⟩ | ⟨rfl, rfl, hs'⟩
    ·rw [if_neg (by decide), if_pos rfl]; exact value_Compare_tn _ _ _ w hs hs'
    ·rw [if_neg (by decide), if_neg (by decide)]; exact value_Compare_tt _ _ w hs hs'
end Go.Proofs.Ythngomhhimdolaa.H
end
section
namespace Go.Proofs.Ythngomhhimdolaa.H
open Go.RowKit Go.Shelf Go.Proofs.YthngomhhimdolaaW.PrintWords Go.Proofs.YthngomhhimdolaaW.PrintLast Go.Proofs.YthngomhhimdolaaW.PrintMore Go.Proofs.Ythngomhhimdolaa.P
set_option linter.unusedVariables false
set_option linter.unusedSimpArgs false
theorem ret_bool {a b : Bool} (h : a = b) : Ending.returned (.bool a) = .returned (.bool b) := by rw [h]
theorem ret_int {k : IntKind} {a b : Int} (h : a = b) : Ending.returned (.int k a) = .returned (.int k b) := by rw [h]
abbrev V64 (x : S64) : Value := .agg #[.int .i64 x.f0, .int .i64 x.f1, .string x.f2]
def Found (n : Nat) (pred : Nat → Bool) (J : Nat → World → Prop) (e : Ending) (w' : World) : Prop :=
 (∃ k : Nat, k < n ∧ pred k = true ∧ (∀ j, j < k → pred j = false) ∧ e = .returned (.int .i64 k) ∧ J (k + 1) w') ∨
 ((∀ j, j < n → pred j = false) ∧ e = .returned (.int .i64 (-1)) ∧ J n w')
set_option maxHeartbeats 2000000 in
theorem IndexFunc_calls (g : Nat) (lb : Array Value) (eg : ∀ args w, (callFunc g args).run Try.prog w = .ok (.enter g args) w) (A : Option Addr) (n c : Nat) (xs : List S64) (w : World)
  (pred : Nat → Bool) (J : Nat → World → Prop) (hm : n ≤ 9223372036854775807) (h0 : J 0 w) (hread : ∀ k W, J k W → Kd.C k64 W A n xs)
  (hstep : ∀ (k : Nat) W, k < n → (∀ j, j < k → pred j = false) → J k W → Calls Try.prog g (#[V64 (rd_T64 xs k)] ++ lb) W fun e W' => e = .returned (.bool (pred k)) ∧ J (k + 1) W') :
  Calls Try.prog 131 #[.slice A n c, .func (.func g) #[] lb] w (Found n pred J) := by
 have H0 := Lib.hid h0
 clear h0
 have HR := Lib.hid hread
 have HS := Lib.hid hstep
 clear hread hstep
 go_enter Try.func131, Try.ntmps131
 go_wp2
 go_loopg [5, 8] n (fun gg _ s8 wr => ∃ k : Nat, k ≤ n ∧ n - k ≤ gg ∧ s8 = .int .i64 k ∧ Hid (J k wr) ∧ Hid (∀ j, j < k → pred j = false))
 case atStart => exact ⟨0, Nat.zero_le _, by omega, rfl, H0, Lib.hid (fun j hj => absurd hj (Nat.not_lt_zero _))⟩
 case round =>
  obtain ⟨k, hk, hg, rfl, HJ, HP⟩ := hrel
  by_cases hlt : k < n
  ·have hltz : (k : Int) < (n : Int) := by omega
   have h0k : (0 : Int) ≤ (k : Int) := by omega
   obtain ⟨ad, hA, hc0, hc1, hc2⟩ := at_T64 (HR.out k wr HJ.out) k h0k hltz
   cases hA
   simp only [Int.toNat_natCast] at hc0 hc1 hc2
   have hcall := HS.out k wr hlt HP.out HJ.out
   cases hq : pred k with
   | true =>
    rw [hq] at hcall
    have HQ := Lib.hid hq
    clear hq
    go_wp2_with (go_at_fn g; refine hcall.mono ?_; rintro e w' ⟨rfl, hj⟩)
    go_ret
    exact .inl ⟨k, hlt, HQ.out, HP.out, rfl, hj⟩
   | false =>
    rw [hq] at hcall
    have HQ := Lib.hid hq
    clear hq
    go_wp2_with (go_at_fn g; refine hcall.mono ?_; rintro e w' ⟨rfl, hj⟩)
    go_roundg (n - (k + 1))
    case measure => omega
    case rel =>
     refine ⟨k + 1, by omega, by omega, by go_num, Lib.hid hj, Lib.hid (fun j hj => ?_)⟩
     by_cases e : j = k
     ·subst e; exact HQ.out
     ·exact HP.out j (by omega)
  ·have hltz : ¬ (k : Int) < (n : Int) := by omega
   have : k = n := by omega
   subst this
   go_wp2
   go_ret
   exact .inr ⟨HP.out, rfl, HJ.out⟩
def Has (n : Nat) (pred : Nat → Bool) (J : Nat → World → Prop) (e : Ending) (w' : World) : Prop :=
 ∃ b m, e = .returned (.bool b) ∧ (b = true ↔ ∃ k, k < n ∧ pred k = true) ∧ J m w'
set_option maxHeartbeats 2000000 in
theorem ContainsFunc_calls (g : Nat) (lb : Array Value) (eg : ∀ args w, (callFunc g args).run Try.prog w = .ok (.enter g args) w) (A : Option Addr) (n c : Nat) (xs : List S64) (w : World)
  (pred : Nat → Bool) (J : Nat → World → Prop) (hm : n ≤ 9223372036854775807) (h0 : J 0 w) (hread : ∀ k W, J k W → Kd.C k64 W A n xs)
  (hstep : ∀ (k : Nat) W, k < n → (∀ j, j < k → pred j = false) → J k W → Calls Try.prog g (#[V64 (rd_T64 xs k)] ++ lb) W fun e W' => e = .returned (.bool (pred k)) ∧ J (k + 1) W') :
  Calls Try.prog 128 #[.slice A n c, .func (.func g) #[] lb] w (Has n pred J) := by
 have HI := Lib.hid (IndexFunc_calls g lb eg A n c xs w pred J hm h0 hread hstep)
 clear h0 hread hstep
 go_enter Try.func128, Try.ntmps128
 go_wp2_with fail
 refine HI.out.mono ?_
 rintro e w' (⟨k, h1, h2, h2', rfl, h4⟩ | ⟨h1, rfl, h3⟩)
 ·have hk : (0 : Int) ≤ (k : Int) := by omega
  have HQ := Lib.hid h2
  clear h2
  go_wp2
  go_ret
  exact ⟨true, k + 1, rfl, ⟨fun _ => ⟨k, h1, HQ.out⟩, fun _ => rfl⟩, h4⟩
 ·have HQ := Lib.hid h1
  clear h1
  go_wp2
  go_ret
  exact ⟨false, n, rfl, ⟨(fun h => by cases h), fun ⟨k, hk, hp⟩ => by rw [HQ.out k hk] at hp; cases hp⟩, h3⟩
def mayVs (x : S64) : Bool := mayV x.f0 x.f1 x.f2
def mayR (r : List S64) : Bool := decide (r.length ≤ 8) && r.all mayVs
set_option maxHeartbeats 1000000 in
theorem May1_calls (x : S64) (w : World) : Calls Try.prog 129 #[V64 x] w fun e w' => e = .returned (.bool (!mayVs x)) ∧ Below w.heap.size w w' := by
 unfold mayVs
 go_enter Try.func129, Try.ntmps129
 go_wp2_with (go_at_call 130; refine (may_calls _ _ _ _).mono ?_; rintro e w1 ⟨rfl, hb⟩)
 go_ret
 exact ⟨rfl, below_then' hb⟩
theorem getD_mem {α : Type} (xs : List α) (z : α) (k : Nat) (h : k < xs.length) : xs.getD k z ∈ xs := by
 rw [List.getD_eq_getElem?_getD, List.getElem?_eq_getElem h]; simp
theorem all_iff_none (r : List S64) : r.all mayVs = true ↔ ¬ ∃ k, k < r.length ∧ (!mayVs (rd_T64 r (k : Int))) = true := by
 constructor
 ·rintro h ⟨k, hk, hp⟩
  have := List.all_eq_true.1 h _ (getD_mem r z64 k hk)
  have e : rd_T64 r (k : Int) = r.getD k z64 := by unfold rd_T64; simp
  rw [e, this] at hp; cases hp
 ·intro h
  rw [List.all_eq_true]
  intro x hx
  obtain ⟨k, hk, rfl⟩ := List.mem_iff_getElem.1 hx
  cases hq : mayVs r[k] with
  | true => rfl
  | false =>
   refine absurd ⟨k, hk, ?_⟩ h
   have e : rd_T64 r (k : Int) = r[k] := by unfold rd_T64; simp [List.getD_eq_getElem?_getD, List.getElem?_eq_getElem hk]
   rw [e, hq]; rfl
set_option maxHeartbeats 1000000 in
theorem row_May_calls (A : Option Addr) (c : Nat) (r : List S64) (w : World) (hr : Kd.C k64 w A r.length r) :
  Calls Try.prog 104 #[.slice A r.length c] w fun e w' => e = .returned (.bool (mayR r)) ∧ Below w.heap.size w w' := by
 have hm := Kd.C_max hr
 by_cases hl : r.length ≤ 8
 ·have hd : decide ((8 : Int) < (r.length : Int)) = false := decide_eq_false (by omega)
  have hd2 : decide (8 < r.length) = false := decide_eq_false (by omega)
  have HI := Lib.hid (ContainsFunc_calls 129 #[] (enters_of Try.func129 (by kernel_rfl) rfl) A r.length c r w (fun k => !mayVs (rd_T64 r (k : Int))) (fun _ W => Below w.heap.size w W) hm (Below.refl _ _) (fun _ W hb => Kd.C_below hr hb)
   (fun k W _ _ hb => (May1_calls (rd_T64 r (k : Int)) W).mono fun e W' h => ⟨h.1, below_more hb h.2⟩))
  have HF := Lib.hid hl
  clear hl hr
  go_enter Try.func104, Try.ntmps104
  go_wp2_with fail
  refine HI.out.mono ?_
  rintro e w' ⟨b, m, rfl, hb, hB⟩
  have HB := Lib.hid hb
  clear hb
  go_wp2
  go_ret
  refine ⟨ret_bool ?_, hB⟩
  have hi := HB.out
  unfold mayR
  rw [decide_eq_true HF.out, Bool.true_and]
  cases b with
  | true =>
   have : ¬ (r.all mayVs = true) := fun h => (all_iff_none r).1 h (hi.1 rfl)
   cases h : r.all mayVs with
   | true => exact absurd h this
   | false => rfl
  | false =>
   have : r.all mayVs = true := (all_iff_none r).2 (fun h => by cases hi.2 h)
   rw [this]; rfl
 ·have hd : decide ((8 : Int) < (r.length : Int)) = true := decide_eq_true (by omega)
  have hd2 : decide (8 < r.length) = true := decide_eq_true (by omega)
  have HF := Lib.hid hl
  clear hl hr
  go_enter Try.func104, Try.ntmps104
  go_wp2
  go_ret
  refine ⟨ret_bool ?_, Below.refl _ _⟩
  unfold mayR
  rw [decide_eq_false HF.out, Bool.false_and]
end Go.Proofs.Ythngomhhimdolaa.H
end
section
namespace Go.Proofs.Ythngomhhimdolaa.H
open Go.RowKit Go.Shelf Go.Proofs.YthngomhhimdolaaW.PrintWords Go.Proofs.YthngomhhimdolaaW.PrintLast Go.Proofs.YthngomhhimdolaaW.PrintMore Go.Proofs.Ythngomhhimdolaa.P
set_option linter.unusedVariables false
set_option linter.unusedSimpArgs false
attribute [local go_sem high] eqA64
def eqS (x y : S64) : Bool := x.f0 == y.f0 && (x.f1 == y.f1 && (x.f2.toList == y.f2.toList))
theorem setCell_cell_ne (W : World) (b : Nat) (v : Value) (a : Addr) (h : a.block ≠ b) : (W.setCell ⟨b, 0, none⟩ v).cell? a = W.cell? a := by
 unfold World.cell?
 rw [Below.heap_setCell W ⟨b, 0, none⟩ v a.block h]
theorem alloc_cell (W : World) (o : Obj) (a : Addr) {v : Value} (h : W.cell? a = some v) : (W.alloc o).cell? a = some v :=
 (((Below.refl W.heap.size W).alloc (Nat.le_refl _) o).cell (World.block_lt_of_cell? W a h)).trans h
structure Cap (W : World) (Bi Bb : Nat) (A : Option Addr) (n c : Nat) (ys : List S64) (i : Int) : Prop where
 bi : Boxed W Bi 3 (.int .i64 i)
 bb : Boxed W Bb 66 (.slice A n c)
 ys : Kd.C k64 W A n ys
 ne : Bi ≠ Bb
 far : 0 < n → ∀ ad, A = some ad → ad.block ≠ Bi
set_option maxHeartbeats 2000000 in
theorem Compare11_calls (x : S64) (Bi Bb : Nat) (A : Option Addr) (n c : Nat) (ys : List S64) (k : Nat) (hk : k < n) (W : World) (h : Cap W Bi Bb A n c ys ((k : Int) - 1)) :
  Calls Try.prog 133 #[V64 x, .pointer (some ⟨Bi, 0, none⟩), .pointer (some ⟨Bb, 0, none⟩)] W fun e W' => e = .returned (.bool (!eqS x (rd_T64 ys k))) ∧ ∃ (o : Obj) (m : Nat), W' = ((W.setCell ⟨Bi, 0, none⟩ (.int .i64 k)).alloc o).drewN m := by
 have hm := Kd.C_max h.ys
 have h0k : (0 : Int) ≤ (k : Int) := by omega
 have hltz : (k : Int) < (n : Int) := by omega
 obtain ⟨ad, hA, hc0, hc1, hc2⟩ := at_T64 h.ys k h0k hltz
 have hfar := h.far (by omega) ad hA
 cases hA
 simp only [Int.toNat_natCast] at hc0 hc1 hc2
 have hbi := h.bi.cell
 have hfi := h.bi.frozen
 have hbb := h.bb.cell
 have hli := h.bi.lt
 have hlb := h.bb.lt
 have hne : Bb ≠ Bi := fun e => h.ne e.symm
 have f0 : ∀ (W : World) v, (W.setCell ⟨Bi, 0, none⟩ v).cell? (ad.add (k * 3)) = W.cell? (ad.add (k * 3)) := fun W v => setCell_cell_ne W Bi v _ (by unfold Addr.add; split <;> exact hfar)
 have f1 : ∀ (W : World) v, (W.setCell ⟨Bi, 0, none⟩ v).cell? ⟨(ad.add (k * 3)).block, (ad.add (k * 3)).off + 1, none⟩ = W.cell? ⟨(ad.add (k * 3)).block, (ad.add (k * 3)).off + 1, none⟩ := fun W v => setCell_cell_ne W Bi v _ (by unfold Addr.add; split <;> exact hfar)
 have f2 : ∀ (W : World) v, (W.setCell ⟨Bi, 0, none⟩ v).cell? ⟨(ad.add (k * 3)).block, (ad.add (k * 3)).off + 2, none⟩ = W.cell? ⟨(ad.add (k * 3)).block, (ad.add (k * 3)).off + 2, none⟩ := fun W v => setCell_cell_ne W Bi v _ (by unfold Addr.add; split <;> exact hfar)
 have fb : ∀ (W : World) v, (W.setCell ⟨Bi, 0, none⟩ v).cell? ⟨Bb, 0, none⟩ = W.cell? ⟨Bb, 0, none⟩ := fun W v => setCell_cell_ne W Bi v _ hne
 have hkk : IntKind.i64.wrap ((k : Int) - 1 + 1) = (k : Int) := by rw [IntKind.wrap_i64]; omega
 obtain ⟨O, hO⟩ : ∃ O, O = Obj.cells #[.int .i64 x.f0, .int .i64 x.f1, .string x.f2] 64 (0, 0) := ⟨_, rfl⟩
 obtain ⟨W2, hW2⟩ : ∃ W2, W2 = (W.setCell ⟨Bi, 0, none⟩ (.int .i64 k)).alloc O := ⟨_, rfl⟩
 have e0 : W2.cell? (ad.add (k * 3)) = some (.int .i64 (rd_T64 ys k).f0) := by rw [hW2]; exact alloc_cell _ _ _ ((f0 W _).trans hc0)
 have e1 : W2.cell? ⟨(ad.add (k * 3)).block, (ad.add (k * 3)).off + 1, none⟩ = some (.int .i64 (rd_T64 ys k).f1) := by rw [hW2]; exact alloc_cell _ _ _ ((f1 W _).trans hc1)
 have e2 : W2.cell? ⟨(ad.add (k * 3)).block, (ad.add (k * 3)).off + 2, none⟩ = some (.string (rd_T64 ys k).f2) := by rw [hW2]; exact alloc_cell _ _ _ ((f2 W _).trans hc2)
 have eb : W2.cell? ⟨Bb, 0, none⟩ = some (.slice (some ad) n c) := by rw [hW2]; exact alloc_cell _ _ _ ((fb W _).trans hbb)
 have ei : W2.cell? ⟨Bi, 0, none⟩ = some (.int .i64 k) := by rw [hW2]; exact alloc_cell _ _ _ (h.bi.set (.int .i64 k)).cell
 have hsz : (W.setCell ⟨Bi, 0, none⟩ (.int .i64 k)).heap.size = W.heap.size := by show (W.heap.modify _ _).size = _; rw [Array.size_modify]
 have en : W2.heap[W.heap.size]? = some O := by rw [hW2, ← hsz]; exact World.alloc_heap_new _ _
 have x0 : W2.cell? ⟨W.heap.size, 0, none⟩ = some (.int .i64 x.f0) := by unfold World.cell?; simp [en, hO]
 have x1 : W2.cell? ⟨W.heap.size, 1, none⟩ = some (.int .i64 x.f1) := by unfold World.cell?; simp [en, hO]
 have x2 : W2.cell? ⟨W.heap.size, 2, none⟩ = some (.string x.f2) := by unfold World.cell?; simp [en, hO]
 have HW2 := Lib.hid hW2
 have HO := Lib.hid hO
 clear f0 f1 f2 fb hc0 hc1 hc2 h hsz en hW2 hO hbb
 go_enter Try.func133, Try.ntmps133
 go_wp2_with fail
 rw [← HO.out, ← HW2.out]
 clear hbi hfi
 go_quiet (fail)
 go_wp2
 go_ret
 refine ⟨ret_bool ?_, O, nq, ?_⟩
 ·show _ = !eqS _ _
  unfold eqS; rw [Bool.not_and, Bool.not_and]
 ·rw [HW2.out]
end Go.Proofs.Ythngomhhimdolaa.H
end
section
namespace Go.Proofs.Ythngomhhimdolaa.H
open Go.RowKit Go.Shelf Go.Proofs.YthngomhhimdolaaW.PrintWords Go.Proofs.YthngomhhimdolaaW.PrintLast Go.Proofs.YthngomhhimdolaaW.PrintMore Go.Proofs.Ythngomhhimdolaa.P
set_option linter.unusedVariables false
set_option linter.unusedSimpArgs false
theorem Boxed.below {W W' : World} {B : Nat} {t : TypeId} {v : Value} (h : Boxed W B t v) (hb : Below W.heap.size W W') : Boxed W' B t v := (hb.block B h.lt).trans h
theorem below_set {n₀ : Nat} {w W : World} (h : Below n₀ w W) (b : Nat) (v : Value) (hb : n₀ ≤ b) : Below n₀ w (W.setCell ⟨b, 0, none⟩ v) := h.setCell (p := ⟨b, 0, none⟩) hb v
theorem C64_cells {w W : World} {A : Option Addr} {n : Nat} {xs : List S64} (h : Kd.C k64 w A n xs) (hc : 0 < n → ∀ ad j v, A = some ad → w.cell? (ad.add j) = some v → W.cell? (ad.add j) = some v) : Kd.C k64 W A n xs := by
 obtain ⟨h1, h2, h3⟩ := h
 refine ⟨h1, h2, fun hp => ?_⟩
 obtain ⟨ad, hA, hr⟩ := h3 hp
 refine ⟨ad, hA, fun j p hj => ?_⟩
 obtain ⟨c, hl, hK, hcs⟩ := hr j p hj
 exact ⟨c, hl, hK, fun i u hu => hc hp ad _ u hA (hcs i u hu)⟩
theorem add_block (ad : Addr) (j : Nat) : (ad.add j).block = ad.block := by unfold Addr.add; split <;> rfl
theorem Cap.below {W W' : World} {Bi Bb : Nat} {A : Option Addr} {n c : Nat} {ys : List S64} {i : Int} (h : Cap W Bi Bb A n c ys i) (hb : Below W.heap.size W W') : Cap W' Bi Bb A n c ys i :=
 ⟨Boxed.below h.bi hb, Boxed.below h.bb hb, Kd.C_below h.ys hb, h.ne, h.far⟩
theorem Cap.step {W : World} {Bi Bb : Nat} {A : Option Addr} {n c : Nat} {ys : List S64} {i : Int} (h : Cap W Bi Bb A n c ys i) (i' : Int) (o : Obj) (m : Nat) : Cap (((W.setCell ⟨Bi, 0, none⟩ (.int .i64 i')).alloc o).drewN m) Bi Bb A n c ys i' := by
 have h1 : Cap (W.setCell ⟨Bi, 0, none⟩ (.int .i64 i')) Bi Bb A n c ys i' :=
  ⟨h.bi.set _, h.bb.other (fun e => h.ne e.symm) _, C64_cells h.ys (fun hp ad j v hA hv => (setCell_cell_ne W Bi _ _ (by rw [add_block]; exact h.far hp ad hA)).trans hv), h.ne, h.far⟩
 exact h1.below (below_dn ((Below.refl _ _).alloc (Nat.le_refl _) o) m)
set_option maxHeartbeats 1000000 in
theorem Compare1_calls (Bb : Nat) (w : World) : Calls Try.prog 132 #[.pointer (some ⟨Bb, 0, none⟩)] w fun e w' => e = .returned (.func (.func 133) #[] #[.pointer (some ⟨w.heap.size, 0, none⟩), .pointer (some ⟨Bb, 0, none⟩)]) ∧ w' = w.alloc (.cells #[.int .i64 (-1)] 3 (0, 0)) := by
 go_enter Try.func132, Try.ntmps132
 go_wp2
 go_ret
 exact ⟨rfl, rfl⟩
theorem search_calls (A : Option Addr) (c m n : Nat) (xs ys : List S64) (Bi Bb : Nat) (A' : Option Addr) (c' : Nat) (n₀ : Nat) (w W : World) (hx : Kd.C k64 W A m xs) (hmn : m ≤ n) (hcap : Cap W Bi Bb A' n c' ys (-1)) (hn : n₀ ≤ Bi) (hb : Below n₀ w W) (hxa : 0 < m → ∀ ad, A = some ad → ad.block ≠ Bi) :
  Calls Try.prog 131 #[.slice A m c, .func (.func 133) #[] #[.pointer (some ⟨Bi, 0, none⟩), .pointer (some ⟨Bb, 0, none⟩)]] W
   (Found m (fun k => !eqS (rd_T64 xs k) (rd_T64 ys k)) (fun k W' => Below n₀ w W' ∧ Boxed W' Bb 66 (.slice A' n c') ∧ Kd.C k64 W' A m xs ∧ Kd.C k64 W' A' n ys)) := by
 refine (IndexFunc_calls 133 #[.pointer (some ⟨Bi, 0, none⟩), .pointer (some ⟨Bb, 0, none⟩)] (enters_of Try.func133 (by kernel_rfl) rfl) A m c xs W (fun k => !eqS (rd_T64 xs k) (rd_T64 ys k))
  (fun k W' => Below n₀ w W' ∧ Cap W' Bi Bb A' n c' ys ((k : Int) - 1) ∧ Kd.C k64 W' A m xs) (Kd.C_max hx) ⟨hb, by simpa using hcap, hx⟩ (fun k W' h => h.2.2) ?_).mono ?_
 ·rintro k W' hk - ⟨h1, h2, h3⟩
  refine (Compare11_calls (rd_T64 xs k) Bi Bb A' n c' ys k (by omega) W' h2).mono ?_
  rintro e W2 ⟨rfl, o, m', rfl⟩
  refine ⟨rfl, below_dn ((below_set h1 Bi _ hn).alloc ?_ o) _, by have := h2.step (k : Int) o m'; rwa [show (((k + 1 : Nat) : Int) - 1) = (k : Int) from by omega], ?_⟩
  ·have := h2.bi.lt; have := h1.size; rw [show (W'.setCell ⟨Bi, 0, none⟩ (.int .i64 k)).heap.size = W'.heap.size from by show (W'.heap.modify _ _).size = _; rw [Array.size_modify]]; omega
  ·have h4 : Kd.C k64 (W'.setCell ⟨Bi, 0, none⟩ (.int .i64 k)) A m xs := C64_cells h3 (fun hp ad j v hA hv => (setCell_cell_ne W' Bi _ _ (by rw [add_block]; exact hxa hp ad hA)).trans hv)
   exact Kd.C_below h4 (below_dn ((Below.refl _ _).alloc (Nat.le_refl _) o) m')
 ·rintro e W' (⟨k, h1, h2, h3, h4, h5⟩ | ⟨h1, h2, h3⟩)
  ·exact .inl ⟨k, h1, h2, h3, h4, h5.1, h5.2.1.bb, h5.2.2, h5.2.1.ys⟩
  ·exact .inr ⟨h1, h2, h3.1, h3.2.1.bb, h3.2.2, h3.2.1.ys⟩
end Go.Proofs.Ythngomhhimdolaa.H
end
section
namespace Go.Proofs.Ythngomhhimdolaa.H
open Go.RowKit Go.Shelf Go.Proofs.YthngomhhimdolaaW.PrintWords Go.Proofs.YthngomhhimdolaaW.PrintLast Go.Proofs.YthngomhhimdolaaW.PrintMore Go.Proofs.Ythngomhhimdolaa.P
set_option linter.unusedVariables false
set_option linter.unusedSimpArgs false
def cmpVs (x y : S64) : Int := cmpV x.f0 x.f1 x.f2 y.f0 y.f1 y.f2
def cmpL : List S64 → List S64 → Int
 | [], [] => 0
 | [], _ :: _ => -1
 | _ :: _, [] => 1
 | x :: xs, y :: ys => if eqS x y = true then cmpL xs ys else cmpVs x y
def cmpR (a b : List S64) : Int := if mayR a = true then (if mayR b = true then cmpL a b else 0) else 0
theorem rd_cons (x : S64) (xs : List S64) (k : Nat) : rd_T64 (x :: xs) ((k + 1 : Nat) : Int) = rd_T64 xs (k : Int) := by unfold rd_T64; simp
theorem cmpL_found : ∀ (k : Nat) (a b : List S64), k < a.length → k < b.length → (∀ j, j < k → eqS (rd_T64 a (j : Nat)) (rd_T64 b (j : Nat)) = true) → eqS (rd_T64 a k) (rd_T64 b k) = false → cmpL a b = cmpVs (rd_T64 a k) (rd_T64 b k)
 | 0, x :: xs, y :: ys, _, _, _, h => by
  have h' : eqS x y = false := h
  show (if eqS x y = true then cmpL xs ys else cmpVs x y) = cmpVs x y
  rw [if_neg (by rw [h']; decide)]
 | k + 1, x :: xs, y :: ys, ha, hb, hj, h => by
  have h0 : eqS x y = true := hj 0 (by omega)
  show (if eqS x y = true then cmpL xs ys else cmpVs x y) = _
  rw [if_pos h0, rd_cons, rd_cons]
  refine cmpL_found k xs ys (by simpa using ha) (by simpa using hb) (fun j hj' => ?_) (by rw [rd_cons, rd_cons] at h; exact h)
  have := hj (j + 1) (by omega)
  rwa [rd_cons, rd_cons] at this
 | k, [], _, ha, _, _, _ => absurd ha (by simp)
 | k, _ :: _, [], _, hb, _, _ => absurd hb (by simp)
theorem cmpL_all : ∀ (a b : List S64), (∀ j, j < min a.length b.length → eqS (rd_T64 a (j : Nat)) (rd_T64 b (j : Nat)) = true) → cmpL a b = cmpI a.length b.length
 | [], [], _ => rfl
 | [], _ :: _, _ => by show (-1 : Int) = _; unfold cmpI; rw [if_pos (by simp only [List.length_nil, List.length_cons]; omega)]
 | _ :: _, [], _ => by show (1 : Int) = _; unfold cmpI; rw [if_neg (by simp only [List.length_nil, List.length_cons]; omega), if_pos (by simp only [List.length_nil, List.length_cons]; omega)]
 | x :: xs, y :: ys, h => by
  have h0 : eqS x y = true := h 0 (by simp)
  show (if eqS x y = true then cmpL xs ys else cmpVs x y) = _
  rw [if_pos h0, cmpL_all xs ys (fun j hj => by
   have := h (j + 1) (by simp only [List.length_cons]; omega)
   rwa [rd_cons, rd_cons] at this)]
  unfold cmpI
  simp
set_option maxHeartbeats 1000000 in
theorem isNaN_int (a : Int) (w : World) : Calls Try.prog 112 #[.int .i64 a] w fun e w' => e = .returned (.bool false) ∧ w = w' := by
 go_enter Try.func112, Try.ntmps112
 go_wp2
 go_ret
 exact ⟨by simp, rfl⟩
set_option maxHeartbeats 1000000 in
theorem cmp_int (a b : Int) (w : World) : Calls Try.prog 134 #[.int .i64 a, .int .i64 b] w fun e w' => e = .returned (.int .i64 (cmpI a b)) ∧ w = w' := by
 unfold cmpI
 by_cases h1 : a < b
 ·have hb : decide (a < b) = true := decide_eq_true h1
  rw [if_pos h1]
  clear h1
  go_enter Try.func134, Try.ntmps134
  go_wp2_with (go_at_call 112; refine (isNaN_int _ _).mono ?_; rintro e w1 ⟨rfl, rfl⟩)
  go_ret
  exact ⟨rfl, rfl⟩
 ·have hb : decide (a < b) = false := decide_eq_false h1
  rw [if_neg h1]
  by_cases h2 : b < a
  ·have hc : decide (b < a) = true := decide_eq_true h2
   rw [if_pos h2]
   clear h1 h2
   go_enter Try.func134, Try.ntmps134
   go_wp2_with (go_at_call 112; refine (isNaN_int _ _).mono ?_; rintro e w1 ⟨rfl, rfl⟩)
   go_ret
   exact ⟨rfl, rfl⟩
  ·have hc : decide (b < a) = false := decide_eq_false h2
   rw [if_neg h2]
   clear h1 h2
   go_enter Try.func134, Try.ntmps134
   go_wp2_with (go_at_call 112; refine (isNaN_int _ _).mono ?_; rintro e w1 ⟨rfl, rfl⟩)
   go_ret
   exact ⟨rfl, rfl⟩
set_option maxHeartbeats 1000000 in
theorem row_Compare_no1 (A : Option Addr) (c : Nat) (a : List S64) (A' : Option Addr) (c' : Nat) (b : List S64) (w : World) (ha : Kd.C k64 w A a.length a) (hb : Kd.C k64 w A' b.length b) (h : mayR a = false) :
  Calls Try.prog 105 #[.slice A a.length c, .slice A' b.length c'] w fun e w' => e = .returned (.int .i64 0) ∧ Below w.heap.size w w' := by
 have HC := Lib.hid (fun W (hW : Below w.heap.size w W) => h ▸ row_May_calls A c a W (Kd.C_below ha hW))
 clear h ha hb
 go_enter Try.func105, Try.ntmps105
 go_wp2_with fail
 refine (HC.out _ ((Below.refl _ _).alloc (Nat.le_refl _) _)).mono ?_
 rintro e w1 ⟨rfl, hb1⟩
 go_wp2
 go_ret
 exact ⟨rfl, below_then' hb1⟩
set_option maxHeartbeats 1000000 in
theorem row_Compare_no2 (A : Option Addr) (c : Nat) (a : List S64) (A' : Option Addr) (c' : Nat) (b : List S64) (w : World) (ha : Kd.C k64 w A a.length a) (hb : Kd.C k64 w A' b.length b) (h : mayR a = true) (h' : mayR b = false) :
  Calls Try.prog 105 #[.slice A a.length c, .slice A' b.length c'] w fun e w' => e = .returned (.int .i64 0) ∧ Below w.heap.size w w' := by
 have HC := Lib.hid (fun W (hW : Below w.heap.size w W) => h ▸ row_May_calls A c a W (Kd.C_below ha hW))
 have HC' := Lib.hid (fun W (hW : Below w.heap.size w W) => h' ▸ row_May_calls A' c' b W (Kd.C_below hb hW))
 clear h h' ha hb
 go_enter Try.func105, Try.ntmps105
 go_wp2_with fail
 refine (HC.out _ ((Below.refl _ _).alloc (Nat.le_refl _) _)).mono ?_
 rintro e w1 ⟨rfl, hb1⟩
 obtain ⟨hc, hf⟩ := bcell hb1
 go_wp2_with fail
 refine (HC'.out _ (below_then' hb1)).mono ?_
 rintro e w2 ⟨rfl, hb2⟩
 go_wp2
 go_ret
 exact ⟨rfl, below_more (below_then' hb1) hb2⟩
theorem C_take {w : World} {A : Option Addr} {n : Nat} {xs : List S64} (h : Kd.C k64 w A n xs) (m : Nat) (hm : m ≤ n) : Kd.C k64 w A m (xs.take m) := by
 obtain ⟨h1, h2, h3⟩ := h
 refine ⟨by rw [List.length_take]; omega, by omega, fun hp => ?_⟩
 obtain ⟨ad, hA, hr⟩ := h3 (by omega)
 refine ⟨ad, hA, fun j p hj => hr j p ?_⟩
 rw [List.getElem?_take] at hj
 split at hj
 ·exact hj
 ·cases hj
theorem rd_take (xs : List S64) (m k : Nat) (hk : k < m) : rd_T64 (xs.take m) (k : Int) = rd_T64 xs (k : Int) := by
 unfold rd_T64
 simp only [Int.toNat_natCast, List.getD_eq_getElem?_getD, List.getElem?_take, if_pos hk]
def SRes (a b : List S64) (M : Nat) (v : Int) : Prop :=
 (v = -1 ∧ ∀ j : Nat, j < M → eqS (rd_T64 a (j : Nat)) (rd_T64 b (j : Nat)) = true) ∨
 ∃ k : Nat, v = k ∧ k < M ∧ eqS (rd_T64 a (k : Nat)) (rd_T64 b (k : Nat)) = false ∧ ∀ j : Nat, j < k → eqS (rd_T64 a (j : Nat)) (rd_T64 b (j : Nat)) = true
def SEnd (a b : List S64) (M : Nat) (R : World → Prop) (e : Ending) (w' : World) : Prop := ∃ v : Int, e = .returned (.int .i64 v) ∧ Hid (SRes a b M v) ∧ Hid (R w')
theorem search_end (A : Option Addr) (c M : Nat) (a b : List S64) (Bi Bb : Nat) (A' : Option Addr) (c' : Nat) (w W : World) (hx : Kd.C k64 W A a.length a) (h1 : M ≤ a.length) (h2 : M ≤ b.length)
  (hcap : Cap W Bi Bb A' b.length c' b (-1)) (hn : w.heap.size ≤ Bi) (hb : Below w.heap.size w W) (hxa : 0 < M → ∀ ad, A = some ad → ad.block ≠ Bi) :
  Calls Try.prog 131 #[.slice A M c, .func (.func 133) #[] #[.pointer (some ⟨Bi, 0, none⟩), .pointer (some ⟨Bb, 0, none⟩)]] W
   (SEnd a b M (fun W' => Below w.heap.size w W' ∧ Boxed W' Bb 66 (.slice A' b.length c'))) := by
 refine (search_calls A c M b.length (a.take M) b Bi Bb A' c' w.heap.size w W (C_take hx M h1) h2 hcap hn hb hxa).mono ?_
 rintro e W' (⟨k, k1, k2, k3, rfl, k5⟩ | ⟨k1, rfl, k3⟩)
 ·refine ⟨k, rfl, Lib.hid (.inr ⟨k, rfl, k1, ?_, fun j hj => ?_⟩), Lib.hid ⟨k5.1, k5.2.1⟩⟩
  ·simp only [rd_take _ _ _ k1] at k2; simpa using k2
  ·have := k3 j hj; simp only [rd_take _ _ _ (Nat.lt_trans hj k1)] at this; simpa using this
 ·refine ⟨-1, rfl, Lib.hid (.inl ⟨rfl, fun j hj => ?_⟩), Lib.hid ⟨k3.1, k3.2.1⟩⟩
  have := k1 j hj; simp only [rd_take _ _ _ hj] at this; simpa using this
theorem C_lt {w : World} {A : Option Addr} {n : Nat} {xs : List S64} (h : Kd.C k64 w A n xs) (hp : 0 < n) : ∀ ad, A = some ad → ad.block < w.heap.size := by
 intro ad hA
 obtain ⟨ad', hA', hc, -, -⟩ := at_T64 h 0 (by omega) (by omega)
 rw [hA] at hA'; cases hA'
 have := World.block_lt_of_cell? w _ hc
 rwa [add_block] at this
set_option maxHeartbeats 4000000 in
theorem row_Compare_yes (A : Option Addr) (c : Nat) (a : List S64) (A' : Option Addr) (c' : Nat) (b : List S64) (w : World) (ha : Kd.C k64 w A a.length a) (hca : a.length ≤ c) (hb : Kd.C k64 w A' b.length b) (h : mayR a = true) (h' : mayR b = true) :
  Calls Try.prog 105 #[.slice A a.length c, .slice A' b.length c'] w fun e w' => e = .returned (.int .i64 (cmpL a b)) ∧ Below w.heap.size w w' := by
 have hla := Kd.C_max ha
 have hlb := Kd.C_max hb
 have HC := Lib.hid (fun W (hW : Below w.heap.size w W) => h ▸ row_May_calls A c a W (Kd.C_below ha hW))
 have HC' := Lib.hid (fun W (hW : Below w.heap.size w W) => h' ▸ row_May_calls A' c' b W (Kd.C_below hb hW))
 have HA := Lib.hid ha
 have HB := Lib.hid hb
 clear h h' ha hb
 go_enter Try.func105, Try.ntmps105
 go_wp2_with fail
 refine (HC.out _ ((Below.refl _ _).alloc (Nat.le_refl _) _)).mono ?_
 rintro e w1 ⟨rfl, hb1⟩
 obtain ⟨hc, hf⟩ := bcell hb1
 go_wp2_with fail
 refine (HC'.out _ (below_then' hb1)).mono ?_
 rintro e w2 ⟨rfl, hb2⟩
 obtain ⟨hc2, hf2⟩ := bcell hb2
 have hz : w.heap.size < w1.heap.size := by have := hb1.size; simp at this; omega
 go_wp2_with fail
 obtain ⟨M, hM⟩ : ∃ M, M = min a.length b.length := ⟨_, rfl⟩
 rw [show min (a.length : Int) (b.length : Int) = (M : Int) from by rw [hM]; omega]
 have hM1 : M ≤ a.length := by omega
 have hM2 : M ≤ b.length := by omega
 have HM := Lib.hid hM
 clear hM
 obtain ⟨i0, hi0, -, -, -⟩ := info_parts info64
 have hcut : ∀ W : World, (Instr.slice 66 (.slice A a.length c) none (some (.int .i64 M)) none).run Try.prog W = .ok (.slice A M c) W := by
  have := cut_to (P := Try.prog) 66 64 .i64 Try.underlying66 hi0 A a.length c (M : Int) (by omega) (by omega) hca
  simpa using this
 clear hi0
 have e132 : ∀ args w, (callFunc 132 args).run Try.prog w = .ok (.enter 132 args) w := enters_of Try.func132 (by kernel_rfl) rfl
 have hbx : Boxed w2 w.heap.size 66 (.slice A' b.length c') := Boxed.below (Boxed.below (Boxed.new w 66 _) hb1) hb2
 have hbox := hbx.cell
 have HX := Lib.hid hbx
 clear hbx
 have hb3 : Below w.heap.size w w2 := below_more (below_then' hb1) hb2
 have HS := Lib.hid (fun (hfa : 0 < M → ∀ ad, A = some ad → ad.block ≠ w2.heap.size) (hfb : 0 < b.length → ∀ ad, A' = some ad → ad.block ≠ w2.heap.size) => search_end A c M a b w2.heap.size w.heap.size A' c' w (w2.alloc (.cells #[.int .i64 (-1)] 3 (0, 0))).drew
  (Kd.C_below HA.out (((hb3.alloc hb3.size _)).drew)) hM1 hM2
  (Cap.below (W := w2.alloc (.cells #[.int .i64 (-1)] 3 (0, 0))) ⟨Boxed.new _ _ _, Boxed.alloc HX.out _, Kd.C_below HB.out (hb3.alloc hb3.size _), by have := Boxed.lt HX.out; omega, hfb⟩ ((Below.refl _ _).drew))
  hb3.size ((hb3.alloc hb3.size _).drew) hfa)
 have hz3 := hb3.size
 have hfa : 0 < M → ∀ ad, A = some ad → ad.block ≠ w2.heap.size := fun hp ad hA => by have := C_lt HA.out (by omega) ad hA; omega
 have hfb : 0 < b.length → ∀ ad, A' = some ad → ad.block ≠ w2.heap.size := fun hp ad hA => by have := C_lt HB.out hp ad hA; omega
 have HFA := Lib.hid hfa
 have HFB := Lib.hid hfb
 clear hfa hfb
 go_region_with (first | (go_at_call 132; refine (Compare1_calls _ _).mono ?_; rintro e w' ⟨rfl, rfl⟩) | (go_at_call 131; refine (HS.out HFA.out HFB.out).mono ?_; rintro e w' ⟨v, rfl, hv, hR⟩))
 rename_i w3
 obtain ⟨hb4, hbx4⟩ := hR.out
 have hbox3 := hbx4.cell
 have hB4 := Lib.hid hb4
 clear hc hf hc2 hf2 hbox hR hb1 hb2 hb3 hb4 hbx4 hcut HX HFA HFB HS
 rcases hv.out with ⟨rfl, hall⟩ | ⟨k, rfl, hk, hne, hall⟩
 ·have HL := Lib.hid hall
  clear hall hv
  go_wp2_with (go_at_call 134; refine (cmp_int _ _ _).mono ?_; rintro e w1 ⟨rfl, rfl⟩)
  go_ret
  refine ⟨ret_int ?_, hB4.out⟩
  exact (cmpL_all a b (fun j hj => HL.out j (by rw [HM.out]; exact hj))).symm
 ·have HL := Lib.hid hall
  have HN := Lib.hid hne
  clear hall hv hne
  have h0k : (0 : Int) ≤ (k : Int) := by omega
  have hka : (k : Int) < (a.length : Int) := by omega
  have hkb : (k : Int) < (b.length : Int) := by omega
  have hnk : decide ((k : Int) < 0) = false := decide_eq_false (by omega)
  obtain ⟨ad, hA, ha0, ha1, ha2⟩ := at_T64 (Kd.C_below HA.out hB4.out) k h0k hka
  obtain ⟨ad', hA', hb0, hb1, hb2⟩ := at_T64 (Kd.C_below HB.out hB4.out) k h0k hkb
  cases hA
  cases hA'
  simp only [Int.toNat_natCast] at ha0 ha1 ha2 hb0 hb1 hb2
  go_wp2_with fail
  go_region_with (go_at_call 135; refine (value_Compare_calls _ _ _ _ _ _ _).mono ?_; rintro e w' ⟨rfl, hq⟩)
  all_goals
   go_wp2
   go_ret
   refine ⟨ret_int ?_, (below_dn hB4.out 1).trans (hq.mono (below_dn hB4.out 1).size)⟩
   exact (cmpL_found k a b (by omega) (by omega) HL.out HN.out).symm
theorem row_Compare_calls (A : Option Addr) (c : Nat) (a : List S64) (A' : Option Addr) (c' : Nat) (b : List S64) (w : World) (ha : Kd.C k64 w A a.length a) (hca : a.length ≤ c) (hb : Kd.C k64 w A' b.length b) :
  Calls Try.prog 105 #[.slice A a.length c, .slice A' b.length c'] w fun e w' => e = .returned (.int .i64 (cmpR a b)) ∧ Below w.heap.size w w' := by
 unfold cmpR
 cases h : mayR a with
 | false => rw [if_neg (by decide)]; exact row_Compare_no1 A c a A' c' b w ha hb h
 | true =>
  rw [if_pos rfl]
  cases h' : mayR b with
  | false => rw [if_neg (by decide)]; exact row_Compare_no2 A c a A' c' b w ha hb h h'
  | true => rw [if_pos rfl]; exact row_Compare_yes A c a A' c' b w ha hca hb h h'
end Go.Proofs.Ythngomhhimdolaa.H
end
section
namespace Go.Proofs.Ythngomhhimdolaa.H
open Go.RowKit Go.Shelf Go.Proofs.YthngomhhimdolaaW.PrintWords Go.Proofs.YthngomhhimdolaaW.PrintLast Go.Proofs.YthngomhhimdolaaW.PrintMore Go.Proofs.Ythngomhhimdolaa.P
set_option linter.unusedVariables false
set_option linter.unusedSimpArgs false
attribute [local go_sem high] eqA64
def sameR : List S64 → List S64 → Bool
 | [], [] => true
 | x :: xs, y :: ys => eqS x y && sameR xs ys
 | _, _ => false
theorem sameR_len : ∀ (a b : List S64), a.length ≠ b.length → sameR a b = false
 | [], [], h => absurd rfl h
 | [], _ :: _, _ => rfl
 | _ :: _, [], _ => rfl
 | x :: xs, y :: ys, h => by
  show (eqS x y && sameR xs ys) = false
  rw [sameR_len xs ys (by simpa using h), Bool.and_false]
theorem sameR_no : ∀ (k : Nat) (a b : List S64), k < a.length → k < b.length → eqS (rd_T64 a k) (rd_T64 b k) = false → sameR a b = false
 | 0, x :: xs, y :: ys, _, _, h => by
  have h' : eqS x y = false := h
  show (eqS x y && sameR xs ys) = false
  rw [h', Bool.false_and]
 | k + 1, x :: xs, y :: ys, ha, hb, h => by
  rw [rd_cons, rd_cons] at h
  show (eqS x y && sameR xs ys) = false
  rw [sameR_no k xs ys (by simpa using ha) (by simpa using hb) h, Bool.and_false]
 | k, [], _, ha, _, _ => absurd ha (by simp)
 | k, _ :: _, [], _, hb, _ => absurd hb (by simp)
theorem sameR_yes : ∀ (a b : List S64), a.length = b.length → (∀ j, j < a.length → eqS (rd_T64 a (j : Nat)) (rd_T64 b (j : Nat)) = true) → sameR a b = true
 | [], [], _, _ => rfl
 | [], _ :: _, h, _ => by simp at h
 | _ :: _, [], h, _ => by simp at h
 | x :: xs, y :: ys, h, hj => by
  have h0 : eqS x y = true := hj 0 (by simp)
  show (eqS x y && sameR xs ys) = true
  rw [h0, Bool.true_and]
  refine sameR_yes xs ys (by simpa using h) (fun j hj' => ?_)
  have := hj (j + 1) (by simpa using hj')
  rwa [rd_cons, rd_cons] at this
set_option maxHeartbeats 2000000 in
theorem Equal_calls (A : Option Addr) (c : Nat) (a : List S64) (A' : Option Addr) (c' : Nat) (b : List S64) (w : World) (ha : Kd.C k64 w A a.length a) (hb : Kd.C k64 w A' b.length b) :
  Calls Try.prog 84 #[.slice A a.length c, .slice A' b.length c'] w fun e w' => e = .returned (.bool (sameR a b)) ∧ ∃ q, w' = w.drewN q := by
 have hla := Kd.C_max ha
 have hlb := Kd.C_max hb
 by_cases hl : a.length = b.length
 ·have hd : ((a.length : Int) != (b.length : Int)) = false := bne_eq_false_iff_eq.2 (by omega)
  have hd2 : (a.length != b.length) = false := bne_eq_false_iff_eq.2 hl
  have HL := Lib.hid hl
  have HA := Lib.hid ha
  have HB := Lib.hid hb
  clear hl ha hb
  go_enter Try.func84, Try.ntmps84
  go_wp2
  go_loopg [5, 13] a.length (fun gg _ s13 wr => ∃ k q : Nat, k ≤ a.length ∧ a.length - k ≤ gg ∧ s13 = .int .i64 k ∧ wr = w.drewN q ∧ Hid (∀ j, j < k → eqS (rd_T64 a (j : Nat)) (rd_T64 b (j : Nat)) = true))
  case atStart => exact ⟨0, 0, Nat.zero_le _, by omega, rfl, rfl, Lib.hid (fun j hj => absurd hj (Nat.not_lt_zero _))⟩
  case round =>
   obtain ⟨k, q, hk, hg, rfl, rfl, HP⟩ := hrel
   by_cases hlt : k < a.length
   ·have hltz : (k : Int) < (a.length : Int) := by omega
    have hltb : (k : Int) < (b.length : Int) := by have := HL.out; omega
    have h0k : (0 : Int) ≤ (k : Int) := by omega
    obtain ⟨ad, hA, hc0, hc1, hc2⟩ := at_T64 HA.out k h0k hltz
    obtain ⟨ad', hA', hd0, hd1, hd2⟩ := at_T64 HB.out k h0k hltb
    cases hA
    cases hA'
    simp only [Int.toNat_natCast] at hc0 hc1 hc2 hd0 hd1 hd2
    cases hq : eqS (rd_T64 a k) (rd_T64 b k) with
    | true =>
     have HQ := Lib.hid hq
     have hq2 : (!(rd_T64 a k).f0 == (rd_T64 b k).f0 || (!(rd_T64 a k).f1 == (rd_T64 b k).f1 || !(rd_T64 a k).f2.toList == (rd_T64 b k).f2.toList)) = false := by rw [← Bool.not_and, ← Bool.not_and]; exact congrArg not hq
     have hq3 : ((rd_T64 a k).f0 == (rd_T64 b k).f0 && ((rd_T64 a k).f1 == (rd_T64 b k).f1 && ((rd_T64 a k).f2.toList == (rd_T64 b k).f2.toList))) = true := hq
     clear hq
     go_wp2_with fail
     go_quiet (fail)
     go_wp2
     go_roundg (a.length - (k + 1))
     case measure => omega
     case rel =>
      refine ⟨k + 1, q + nq, by omega, by omega, by go_num, by first | rfl | exact World.drewN_drewN .., Lib.hid (fun j hj => ?_)⟩
      by_cases e : j = k
      ·subst e; exact HQ.out
      ·exact HP.out j (by omega)
    | false =>
     have HQ := Lib.hid hq
     have hq2 : (!(rd_T64 a k).f0 == (rd_T64 b k).f0 || (!(rd_T64 a k).f1 == (rd_T64 b k).f1 || !(rd_T64 a k).f2.toList == (rd_T64 b k).f2.toList)) = true := by rw [← Bool.not_and, ← Bool.not_and]; exact congrArg not hq
     have hq3 : ((rd_T64 a k).f0 == (rd_T64 b k).f0 && ((rd_T64 a k).f1 == (rd_T64 b k).f1 && ((rd_T64 a k).f2.toList == (rd_T64 b k).f2.toList))) = false := hq
     clear hq
     go_wp2_with fail
     go_quiet (fail)
     go_wp2
     go_ret
     refine ⟨ret_bool (sameR_no k a b hlt (by have := HL.out; omega) HQ.out).symm, q + nq, by first | rfl | exact World.drewN_drewN ..⟩
   ·have hltz : ¬ (k : Int) < (a.length : Int) := by omega
    have : k = a.length := by omega
    have HK := Lib.hid this
    clear this
    go_wp2
    go_ret
    refine ⟨ret_bool (sameR_yes a b HL.out (fun j hj => HP.out j (by have := HK.out; omega))).symm, q, rfl⟩
 ·have hd : ((a.length : Int) != (b.length : Int)) = true := bne_iff_ne.2 (by omega)
  have hd2 : (a.length != b.length) = true := bne_iff_ne.2 hl
  have HL := Lib.hid hl
  clear hl
  go_enter Try.func84, Try.ntmps84
  go_wp2
  go_ret
  exact ⟨ret_bool (sameR_len a b HL.out).symm, 0, rfl⟩
theorem drewN_below (w : World) (q : Nat) : Below w.heap.size w (w.drewN q) := below_dn (Below.refl _ _) q
set_option maxHeartbeats 1000000 in
theorem row_Same_calls (A : Option Addr) (c : Nat) (a : List S64) (A' : Option Addr) (c' : Nat) (b : List S64) (w : World) (ha : Kd.C k64 w A a.length a) (hb : Kd.C k64 w A' b.length b) :
  Calls Try.prog 92 #[.slice A a.length c, .slice A' b.length c'] w fun e w' => e = .returned (.bool (sameR a b)) ∧ ∃ q, w' = w.drewN q := by
 have HE := Lib.hid (Equal_calls A c a A' c' b w ha hb)
 clear ha hb
 go_enter Try.func92, Try.ntmps92
 go_wp2_with (go_at_call 84; refine HE.out.mono ?_; rintro e w' ⟨rfl, q, rfl⟩)
 go_ret
 exact ⟨rfl, q, rfl⟩
theorem R_of_own_nil {α : Type} {d : Kd α} {e : Nat} {w : World} {base : Nat} {v : Value} (h : w.ownsRow base e d.sz v 0 []) : d.R e w base (fun _ => True) v [] :=
 ⟨fun _ _ => trivial, [], h, Reps.none _ _⟩
set_option maxHeartbeats 2000000 in
theorem row_Copy_calls (A : Option Addr) (c : Nat) (r : List S64) (w : World) (hr : Kd.C k64 w A r.length r) (hbytes : r.length * 32 ≤ 140737488355328) :
  Calls Try.prog 93 #[.slice A r.length c] w fun e w' => ∃ v, e = .returned v ∧ Kd.R k64 64 w' w.heap.size (fun _ => True) v r ∧ Below w.heap.size w w' := by
 have hm := Kd.C_max hr
 have HR := Lib.hid hr
 have HBY := Lib.hid hbytes
 clear hr hbytes
 obtain ⟨i0, hi0, hz0, hz1, hz2⟩ := info_parts info64
 go_enter Try.func93, Try.ntmps93
 go_wp2_with (first
  | (at_make; refine wpList_make_own _ rfl _ _ 66 rfl w.heap.size 64 i0 _ 3 Try.underlying66 hi0 hz0 hz1 .i64 .i64 r.length r.length rfl rfl rfl (by rw [hz2]; have := HBY.out; omega) (by unfold maxLen; omega) (Nat.le_refl _) ?_; intro w1 hown hgr; have HO := Lib.hid (R_of_own_nil (d := k64) (e := 64) hown); have HB := Lib.hid ((Below.refl w.heap.size w).grown hgr (Nat.le_refl _) (fun k e => by cases e)); clear hown hgr hi0 hz0 hz1 hz2)
  | (at_builtin; refine Kd.R_append_rows k64 (Rr := k64.K w1) (w0 := w) w.heap.size rfl _ _ 66 64 _ 32 rfl Try.underlying66 info64 rfl (by decide) (by decide) _ [] r A r.length c (fun _ => True) (fun _ => False) rfl rfl HO.out (Kd.C_below HR.out HB.out) (fun x cs hk => hk) (fun _ h => h.elim) (fun _ _ => trivial) HB.out HB.out.size (by simpa using HBY.out) ?_; intro v1 w2 hR2 hB2 _ _))
 go_ret
 exact ⟨_, rfl, by simpa using hR2, hB2⟩
end Go.Proofs.Ythngomhhimdolaa.H
end
section
namespace Go.Proofs.Ythngomhhimdolaa.H
open Go.RowKit Go.Shelf Go.Proofs.YthngomhhimdolaaW.PrintWords Go.Proofs.YthngomhhimdolaaW.PrintLast Go.Proofs.YthngomhhimdolaaW.PrintMore Go.Proofs.Ythngomhhimdolaa.P Go.Proofs.Ythngomhhimdolaa.R
set_option linter.unusedVariables false
set_option linter.unusedSimpArgs false
def jmp (x : S68) : S83 := ⟨x.f1, x.f2⟩
def takeRun (r : List S64) : List S68 → List S83
 | [] => []
 | x :: xs => if sameR x.f0 r = true then jmp x :: takeRun r xs else []
def dropRun (r : List S64) : List S68 → List S68
 | [] => []
 | x :: xs => if sameR x.f0 r = true then dropRun r xs else x :: xs
theorem dropRun_len (r : List S64) : ∀ l, (dropRun r l).length ≤ l.length
 | [] => Nat.le_refl _
 | x :: xs => by
  unfold dropRun
  split
  ·exact Nat.le_trans (dropRun_len r xs) (Nat.le_succ _)
  ·exact Nat.le_refl _
def runs : List S68 → List (List S64 × List S83)
 | [] => []
 | x :: xs => (x.f0, jmp x :: takeRun x.f0 xs) :: runs (dropRun x.f0 xs)
 termination_by l => l.length
 decreasing_by simp only [List.length_cons]; have := dropRun_len x.f0 xs; omega
theorem runs_nil : runs [] = [] := by rw [runs]
theorem runs_cons (x : S68) (xs : List S68) : runs (x :: xs) = (x.f0, jmp x :: takeRun x.f0 xs) :: runs (dropRun x.f0 xs) := by rw [runs]
theorem sameR_refl : ∀ r, sameR r r = true
 | [] => rfl
 | x :: xs => by
  show (eqS x x && sameR xs xs) = true
  rw [sameR_refl xs, Bool.and_true]
  unfold eqS; simp
theorem drop_rd (l : List S68) (j : Nat) (h : j < l.length) : l.drop j = rd_T68 l (j : Nat) :: l.drop (j + 1) := by
 rw [List.drop_eq_getElem_cons h]
 congr 1
 unfold rd_T68
 simp [List.getD_eq_getElem?_getD, List.getElem?_eq_getElem h]
theorem takeRun_yes (r : List S64) (l : List S68) (j : Nat) (h : j < l.length) (hs : sameR (rd_T68 l (j : Nat)).f0 r = true) : takeRun r (l.drop j) = jmp (rd_T68 l (j : Nat)) :: takeRun r (l.drop (j + 1)) ∧ dropRun r (l.drop j) = dropRun r (l.drop (j + 1)) := by
 rw [drop_rd l j h]
 exact ⟨by rw [takeRun, if_pos hs], by rw [dropRun, if_pos hs]⟩
theorem takeRun_lt {l : List S68} {k j : Nat} {fs : List S83} (hlt : k < l.length) (hj : j < l.length) (h1 : takeRun (rd_T68 l (k : Nat)).f0 (l.drop k) = fs ++ takeRun (rd_T68 l (k : Nat)).f0 (l.drop j)) (h2 : takeRun (rd_T68 l (k : Nat)).f0 (l.drop j) = []) (h3 : fs.length + k = j) (hkj : k ≤ j) : k < j := by
 rcases Nat.lt_or_ge k j with h | h
 ·exact h
 ·have : k = j := by omega
  subst this
  rw [drop_rd l k hlt, takeRun, if_pos (sameR_refl _)] at h2
  cases h2
theorem kb_below {n₀ : Nat} {Pr : Nat → Obj → Prop} {w A B : World} (h : KB Pr A B) (hb : Below n₀ w A) (hp : ∀ k o, k < n₀ → A.heap[k]? = some o → Pr k o) (hn : n₀ ≤ w.heap.size) : Below n₀ w B :=
 ⟨h.os.trans hb.os, h.tape.trans hb.tape, h.output.trans hb.output, Nat.le_trans hb.size h.size, fun k hk => by
  have hlt : k < A.heap.size := Nat.lt_of_lt_of_le hk (Nat.le_trans hn hb.size)
  have ho : A.heap[k]? = some A.heap[k] := Array.getElem?_eq_getElem hlt
  exact (h.same k _ ho (hp k _ hk ho)).trans (ho.symm.trans (hb.block k hk))⟩
theorem takeRun_no (r : List S64) (l : List S68) (j : Nat) (h : j < l.length → sameR (rd_T68 l (j : Nat)).f0 r = false) : takeRun r (l.drop j) = [] ∧ dropRun r (l.drop j) = l.drop j := by
 by_cases hj : j < l.length
 ·rw [drop_rd l j hj]
  exact ⟨by rw [takeRun, if_neg (by rw [h hj]; decide)], by rw [dropRun, if_neg (by rw [h hj]; decide)]⟩
 ·rw [List.drop_eq_nil_of_le (by omega)]
  exact ⟨rfl, rfl⟩
def OKrun (m : Nat) (p : List S64 × List S83) (vs : Array Value) (W : World) : Prop :=
 ∃ (v u : Value) (B : Nat), vs = #[v, u] ∧ m ≤ B ∧ Kd.R k64 64 W B (fun _ => True) v p.1 ∧ Kd.R k83 83 W B (fun _ => True) u p.2
def Prun (n₀ c m : Nat) (k : Nat) (o : Obj) : Prop := k < n₀ ∨ c ≤ k ∧ (k < m ∨ book o = true ∨ ∃ v, o = .cells #[v] 22 (0, 0))
theorem R_empty83 {wo : World} : Kd.R k83 83 (wo.alloc (.cells #[] 83 (0, 0))) wo.heap.size (fun _ => True) (.slice (some ⟨wo.heap.size, 0, none⟩) 0 0) [] := by
 refine R_of_own_nil ?_
 exact World.ownsRow_made wo (#[] : Array Value) 0 (Nat.le_refl _) (by unfold maxLen; omega) (by simp)
set_option maxHeartbeats 4000000 in
theorem runs_in (n : Nat) (hn : 1 ≤ n) (A : Option Addr) (c : Nat) (l : List S68) (n₀ c₀ Bx : Nat) (w : World) (hl : ∀ W, Below n₀ w W → Kd.C k68 W A l.length l) (hbx : Boxed w Bx 22 (.slice A l.length c)) (hc : c₀ ≤ Bx) (hn₀ : n₀ ≤ c₀)
  (hrows : ∀ x ∈ l, x.f0.length * 32 ≤ 140737488355328) (hlen : l.length * 40 ≤ 140737488355328) :
  SeqM Fence.wide n Try.prog 114 #[.pointer (some ⟨Bx, 0, none⟩)] (OKrun w.heap.size) (runs l) (Prun n₀ c₀ w.heap.size) w := by
 intro lp J Jx W hW hJ hJx hY h0
 have hnw : n₀ ≤ w.heap.size := by have := hbx.lt; omega
 have HLB := Lib.hid hlen
 have hlm : l.length ≤ 9223372036854775807 := by omega
 clear hlen
 have HRB := Lib.hid (fun (k : Nat) (hk : k < l.length) => hrows (rd_T68 l (k : Nat)) (by unfold rd_T68; simpa using getD_mem l z68 k hk))
 clear hrows
 refine callsIn_of_wp Try.func114 rfl trivial ?_ rfl
 simp only [Try.ntmps114, List.size_toArray, List.length_cons, List.length_nil, Nat.reduceAdd, Nat.reduceSub, Array.replicate_succ, Array.replicate_zero, List.push_toArray, List.append_toArray, List.nil_append, List.cons_append]
 gi_wp2
 gi_loopw [3] (fun i wr => ∃ (k : Nat) (pre : List (List S64 × List S83)), k ≤ l.length ∧ i = .int .i64 k ∧ Hid (runs l = pre ++ runs (l.drop k)) ∧ Hid (J pre wr) ∧ Hid (Below n₀ w wr) ∧ Hid (Boxed wr Bx 22 (.slice A l.length c))) (fun i _ => l.length - (intOf i).toNat)
 case atStart => exact ⟨0, [], Nat.zero_le _, rfl, Lib.hid (by simp), Lib.hid h0, Lib.hid ⟨hW.os, hW.tape, hW.output, hW.size, fun i hi => hW.block i (by omega)⟩, Lib.hid (Boxed.below hbx hW)⟩
 case round =>
  obtain ⟨k, pre, hk, rfl, HX, HJ, HB, HBX⟩ := hrel
  by_cases hlt : k < l.length
  ·have hltz : (k : Int) < (l.length : Int) := by omega
   have h0k : (0 : Int) ≤ (k : Int) := by omega
   obtain ⟨ad, A0, c0, hA, hc0, hc1, hc2, hl0, hr0⟩ := at_T68 (hl wr HB.out) k h0k hltz
   cases hA
   simp only [Int.toNat_natCast] at hc0 hc1 hc2
   have hbox := HBX.out.cell
   obtain ⟨wo, rfl⟩ : ∃ wo : World, wo = wr := ⟨_, rfl⟩
   have HR0 := Lib.hid hr0
   have HL0 := Lib.hid hl0
   have HLL := Lib.hid hl
   clear hr0 hl0 hl
   gi_wp2
   refine wpIn_wide.2 ?_
   go_loopg [3, 5] (l.length - k) (fun gg i f wr => ∃ (j : Nat) (fs : List S83), k ≤ j ∧ j ≤ l.length ∧ l.length - j ≤ gg ∧ i = .int .i64 j ∧ Hid (fs.length + k = j) ∧ Hid (takeRun (rd_T68 l k).f0 (l.drop k) = fs ++ takeRun (rd_T68 l k).f0 (l.drop j) ∧ dropRun (rd_T68 l k).f0 (l.drop k) = dropRun (rd_T68 l k).f0 (l.drop j)) ∧ Hid (Kd.R k83 83 wr wo.heap.size (fun _ => True) f fs) ∧ Hid (Below wo.heap.size wo wr))
   case atStart => exact ⟨k, [], Nat.le_refl _, hk, Nat.le_refl _, rfl, Lib.hid (by simp), Lib.hid ⟨rfl, rfl⟩, Lib.hid R_empty83, Lib.hid ((Below.refl _ _).alloc (Nat.le_refl _) _)⟩
   case round =>
    obtain ⟨j, fs, hkj, hj, hg, rfl, HLE, HTK, HF, HB2⟩ := hrel
    have hbox2 : wr.cell? ⟨Bx, 0, none⟩ = some (.slice (some ad) l.length c) := (Boxed.below HBX.out HB2.out).cell
    clear hbox hc0 hc1 hc2
    by_cases hltj : j < l.length
    ·have hltzj : (j : Int) < (l.length : Int) := by omega
     have h0j : (0 : Int) ≤ (j : Int) := by omega
     have HBW := Lib.hid (HB.out.trans (HB2.out.mono (Nat.le_trans hnw HB.out.size)))
     obtain ⟨ad', A1, c1, hA, hd0, hd1, hd2, hl1, hr1⟩ := at_T68 (HLL.out wr HBW.out) j h0j hltzj
     cases hA
     simp only [Int.toNat_natCast] at hd0 hd1 hd2
     have HR1 := Lib.hid hr1
     have HC := Lib.hid (row_Same_calls A1 c1 (rd_T68 l j).f0 A0 c0 (rd_T68 l k).f0 wr hr1 (Kd.C_below HR0.out HB2.out))
     clear hr1 hl1
     cases hq : sameR (rd_T68 l j).f0 (rd_T68 l k).f0 with
     | true =>
      have HQ := Lib.hid hq
      have HC2 := Lib.hid (hq ▸ HC.out)
      clear hq HC
      go_wp2_with (go_at_call 92; refine HC2.out.mono ?_; rintro e w' ⟨rfl, q, rfl⟩)
      have hwq : ∀ (v : Value) (W : World), True := fun _ _ => trivial
      clear hwq
      have HF2 := Lib.hid (Kd.R_drewN HF.out q)
      have HB3 := Lib.hid (below_dn HB2.out q)
      have HLT := Lib.hid hltj
      go_region_law (first | (refine Kd.R_append_step k83 (W := (wr.drewN q).drew) (w0 := wo) wo.heap.size (by simp [Region.wanted]) _ _ 80 83 _ 16 rfl Try.underlying80 info83 rfl (by decide) (by decide) u5 fs (jmp (rd_T68 l j)) [.int .i64 (rd_T68 l j).f1, .int .i64 (rd_T68 l j).f2] (fun _ => True) (fun _ => False) rfl rfl (k83_mkM _ _ _ _) (fun _ h => h.elim) (fun _ _ => trivial) (Kd.R_drew HF2.out) (HB3.out.drew) HB3.out.size (by have := HLB.out; have := HLE.out; have := HLT.out; omega) ?_; intro v1 w1 hR1 hB1 _ _))
      all_goals
       go_wp2
       go_roundg (l.length - (j + 1))
       case measure => omega
       case rel =>
        refine ⟨j + 1, fs ++ [jmp (rd_T68 l j)], by omega, by omega, by omega, by go_num, Lib.hid (by have := HLE.out; simp; omega), Lib.hid ?_, Lib.hid hR1, Lib.hid hB1⟩
        have h1 := HTK.out
        have h2 := takeRun_yes (rd_T68 l k).f0 l j HLT.out HQ.out
        exact ⟨by rw [h1.1, h2.1, List.append_assoc]; rfl, by rw [h1.2, h2.2]⟩
     | false =>
      have HQ := Lib.hid hq
      have HC2 := Lib.hid (hq ▸ HC.out)
      have HLT := Lib.hid hltj
      clear hq HC
      go_wp2_with (go_at_call 92; refine HC2.out.mono ?_; rintro e w' ⟨rfl, q, rfl⟩)
      have HTK2 := Lib.hid (takeRun_no (rd_T68 l k).f0 l j (fun _ => HQ.out))
      have HF2 := Lib.hid (Kd.R_drewN HF.out q)
      have HB3 := Lib.hid (below_dn HB2.out q)
      have HKJ := Lib.hid (takeRun_lt hlt HLT.out HTK.out.1 HTK2.out.1 HLE.out hkj)
      clear HC2 HQ hd0 hd1 hd2 HR1 HBW HF HB2
      gi_wp2_with fail
      refine ⟨trivial, ?_⟩
      refine (callsIn_wide.2 (row_Copy_calls A0 c0 (rd_T68 l k).f0 _ (Kd.C_below HR0.out HB3.out) (HRB.out k hlt))).mono ?_
      rintro e w2 ⟨v, rfl, hRv, hBv⟩
      have hBw := HB3.out.trans (hBv.mono HB3.out.size)
      have hJ2 := hJ _ _ _ HJ.out hBw
      have hxs : runs l = pre ++ ((rd_T68 l k).f0, fs) :: runs (l.drop j) := by
       have h1 := HX.out
       have h2 := HTK.out
       have h3 := HTK2.out
       rw [drop_rd l k hlt, runs_cons] at h1
       rw [drop_rd l k hlt, takeRun, dropRun, if_pos (sameR_refl _), if_pos (sameR_refl _)] at h2
       rw [h2.1, h2.2, h3.1, h3.2, List.append_nil] at h1
       exact h1
      obtain ⟨fn, tmps, assign, body, hy, hR⟩ := hY pre ((rd_T68 l k).f0, fs) (runs (l.drop j)) #[v, u5] w2 hxs hJ2 ⟨v, u5, wo.heap.size, rfl, HB.out.size, Kd.R_lower hRv HB3.out.size, Kd.R_below HF2.out hBv⟩
      have HXS := Lib.hid hxs
      have HBWW := Lib.hid (HB.out.trans (hBw.mono (Nat.le_trans hnw HB.out.size)))
      have HBX2 := Lib.hid (Boxed.below HBX.out hBw)
      have hkj2 : k < j := by have := HKJ.out; omega
      clear hxs hJ2 hBw hBv hRv
      gi_wp2
      refine hR.mono ?_
      rintro e W3 (⟨rfl, hJ3, hk3⟩ | ⟨rfl, hJx3⟩)
      ·have HJ3 := Lib.hid hJ3
       have HK3 := Lib.hid hk3
       clear hJ3 hk3 hy hR
       gi_wp2
       go_roundw
       case measure => simp [intOf]; omega
       case rel =>
        refine ⟨j, pre ++ [((rd_T68 l k).f0, fs)], by omega, rfl, Lib.hid (by rw [HXS.out, List.append_assoc]; rfl), HJ3, Lib.hid (kb_below HK3.out HBWW.out (fun k o hk _ => .inl hk) hnw), Lib.hid (HK3.out.same _ _ HBX2.out (.inr ⟨hc, .inl hbx.lt⟩))⟩
      ·have HJ3 := Lib.hid hJx3
       clear hJx3 hy hR
       gi_wp2
       refine bodyPost_ret (results_none rfl _ _ _) rfl ?_
       exact ⟨⟨_, rfl⟩, .inr HJ3.out⟩
    ·have HTK2 := Lib.hid (takeRun_no (rd_T68 l k).f0 l j (fun h => absurd h hltj))
     have HF2 := HF
     have HB3 := HB2
     have HKJ : Hid (k < j) := Lib.hid (by omega)
     have hltzj : ¬ (j : Int) < (l.length : Int) := by omega
     clear HF HB2
     go_wp2
     gi_wp2_with fail
     refine ⟨trivial, ?_⟩
     refine (callsIn_wide.2 (row_Copy_calls A0 c0 (rd_T68 l k).f0 _ (Kd.C_below HR0.out HB3.out) (HRB.out k hlt))).mono ?_
     rintro e w2 ⟨v, rfl, hRv, hBv⟩
     have hBw := HB3.out.trans (hBv.mono HB3.out.size)
     have hJ2 := hJ _ _ _ HJ.out hBw
     have hxs : runs l = pre ++ ((rd_T68 l k).f0, fs) :: runs (l.drop j) := by
      have h1 := HX.out
      have h2 := HTK.out
      have h3 := HTK2.out
      rw [drop_rd l k hlt, runs_cons] at h1
      rw [drop_rd l k hlt, takeRun, dropRun, if_pos (sameR_refl _), if_pos (sameR_refl _)] at h2
      rw [h2.1, h2.2, h3.1, h3.2, List.append_nil] at h1
      exact h1
     obtain ⟨fn, tmps, assign, body, hy, hR⟩ := hY pre ((rd_T68 l k).f0, fs) (runs (l.drop j)) #[v, u5] w2 hxs hJ2 ⟨v, u5, wo.heap.size, rfl, HB.out.size, Kd.R_lower hRv HB3.out.size, Kd.R_below HF2.out hBv⟩
     have HXS := Lib.hid hxs
     have HBWW := Lib.hid (HB.out.trans (hBw.mono (Nat.le_trans hnw HB.out.size)))
     have HBX2 := Lib.hid (Boxed.below HBX.out hBw)
     have hkj2 : k < j := by have := HKJ.out; omega
     clear hxs hJ2 hBw hBv hRv
     gi_wp2
     refine hR.mono ?_
     rintro e W3 (⟨rfl, hJ3, hk3⟩ | ⟨rfl, hJx3⟩)
     ·have HJ3 := Lib.hid hJ3
      have HK3 := Lib.hid hk3
      clear hJ3 hk3 hy hR
      gi_wp2
      go_roundw
      case measure => simp [intOf]; omega
      case rel =>
       refine ⟨j, pre ++ [((rd_T68 l k).f0, fs)], by omega, rfl, Lib.hid (by rw [HXS.out, List.append_assoc]; rfl), HJ3, Lib.hid (kb_below HK3.out HBWW.out (fun k o hk _ => .inl hk) hnw), Lib.hid (HK3.out.same _ _ HBX2.out (.inr ⟨hc, .inl hbx.lt⟩))⟩
     ·have HJ3 := Lib.hid hJx3
      clear hJx3 hy hR
      gi_wp2
      refine bodyPost_ret (results_none rfl _ _ _) rfl ?_
      exact ⟨⟨_, rfl⟩, .inr HJ3.out⟩
  ·have : k = l.length := by omega
   have HK := Lib.hid this
   clear this
   have hltz : ¬ (k : Int) < (l.length : Int) := by omega
   have hbox := HBX.out.cell
   gi_wp2
   go_end0
   refine ⟨⟨_, rfl⟩, .inl ?_⟩
   have h1 := HX.out
   rw [HK.out, List.drop_length, runs_nil, List.append_nil] at h1
   rw [h1]
   exact HJ.out
end Go.Proofs.Ythngomhhimdolaa.H
end
section
namespace Go.Proofs.Ythngomhhimdolaa.H
open Go.RowKit Go.Shelf Go.Proofs.YthngomhhimdolaaW.PrintWords Go.Proofs.YthngomhhimdolaaW.PrintLast Go.Proofs.YthngomhhimdolaaW.PrintMore Go.Proofs.Ythngomhhimdolaa.P Go.Proofs.Ythngomhhimdolaa.R
set_option linter.unusedVariables false
set_option linter.unusedSimpArgs false
attribute [local go_sem] Oper.semAt_some
theorem yielded_undef : (match (some undef : Option Value) with | some (.bool b) => some b | _ => none) = (none : Option Bool) := rfl
attribute [local go_sem] yielded_undef
def eachB (holds : List S83 → Bool) : Option (List S64) → List (List S64 × List S83) → Bool
 | _, [] => true
 | none, (r, f) :: rest => if mayR r = true then (if holds f = true then eachB holds (some r) rest else false) else false
 | some q, (r, f) :: rest => if mayR r = true then (if cmpR q r < 0 then (if holds f = true then eachB holds (some r) rest else false) else false) else false
theorem eachB_nil (holds : List S83 → Bool) (q : Option (List S64)) : eachB holds q [] = true := by cases q <;> rfl
set_option maxHeartbeats 1000000 in
theorem runs_calls (A : Option Addr) (n c : Nat) (w : World) : Calls Try.prog 90 #[.slice A n c] w fun e w' => e = .returned (.func (.func 114) #[] #[.pointer (some ⟨w.heap.size, 0, none⟩)]) ∧ w' = w.alloc (.cells #[.slice A n c] 22 (0, 0)) := by
 go_enter Try.func90, Try.ntmps90
 go_wp2
 go_ret
 exact ⟨rfl, rfl⟩
theorem C64_kc {n₀ : Nat} {A B : World} {ad : Option Addr} {n : Nat} {xs : List S64} (h : Kd.C k64 A ad n xs) (hk : KC n₀ A B) : Kd.C k64 B ad n xs := C64_cells h (fun _ _ _ _ _ hv => hk.cell hv)
theorem C83_kc {n₀ : Nat} {A B : World} {ad : Option Addr} {n : Nat} {xs : List S83} (h : Kd.C k83 A ad n xs) (hk : KC n₀ A B) : Kd.C k83 B ad n xs := by
 obtain ⟨h1, h2, h3⟩ := h
 refine ⟨h1, h2, fun hp => ?_⟩
 obtain ⟨a, hA, hr⟩ := h3 hp
 refine ⟨a, hA, fun j p hj => ?_⟩
 obtain ⟨c, hl, hK, hcs⟩ := hr j p hj
 exact ⟨c, hl, hK, fun i u hu => hk.cell (hcs i u hu)⟩
theorem prun_no {n₀ c m k : Nat} {o : Obj} (h1 : n₀ ≤ k) (h2 : k < c) (h : Prun n₀ c m k o) : False := by
 rcases h with h | h
 ·omega
 ·omega
theorem eachB_no1 {holds : List S83 → Bool} {r : List S64} {f : List S83} (q : Option (List S64)) (rest : List (List S64 × List S83)) (h : mayR r = false) : eachB holds q ((r, f) :: rest) = false := by
 cases q <;> (unfold eachB; rw [if_neg (by rw [h]; decide)])
theorem eachB_no2 {holds : List S83 → Bool} {r : List S64} {f : List S83} (q : List S64) (rest : List (List S64 × List S83)) (h : ¬ cmpR q r < 0) : eachB holds (some q) ((r, f) :: rest) = false := by
 unfold eachB
 simp [h]
theorem eachB_no3 {holds : List S83 → Bool} {r : List S64} {f : List S83} (q : Option (List S64)) (rest : List (List S64 × List S83)) (h : holds f = false) : eachB holds q ((r, f) :: rest) = false := by
 cases q <;> (unfold eachB; simp [h])
theorem eachB_yes0 {holds : List S83 → Bool} {r : List S64} {f : List S83} (rest : List (List S64 × List S83)) (h : mayR r = true) (h3 : holds f = true) : eachB holds none ((r, f) :: rest) = eachB holds (some r) rest := by
 rw [eachB, if_pos h, if_pos h3]
theorem eachB_yes1 {holds : List S83 → Bool} {r : List S64} {f : List S83} (q : List S64) (rest : List (List S64 × List S83)) (h : mayR r = true) (h2 : cmpR q r < 0) (h3 : holds f = true) : eachB holds (some q) ((r, f) :: rest) = eachB holds (some r) rest := by
 rw [eachB, if_pos h, if_pos h2, if_pos h3]
theorem cell_none {w : World} {b : Nat} {t : TypeId} {v : Value} (hb : Boxed w b t v) {a : Addr} (ha : a.block = b) (ho : 0 < a.off) : w.cell? a = none := by
 have h : w.heap[a.block]? = some (.cells #[v] t (0, 0)) := by rw [ha]; exact hb
 simp [World.cell?, h]
 omega
theorem C64_far {w : World} {A : Option Addr} {n : Nat} {xs : List S64} (h : Kd.C k64 w A n xs) {b : Nat} {t : TypeId} {v : Value} (hb : Boxed w b t v) (u : Value) : Kd.C k64 (w.setCell ⟨b, 0, none⟩ u) A n xs := by
 refine C64_cells h (fun hp ad j x hA hx => ?_)
 obtain ⟨ad', hA', h0, h1, -⟩ := at_T64 h 0 (by omega) (by omega)
 rw [hA] at hA'; cases hA'
 have hne : (ad.add j).block ≠ b := by
  intro e
  rw [add_block] at e
  have := cell_none hb (a := ⟨(ad.add ((0:Int).toNat * 3)).block, (ad.add ((0:Int).toNat * 3)).off + 1, none⟩) (by show (ad.add _).block = b; rw [add_block]; exact e) (Nat.succ_pos _)
  rw [this] at h1; cases h1
 unfold World.cell? at hx ⊢
 rw [Below.heap_setCell _ _ _ _ (by exact hne)]
 exact hx
structure EachI (hv : Value) (holds : List S83 → Bool) (xs : List (List S64 × List S83)) (w : World) (pre : List (List S64 × List S83)) (W : World) : Prop where
 below : Below w.heap.size w W
 bh : Boxed W w.heap.size 106 hv
 br : Boxed W (w.heap.size + 1) 4 (.bool false)
 bb : Boxed W (w.heap.size + 3) 4 (.bool (!pre.isEmpty))
 bl : ∃ v, Boxed W (w.heap.size + 2) 66 v ∧ ∀ q, pre.getLast? = some q → ∃ A c, v = .slice A q.1.length c ∧ q.1.length ≤ c ∧ Kd.C k64 W A q.1.length q.1
 so : ∀ rest, xs = pre ++ rest → eachB holds none xs = eachB holds (pre.getLast?.map (·.1)) rest
theorem EachI.kc {hv : Value} {holds : List S83 → Bool} {xs : List (List S64 × List S83)} {w : World} {pre : List (List S64 × List S83)} {A B : World} (h : EachI hv holds xs w pre A) (hk : KC w.heap.size A B) : EachI hv holds xs w pre B :=
 ⟨hk.below h.below (Nat.le_refl _), hk.obj h.bh, hk.obj h.br, hk.obj h.bb, by
  obtain ⟨v, h1, h2⟩ := h.bl
  exact ⟨v, hk.obj h1, fun q hq => by obtain ⟨a, c, h3, h4, h5⟩ := h2 q hq; exact ⟨a, c, h3, h4, C64_kc h5 hk⟩⟩, h.so⟩
theorem EachI.step {hv : Value} {holds : List S83 → Bool} {xs : List (List S64 × List S83)} {w : World} {pre : List (List S64 × List S83)} {W : World} (h : EachI hv holds xs w pre W)
  (r : List S64) (f : List S83) (A : Option Addr) (c : Nat) (hc : r.length ≤ c) (hr : Kd.C k64 W A r.length r) (so : ∀ rest, xs = pre ++ (r, f) :: rest → eachB holds none xs = eachB holds (some r) rest) :
  EachI hv holds xs w (pre ++ [(r, f)]) ((W.setCell ⟨w.heap.size + 2, 0, none⟩ (.slice A r.length c)).setCell ⟨w.heap.size + 3, 0, none⟩ (.bool true)) := by
 obtain ⟨v, h1, -⟩ := h.bl
 have g1 : Boxed (W.setCell ⟨w.heap.size + 2, 0, none⟩ (.slice A r.length c)) (w.heap.size + 3) 4 (.bool (!pre.isEmpty)) := h.bb.other (by omega) _
 refine ⟨below_set (below_set h.below _ _ (by omega)) _ _ (by omega), (h.bh.other (by omega) _).other (by omega) _, (h.br.other (by omega) _).other (by omega) _, ?_,
  ⟨_, (h1.set _).other (by omega) _, fun q hq => ?_⟩, fun rest e => ?_⟩
 ·have : (!(pre ++ [(r, f)]).isEmpty) = true := by simp
  rw [this]
  exact g1.set _
 ·rw [List.getLast?_concat] at hq
  cases hq
  exact ⟨A, c, rfl, hc, C64_far (C64_far hr h1 _) g1 _⟩
 ·rw [List.getLast?_concat]
  exact so rest (by rw [e, List.append_assoc]; rfl)
theorem list_end {α : Type} (l : List α) : l = [] ∨ ∃ l' x, l = l' ++ [x] := by
 rcases List.eq_nil_or_concat l with h | ⟨a, b, h⟩
 ·exact .inl h
 ·exact .inr ⟨a, b, by rw [h, List.concat_eq_append]⟩
def EachX (holds : List S83 → Bool) (xs : List (List S64 × List S83)) (w : World) (c : Code) (W : World) : Prop :=
 c = .ret ∧ Below w.heap.size w W ∧ Boxed W (w.heap.size + 1) 4 (.bool false) ∧ eachB holds none xs = false
theorem EachX.kc {holds : List S83 → Bool} {xs : List (List S64 × List S83)} {w : World} {c : Code} {A B : World} (h : EachX holds xs w c A) (hk : KC w.heap.size A B) : EachX holds xs w c B :=
 ⟨h.1, hk.below h.2.1 (Nat.le_refl _), hk.obj h.2.2.1, h.2.2.2⟩
set_option maxHeartbeats 4000000 in
theorem each_yes (g : Nat) (lb : Array Value) (eg : ∀ args w, (callFunc g args).run Try.prog w = .ok (.enter g args) w) (holds : List S83 → Bool) (A : Option Addr) (c : Nat) (l : List S68) (w : World) (hl : Kd.C k68 w A l.length l)
  (hrows : ∀ x ∈ l, x.f0.length * 32 ≤ 140737488355328) (h4 : l.length ≤ 4096)
  (hg : ∀ (W : World) (ad : Option Addr) (cf : Nat) (f : List S83), Below w.heap.size w W → f.length ≤ cf → Kd.C k83 W ad f.length f → Calls Try.prog g (#[.slice ad f.length cf] ++ lb) W fun e W' => e = .returned (.bool (holds f)) ∧ Below W.heap.size W W') :
  Calls Try.prog 72 #[.slice A l.length c, .func (.func g) #[] lb] w fun e w' => e = .returned (.bool (eachB holds none (runs l))) ∧ Below w.heap.size w w' := by
 have hd : decide ((4096 : Int) < (l.length : Int)) = false := decide_eq_false (by omega)
 have hd2 : decide (4096 < l.length) = false := decide_eq_false (by omega)
 have HL := Lib.hid hl
 have HR := Lib.hid hrows
 have HG := Lib.hid hg
 have H4 := Lib.hid h4
 clear hl hrows hg h4
 refine (callsIn_wide (n := 5)).1 ?_
 refine callsIn_of_wp_marks Try.func72 rfl trivial ?_ rfl
 simp only [Try.ntmps72, List.size_toArray, List.length_cons, List.length_nil, Nat.reduceAdd, Nat.reduceSub, Array.replicate_succ, Array.replicate_zero, List.push_toArray, List.append_toArray, List.nil_append, List.cons_append]
 gi_wp2_with fail
 refine ⟨trivial, ?_⟩
 refine (callsIn_wide.2 (runs_calls _ _ _ _)).mono ?_
 rintro e w1 ⟨rfl, rfl⟩
 gi_wp2_with fail
 obtain ⟨W0, hW0⟩ : ∃ W0, W0 = (((((w.alloc (.cells #[.func (.func g) #[] lb] 106 (0, 0))).alloc (.cells #[.bool false] 4 (0, 0))).alloc (.cells #[.slice none 0 0] 66 (0, 0))).alloc (.cells #[.bool false] 4 (0, 0))).alloc (.cells #[.slice A l.length c] 22 (0, 0))) := ⟨_, rfl⟩
 rw [← hW0]
 have hsz : W0.heap.size = w.heap.size + 5 := by rw [hW0]; simp
 have hbw : Below w.heap.size w W0 := by
  rw [hW0]; exact (((((Below.refl w.heap.size w).alloc (Nat.le_refl _) _).alloc (by simp) _).alloc (by simp; omega) _).alloc (by simp; omega) _).alloc (by simp; omega) _
 have b0 : Boxed W0 w.heap.size 106 (.func (.func g) #[] lb) := by rw [hW0]; exact ((((Boxed.new w 106 _).alloc _).alloc _).alloc _).alloc _
 have b1 : Boxed W0 (w.heap.size + 1) 4 (.bool false) := by
  rw [hW0]; exact (((by have := Boxed.new (w.alloc (.cells #[.func (.func g) #[] lb] 106 (0, 0))) 4 (.bool false); rwa [World.size_alloc] at this : Boxed _ (w.heap.size + 1) 4 (.bool false)).alloc _).alloc _).alloc _
 have b2 : Boxed W0 (w.heap.size + 2) 66 (.slice none 0 0) := by
  rw [hW0]; exact ((by have := Boxed.new ((w.alloc (.cells #[.func (.func g) #[] lb] 106 (0, 0))).alloc (.cells #[.bool false] 4 (0, 0))) 66 (.slice none 0 0); rwa [World.size_alloc, World.size_alloc] at this : Boxed _ (w.heap.size + 2) 66 (.slice none 0 0)).alloc _).alloc _
 have b3 : Boxed W0 (w.heap.size + 3) 4 (.bool false) := by
  rw [hW0]; exact (by have := Boxed.new (((w.alloc (.cells #[.func (.func g) #[] lb] 106 (0, 0))).alloc (.cells #[.bool false] 4 (0, 0))).alloc (.cells #[.slice none 0 0] 66 (0, 0))) 4 (.bool false); rwa [World.size_alloc, World.size_alloc, World.size_alloc] at this : Boxed _ (w.heap.size + 3) 4 (.bool false)).alloc _
 have b4 : Boxed W0 (w.heap.size + 4) 22 (.slice A l.length c) := by
  rw [hW0]; have := Boxed.new ((((w.alloc (.cells #[.func (.func g) #[] lb] 106 (0, 0))).alloc (.cells #[.bool false] 4 (0, 0))).alloc (.cells #[.slice none 0 0] 66 (0, 0))).alloc (.cells #[.bool false] 4 (0, 0))) 22 (.slice A l.length c); rwa [World.size_alloc, World.size_alloc, World.size_alloc, World.size_alloc] at this
 clear hW0
 refine rangeM (F := Fence.wide) (Pr := Prun w.heap.size (w.heap.size + 4) W0.heap.size) (OK := OKrun W0.heap.size) (xs := runs l) (n₀ := w.heap.size) rfl (by decide) (gf := 114) (lb := #[.pointer (some ⟨w.heap.size + 4, 0, none⟩)]) rfl trivial (enters_of Try.func114 (by kernel_rfl) rfl) (by omega)
  (runs_in 4 (by decide) A c l w.heap.size (w.heap.size + 4) (w.heap.size + 4) W0 (fun W hW => Kd.C_below HL.out (hbw.trans hW)) b4 (Nat.le_refl _) (by omega) HR.out (by have := H4.out; omega))
  (fun k o hk hb => .inr ⟨by omega, .inr (.inl hb)⟩) (fun x vs W h => by obtain ⟨v, u, B, rfl, _⟩ := h; rfl)
  (EachI (.func (.func g) #[] lb) holds (runs l) w) (EachX holds (runs l) w) (fun pre A B h hk => h.kc hk) (fun c A B h hk => h.kc hk)
  ⟨hbw, b0, b1, b3, ⟨_, b2, fun q hq => by cases hq⟩, fun rest h => by rw [h]; rfl⟩
  (fun pre x a' W => ∃ (A1 : Option Addr) (c1 : Nat) (A2 : Option Addr) (c2 : Nat), x.1.length ≤ c1 ∧ Kd.C k64 W A1 x.1.length x.1 ∧ x.2.length ≤ c2 ∧ Kd.C k83 W A2 x.2.length x.2 ∧
   a' = { tmps := #[.slice A l.length c, .func (.func g) #[] lb, undef, .pointer (some ⟨w.heap.size, 0, none⟩), .pointer (some ⟨w.heap.size + 1, 0, none⟩), .pointer (some ⟨w.heap.size + 2, 0, none⟩), .pointer (some ⟨w.heap.size + 3, 0, none⟩), .slice A1 x.1.length c1, .slice A2 x.2.length c2, .slice A l.length c, .int .i64 l.length, .bool false, .slice A l.length c, .func (.func 114) #[] #[.pointer (some ⟨w.heap.size + 4, 0, none⟩)], .slice A1 x.1.length c1, .slice A2 x.2.length c2, undef, undef, undef, undef, undef, undef, undef, undef, undef, undef, undef, undef, undef, undef, undef, undef, undef, undef, undef], defers := [] })
  (fun pre x a' A B h hk => by
   obtain ⟨A1, c1, A2, c2, h1, h2, h3, h4, h5⟩ := h
   exact ⟨A1, c1, A2, c2, h1, C64_kc h2 hk, h3, C83_kc h4 hk, h5⟩) ?assign ?body ?done ?stop
 case assign =>
  rintro l pre x rest vs W K hxs hi ⟨v, u, B, rfl, hB, hv, hu⟩ hsz2 hK
  obtain ⟨A1, c1, rfl, h1, h2⟩ := Kd.R_reads hv
  obtain ⟨A2, c2, rfl, h3, h4⟩ := Kd.R_reads hu
  have HK := Lib.hid (hK _ _ (KB.refl _ _) hi ⟨A1, c1, A2, c2, h1, h2, h3, h4, rfl⟩)
  clear hK hi hv hu h2 h4
  gi_wp2
  exact HK.out
 case body =>
  rintro lp pre ⟨r, f⟩ rest a' W hxs hlp hlt - hi ⟨A1, c1, A2, c2, h1, h2, h3, h4, rfl⟩
  have hso := hi.so _ hxs
  have HSO := Lib.hid hso
  have HXS := Lib.hid hxs
  have H2 := Lib.hid h2
  have H4 := Lib.hid h4
  have HI := Lib.hid hi
  clear hso hxs h2 h4 hi
  cases hm : mayR r with
  | false =>
   have HM := Lib.hid hm
   have HC := Lib.hid (hm ▸ row_May_calls A1 c1 r W H2.out)
   clear hm
   gi_wp2_with fail
   refine ⟨trivial, ?_⟩
   refine (CallsIn.inRound lp (callsIn_wide.2 HC.out)).mono ?_
   rintro e w1 ⟨rfl, hb1⟩
   have hi1 := HI.out.kc (KC.of_below hb1)
   have hbr := hi1.br.cell
   have hfr := hi1.br.frozen
   have HI1 := Lib.hid hi1
   have HB1 := Lib.hid hb1
   clear hi1 hb1
   (gi_wp2_with fail; all_goals first | (exfalso; simp only [undef, Option.some.injEq, reduceCtorEq] at *; done) | skip)
   refine ⟨trivial, ?_⟩
   (gi_wp2_with fail; all_goals first | (exfalso; simp only [undef, Option.some.injEq, reduceCtorEq] at *; done) | skip)
   refine ⟨(fun _ h => by cases h), ?_⟩
   (gi_wp2_with fail; all_goals first | (exfalso; simp only [undef, Option.some.injEq, reduceCtorEq] at *; done) | skip)
   refine ⟨(KB.of_below HB1.out).setCell _ _ (fun o ho hq => prun_no (Nat.le_add_right _ _) (Nat.add_lt_add_left (by decide) _) hq), rfl, below_set HI1.out.below _ _ (by omega), HI1.out.br.set _, ?_⟩
   rw [HSO.out]
   exact eachB_no1 _ _ HM.out
  | true =>
   have HM := Lib.hid hm
   have HC := Lib.hid (hm ▸ row_May_calls A1 c1 r W H2.out)
   clear hm
   rcases list_end pre with rfl | ⟨pre, q, rfl⟩
   ·gi_wp2_with fail
    refine ⟨trivial, ?_⟩
    refine (CallsIn.inRound lp (callsIn_wide.2 HC.out)).mono ?_
    rintro e w1 ⟨rfl, hb1⟩
    have hi1 := HI.out.kc (KC.of_below hb1)
    have hbr := hi1.br.cell
    have hfr := hi1.br.frozen
    have hbb := hi1.bb.cell
    have hbh := hi1.bh.cell
    have HI1 := Lib.hid hi1
    have HB1 := Lib.hid hb1
    clear hi1 hb1
    (gi_wp2_with fail; all_goals first | (exfalso; simp only [undef, Option.some.injEq, reduceCtorEq] at *; done) | skip)
    refine ⟨trivial, ?_⟩
    (gi_wp2_with fail; all_goals first | (exfalso; simp only [undef, Option.some.injEq, reduceCtorEq] at *; done) | skip)
    have HG1 := Lib.hid (HG.out w1 A2 c2 f HI1.out.below h3 (C83_kc (n₀ := w.heap.size) H4.out (KC.of_below HB1.out)))
    refine ⟨trivial, ?_⟩
    refine (CallsIn.inRound lp (callsIn_wide.2 HG1.out)).mono ?_
    rintro e w2 ⟨rfl, hb2⟩
    have hi2 := HI1.out.kc (KC.of_below hb2)
    have hbr := hi2.br.cell
    have hfr := hi2.br.frozen
    have hbb2 := hi2.bb.cell
    have hfb2 := hi2.bb.frozen
    obtain ⟨v2, hbl, -⟩ := hi2.bl
    have hbl2 := hbl.cell
    have hfl2 := hbl.frozen
    have HI2 := Lib.hid hi2
    have HB2 := Lib.hid hb2
    have hcf := C64_kc (n₀ := w.heap.size) (C64_kc (n₀ := w.heap.size) H2.out (KC.of_below HB1.out)) (KC.of_below hb2)
    have HCF := Lib.hid hcf
    clear hi2 hb2 hcf hbl
    cases hh : holds f with
    | false =>
     have HH := Lib.hid hh
     clear hh
     (gi_wp2_with fail; all_goals first | (exfalso; simp only [undef, Option.some.injEq, reduceCtorEq] at *; done) | skip)
     refine ⟨((KB.of_below HB1.out).trans (KB.of_below HB2.out)).setCell _ _ (fun o ho hq => prun_no (Nat.le_add_right _ _) (Nat.add_lt_add_left (by decide) _) hq), rfl, below_set HI2.out.below _ _ (by omega), HI2.out.br.set _, ?_⟩
     rw [HSO.out]
     exact eachB_no3 _ _ HH.out
    | true =>
     have HH := Lib.hid hh
     clear hh
     (gi_wp2_with fail; all_goals first | (exfalso; simp only [undef, Option.some.injEq, reduceCtorEq] at *; done) | skip)
     refine ⟨(((KB.of_below HB1.out).trans (KB.of_below HB2.out)).setCell _ _ (fun o ho hq => prun_no (Nat.le_add_right _ _) (Nat.add_lt_add_left (by decide) _) hq)).setCell _ _ (fun o ho hq => prun_no (Nat.le_add_right _ _) (Nat.add_lt_add_left (by decide) _) hq), ?_⟩
     refine EachI.step HI2.out r f A1 c1 h1 HCF.out (fun rest' e => ?_)
     have e2 := HXS.out
     rw [e] at e2
     have e3 := List.append_cancel_left e2
     cases e3
     rw [HSO.out]
     exact eachB_yes0 _ HM.out HH.out
   ·gi_wp2_with fail
    refine ⟨trivial, ?_⟩
    refine (CallsIn.inRound lp (callsIn_wide.2 HC.out)).mono ?_
    rintro e w1 ⟨rfl, hb1⟩
    have hi1 := HI.out.kc (KC.of_below hb1)
    have hbr := hi1.br.cell
    have hfr := hi1.br.frozen
    have hbb : w1.cell? ⟨w.heap.size + 3, 0, none⟩ = some (.bool true) := by have := hi1.bb.cell; rwa [show (!(pre ++ [q]).isEmpty) = true by simp] at this
    have hbh := hi1.bh.cell
    have HI1 := Lib.hid hi1
    have HB1 := Lib.hid hb1
    clear hi1 hb1
    obtain ⟨v1, hbl1, hq1⟩ := HI1.out.bl
    obtain ⟨Aq, cq, rfl, hcq, hCq⟩ := hq1 q List.getLast?_concat
    have hbl1c := hbl1.cell
    have HCQ := Lib.hid hCq
    have HCR := Lib.hid (C64_kc (n₀ := w.heap.size) H2.out (KC.of_below HB1.out))
    have HBL1 := Lib.hid hbl1
    clear hbl1 hq1 hCq
    (gi_wp2_with fail; all_goals first | (exfalso; simp only [undef, Option.some.injEq, reduceCtorEq] at *; done) | skip)
    refine ⟨trivial, ?_⟩
    refine (CallsIn.inRound lp (callsIn_wide.2 (row_Compare_calls Aq cq q.1 A1 c1 r w1 HCQ.out hcq HCR.out))).mono ?_
    rintro e w1' ⟨rfl, hb1'⟩
    have hi1' := HI1.out.kc (KC.of_below hb1')
    have hbr' := hi1'.br.cell
    have hfr' := hi1'.br.frozen
    have hbh' := hi1'.bh.cell
    have HI1' := Lib.hid hi1'
    have HB1' := Lib.hid (HB1.out.trans (hb1'.mono HB1.out.size))
    clear hi1' hb1'
    by_cases hlt2 : cmpR q.1 r < 0
    ·have hda : decide (cmpR q.1 r < 0) = true := decide_eq_true hlt2
     have hdb : decide (0 ≤ cmpR q.1 r) = false := decide_eq_false (by omega)
     have HLT := Lib.hid hlt2
     clear hlt2
     (gi_wp2_with fail; all_goals first | (exfalso; simp only [undef, Option.some.injEq, reduceCtorEq] at *; done) | skip)
     have HG1 := Lib.hid (HG.out w1' A2 c2 f HI1'.out.below h3 (C83_kc (n₀ := w.heap.size) H4.out (KC.of_below HB1'.out)))
     refine ⟨trivial, ?_⟩
     refine (CallsIn.inRound lp (callsIn_wide.2 HG1.out)).mono ?_
     rintro e w2 ⟨rfl, hb2⟩
     have hi2 := HI1'.out.kc (KC.of_below hb2)
     have hbr := hi2.br.cell
     have hfr := hi2.br.frozen
     have hbb2 := hi2.bb.cell
     have hfb2 := hi2.bb.frozen
     obtain ⟨v2, hbl, -⟩ := hi2.bl
     have hbl2 := hbl.cell
     have hfl2 := hbl.frozen
     have HI2 := Lib.hid hi2
     have HB2 := Lib.hid hb2
     have hcf := C64_kc (n₀ := w.heap.size) (C64_kc (n₀ := w.heap.size) H2.out (KC.of_below HB1'.out)) (KC.of_below hb2)
     have HCF := Lib.hid hcf
     clear hi2 hb2 hcf hbl
     cases hh : holds f with
     | false =>
      have HH := Lib.hid hh
      clear hh
      (gi_wp2_with fail; all_goals first | (exfalso; simp only [undef, Option.some.injEq, reduceCtorEq] at *; done) | skip)
      refine ⟨((KB.of_below HB1'.out).trans (KB.of_below HB2.out)).setCell _ _ (fun o ho hq => prun_no (Nat.le_add_right _ _) (Nat.add_lt_add_left (by decide) _) hq), rfl, below_set HI2.out.below _ _ (by omega), HI2.out.br.set _, ?_⟩
      rw [HSO.out, List.getLast?_concat]
      exact eachB_no3 _ _ HH.out
     | true =>
      have HH := Lib.hid hh
      clear hh
      (gi_wp2_with fail; all_goals first | (exfalso; simp only [undef, Option.some.injEq, reduceCtorEq] at *; done) | skip)
      refine ⟨(((KB.of_below HB1'.out).trans (KB.of_below HB2.out)).setCell _ _ (fun o ho hq => prun_no (Nat.le_add_right _ _) (Nat.add_lt_add_left (by decide) _) hq)).setCell _ _ (fun o ho hq => prun_no (Nat.le_add_right _ _) (Nat.add_lt_add_left (by decide) _) hq), ?_⟩
      refine EachI.step HI2.out r f A1 c1 h1 HCF.out (fun rest' e => ?_)
      have e2 := HXS.out
      rw [e] at e2
      have e3 := List.append_cancel_left e2
      cases e3
      rw [HSO.out, List.getLast?_concat]
      exact eachB_yes1 _ _ HM.out HLT.out HH.out
    ·have hda : decide (cmpR q.1 r < 0) = false := decide_eq_false hlt2
     have hdb : decide (0 ≤ cmpR q.1 r) = true := decide_eq_true (by omega)
     have HLT := Lib.hid hlt2
     clear hlt2
     (gi_wp2_with fail; all_goals first | (exfalso; simp only [undef, Option.some.injEq, reduceCtorEq] at *; done) | skip)
     refine ⟨(fun _ h => by cases h), ?_⟩
     (gi_wp2_with fail; all_goals first | (exfalso; simp only [undef, Option.some.injEq, reduceCtorEq] at *; done) | skip)
     refine ⟨(KB.of_below HB1'.out).setCell _ _ (fun o ho hq => prun_no (Nat.le_add_right _ _) (Nat.add_lt_add_left (by decide) _) hq), rfl, below_set HI1'.out.below _ _ (by omega), HI1'.out.br.set _, ?_⟩
     rw [HSO.out, List.getLast?_concat]
     exact eachB_no2 _ _ (by have := HLT.out; show ¬ cmpR q.1 r < 0; omega)
 case done =>
  rintro D W hD hi hK
  have hbr := hi.br.cell
  have hfr := hi.br.frozen
  have hso := hi.so [] (by rw [List.append_nil])
  have hb2 := (Boxed.set (.bool true) hi.br)
  have hlt := lt_of_some hK
  have hne : D ≠ w.heap.size + 1 := by intro e; rw [e, show W.heap[w.heap.size + 1]? = _ from hi.br] at hK; cases hK
  have hK2 : (W.setCell ⟨w.heap.size + 1, 0, none⟩ (.bool true)).heap[D]? = some (.deferred (some [])) := (Below.heap_setCell _ _ _ _ hne).trans hK
  have HSO := Lib.hid hso
  have HI := Lib.hid hi
  have HK := Lib.hid hK2
  have HB2 := Lib.hid hb2
  clear hso hi hK hK2 hb2
  gi_wp2
  refine ⟨by simp, .inl ⟨_, _, rfl, run_takeDeferred HK.out, ?_⟩⟩
  have hc4 : ((W.setCell ⟨w.heap.size + 1, 0, none⟩ (.bool true)).putObj D (.deferred none)).cell? ⟨w.heap.size + 1, 0, none⟩ = some (.bool true) := Boxed.cell (show Boxed _ _ 4 _ from (World.putObj_heap_other (Ne.symm hne)).trans HB2.out)
  refine ⟨.bool true, by simp [results, Try.f72, go_sem, hc4], ?_, KC.below (KC.putObj _ HK.out rfl (by omega)) (below_set HI.out.below _ _ (by omega)) (Nat.le_refl _)⟩
  rw [HSO.out]
  rw [eachB_nil]
 case stop =>
  rintro D c W hD ⟨rfl, hb, br, hx⟩ hK
  have hbr := br.cell
  have hne : D ≠ w.heap.size + 1 := by intro e; rw [e, show W.heap[w.heap.size + 1]? = _ from br] at hK; cases hK
  have HK := Lib.hid hK
  have HBR := Lib.hid br
  have HB := Lib.hid hb
  clear hK br hb
  gi_wp2
  refine ⟨by simp, .inl ⟨_, _, rfl, run_takeDeferred HK.out, ?_⟩⟩
  have hc4 : (W.putObj D (.deferred none)).cell? ⟨w.heap.size + 1, 0, none⟩ = some (.bool false) := Boxed.cell (show Boxed _ _ 4 _ from (World.putObj_heap_other (Ne.symm hne)).trans HBR.out)
  exact ⟨.bool false, by simp [results, Try.f72, go_sem, hc4], by rw [hx], KC.below (KC.putObj _ HK.out rfl (by omega)) HB.out (Nat.le_refl _)⟩
set_option maxHeartbeats 4000000 in
theorem each_no (g : Nat) (lb : Array Value) (A : Option Addr) (c : Nat) (l : List S68) (w : World) (h4 : ¬ l.length ≤ 4096) :
  Calls Try.prog 72 #[.slice A l.length c, .func (.func g) #[] lb] w fun e w' => e = .returned (.bool false) ∧ Below w.heap.size w w' := by
 have hd : decide ((4096 : Int) < (l.length : Int)) = true := decide_eq_true (by omega)
 have hd2 : decide (4096 < l.length) = true := decide_eq_true (by omega)
 refine (callsIn_wide (n := 5)).1 ?_
 refine callsIn_of_wp_marks Try.func72 rfl trivial ?_ rfl
 simp only [Try.ntmps72, List.size_toArray, List.length_cons, List.length_nil, Nat.reduceAdd, Nat.reduceSub, Array.replicate_succ, Array.replicate_zero, List.push_toArray, List.append_toArray, List.nil_append, List.cons_append]
 have b1 : Boxed (((w.alloc (.cells #[.func (.func g) #[] lb] 106 (0, 0))).alloc (.cells #[.bool false] 4 (0, 0)))) (w.heap.size + 1) 4 (.bool false) := by have := Boxed.new (w.alloc (.cells #[.func (.func g) #[] lb] 106 (0, 0))) 4 (.bool false); rwa [World.size_alloc] at this
 gi_wp2
 have hc4 := (Boxed.set (.bool false) b1).cell
 refine ⟨.bool false, by simp [results, Try.f72, go_sem, hc4], rfl, ?_⟩
 first | exact ((Below.refl w.heap.size w).alloc (Nat.le_refl _) _).alloc (by simp) _ | exact below_set (n₀ := w.heap.size) (((Below.refl w.heap.size w).alloc (Nat.le_refl _) _).alloc (by simp) _) (w.heap.size + 1) _ (by omega)
end Go.Proofs.Ythngomhhimdolaa.H
end
section
namespace Go.Proofs.Ythngomhhimdolaa.P
open Go.RowKit Go.Shelf Go.Proofs.YthngomhhimdolaaW.PrintWords Go.Proofs.YthngomhhimdolaaW.PrintLast Go.Proofs.YthngomhhimdolaaW.PrintMore Go.Proofs.Ythngomhhimdolaa.H Go.Proofs.Ythngomhhimdolaa.R
set_option linter.unusedVariables false
set_option linter.unusedSimpArgs false
def mayF : Int → List S83 → Bool
 | _, [] => true
 | p, x :: xs => decide (p < x.f0) && (decide (x.f0 < 1125899906842624) && (decide (x.f1 ≠ 0) && (decide (-1048576 ≤ x.f1) && (decide (x.f1 ≤ 1048576) && mayF x.f0 xs))))
def mayJ (l : List S83) : Bool := decide (l.length ≤ 1024) && mayF (-2) l
def leastF : Int → Int → List S83 → Int
 | _, b, [] => b
 | n, b, x :: xs => leastF (n + x.f1) (mn b (n + x.f1)) xs
def leastJ (l : List S83) : Int :=
 if mayJ l = true then (match l with
  | [] => 0
  | x :: xs => if x.f0 = -1 then leastF 0 x.f1 (x :: xs) else leastF 0 0 (x :: xs)) else 0
theorem wrap_in {x : Int} (h1 : -9223372036854775808 ≤ x) (h2 : x < 9223372036854775808) : wrap64 x = x := by
 unfold wrap64; omega
theorem drop83 (l : List S83) (j : Nat) (h : j < l.length) : l.drop j = rd_T83 l (j : Nat) :: l.drop (j + 1) := by
 rw [List.drop_eq_getElem_cons h]
 unfold rd_T83
 simp [List.getElem?_eq_getElem h]
theorem step_May_l0 (l : List S83) (h : l.length ≤ 1024) : ∀ (n j : Nat) (p : Int) (k : Nat), l.length - j = n → n < k → step_May.l0 k p l (l.length : Int) (j : Int) = some (mayF p (l.drop j)) := by
 intro n
 induction n with
 | zero =>
  intro j p k hn hk
  obtain ⟨k, rfl⟩ : ∃ m, k = m + 1 := ⟨k - 1, by omega⟩
  rw [step_May.l0, if_neg (by omega), List.drop_eq_nil_of_le (by omega), mayF]
 | succ n ih =>
  intro j p k hn hk
  obtain ⟨k, rfl⟩ : ∃ m, k = m + 1 := ⟨k - 1, by omega⟩
  have hj : j < l.length := by omega
  have hw : wrap64 ((j : Int) + 1) = ((j + 1 : Nat) : Int) := by rw [wrap_in] <;> omega
  rw [step_May.l0, if_pos (by omega), if_pos (by omega), if_pos (by omega), drop83 l j hj, mayF]
  by_cases c1 : (rd_T83 l (j : Nat)).f0 ≤ p
  ·rw [if_pos c1, decide_eq_false (by omega : ¬ p < (rd_T83 l (j : Nat)).f0)]; rfl
  rw [if_neg c1, decide_eq_true (by omega : p < (rd_T83 l (j : Nat)).f0)]
  by_cases c2 : (rd_T83 l (j : Nat)).f0 ≥ 1125899906842624
  ·rw [if_pos c2, decide_eq_false (by omega : ¬ (rd_T83 l (j : Nat)).f0 < 1125899906842624)]; rfl
  rw [if_neg c2, decide_eq_true (by omega : (rd_T83 l (j : Nat)).f0 < 1125899906842624)]
  by_cases c3 : (rd_T83 l (j : Nat)).f1 = 0
  ·rw [if_pos c3, decide_eq_false (by simpa using c3)]; rfl
  rw [if_neg c3, decide_eq_true (by simpa using c3)]
  unfold step_fair.f
  by_cases c4 : (rd_T83 l (j : Nat)).f1 ≤ 1048576
  ·rw [if_pos c4, decide_eq_true c4]
   by_cases c5 : (rd_T83 l (j : Nat)).f1 ≥ -1048576
   ·rw [decide_eq_true c5]
    simp only [Option.bind_some, if_true, Bool.true_and]
    rw [hw]
    exact ih (j + 1) _ k (by omega) (by omega)
   ·rw [decide_eq_false c5]; rfl
  ·rw [if_neg c4, decide_eq_false c4]
   simp
theorem step_May_f (l : List S83) (k : Nat) (hk : l.length < k) : step_May.f k l = some (mayJ l) := by
 unfold step_May.f mayJ
 by_cases h : l.length ≤ 1024
 ·rw [if_neg (by omega), decide_eq_true h]
  have := step_May_l0 l h l.length 0 (-2) k (by omega) hk
  simpa using this
 ·rw [if_pos (by omega), decide_eq_false h]; rfl
theorem mayF_bound : ∀ (l : List S83) (p : Int), mayF p l = true → ∀ x ∈ l, -1048576 ≤ x.f1 ∧ x.f1 ≤ 1048576 := by
 intro l
 induction l with
 | nil => intro p _ x hx; cases hx
 | cons y ys ih =>
  intro p h x hx
  simp only [mayF, Bool.and_eq_true, decide_eq_true_eq] at h
  rcases List.mem_cons.1 hx with rfl | hx
  ·exact ⟨h.2.2.2.1, h.2.2.2.2.1⟩
  ·exact ih _ h.2.2.2.2.2 x hx
theorem rd_mem83 (l : List S83) (j : Nat) (h : j < l.length) : rd_T83 l (j : Nat) ∈ l := by
 have := drop83 l j h
 exact List.mem_of_mem_drop (this ▸ List.mem_cons_self (a := rd_T83 l (j : Nat)) (l := l.drop (j + 1)))
theorem step_Least_l0 (l : List S83) (h : l.length ≤ 1024) (hb : ∀ x ∈ l, -1048576 ≤ x.f1 ∧ x.f1 ≤ 1048576) : ∀ (n j : Nat) (s b : Int) (k : Nat), l.length - j = n → n < k → -(1048576 * j) ≤ s → s ≤ 1048576 * j →
  step_Least.l0 k s b l (l.length : Int) (j : Int) = some (leastF s b (l.drop j)) := by
 intro n
 induction n with
 | zero =>
  intro j s b k hn hk h1 h2
  obtain ⟨k, rfl⟩ : ∃ m, k = m + 1 := ⟨k - 1, by omega⟩
  rw [step_Least.l0, if_neg (by omega), List.drop_eq_nil_of_le (by omega), leastF]
 | succ n ih =>
  intro j s b k hn hk h1 h2
  obtain ⟨k, rfl⟩ : ∃ m, k = m + 1 := ⟨k - 1, by omega⟩
  have hj : j < l.length := by omega
  have hw : wrap64 ((j : Int) + 1) = ((j + 1 : Nat) : Int) := by rw [wrap_in] <;> omega
  obtain ⟨g1, g2⟩ := hb _ (rd_mem83 l j hj)
  have hs : wrap64 (s + (rd_T83 l (j : Nat)).f1) = s + (rd_T83 l (j : Nat)).f1 := wrap_in (by omega) (by omega)
  rw [step_Least.l0, if_pos (by omega), if_pos (by omega), if_pos (by omega), drop83 l j hj, leastF, hw, hs]
  rw [ih (j + 1) _ _ k (by omega) (by omega) (by omega) (by omega)]
theorem step_Least_f (l : List S83) (k : Nat) (hk : l.length + 3 < k) : step_Least.f k l = some (leastJ l) := by
 unfold step_Least.f leastJ
 rw [step_May_f l k (by omega)]
 obtain ⟨k, rfl⟩ : ∃ m, k = m + 3 := ⟨k - 3, by omega⟩
 cases hm : mayJ l with
 | false => rw [Option.bind_some, if_neg (by decide), if_neg (by decide), step_Least.j0, if_pos rfl]
 | true =>
  rw [Option.bind_some, if_pos rfl, if_pos rfl, step_Least.j0]
  cases l with
  | nil => rfl
  | cons x xs =>
   have hm2 := hm
   unfold mayJ at hm2
   simp only [Bool.and_eq_true, decide_eq_true_eq] at hm2
   have key : ∀ b, step_Least.l0 (k + 1) 0 b (x :: xs) ((x :: xs).length : Int) 0 = some (leastF 0 b (x :: xs)) := fun b =>
    step_Least_l0 (x :: xs) hm2.1 (mayF_bound _ _ hm2.2) _ 0 0 b (k + 1) rfl (by omega) (by omega) (by omega)
   have h0 : rd_T83 (x :: xs) 0 = x := rfl
   rw [if_neg (by simp; omega), if_pos (by simp), h0]
   split
   ·rw [step_Least.j1, key]; simp_all
   ·rw [step_Least.j1, key]; simp_all
theorem each_calls (g : Nat) (lb : Array Value) (eg : ∀ args w, (callFunc g args).run Try.prog w = .ok (.enter g args) w) (holds : List S83 → Bool) (A : Option Addr) (c : Nat) (l : List S68) (w : World) (hl : Kd.C k68 w A l.length l)
  (hrows : ∀ x ∈ l, x.f0.length * 32 ≤ 140737488355328)
  (hg : ∀ (W : World) (ad : Option Addr) (cf : Nat) (f : List S83), f.length ≤ cf → Kd.C k83 W ad f.length f → Calls Try.prog g (#[.slice ad f.length cf] ++ lb) W fun e W' => e = .returned (.bool (holds f)) ∧ Below W.heap.size W W') :
  Calls Try.prog 72 #[.slice A l.length c, .func (.func g) #[] lb] w fun e w' => e = .returned (.bool (decide (l.length ≤ 4096) && eachB holds none (runs l))) ∧ Below w.heap.size w w' := by
 by_cases h4 : l.length ≤ 4096
 ·rw [decide_eq_true h4, Bool.true_and]
  exact each_yes g lb eg holds A c l w hl hrows h4 (fun W ad cf f _ hc hC => hg W ad cf f hc hC)
 ·rw [decide_eq_false h4, Bool.false_and]
  exact each_no g lb A c l w h4
def okRows (l : List S68) : Prop := ∀ x ∈ l, x.f0.length * 32 ≤ 140737488355328
instance (l : List S68) : Decidable (okRows l) := by unfold okRows; infer_instance
def mayE (l : List S68) : Bool := decide (l.length ≤ 4096) && eachB mayJ none (runs l)
def tableJ (f : List S83) : Bool := mayJ f && decide (0 ≤ leastJ f)
def tableE (l : List S68) : Bool := decide (l.length ≤ 4096) && eachB tableJ none (runs l)
def edge_May.f (l : List S68) : Option Bool := if okRows l then some (mayE l) else none
def edge_Table.f (l : List S68) : Option Bool := if okRows l then some (tableE l) else none
theorem step_May_calls (W : World) (ad : Option Addr) (cf : Nat) (f : List S83) (hc : f.length ≤ cf) (hC : Kd.C k83 W ad f.length f) : Calls Try.prog 74 #[.slice ad f.length cf] W fun e W' => e = .returned (.bool (mayJ f)) ∧ Below W.heap.size W W' :=
 step_May.calls (f.length + 1) ad cf f _ W hC hc (step_May_f f _ (by omega))
theorem edge_May.calls (A0 : Option Addr) (c0 : Nat) (l0 : List S68) (r : Bool) (w : World) (hr0 : Kd.C k68 w A0 l0.length l0) (hc0 : l0.length ≤ c0) (h : edge_May.f l0 = some r) :
  Calls Try.prog 58 #[.slice A0 l0.length c0] w fun e w' => e = .returned (.bool r) ∧ Below w.heap.size w w' := by
 unfold edge_May.f at h
 by_cases ho : okRows l0
 ·rw [if_pos ho] at h
  obtain rfl := Option.some.inj h
  have HC := Lib.hid (each_calls 74 #[] (enters_of Try.func74 (by kernel_rfl) rfl) mayJ A0 c0 l0 w hr0 ho (fun W ad cf f hc hC => by rw [Array.append_empty]; exact step_May_calls W ad cf f hc hC))
  go_enter Try.func58, Try.ntmps58
  go_wp2_with fail
  refine HC.out.mono ?_
  rintro e w1 ⟨rfl, hb⟩
  go_wp2
  go_ret
  exact ⟨rfl, hb⟩
 ·rw [if_neg ho] at h; cases h
theorem tableJ_calls (W : World) (ad : Option Addr) (cf : Nat) (f : List S83) (hc : f.length ≤ cf) (hC : Kd.C k83 W ad f.length f) : Calls Try.prog 73 #[.slice ad f.length cf] W fun e W' => e = .returned (.bool (tableJ f)) ∧ Below W.heap.size W W' := by
 have H1 := Lib.hid (step_May_calls W ad cf f hc hC)
 have H2 := Lib.hid (fun W' (hW : Below W.heap.size W W') => step_Least.calls (f.length + 4) ad cf f _ W' (Kd.C_below hC hW) hc (step_Least_f f _ (by omega)))
 unfold tableJ
 cases hm : mayJ f with
 | false =>
  rw [hm] at H1
  go_enter Try.func73, Try.ntmps73
  go_wp2_with fail
  refine H1.out.mono ?_
  rintro e w1 ⟨rfl, hb⟩
  go_wp2
  all_goals first | (exfalso; simp only [undef, Option.some.injEq, reduceCtorEq] at *; done) | skip
  go_ret
  exact ⟨rfl, hb⟩
 | true =>
  rw [hm] at H1
  go_enter Try.func73, Try.ntmps73
  go_wp2_with fail
  refine H1.out.mono ?_
  rintro e w1 ⟨rfl, hb⟩
  go_wp2_with fail
  refine (H2.out w1 hb).mono ?_
  rintro e w2 ⟨rfl, hb2⟩
  cases hd : decide (0 ≤ leastJ f)
  ·have hd2 : decide (leastJ f < 0) = true := decide_eq_true (by simpa using hd)
   go_wp2
   go_ret
   exact ⟨by rw [hd]; rfl, hb.trans (hb2.mono hb.size)⟩
  ·have hd2 : decide (leastJ f < 0) = false := decide_eq_false (by simpa using hd)
   go_wp2
   go_ret
   exact ⟨by rw [hd]; rfl, hb.trans (hb2.mono hb.size)⟩
theorem edge_Table.calls (A0 : Option Addr) (c0 : Nat) (l0 : List S68) (r : Bool) (w : World) (hr0 : Kd.C k68 w A0 l0.length l0) (hc0 : l0.length ≤ c0) (h : edge_Table.f l0 = some r) :
  Calls Try.prog 38 #[.slice A0 l0.length c0] w fun e w' => e = .returned (.bool r) ∧ Below w.heap.size w w' := by
 unfold edge_Table.f at h
 by_cases ho : okRows l0
 ·rw [if_pos ho] at h
  obtain rfl := Option.some.inj h
  have HC := Lib.hid (each_calls 73 #[] (enters_of Try.func73 (by kernel_rfl) rfl) tableJ A0 c0 l0 w hr0 ho (fun W ad cf f hc hC => by rw [Array.append_empty]; exact tableJ_calls W ad cf f hc hC))
  go_enter Try.func38, Try.ntmps38
  go_wp2_with fail
  refine HC.out.mono ?_
  rintro e w1 ⟨rfl, hb⟩
  go_wp2
  go_ret
  exact ⟨rfl, hb⟩
 ·rw [if_neg ho] at h; cases h
end Go.Proofs.Ythngomhhimdolaa.P
end
section
namespace Go.Proofs.Ythngomhhimdolaa.H
open Go.RowKit Go.Shelf Go.Proofs.YthngomhhimdolaaW.PrintWords Go.Proofs.YthngomhhimdolaaW.PrintLast Go.Proofs.YthngomhhimdolaaW.PrintMore Go.Proofs.Ythngomhhimdolaa.P Go.Proofs.Ythngomhhimdolaa.R
set_option linter.unusedVariables false
theorem rd64_drop (l : List S64) (j : Nat) (h : j < l.length) : l.drop j = rd_T64 l (j : Nat) :: l.drop (j + 1) := by
 rw [List.drop_eq_getElem_cons h]
 unfold rd_T64
 simp [List.getElem?_eq_getElem h]
theorem ref_Same_l0 (a b : List S64) (hl : a.length = b.length) (hm : a.length ≤ 9223372036854775806) : ∀ (n j k : Nat), a.length - j = n → n < k → rescindref06_Same.l0 k a b (j : Int) = some (sameR (a.drop j) (b.drop j)) := by
 intro n
 induction n with
 | zero =>
  intro j k hn hk
  obtain ⟨k, rfl⟩ : ∃ m, k = m + 1 := ⟨k - 1, by omega⟩
  rw [rescindref06_Same.l0, if_neg (by omega), List.drop_eq_nil_of_le (by omega), List.drop_eq_nil_of_le (by omega)]; rfl
 | succ n ih =>
  intro j k hn hk
  obtain ⟨k, rfl⟩ : ∃ m, k = m + 1 := ⟨k - 1, by omega⟩
  have hj : j < a.length := by omega
  have hw : wrap64 ((j : Int) + 1) = ((j + 1 : Nat) : Int) := by rw [wrap_in] <;> omega
  rw [rescindref06_Same.l0, if_pos (by omega), if_pos (by omega), if_pos (by omega), rd64_drop a j hj, rd64_drop b j (by omega), sameR]
  have he : (!(((rd_T64 a (j : Nat)).f0) == ((rd_T64 b (j : Nat)).f0)) || (!(((rd_T64 a (j : Nat)).f1) == ((rd_T64 b (j : Nat)).f1)) || (!((((rd_T64 a (j : Nat)).f2).toList) == (((rd_T64 b (j : Nat)).f2).toList))))) = !(eqS (rd_T64 a (j : Nat)) (rd_T64 b (j : Nat))) := by
   unfold eqS; rw [Bool.not_and, Bool.not_and]
  rw [he]
  cases hq : eqS (rd_T64 a (j : Nat)) (rd_T64 b (j : Nat)) with
  | false => rw [if_pos (by rfl)]; rfl
  | true =>
   rw [if_neg (by simp), hw, ih (j + 1) k (by omega) (by omega)]; rfl
theorem ref_Same (a b : List S64) (hm : a.length ≤ 9223372036854775806) (k : Nat) (hk : a.length < k) : rescindref06_Same.f k a b = some (sameR a b) := by
 unfold rescindref06_Same.f
 by_cases hl : a.length = b.length
 ·rw [if_pos (by omega)]
  have := ref_Same_l0 a b hl hm a.length 0 k (by omega) hk
  simpa using this
 ·rw [if_neg (by omega), sameR_len a b hl]
theorem ref05_May (a b : Int) (s : ByteArray) : rescindref05_May.f a b s = some (mayV a b s) := by
 unfold rescindref05_May.f mayV
 split
 ·rfl
 ·split
  ·split <;> rfl
  ·rfl
theorem ref06_May_le (r : List S64) (h8 : r.length ≤ 8) : ∀ (n j k : Nat), r.length - j = n → 2 * n + 1 < k → rescindref06_May.l0 k r (j : Int) = some ((r.drop j).all mayVs) := by
 intro n
 induction n with
 | zero =>
  intro j k hn hk
  obtain ⟨k, rfl⟩ : ∃ m, k = m + 2 := ⟨k - 2, by omega⟩
  rw [rescindref06_May.l0, if_neg (by omega), rescindref06_May.j1, if_neg (by decide), List.drop_eq_nil_of_le (by omega), decide_eq_true (by omega)]; rfl
 | succ n ih =>
  intro j k hn hk
  obtain ⟨k, rfl⟩ : ∃ m, k = m + 2 := ⟨k - 2, by omega⟩
  have hj : j < r.length := by omega
  have hw : wrap64 ((j : Int) + 1) = ((j + 1 : Nat) : Int) := by rw [wrap_in] <;> omega
  rw [rescindref06_May.l0, if_pos (by omega), decide_eq_true (by omega), rescindref06_May.j1, if_pos rfl, if_pos (by omega), if_pos (by omega), ref05_May, Option.bind_some, rd64_drop r j hj, List.all_cons]
  have hm : mayVs (rd_T64 r (j : Nat)) = mayV (rd_T64 r (j : Nat)).f0 (rd_T64 r (j : Nat)).f1 (rd_T64 r (j : Nat)).f2 := rfl
  rw [hm]
  cases mayV (rd_T64 r (j : Nat)).f0 (rd_T64 r (j : Nat)).f1 (rd_T64 r (j : Nat)).f2 with
  | false => rfl
  | true => rw [if_pos rfl, hw, ih (j + 1) k (by omega) (by omega)]; rfl
theorem ref06_May_gt (r : List S64) (h8 : 8 < r.length) : ∀ (n j k : Nat), 9 - j = n → 2 * n + 1 < k → rescindref06_May.l0 k r (j : Int) = some false := by
 intro n
 induction n with
 | zero =>
  intro j k hn hk
  obtain ⟨k, rfl⟩ : ∃ m, k = m + 2 := ⟨k - 2, by omega⟩
  rw [rescindref06_May.l0]
  split
  ·rw [decide_eq_false (by omega), rescindref06_May.j1, if_neg (by decide), decide_eq_false (by omega)]
  ·rw [rescindref06_May.j1, if_neg (by decide), decide_eq_false (by omega)]
 | succ n ih =>
  intro j k hn hk
  obtain ⟨k, rfl⟩ : ∃ m, k = m + 2 := ⟨k - 2, by omega⟩
  have hj : j < r.length := by omega
  have hw : wrap64 ((j : Int) + 1) = ((j + 1 : Nat) : Int) := by rw [wrap_in] <;> omega
  rw [rescindref06_May.l0, if_pos (by omega), decide_eq_true (by omega), rescindref06_May.j1, if_pos rfl, if_pos (by omega), if_pos (by omega), ref05_May, Option.bind_some]
  cases mayV (rd_T64 r (j : Nat)).f0 (rd_T64 r (j : Nat)).f1 (rd_T64 r (j : Nat)).f2 with
  | false => rfl
  | true => rw [if_pos rfl, hw, ih (j + 1) k (by omega) (by omega)]
theorem ref06_May (r : List S64) (k : Nat) (hk : 20 < k) : rescindref06_May.f k r = some (mayR r) := by
 unfold rescindref06_May.f mayR
 by_cases h8 : r.length ≤ 8
 ·have := ref06_May_le r h8 r.length 0 k (by omega) (by omega)
  rw [decide_eq_true h8, Bool.true_and]
  simpa using this
 ·have := ref06_May_gt r (by omega) 9 0 k rfl (by omega)
  rw [decide_eq_false h8, Bool.false_and]
  exact this
theorem mayF_step (p : Int) (x : S83) (xs : List S83) : mayF p (x :: xs) = if p < x.f0 ∧ x.f0 < 1125899906842624 ∧ x.f1 ≠ 0 ∧ -1048576 ≤ x.f1 ∧ x.f1 ≤ 1048576 then mayF x.f0 xs else false := by
 rw [mayF]
 by_cases h1 : p < x.f0 <;> by_cases h2 : x.f0 < 1125899906842624 <;> by_cases h3 : x.f1 ≠ 0 <;> by_cases h4 : -1048576 ≤ x.f1 <;> by_cases h5 : x.f1 ≤ 1048576 <;> simp [h1, h2, h3, h4, h5]
theorem ref09_May_l0 (l : List S83) (h : l.length ≤ 1024) : ∀ (n j k : Nat) (p : Int), l.length - j = n → 2 * n < k → (j = 0 ∧ p = -2 ∨ 0 < j ∧ p = (rd_T83 l ((j - 1 : Nat) : Int)).f0 ∧ -1 ≤ p) → rescindref09_May.l0 k l (j : Int) = some (mayF p (l.drop j)) := by
 intro n
 induction n with
 | zero =>
  intro j k p hn hk hp
  obtain ⟨k, rfl⟩ : ∃ m, k = m + 1 := ⟨k - 1, by omega⟩
  rw [rescindref09_May.l0, if_neg (by omega), List.drop_eq_nil_of_le (by omega), mayF]
 | succ n ih =>
  intro j k p hn hk hp
  obtain ⟨k, rfl⟩ : ∃ m, k = m + 2 := ⟨k - 2, by omega⟩
  have hj : j < l.length := by omega
  have hw : wrap64 ((j : Int) + 1) = ((j + 1 : Nat) : Int) := by rw [wrap_in] <;> omega
  have hnext : ∀ q, q = (rd_T83 l (j : Nat)).f0 → -1 ≤ q → rescindref09_May.l0 k l ((j + 1 : Nat) : Int) = some (mayF q (l.drop (j + 1))) := fun q hq h1 =>
   ih (j + 1) k q (by omega) (by omega) (.inr ⟨by omega, by rw [Nat.add_sub_cancel]; exact hq, h1⟩)
  rw [rescindref09_May.l0, if_pos (by omega), if_pos (by omega), drop83 l j hj, mayF_step]
  obtain ⟨x, hx⟩ : ∃ x, x = rd_T83 l (j : Nat) := ⟨_, rfl⟩
  rw [← hx] at hnext ⊢
  have hbad : ∀ b, b = true → rescindref09_May.j1 (k + 1) l (j : Int) b = some false := fun b hb => by rw [rescindref09_May.j1, if_pos hb]
  by_cases h1 : x.f0 < -1
  ·rw [if_pos h1, hbad _ rfl, if_neg (by omega)]
  rw [if_neg h1]
  by_cases h2 : x.f0 ≥ 1125899906842624
  ·rw [if_pos h2, hbad _ rfl, if_neg (by omega)]
  rw [if_neg h2]
  by_cases h3 : x.f1 = 0
  ·rw [if_pos h3, hbad _ rfl, if_neg (by omega)]
  rw [if_neg h3]
  by_cases h4 : x.f1 > 1048576
  ·rw [if_pos h4, hbad _ rfl, if_neg (by omega)]
  rw [if_neg h4]
  by_cases h5 : x.f1 < -1048576
  ·rw [hbad _ (decide_eq_true h5), if_neg (by omega)]
  rw [decide_eq_false h5, rescindref09_May.j1, if_neg (by decide)]
  rcases hp with ⟨rfl, rfl⟩ | ⟨hj0, hp, hp1⟩
  ·rw [if_neg (by omega), hw, hnext _ rfl (by omega), if_pos (by omega)]
  ·have hw2 : wrap64 ((j : Int) - 1) = ((j - 1 : Nat) : Int) := by rw [wrap_in] <;> omega
   rw [if_pos (by omega), if_pos (by omega), if_pos (by omega), hw2, if_pos (by omega), if_pos (by omega), ← hx, ← hp]
   by_cases h6 : x.f0 ≤ p
   ·rw [if_pos h6, if_neg (by omega)]
   ·rw [if_neg h6, hw, hnext _ rfl (by omega), if_pos (by omega)]
theorem ref09_May (l : List S83) (k : Nat) (hk : 2 * l.length < k) : rescindref09_May.f k l = some (mayJ l) := by
 unfold rescindref09_May.f mayJ
 by_cases h : l.length ≤ 1024
 ·rw [if_neg (by omega), decide_eq_true h, Bool.true_and]
  have := ref09_May_l0 l h l.length 0 k (-2) (by omega) (by omega) (.inl ⟨rfl, rfl⟩)
  simpa using this
 ·rw [if_pos (by omega), decide_eq_false h]; rfl
def jumpsOf (l : List S68) (r : List S64) : List S83 := (l.filter (fun x => sameR x.f0 r)).map jmp
theorem jumpsOf_len (l : List S68) (r : List S64) : (jumpsOf l r).length ≤ l.length := by
 unfold jumpsOf; rw [List.length_map]; exact List.length_filter_le _ _
theorem rd_mem68 (l : List S68) (j : Nat) (h : j < l.length) : rd_T68 l (j : Nat) ∈ l := by
 unfold rd_T68; simpa using getD_mem l z68 j h
theorem ref10_Jumps_l0 (l : List S68) (r : List S64) (m : Nat) (hm : ∀ x ∈ l, x.f0.length ≤ m) (hm2 : m ≤ 9223372036854775806) (hl : l.length ≤ 4096) : ∀ (n j k : Nat) (acc : List S83), l.length - j = n → n + m + 1 < k → acc.length ≤ j →
  rescindref10_Jumps.l0 k l r acc (j : Int) = some (acc ++ jumpsOf (l.drop j) r) := by
 intro n
 induction n with
 | zero =>
  intro j k acc hn hk ha
  obtain ⟨k, rfl⟩ : ∃ m, k = m + 1 := ⟨k - 1, by omega⟩
  rw [rescindref10_Jumps.l0, if_neg (by omega), List.drop_eq_nil_of_le (by omega)]
  simp [jumpsOf]
 | succ n ih =>
  intro j k acc hn hk ha
  obtain ⟨k, rfl⟩ : ∃ m, k = m + 1 := ⟨k - 1, by omega⟩
  have hj : j < l.length := by omega
  have hw : wrap64 ((j : Int) + 1) = ((j + 1 : Nat) : Int) := by rw [wrap_in] <;> omega
  have hrow := hm _ (rd_mem68 l j hj)
  rw [rescindref10_Jumps.l0, if_pos (by omega), if_pos (by omega), ref_Same _ _ (by omega) k (by omega), Option.bind_some, drop_rd l j hj, hw]
  have hcons : jumpsOf (rd_T68 l (j : Nat) :: l.drop (j + 1)) r = (if sameR (rd_T68 l (j : Nat)).f0 r = true then [jmp (rd_T68 l (j : Nat))] else []) ++ jumpsOf (l.drop (j + 1)) r := by
   unfold jumpsOf
   rw [List.filter_cons]
   split <;> simp
  rw [hcons]
  cases hq : sameR (rd_T68 l (j : Nat)).f0 r with
  | true =>
   rw [if_pos rfl, if_pos (by omega), if_pos rfl, ih (j + 1) k _ (by omega) (by omega) (by rw [List.length_append, List.length_singleton]; omega), List.append_assoc]
   rfl
  | false =>
   rw [if_neg (by decide), if_neg (by decide), ih (j + 1) k _ (by omega) (by omega) (by omega), List.nil_append]
theorem ref10_Jumps (l : List S68) (r : List S64) (m : Nat) (hm : ∀ x ∈ l, x.f0.length ≤ m) (hm2 : m ≤ 9223372036854775806) (hl : l.length ≤ 4096) (k : Nat) (hk : l.length + m + 1 < k) : rescindref10_Jumps.f k l r = some (jumpsOf l r) := by
 unfold rescindref10_Jumps.f
 have := ref10_Jumps_l0 l r m hm hm2 hl l.length 0 k [] (by omega) (by omega) (by simp)
 simpa using this
end Go.Proofs.Ythngomhhimdolaa.H
end
section
namespace Go.Proofs.Ythngomhhimdolaa.H
open Go.RowKit Go.Shelf Go.Proofs.YthngomhhimdolaaW.PrintWords Go.Proofs.YthngomhhimdolaaW.PrintLast Go.Proofs.YthngomhhimdolaaW.PrintMore Go.Proofs.Ythngomhhimdolaa.P Go.Proofs.Ythngomhhimdolaa.R
set_option linter.unusedVariables false
theorem bt_drop (s : ByteArray) (j : Nat) (h : j < s.size) : ∃ b : UInt8, s.data.toList.drop j = b :: s.data.toList.drop (j + 1) ∧ bt s (j : Nat) = (b.toNat : Int) := by
 have hl : j < s.data.toList.length := by simpa using h
 refine ⟨s.data.toList[j], List.drop_eq_getElem_cons hl, ?_⟩
 unfold bt
 rw [dif_pos (by simpa using h)]
 rfl
theorem size_list (s : ByteArray) : s.data.toList.length = s.size := Array.length_toList
theorem cmp_text (s s' : ByteArray) (h1 : s.size ≤ 64) (x1 x2 x3 x4 : Int) : ∀ (n j k : Nat), s.size - j = n → 2 * n + 1 < k → j ≤ s.size → j ≤ s'.size →
  rescindref05_Compare.l0 k (j : Int) x1 x2 s x3 x4 s' = some (Lib.compareBytes (s.data.toList.drop j) (s'.data.toList.drop j)) := by
 intro n
 induction n with
 | zero =>
  intro j k hn hk ha hb
  obtain ⟨k, rfl⟩ : ∃ m, k = m + 2 := ⟨k - 2, by omega⟩
  have e1 : s.data.toList.drop j = [] := List.drop_eq_nil_of_le (by rw [size_list]; omega)
  rw [rescindref05_Compare.l0, if_neg (by omega), rescindref05_Compare.j2, if_neg (by decide), e1]
  by_cases h2 : j < s'.size
  ·obtain ⟨b, e2, _⟩ := bt_drop s' j h2
   rw [if_neg (by omega), if_pos (by omega), e2]; rfl
  ·rw [if_pos (by omega), List.drop_eq_nil_of_le (by rw [size_list]; omega)]; rfl
 | succ n ih =>
  intro j k hn hk ha hb
  obtain ⟨k, rfl⟩ : ∃ m, k = m + 2 := ⟨k - 2, by omega⟩
  have hj : j < s.size := by omega
  have hw : wrap64 ((j : Int) + 1) = ((j + 1 : Nat) : Int) := by rw [wrap_in] <;> omega
  obtain ⟨a, e1, b1⟩ := bt_drop s j hj
  rw [rescindref05_Compare.l0, if_pos (by omega), rescindref05_Compare.j2]
  by_cases h2 : j < s'.size
  ·obtain ⟨b, e2, b2⟩ := bt_drop s' j h2
   rw [if_pos (decide_eq_true (by omega)), if_pos (by omega), if_pos (by omega), if_pos (by omega), b1, b2, e1, e2, Lib.compareBytes]
   by_cases h3 : (a.toNat : Int) = (b.toNat : Int)
   ·have hab : a = b := UInt8.toNat_inj.1 (by omega)
    rw [if_pos h3, hab, if_neg (by exact UInt8.lt_irrefl b), if_neg (by exact UInt8.lt_irrefl b), hw]
    exact ih (j + 1) k (by omega) (by omega) (by omega) (by omega)
   ·rw [if_neg h3]
    by_cases h4 : (a.toNat : Int) < (b.toNat : Int)
    ·rw [if_pos h4, if_pos (UInt8.lt_iff_toNat_lt.2 (by omega))]
    ·rw [if_neg h4, if_neg (fun h => by have := UInt8.lt_iff_toNat_lt.1 h; omega), if_pos (UInt8.lt_iff_toNat_lt.2 (by omega))]
  ·have e2 : s'.data.toList.drop j = [] := List.drop_eq_nil_of_le (by rw [size_list]; omega)
   rw [if_neg (by rw [decide_eq_false (by omega)]; decide), if_neg (by omega), if_neg (by omega), e1, e2]; rfl
end Go.Proofs.Ythngomhhimdolaa.H
end
