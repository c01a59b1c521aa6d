import Derived.Test.YtfimmmbamlejaaaDoorSpA
import Derived.Handy
namespace Go.Proofs.YtfimmmbamlejaaaDoor.SpB
open Go.RowKit Go.Proofs.YtfimmmbamlejaaaDoorW.PrintWords Go.Proofs.YtfimmmbamlejaaaDoorW.PrintLast Go.Proofs.YtfimmmbamlejaaaDoorW.PrintMore
open Go.Proofs.YtfimmmbamlejaaaDoor.PSpanAll
open Go.Proofs.YtfimmmbamlejaaaDoor.SpA
theorem count1 : span_count.f 10 1 = some 16 := by kernel_rfl
theorem count2 : span_count.f 10 2 = some 256 := by kernel_rfl
theorem count3 : span_count.f 10 3 = some 4096 := by kernel_rfl
theorem nums_ne (x : Int) (xs : List Int) : (strOfNums (x :: xs)).toList ≠ [] := by
  intro h
  rw [ByteArray.toList_eq] at h
  simp [strOfNums] at h
theorem below_draw {w w1 W : World} (h : Below w.heap.size w w1) (o : Obj) (hd : Drawn0 (w1.alloc o) W) : Below w.heap.size w W :=
  below_then (below_alloc h o) (by have := h.size; simp; omega) hd.below
theorem cell_row (w : World) (cs : List Value) (t : TypeId) (i : Nat) : (w.alloc (.cells cs.toArray t)).cell? ⟨w.heap.size, 0 + i, none⟩ = cs[i]? := by
  rw [World.cell?_alloc_new]; simp
set_option maxRecDepth 100000 in
set_option maxHeartbeats 400000 in
theorem least1 (b : Int) (r : ByteArray) (w : World) (h0 : 0 ≤ b) (h1 : b < 16) (hr : strings_trimRightByte.f 5 (strOfNums [b * 16]) 0 = some r) :
    Calls Tryd.prog 21 #[.int .i64 1, .int .i64 b] w fun e w' => e = .returned (.string r) ∧ Below w.heap.size w w' := by
  have hB : decide (16 ≤ b) = false := by simp; omega
  have HR := Aside0.mk hr
  clear hr
  go_enter Tryd.func21, Tryd.ntmps21
  go_wp2_with ((with_reducible go_at_call 19); (refine (span_count.calls 10 1 16 _ count1).mono ?_); rintro e w1 ⟨rfl, hd⟩; have hb := Aside0.mk hd.below; clear hd)
  go_rounds 2
  rw [run_convert_bytes_arg _ 63 5 rfl rfl w1.heap.size 0 1 2 [b * 16] rfl (fun i hi => by
    obtain rfl : i = 0 := by omega
    exact cell_row w1 [_, _] 64 0) 9 rfl]
  go_wp2_with ((with_reducible go_at_call 32); (refine (trim_some 5 _ r _ HR.out (nums_ne _ _)).mono ?_); rintro e w2 ⟨rfl, hd⟩; have hb2 := Aside0.mk (below_draw hb.out _ hd); clear hd)
  go_ret
  exact ⟨rfl, hb2.out⟩
set_option maxRecDepth 100000 in
set_option maxHeartbeats 400000 in
theorem least2 (b : Int) (r : ByteArray) (w : World) (h0 : 0 ≤ b) (h1 : b < 256) (hr : strings_trimRightByte.f 5 (strOfNums [b]) 0 = some r) :
    Calls Tryd.prog 21 #[.int .i64 2, .int .i64 b] w fun e w' => e = .returned (.string r) ∧ Below w.heap.size w w' := by
  have hB : decide (256 ≤ b) = false := by simp; omega
  have HR := Aside0.mk hr
  clear hr
  go_enter Tryd.func21, Tryd.ntmps21
  go_wp2_with ((with_reducible go_at_call 19); (refine (span_count.calls 10 2 256 _ count2).mono ?_); rintro e w1 ⟨rfl, hd⟩; have hb := Aside0.mk hd.below; clear hd)
  go_rounds 2
  rw [run_convert_bytes_arg _ 63 5 rfl rfl w1.heap.size 0 1 2 [b] rfl (fun i hi => by
    obtain rfl : i = 0 := by omega
    exact cell_row w1 [_, _] 64 0) 9 rfl]
  go_wp2_with ((with_reducible go_at_call 32); (refine (trim_some 5 _ r _ HR.out (nums_ne _ _)).mono ?_); rintro e w2 ⟨rfl, hd⟩; have hb2 := Aside0.mk (below_draw hb.out _ hd); clear hd)
  go_ret
  exact ⟨rfl, hb2.out⟩
set_option maxRecDepth 100000 in
set_option maxHeartbeats 400000 in
theorem least3 (b : Int) (r : ByteArray) (w : World) (h0 : 0 ≤ b) (h1 : b < 4096) (hr : strings_trimRightByte.f 5 (strOfNums [b * 16 / 256, b * 16 % 256]) 0 = some r) :
    Calls Tryd.prog 21 #[.int .i64 3, .int .i64 b] w fun e w' => e = .returned (.string r) ∧ Below w.heap.size w w' := by
  have hB : decide (4096 ≤ b) = false := by simp; omega
  have HR := Aside0.mk hr
  clear hr
  go_enter Tryd.func21, Tryd.ntmps21
  go_wp2_with ((with_reducible go_at_call 19); (refine (span_count.calls 10 3 4096 _ count3).mono ?_); rintro e w1 ⟨rfl, hd⟩; have hb := Aside0.mk hd.below; clear hd)
  go_rounds 3
  rw [run_convert_bytes_arg _ 63 5 rfl rfl w1.heap.size 0 2 2 [b * 16 / 256, b * 16 % 256] rfl (fun i hi => by
    obtain rfl | rfl : i = 0 ∨ i = 1 := by omega
    · exact cell_row w1 [_, _] 64 0
    · exact cell_row w1 [_, _] 64 1) 9 rfl]
  go_wp2_with ((with_reducible go_at_call 32); (refine (trim_some 5 _ r _ HR.out (nums_ne _ _)).mono ?_); rintro e w2 ⟨rfl, hd⟩; have hb2 := Aside0.mk (below_draw hb.out _ hd); clear hd)
  go_ret
  exact ⟨rfl, hb2.out⟩
set_option maxRecDepth 100000 in
set_option maxHeartbeats 400000 in
theorem leastN (k : Nat) (d n b : Int) (w : World) (hc : span_count.f k d = some n) (h : n ≤ b) :
    Calls Tryd.prog 21 #[.int .i64 d, .int .i64 b] w fun e w' => e = .returned (.string ⟨#[]⟩) ∧ Below w.heap.size w w' := by
  have hB : decide (n ≤ b) = true := by simp; omega
  have HR := Aside0.mk hc
  clear hc
  go_enter Tryd.func21, Tryd.ntmps21
  go_wp2_with ((with_reducible go_at_call 19); (refine (span_count.calls k d n _ HR.out).mono ?_); rintro e w1 ⟨rfl, hd⟩; have hb := Aside0.mk hd.below; clear hd)
  go_ret
  exact ⟨rfl, hb.out⟩
end Go.Proofs.YtfimmmbamlejaaaDoor.SpB
