import Derived.Test.YtfimmmbamlejaaaDoorSpC
import Derived.RangeFuncNested
import Derived.RangeFuncBound
import Derived.RangeFuncCalls
import Derived.RangeFuncLeaves
import Derived.Shelf.Abstract
import Derived.Shelf.RegionOpen
import Derived.WalkKit
import Derived.OwnWalkIn
import Derived.TacticsInMore
import Derived.LoopNIn
import Derived.LoopIn
namespace Go.Proofs.YtfimmmbamlejaaaDoor.SpD
open Go.RowKit Go.Shelf Go.Proofs.YtfimmmbamlejaaaDoorW.PrintWords Go.Proofs.YtfimmmbamlejaaaDoorW.PrintLast Go.Proofs.YtfimmmbamlejaaaDoorW.PrintMore
open Go.Proofs.YtfimmmbamlejaaaDoor.PSpanAll
open Go.Proofs.YtfimmmbamlejaaaDoor.SpA Go.Proofs.YtfimmmbamlejaaaDoor.SpB Go.Proofs.YtfimmmbamlejaaaDoor.SpC
attribute [local go_sem] Oper.semAt_some

/-- what the buckets of a depth are, as the program and as the document tell them -/
structure Depth (d : Int) (N : Nat) (F T : Nat → ByteArray) : Prop where
  count : span_count.f 10 d = some (N : Int)
  small : N ≤ 4096
  of : ∀ k, k < N → OfIs d k (F k) (T k)

def upto (N k : Nat) : List (Fin N) := (List.finRange N).take k
theorem upto_snoc {N k : Nat} (h : k < N) : upto N (k + 1) = upto N k ++ [⟨k, h⟩] := by
  unfold upto
  rw [List.take_succ_eq_append_getElem (by simpa using h)]
  simp
theorem upto_zero (N : Nat) : upto N 0 = [] := rfl
theorem upto_length {N k : Nat} (h : k ≤ N) : (upto N k).length = k := by simp [upto, h]
def encs (F T : Nat → ByteArray) {N : Nat} (k : Fin N) : Array Value := #[.int .i64 (k.1 : Int), .agg #[.string (F k.1), .string (T k.1)]]

set_option maxRecDepth 100000 in
set_option maxHeartbeats 2000000 in
theorem all1_in (d : Int) (N : Nat) (F T : Nat → ByteArray) (HD : Depth d N F T) (n : Nat) (hn : 1 ≤ n) (l Bd n₀ : Nat) (J Jx : List (Fin N) → World → Prop) (W : World) (hBn : Bd < n₀) (hn₀ : n₀ ≤ W.heap.size)
    (hJ : AbidesFrom W.heap.size J)
    (hY : ∀ pre x W, J pre W → pre.length < N → YieldAt Fence.wide (n - 1) Tryd.prog l (encs F T x) W fun e W' =>
      (e = .returned (.bool true) ∧ J (pre ++ [x]) W' ∧ Below n₀ W W') ∨ (e = .returned (.bool false) ∧ Jx (pre ++ [x]) W'))
    (hBd : W.cell? ⟨Bd, 0, none⟩ = some (.int .i64 d)) (h0 : J [] W) :
    CallsIn Fence.wide n Tryd.prog 18 #[.func (.yield l) #[] #[], .pointer (some ⟨Bd, 0, none⟩)] W fun e W' => (∃ v, e = .returned v) ∧
      ((∃ ys, ys = upto N N ∧ J ys W') ∨ (∃ pre, (∃ k, k ≤ N ∧ pre = upto N k) ∧ Jx pre W')) := by
  have hc := Aside0.mk HD.count
  have hsm := HD.small
  refine callsIn_of_wp Tryd.func18 rfl trivial ?_ rfl
  simp only [Tryd.ntmps18, List.size_toArray, List.length_cons, List.length_nil, Nat.reduceAdd, Nat.reduceSub, Array.replicate_succ, Array.replicate_zero, List.push_toArray, List.append_toArray, List.nil_append, List.cons_append]
  gi_wp2_with (refine ⟨trivial, ?_⟩; gi_at_call 19; refine (callsIn_wide.2 (span_count.calls 10 d N _ hc.out)).mono ?_; rintro e w1 ⟨rfl, hd⟩; have hb1 := Aside0.mk hd.below; clear hd)
  have hJ1 : J [] w1 := hJ _ _ _ none h0 (grown_of_below hb1.out none) (fun r e => by cases e)
  have hB1 := Aside0.mk (hb1.out.mono hn₀)
  gi_loopw [8] (fun i wr => ∃ k : Nat, k ≤ N ∧ i = .int .i64 k ∧ J (upto N k) wr ∧ Aside0 (Below n₀ W wr) ∧ Aside0 (W.heap.size ≤ wr.heap.size)) (fun i _ => N - (intOf i).toNat)
  case atStart => exact ⟨0, Nat.zero_le _, rfl, hJ1, hB1, ⟨hb1.out.size⟩⟩
  case round =>
    obtain ⟨k, hk, rfl, hJs, hnx, hsz⟩ := hrel
    have hcx : wr.cell? ⟨Bd, 0, none⟩ = some (.int .i64 d) := (hnx.out.cell (p := ⟨Bd, 0, none⟩) hBn).trans hBd
    by_cases hlt : k < N
    · have hof := HD.of k hlt wr
      gi_wp2_with (refine ⟨trivial, ?_⟩; gi_at_call 8; refine (callsIn_wide.2 hof).mono ?_; rintro e w2 ⟨rfl, hd⟩; have hb2 := Aside0.mk hd; clear hd)
      have hJ2 : J (upto N k) (w2.alloc (.cells #[.string (F k), .string (T k)] 27)) :=
        hJ _ _ _ none (hJ _ _ _ none hJs (grown_of_below hb2.out none) (fun r e => by cases e)) (World.grownBy_alloc _ _ none) (fun r e => by cases e)
      obtain ⟨fn, tmps, assign, body, hy, hR⟩ := hY _ ⟨k, hlt⟩ _ hJ2 (by rw [upto_length hk]; exact hlt)
      simp only [encs] at hy
      have hb3 : Below n₀ W (w2.alloc (.cells #[.string (F k), .string (T k)] 27)) := (hnx.out.trans (hb2.out.mono (Nat.le_trans hn₀ hsz.out))).alloc (by have := hb2.out.size; have := hsz.out; omega) _
      have hs3 : W.heap.size ≤ w2.heap.size := by have := hb2.out.size; have := hsz.out; omega
      replace hb3 := Aside0.mk hb3
      clear hof hJ2
      rw [hy, Oper.uponIn_round]
      refine ⟨fun h => by simp [Fence.wide] at h, ?_⟩
      refine hR.mono ?_
      rintro e W3 (⟨rfl, hJ3, hk3⟩ | ⟨rfl, hJx3⟩)
      · gi_wp2
        go_roundw
        case rel => exact ⟨k + 1, by omega, by simp, by rw [upto_snoc hlt]; exact hJ3, ⟨hb3.out.trans hk3⟩, ⟨by have := hk3.size; simp at this; omega⟩⟩
        case measure => simp [intOf]; omega
      · gi_wp2
        refine bodyPost_ret (results_none rfl _ _ _) rfl ?_
        exact ⟨⟨_, rfl⟩, .inr ⟨_, ⟨k + 1, by omega, (upto_snoc hlt).symm⟩, hJx3⟩⟩
    · obtain rfl : N = k := by omega
      gi_wp2
      go_end0
      exact ⟨⟨_, rfl⟩, .inl ⟨_, rfl, hJs⟩⟩
end Go.Proofs.YtfimmmbamlejaaaDoor.SpD
