import Derived.Test.YtfimmmbamlejaaaDoorSpD
namespace Go.Proofs.YtfimmmbamlejaaaDoor.SpE
open Go.RowKit Go.Shelf Go.Proofs.YtfimmmbamlejaaaDoorW.PrintWords Go.Proofs.YtfimmmbamlejaaaDoorW.PrintLast Go.Proofs.YtfimmmbamlejaaaDoorW.PrintMore
open Go.Proofs.YtfimmmbamlejaaaDoor.PSpanAll
open Go.Proofs.YtfimmmbamlejaaaDoor.SpA Go.Proofs.YtfimmmbamlejaaaDoor.SpB Go.Proofs.YtfimmmbamlejaaaDoor.SpC Go.Proofs.YtfimmmbamlejaaaDoor.SpD
attribute [local go_sem] Oper.semAt_some

theorem all_in (n : Nat) (d : Int) (w : World) :
    CallsIn Fence.wide n Tryd.prog 6 #[.int .i64 d] w fun e w' => e = .returned (.func (.func 18) #[] #[.pointer (some ⟨w.heap.size, 0, none⟩)]) ∧ w' = w.alloc (.cells #[.int .i64 d] 3) := by
  refine callsIn_of_wp Tryd.func6 rfl trivial ?_ rfl
  simp only [Tryd.ntmps6, List.size_toArray, List.length_cons, List.length_nil, Nat.reduceAdd, Nat.reduceSub, Array.replicate_succ, Array.replicate_zero, List.push_toArray, List.append_toArray, List.nil_append, List.cons_append]
  gi_wp2
  go_ret
  exact ⟨rfl, rfl⟩
theorem all_stops {d : Int} {N : Nat} {F T : Nat → ByteArray} (HD : Depth d N F T) (n : Nat) (hn : 1 ≤ n) (Bd n₀ : Nat) (w : World) (hBn : Bd < n₀) (hn₀ : n₀ ≤ w.heap.size)
    (hBd : w.cell? ⟨Bd, 0, none⟩ = some (.int .i64 d)) :
    SeqStopsK Fence.wide n Tryd.prog 18 #[.pointer (some ⟨Bd, 0, none⟩)] (encs F T (N := N)) (Below n₀) (fun ys => ys = upto N N) (fun pre => ∃ k, k ≤ N ∧ pre = upto N k) N w := fun l J Jx W hW hJ _ hY h0 =>
  all1_in d N F T HD n hn l Bd n₀ J Jx W hBn (Nat.le_trans hn₀ hW.size) hJ hY ((hW.cell (p := ⟨Bd, 0, none⟩) (Nat.lt_of_lt_of_le hBn hn₀)).trans hBd) h0
theorem boxed_below {w W : World} {B : Nat} {t : TypeId} {v : Value} (h : Boxed w B t v) (hb : Below w.heap.size w W) : Boxed W B t v := (hb.block B h.lt).trans h
end Go.Proofs.YtfimmmbamlejaaaDoor.SpE
