import Derived.Test.YtfimmmbamlejaaaDoorSpB
namespace Go.Proofs.YtfimmmbamlejaaaDoor.SpC
open Go.RowKit Go.Proofs.YtfimmmbamlejaaaDoorW.PrintWords Go.Proofs.YtfimmmbamlejaaaDoorW.PrintLast Go.Proofs.YtfimmmbamlejaaaDoorW.PrintMore
open Go.Proofs.YtfimmmbamlejaaaDoor.PSpanAll
open Go.Proofs.YtfimmmbamlejaaaDoor.SpA Go.Proofs.YtfimmmbamlejaaaDoor.SpB
def LeastIs (d b : Int) (r : ByteArray) : Prop := ∀ w, Calls Tryd.prog 21 #[.int .i64 d, .int .i64 b] w fun e w' => e = .returned (.string r) ∧ Below w.heap.size w w'
def OfIs (d b : Int) (f t : ByteArray) : Prop := ∀ w, Calls Tryd.prog 8 #[.int .i64 d, .int .i64 b] w fun e w' => e = .returned (.tuple #[.agg #[.string f, .string t], .int .i64 0]) ∧ Below w.heap.size w w'
theorem new_facts {w w3 : World} {C : Array Value} {t : TypeId} (hb : Below (w.alloc (.cells C t)).heap.size (w.alloc (.cells C t)) w3) (i : Nat) :
    w3.cell? ⟨w.heap.size, i, none⟩ = C[i]? ∧ w3.frozen? ⟨w.heap.size, i, none⟩ = false := by
  refine ⟨(hb.cell (p := ⟨w.heap.size, i, none⟩) (by simp)).trans (World.cell?_alloc_new ..), (hb.frozen (p := ⟨w.heap.size, i, none⟩) (by simp)).trans ?_⟩
  exact World.frozen?_alloc_at _ _ _ _ rfl
theorem below_alloc_in {w w3 : World} {o : Obj} (hb : Below (w.alloc o).heap.size (w.alloc o) w3) : Below w.heap.size w w3 :=
  below_then (below_alloc (Below.refl _ _) o) (by simp) hb
set_option maxRecDepth 100000 in
set_option maxHeartbeats 400000 in
theorem of_in (k : Nat) (d n b : Int) (f t : ByteArray) (hc : span_count.f k d = some n) (h0 : 0 ≤ b) (h1 : b < n) (hn : n ≤ 4096) (hf : LeastIs d b f) (ht : LeastIs d (b + 1) t) : OfIs d b f t := by
  intro w
  have hB : decide (n ≤ b) = false := by simp; omega
  have hB0 : decide (b < 0) = false := by simp; omega
  have hB1 : (n == 0) = false := by simp; omega
  have HR := Aside0.mk hc
  clear hc
  go_enter Tryd.func8, Tryd.ntmps8
  go_wp2_with ((with_reducible go_at_call 19); (refine (span_count.calls k d n _ HR.out).mono ?_); rintro e w1 ⟨rfl, hd⟩; have hb := Aside0.mk hd.below; clear hd)
  refine (hf w1).mono ?_
  rintro e w2 ⟨rfl, hb2⟩
  have hb2 := Aside0.mk (below_step hb.out hb2)
  clear hb
  go_wp2_with fail
  refine (ht w2).mono ?_
  rintro e w3 ⟨rfl, hb3⟩
  have hb3 := Aside0.mk (below_step hb2.out hb3)
  clear hb2
  obtain ⟨c0, f0⟩ := new_facts hb3.out 0
  obtain ⟨c1, f1⟩ := new_facts hb3.out 1
  simp only [List.getElem?_toArray, List.getElem?_cons_zero, List.getElem?_cons_succ] at c0 c1
  go_wp2
  refine bodyPost_ret (v := .tuple #[.agg #[.string f, .string t], .int .i64 0]) (by simp [results, Tryd.results8, go_sem, c0, c1]) rfl ⟨rfl, ?_⟩
  exact ((below_alloc_in hb3.out).setCell (Nat.le_refl _) _).setCell (Nat.le_refl _) _
end Go.Proofs.YtfimmmbamlejaaaDoor.SpC
