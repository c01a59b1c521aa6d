import Derived.Test.YtfimmmbamlejaaaDoorSpF
import Derived.Laws.EntriesVeiled
namespace Go.Proofs.YtfimmmbamlejaaaDoor.SpG
open Go.RowKit Go.Shelf Go.Proofs.YtfimmmbamlejaaaDoorW.PrintWords Go.Proofs.YtfimmmbamlejaaaDoorW.PrintLast Go.Proofs.YtfimmmbamlejaaaDoorW.PrintMore
open Go.Proofs.YtfimmmbamlejaaaDoor.PSpanAll
open Go.Proofs.YtfimmmbamlejaaaDoor.SpA Go.Proofs.YtfimmmbamlejaaaDoor.SpB Go.Proofs.YtfimmmbamlejaaaDoor.SpC Go.Proofs.YtfimmmbamlejaaaDoor.SpD Go.Proofs.YtfimmmbamlejaaaDoor.SpE Go.Proofs.YtfimmmbamlejaaaDoor.SpF
attribute [local go_sem] Oper.semAt_some
theorem run_equalIn_func_nil (d : Nat) (w : World) (fn : Fn) (a b : Array Value) : (Op.equalIn (d + 1) 24 (.func fn a b) .nilFunc).run Tryd.prog w = .ok false w := by
  unfold Op.equalIn
  simp [run_underlying Tryd.underlying24]
theorem run_eql_func_nil (w : World) (fn : Fn) (a b : Array Value) : (binOp .eql 24 (.func fn a b) .nilFunc).run Tryd.prog w = .ok (.bool false) w := by
  have h := run_equalIn_func_nil 9999 w fn a b
  simp only [binOp, Op.equal, Op.maxDepth]
  simp [h]
theorem good_upto {N k : Nat} (h : k ≤ N) : good (upto N k) = true := by
  unfold good
  rw [upto_length h, decide_eq_true_eq]
  apply List.ext_getElem
  · simp [upto_length h]
  · intro i h1 h2
    simp [upto]
theorem mid_all {W0 : World} {B8 : Nat} {leave : Int} {N : Nat} {W : World} (h : Mid W0 B8 leave 0 (upto N N) W) : ∃ nx : Int, Boxed W B8 3 (.int .i64 nx) ∧ Boxed W (B8 + 1) 4 (.bool true) ∧ Below B8 W0 W ∧
      ((Exit.normal = .normal ∧ ¬ (0 ≤ leave ∧ leave < (N : Int)) ∧ nx = N) ∨ (Exit.normal = .exit 2 ∧ 0 ≤ leave ∧ leave < (N : Int) ∧ nx = leave)) := by
  obtain ⟨⟨h1, h2, h3⟩, h4⟩ := h
  rw [good_upto (Nat.le_refl N)] at h3
  refine ⟨_, h2, h3, h4, .inl ⟨rfl, ?_, by rw [upto_length (Nat.le_refl N)]⟩⟩
  rintro ⟨g1, g2⟩
  refine h1 rfl ⟨leave.toNat, by omega⟩ ?_ (by simp; omega)
  rw [upto, List.take_of_length_le (by simp)]
  exact List.mem_finRange _
theorem left_all {W0 : World} {B8 : Nat} {leave : Int} {N k : Nat} {W : World} (hk : k ≤ N) (h : SpF.Left W0 B8 leave 0 (.exit 2) (upto N k) W) : ∃ nx : Int, Boxed W B8 3 (.int .i64 nx) ∧ Boxed W (B8 + 1) 4 (.bool true) ∧ Below B8 W0 W ∧
      ((Exit.exit 2 = .normal ∧ ¬ (0 ≤ leave ∧ leave < (N : Int)) ∧ nx = N) ∨ (Exit.exit 2 = .exit 2 ∧ 0 ≤ leave ∧ leave < (N : Int) ∧ nx = leave)) := by
  obtain ⟨⟨⟨_, _, p, x, hp, hx, h2⟩, h3⟩, h4⟩ := h
  have hg := good_upto (N := N) hk
  rw [hg] at h3
  rw [hp, good_snoc] at hg
  simp only [Bool.and_eq_true, decide_eq_true_eq] at hg
  have hx2 := x.2
  exact ⟨_, h2, h3, h4, .inr ⟨rfl, by omega, by omega, by omega⟩⟩
theorem leaves_ok {n D E B : Nat} {w W : World} {tmps : Array Value} (hE : W.heap[E]? = some (.deferred (some []))) (hD : W.heap[D]? = some (.deferred (some []))) (hne : D ≠ E) (hc : W.cell? ⟨B, 0, none⟩ = some (.bool true))
    (hb : Below w.heap.size w W) (h1 : w.heap.size ≤ E) (h2 : w.heap.size ≤ D) (ht : tmps[4]?.getD undef = .pointer (some ⟨B, 0, none⟩) := by rfl) :
    bodyPostM Fence.wide n Tryd.prog Tryd.f3 (fun e w' => e = Ending.returned (.bool true) ∧ Below w.heap.size w w') .ret { tmps := tmps, defers := [{ target := .collected E, args := #[] }, { target := .collected D, args := #[] }] } W := by
  have hD' : (W.putObj E (.deferred none)).heap[D]? = some (.deferred (some [])) := (World.putObj_heap_other hne).trans hD
  refine ⟨by simp, .inl ⟨_, _, rfl, run_takeDeferred hE, by simp, .inl ⟨_, _, rfl, run_takeDeferred hD', ?_⟩⟩⟩
  have c1 : (W.putObj E (.deferred none)).cell? ⟨B, 0, none⟩ = some (.bool true) := cell_kept hc (grownBy_putObj' W E _) (fun r e => by cases e; exact ⟨_, hE, rfl⟩)
  have c2 : ((W.putObj E (.deferred none)).putObj D (.deferred none)).cell? ⟨B, 0, none⟩ = some (.bool true) := cell_kept c1 (grownBy_putObj' _ D _) (fun r e => by cases e; exact ⟨_, hD', rfl⟩)
  refine ⟨.bool true, ?_, rfl, (hb.grown (grownBy_putObj' W E _) (by have := hb.size; omega) (fun k e => by cases e; exact h1)).grown (grownBy_putObj' _ D _) (by have := hb.size; simp; omega) (fun k e => by cases e; exact h2)⟩
  simp [results, Tryd.results3, go_sem, ht, c2]
set_option maxRecDepth 100000 in
set_option maxHeartbeats 4000000 in
theorem law (d leave : Int) (k kr : Nat) (N : Nat) (F T : Nat → ByteArray) (HD : Depth d N F T) (hcnt : hawserref06_Count.f k d = some (N : Int)) (href : ∀ x, x < N → hawserref06_Of.f kr d (x : Int) = some (F x, T x, 0)) (t11 : ByteArray) (hone : OfIs 1 1 ⟨#[16]⟩ t11) (w : World) :
    CallsIn Fence.wide 9 Tryd.prog 3 #[.int .i64 d, .int .i64 leave] w fun e w' => e = .returned (.bool true) ∧ Below w.heap.size w w' := by
  have hc := Aside0.mk hcnt
  clear hcnt
  refine callsIn_of_wp_marks Tryd.func3 rfl trivial ?_
  simp only [Tryd.ntmps3, List.size_toArray, List.length_cons, List.length_nil, Nat.reduceAdd, Nat.reduceSub, Array.replicate_succ, Array.replicate_zero, List.push_toArray, List.append_toArray, List.nil_append, List.cons_append]
  gi_wp2_with fail
  refine ⟨trivial, (callsIn_wide.2 (hawserref06_Count.calls k d N _ hc.out)).mono ?_⟩
  rintro e w1 ⟨rfl, hd⟩
  have hb1 := hd.below
  clear hd
  have b2 := boxed_below (((Boxed.new w 3 (.int .i64 d)).alloc (.cells #[.int .i64 leave] 3)).alloc (.cells #[.bool false] 4)) hb1
  have b3 := boxed_below ((Boxed.new (w.alloc (.cells #[.int .i64 d] 3)) 3 (.int .i64 leave)).alloc (.cells #[.bool false] 4)) hb1
  have b4 := boxed_below (Boxed.new ((w.alloc (.cells #[.int .i64 d] 3)).alloc (.cells #[.int .i64 leave] 3)) 4 (.bool false)) hb1
  have hb0 : Below w.heap.size w w1 := below_then (below_alloc (below_alloc (below_alloc (Below.refl _ w) _) _) _) (by simp; omega) hb1
  have hs1 := hb1.size
  simp only [World.size_alloc] at b3 b4 hs1
  replace hb1 := Aside0.mk hb1
  replace b2 := Aside0.mk b2
  replace b3 := Aside0.mk b3
  replace b4 := Aside0.mk b4
  replace hb0 := Aside0.mk hb0
  have q2 := b2.out.lt
  have q3 := b3.out.lt
  have q4 := b4.out.lt
  have k2 := b2.out.cell
  have k3 := b3.out.cell
  have k4 := b4.out.cell
  have hnf := run_eql_func_nil
  gi_wp2_with (refine ⟨trivial, ?_⟩; gi_at_call 6; refine (all_in _ _ _).mono ?_; rintro e w2 ⟨rfl, rfl⟩)
  obtain ⟨X0, hX0⟩ : ∃ X0, (((w1.alloc (.cells #[.int .i64 (N : Int)] 3)).alloc (.cells #[.int .i64 d] 3)).alloc (.cells #[.func (.func 18) #[] #[.pointer (some ⟨w1.heap.size + 1, 0, none⟩)]] 24)).alloc (.cells #[.int .i64 0] 3) = X0 := ⟨_, rfl⟩
  have c2 : Boxed X0 w.heap.size 3 (.int .i64 d) := by rw [← hX0]; exact (((b2.out.alloc _).alloc _).alloc _).alloc _
  have c3 : Boxed X0 (w.heap.size + 1) 3 (.int .i64 leave) := by rw [← hX0]; exact (((b3.out.alloc _).alloc _).alloc _).alloc _
  have c4 : Boxed X0 (w.heap.size + 1 + 1) 4 (.bool false) := by rw [← hX0]; exact (((b4.out.alloc _).alloc _).alloc _).alloc _
  have c5 : Boxed X0 w1.heap.size 3 (.int .i64 (N : Int)) := by rw [← hX0]; exact (((Boxed.new w1 3 _).alloc _).alloc _).alloc _
  have cd : Boxed X0 (w1.heap.size + 1) 3 (.int .i64 d) := by
    rw [← hX0]; have := ((Boxed.new (w1.alloc (.cells #[.int .i64 (N : Int)] 3)) 3 (.int .i64 d)).alloc (.cells #[.func (.func 18) #[] #[.pointer (some ⟨w1.heap.size + 1, 0, none⟩)]] 24)).alloc (.cells #[.int .i64 0] 3); simpa using this
  have c6 : Boxed X0 (w1.heap.size + 1 + 1) 24 (.func (.func 18) #[] #[.pointer (some ⟨w1.heap.size + 1, 0, none⟩)]) := by
    rw [← hX0]; have := (Boxed.new ((w1.alloc (.cells #[.int .i64 (N : Int)] 3)).alloc (.cells #[.int .i64 d] 3)) 24 (.func (.func 18) #[] #[.pointer (some ⟨w1.heap.size + 1, 0, none⟩)])).alloc (.cells #[.int .i64 0] 3); simpa using this
  have c7 : Boxed X0 (w1.heap.size + 1 + 1 + 1) 3 (.int .i64 0) := by
    rw [← hX0]; have := Boxed.new (((w1.alloc (.cells #[.int .i64 (N : Int)] 3)).alloc (.cells #[.int .i64 d] 3)).alloc (.cells #[.func (.func 18) #[] #[.pointer (some ⟨w1.heap.size + 1, 0, none⟩)]] 24)) 3 (.int .i64 0); simpa using this
  have sX : X0.heap.size = w1.heap.size + 4 := by rw [← hX0]; simp
  have hbX : Below w.heap.size w X0 := by rw [← hX0]; exact below_alloc (below_alloc (below_alloc (below_alloc hb0.out _) _) _) _
  rw [hX0]
  clear hX0 k2 k3 k4 q2 q3 q4
  have k2 := c2.cell
  have k7 := c7.cell
  have k6 := c6.cell
  have HX := Aside0.mk sX
  have q6 := c6.lt
  have q7 := c7.lt
  have q6b : w1.heap.size + 1 + 1 < X0.heap.size + 1 := by omega
  clear sX
  refine wpIn_loop_rounds 3 ?_
  rw [roundsIn_succ]
  gi_wp2
  have hAt : At ((X0.alloc (.cells #[.int .i64 0] 3)).alloc (.cells #[.bool true] 4)) w.heap.size (w.heap.size + 1) (w.heap.size + 1 + 1) w1.heap.size (w1.heap.size + 1 + 1) (w1.heap.size + 1 + 1 + 1) X0.heap.size (w1.heap.size + 1) d leave N 0 :=
    ⟨(c2.alloc _).alloc _, (c3.alloc _).alloc _, (c5.alloc _).alloc _, (c6.alloc _).alloc _, (c7.alloc _).alloc _, (cd.alloc _).alloc _, (Boxed.new X0 3 _).alloc _, by have := Boxed.new (X0.alloc (.cells #[.int .i64 0] 3)) 4 (.bool true); simpa using this,
      by have := HX.out; omega, by have := HX.out; omega, by have := HX.out; omega, by have := HX.out; omega, by have := HX.out; omega, by have := HX.out; omega, by simp⟩
  refine wpIn_mono (outer HD href hAt _ _ ?hc) ?_
  case hc => kernel_rfl
  rintro e a' W ⟨D, hD, hDs, rfl, h⟩
  obtain ⟨nx, hnx, hrt, hbel, hcase⟩ : ∃ nx : Int, Boxed W X0.heap.size 3 (.int .i64 nx) ∧ Boxed W (X0.heap.size + 1) 4 (.bool true) ∧ Below X0.heap.size ((X0.alloc (.cells #[.int .i64 0] 3)).alloc (.cells #[.bool true] 4)) W ∧
      ((e = .normal ∧ ¬ (0 ≤ leave ∧ leave < (N : Int)) ∧ nx = N) ∨ (e = .exit 2 ∧ 0 ≤ leave ∧ leave < (N : Int) ∧ nx = leave)) := by
    rcases h with ⟨rfl, hM⟩ | ⟨rfl, k', hk', hL⟩
    · exact mid_all hM
    · exact left_all hk' hL
  clear h
  have up : ∀ {B : Nat} {t : TypeId} {v : Value}, Boxed X0 B t v → Boxed W B t v := fun h => (hbel.block _ h.lt).trans ((h.alloc _).alloc _)
  replace c2 := up c2
  replace c3 := up c3
  replace c4 := up c4
  replace c5 := up c5
  replace c6 := up c6
  replace cd := up cd
  replace c7 := up c7
  have hbW : Below w.heap.size w W := (below_alloc (below_alloc hbX _) _).trans (hbel.mono (by have := HX.out; omega))
  have sW : X0.heap.size + 2 ≤ W.heap.size := by have := hbel.size; simpa using this
  clear up hbX hAt hbel k2 k6 k7 q6 q7 q6b
  have hD2 := Aside0.mk hD
  have hDs2 := Aside0.mk hDs
  clear hD hDs
  have k2 := c2.cell
  have k3 := c3.cell
  have k5 := c5.cell
  have k6 := c6.cell
  have k7 := c7.cell
  have k8 := hnx.cell
  have k9 := hrt.cell
  have q2 := c2.lt
  have q6 := c6.lt
  have q7 := c7.lt
  have q6b : w1.heap.size + 1 + 1 < W.heap.size + 1 := by omega
  have q6c : w1.heap.size + 1 + 1 < W.heap.size + 1 + 1 := by omega
  replace c2 := Aside0.mk c2
  replace c3 := Aside0.mk c3
  replace c4 := Aside0.mk c4
  replace c5 := Aside0.mk c5
  replace c6 := Aside0.mk c6
  replace cd := Aside0.mk cd
  replace c7 := Aside0.mk c7
  replace hnx := Aside0.mk hnx
  replace hrt := Aside0.mk hrt
  replace hbW := Aside0.mk hbW
  have hways : (e = .normal ∧ decide (0 ≤ leave) = false ∧ (nx != (N : Int)) = false) ∨ (e = .normal ∧ decide (0 ≤ leave) = true ∧ decide (leave < (N : Int)) = false ∧ (nx != (N : Int)) = false) ∨ (e = .exit 2 ∧ decide (0 ≤ leave) = true ∧ decide (leave < (N : Int)) = true ∧ (nx != leave) = false) := by
    rcases hcase with ⟨h1, h2, h3⟩ | ⟨h1, h2, h3, h4⟩
    · by_cases g : 0 ≤ leave
      · exact .inr (.inl ⟨h1, decide_eq_true g, decide_eq_false (by omega), by simp [h3]⟩)
      · exact .inl ⟨h1, decide_eq_false g, by simp [h3]⟩
    · exact .inr (.inr ⟨h1, decide_eq_true h2, decide_eq_true h3, by simp [h4]⟩)
  clear hcase
  rcases hways with ⟨rfl, g1, g2⟩ | ⟨rfl, g1, g2, g3⟩ | ⟨rfl, g1, g2, g3⟩
  all_goals
    gi_wp2_with fail
    rw [roundsIn_succ]
    clear g1 g2
    try clear g3
    gi_wp2
    have hAt2 : At (((W.alloc (.cells #[.int .i64 1] 3)).alloc (.cells #[.int .i64 0] 3)).alloc (.cells #[.bool true] 4)) w.heap.size (w.heap.size + 1) (w.heap.size + 1 + 1) w1.heap.size (w1.heap.size + 1 + 1) W.heap.size (W.heap.size + 1) (w1.heap.size + 1) d leave N 1 := by
      have hx := HX.out
      exact ⟨((c2.out.alloc _).alloc _).alloc _, ((c3.out.alloc _).alloc _).alloc _, ((c5.out.alloc _).alloc _).alloc _, ((c6.out.alloc _).alloc _).alloc _, ((Boxed.new W 3 _).alloc _).alloc _, ((cd.out.alloc _).alloc _).alloc _,
        by have := (Boxed.new (W.alloc (.cells #[.int .i64 1] 3)) 3 (.int .i64 0)).alloc (.cells #[.bool true] 4); simpa using this, by have := Boxed.new ((W.alloc (.cells #[.int .i64 1] 3)).alloc (.cells #[.int .i64 0] 3)) 4 (.bool true); simpa using this,
        by omega, by omega, by omega, by omega, by omega, by omega, by simp⟩
    refine wpIn_mono (outer HD href hAt2 _ _ ?hc) ?_
    case hc => kernel_rfl
    rintro e2 a2 W2 ⟨E, hE, hEs, rfl, ⟨rfl, hM⟩ | ⟨rfl, k', hk', hL⟩⟩
    case inr => exact absurd hL.1.1.2.1 (by decide)
    obtain ⟨⟨-, hnx2, hrt2⟩, hbel⟩ := hM
    rw [good_upto (Nat.le_refl N)] at hrt2
    rw [upto_length (Nat.le_refl N)] at hnx2
    have hx := HX.out
    have up : ∀ {B : Nat} {t : TypeId} {v : Value}, Boxed W B t v → Boxed W2 B t v := fun h => (hbel.block _ (Nat.lt_succ_of_lt h.lt)).trans (((h.alloc _).alloc _).alloc _)
    have d3 := (up c3.out).cell
    have d4 := (up c4.out).cell
    have e4 := (up c4.out).frozen
    have d5 := (up c5.out).cell
    have d7 : Boxed W2 W.heap.size 3 (.int .i64 1) := (hbel.block _ (Nat.lt_succ_self _)).trans (((Boxed.new W 3 _).alloc _).alloc _)
    have dD : W2.heap[D]? = some (.deferred (some [])) := by
      have hl := (Array.getElem?_eq_some_iff.1 hD2.out).1
      refine (hbel.block _ (by omega)).trans ?_
      refine (Below.heap_alloc _ _ _ (by simp; omega)).trans ((Below.heap_alloc _ _ _ (by simp; omega)).trans ((Below.heap_alloc _ _ _ hl).trans hD2.out))
    have hbW2 : Below w.heap.size w W2 := (below_alloc (below_alloc (below_alloc hbW.out _) _) _).trans (hbel.mono (by omega))
    have sW2 : W.heap.size + 3 ≤ W2.heap.size := by have := hbel.size; simpa using this
    clear up hAt2 hbel k2 k3 k5 k6 k7 k8 k9 q2 q6 q7 q6b q6c
    replace c2 := Aside0.mk d7
    have d7c := d7.cell
    have d8 := hnx2.cell
    have d9 := hrt2.cell
    clear d7
    replace hnx2 := Aside0.mk hnx2
    replace hrt2 := Aside0.mk hrt2
    replace dD := Aside0.mk dD
    replace hE := Aside0.mk hE
    replace hbW2 := Aside0.mk hbW2
    have hEl := Aside0.mk hEs
    clear hEs
    gi_wp2_with fail
    rw [roundsIn_succ]
    gi_wp2_with fail
    refine ⟨trivial, (callsIn_wide.2 (hone _)).mono ?_⟩
    rintro e3 W3 ⟨rfl, hb3⟩
    have dr := (hb3.cell (p := ⟨w.heap.size + 1 + 1, 0, none⟩) (by simp; omega)).trans ((World.cell?_alloc_lt W2 _ ⟨w.heap.size + 1 + 1, 0, none⟩ (by show w.heap.size + 1 + 1 < _; omega)).trans d4)
    have fr := (hb3.frozen (p := ⟨w.heap.size + 1 + 1, 0, none⟩) (by simp; omega)).trans ((World.frozen?_alloc_old W2 _ ⟨w.heap.size + 1 + 1, 0, none⟩ (by show w.heap.size + 1 + 1 ≠ _; omega)).trans e4)
    have hl3 := hb3.size
    simp only [World.size_alloc] at hl3
    have q3 : w.heap.size + 1 + 1 < W3.heap.size := by omega
    have hE3 : W3.heap[E]? = some (.deferred (some [])) := by
      have hl := (Array.getElem?_eq_some_iff.1 hE.out).1
      exact (hb3.block _ (by simp; omega)).trans ((Below.heap_alloc _ _ _ hl).trans hE.out)
    have hD3 : W3.heap[D]? = some (.deferred (some [])) := by
      have hl := (Array.getElem?_eq_some_iff.1 dD.out).1
      exact (hb3.block _ (by simp; omega)).trans ((Below.heap_alloc _ _ _ hl).trans dD.out)
    have hbW3 : Below w.heap.size w W3 := (below_alloc hbW2.out _).trans (hb3.mono (by simp; omega))
    replace hb3 := Aside0.mk hb3
    replace hE3 := Aside0.mk hE3
    replace hD3 := Aside0.mk hD3
    replace hbW3 := Aside0.mk hbW3
    clear d3 d4 e4 d5 d7c d8 d9
    gi_wp2
    have hne : D ≠ E := by
      have h1 := (Array.getElem?_eq_some_iff.1 hD2.out).1
      have h2 := hEl.out
      simp at h2
      omega
    have hE4 := ((KeepsOthers.setCell W3 ⟨w.heap.size + 1 + 1, 0, none⟩ (.bool true)).trans (KeepsOthers.alloc _ (.cells #[.string ⟨#[16]⟩, .string t11] 27))).same _ _ hE3.out rfl
    have hD4 := ((KeepsOthers.setCell W3 ⟨w.heap.size + 1 + 1, 0, none⟩ (.bool true)).trans (KeepsOthers.alloc _ (.cells #[.string ⟨#[16]⟩, .string t11] 27))).same _ _ hD3.out rfl
    have hc4 : ((W3.setCell ⟨w.heap.size + 1 + 1, 0, none⟩ (.bool true)).alloc (.cells #[.string ⟨#[16]⟩, .string t11] 27)).cell? ⟨w.heap.size + 1 + 1, 0, none⟩ = some (.bool true) :=
      (World.cell?_alloc_lt _ _ ⟨w.heap.size + 1 + 1, 0, none⟩ (by show w.heap.size + 1 + 1 < _; have := (KeepsWalks.setCell W3 ⟨w.heap.size + 1 + 1, 0, none⟩ (.bool true)).size; omega)).trans (World.cell?_setCell_same' _ _ _ (by rw [dr]; rfl))
    have hb4 : Below w.heap.size w ((W3.setCell ⟨w.heap.size + 1 + 1, 0, none⟩ (.bool true)).alloc (.cells #[.string ⟨#[16]⟩, .string t11] 27)) := below_alloc (hbW3.out.setCell (p := ⟨w.heap.size + 1 + 1, 0, none⟩) (by show w.heap.size ≤ w.heap.size + 1 + 1; omega) _) _
    exact leaves_ok hE4 hD4 hne hc4 hb4 (by have := hEl.out; simp at this; omega) (by have := hDs2.out; simp at this; omega)
end Go.Proofs.YtfimmmbamlejaaaDoor.SpG
