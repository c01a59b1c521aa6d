import Derived.Test.YtfimmmbamlejaaaDoorSpG
import Derived.Test.YtfimmmbamlejaaaDoorSpH
namespace Go.Proofs.YtfimmmbamlejaaaDoor.SpI
open Go.RowKit Go.Shelf Go.Proofs.YtfimmmbamlejaaaDoorW.PrintWords Go.Proofs.YtfimmmbamlejaaaDoorW.PrintLast Go.Proofs.YtfimmmbamlejaaaDoorW.PrintMore
open Go.Proofs.YtfimmmbamlejaaaDoor.PSpanAll
open Go.Proofs.YtfimmmbamlejaaaDoor.SpA Go.Proofs.YtfimmmbamlejaaaDoor.SpB Go.Proofs.YtfimmmbamlejaaaDoor.SpC Go.Proofs.YtfimmmbamlejaaaDoor.SpD Go.Proofs.YtfimmmbamlejaaaDoor.SpH

theorem eq_of_data {a b : ByteArray} (h : (a.data.toList == b.data.toList) = true) : a = b := by
  have h' : a.data.toList = b.data.toList := by simpa using h
  cases a; cases b
  simp only [ByteArray.mk.injEq]
  exact Array.toList_inj.1 h'
theorem fits_out {row : Int → List Int} {d : Int} {N k : Nat} (h : fits row d N k = true) :
    ∃ f t, begin_ row N k = some f ∧ begin_ row N (k + 1) = some t ∧ hawserref06_Of.f 20 d k = some (f, t, 0) := by
  unfold fits at h
  cases h1 : begin_ row N k with
  | none => simp [h1] at h
  | some f =>
    cases h2 : begin_ row N (k + 1) with
    | none => simp [h1, h2] at h
    | some t =>
      cases h3 : hawserref06_Of.f 20 d k with
      | none => simp [h1, h2, h3] at h
      | some x =>
        obtain ⟨g, u, e⟩ := x
        simp only [h1, h2, h3, Bool.and_eq_true] at h
        obtain ⟨⟨a1, a2⟩, a3⟩ := h
        exact ⟨f, t, rfl, rfl, by rw [eq_of_data a1, eq_of_data a2, show e = 0 by simpa using a3]⟩
theorem depth_of {row : Int → List Int} {d : Int} {N : Nat} (hrow : ∀ b : Int, 0 ≤ b → b < (N : Int) → ∀ r, strings_trimRightByte.f 5 (strOfNums (row b)) 0 = some r → LeastIs d b r) (hc : span_count.f 10 d = some (N : Int)) (hn : N ≤ 4096) (hf : ∀ k, k < N → fits row d N k = true) :
    ∃ F T, Depth d N F T ∧ ∀ x : Nat, x < N → hawserref06_Of.f 20 d (x : Int) = some (F x, T x, 0) := by
  have hb : ∀ k r, begin_ row N k = some r → LeastIs d k r := by
    intro k r h
    unfold begin_ at h
    by_cases hk : N ≤ k
    · rw [if_pos hk] at h
      cases h
      exact fun w => leastN 10 d N k w hc (by omega)
    · rw [if_neg hk] at h
      exact hrow k (by omega) (by omega) r h
  refine ⟨fun k => (begin_ row N k).getD ⟨#[]⟩, fun k => (begin_ row N (k + 1)).getD ⟨#[]⟩, ⟨hc, hn, fun k hk => ?_⟩, fun k hk => ?_⟩
  · obtain ⟨f, t, h1, h2, h3⟩ := fits_out (hf k hk)
    simp only [h1, h2, Option.getD_some]
    exact of_in 10 d N k f t hc (by omega) (by omega) (by omega) (hb _ _ h1) (by have := hb _ _ h2; simpa using this)
  · obtain ⟨f, t, h1, h2, h3⟩ := fits_out (hf k hk)
    simp only [h1, h2, Option.getD_some]
    exact h3
theorem depth1 : ∃ F T, Depth 1 16 F T ∧ ∀ x : Nat, x < 16 → hawserref06_Of.f 20 1 (x : Int) = some (F x, T x, 0) :=
  depth_of (row := row1) (fun b h0 h1 r hr w => least1 b r w h0 h1 hr) count1 (by decide) (fun k hk => all_of fits1 k (by omega) (by omega))
theorem depth2 : ∃ F T, Depth 2 256 F T ∧ ∀ x : Nat, x < 256 → hawserref06_Of.f 20 2 (x : Int) = some (F x, T x, 0) :=
  depth_of (row := row2) (fun b h0 h1 r hr w => least2 b r w h0 h1 hr) count2 (by decide) (fun k hk => all_of fits2 k (by omega) (by omega))
theorem depth3 : ∃ F T, Depth 3 4096 F T ∧ ∀ x : Nat, x < 4096 → hawserref06_Of.f 20 3 (x : Int) = some (F x, T x, 0) :=
  depth_of (row := row3) (fun b h0 h1 r hr w => least3 b r w h0 h1 hr) count3 (by decide) (fun k hk => fits3 k hk)
theorem depth0 (d : Int) (h : d < 1 ∨ 3 < d) : Depth d 0 (fun _ => ⟨#[]⟩) (fun _ => ⟨#[]⟩) := by
  refine ⟨?_, by omega, fun k hk => by omega⟩
  unfold span_count.f
  rcases h with h | h
  · rw [if_pos h]
    simp [span_count.j0]
  · rw [if_neg (by omega), decide_eq_true (show d > 3 from h)]
    simp [span_count.j0]
theorem rc1 : hawserref06_Count.f 10 1 = some 16 := by kernel_rfl
theorem rc2 : hawserref06_Count.f 10 2 = some 256 := by kernel_rfl
theorem rc3 : hawserref06_Count.f 10 3 = some 4096 := by kernel_rfl
theorem refcount (d : Int) (N : Nat) (h : span_count.f 10 d = some (N : Int)) : hawserref06_Count.f 10 d = some (N : Int) := by
  by_cases h1 : d < 1
  · have e : span_count.f 10 d = some 0 := by unfold span_count.f; rw [if_pos h1]; simp [span_count.j0]
    rw [e] at h
    unfold hawserref06_Count.f hawserref06_count.f
    rw [if_pos h1]
    simpa [hawserref06_count.j0] using h
  · by_cases h3 : 3 < d
    · have e : span_count.f 10 d = some 0 := by unfold span_count.f; rw [if_neg h1, decide_eq_true (show d > 3 from h3)]; simp [span_count.j0]
      rw [e] at h
      unfold hawserref06_Count.f hawserref06_count.f
      rw [if_neg h1, decide_eq_true (show d > 3 from h3)]
      simpa [hawserref06_count.j0] using h
    · have : d = 1 ∨ d = 2 ∨ d = 3 := by omega
      rcases this with rfl | rfl | rfl
      · rw [count1] at h; rw [← h]; exact rc1
      · rw [count2] at h; rw [← h]; exact rc2
      · rw [count3] at h; rw [← h]; exact rc3
theorem one : ∃ t, OfIs 1 1 ⟨#[16]⟩ t := by
  obtain ⟨F, T, hD, hR⟩ := depth1
  have h := hR 1 (by omega)
  have e : (hawserref06_Of.f 20 1 1).map (fun x => x.1.data.toList) = some [16] := by kernel_rfl
  rw [show ((1 : Nat) : Int) = 1 from rfl] at h
  rw [h] at e
  have e1 : F 1 = ⟨#[16]⟩ := eq_of_data (by simpa using e)
  exact ⟨T 1, by have := hD.of 1 (by omega); rw [e1] at this; exact this⟩
theorem law_any (d leave : Int) (w : World) : Calls Tryd.prog 3 #[.int .i64 d, .int .i64 leave] w fun e w' => e = .returned (.bool true) ∧ Below w.heap.size w w' := by
  obtain ⟨t, h11⟩ := one
  have main : ∀ N F T, Depth d N F T → (∀ x : Nat, x < N → hawserref06_Of.f 20 d (x : Int) = some (F x, T x, 0)) → Calls Tryd.prog 3 #[.int .i64 d, .int .i64 leave] w fun e w' => e = .returned (.bool true) ∧ Below w.heap.size w w' :=
    fun N F T hD hR => callsIn_wide.1 (SpG.law d leave 10 20 N F T hD (refcount d N hD.count) hR t h11 w)
  by_cases h : d < 1 ∨ 3 < d
  · exact main 0 _ _ (depth0 d h) (fun x hx => by omega)
  · have : d = 1 ∨ d = 2 ∨ d = 3 := by omega
    rcases this with rfl | rfl | rfl
    · obtain ⟨F, T, a, b⟩ := depth1; exact main _ F T a b
    · obtain ⟨F, T, a, b⟩ := depth2; exact main _ F T a b
    · obtain ⟨F, T, a, b⟩ := depth3; exact main _ F T a b
#print axioms law_any
end Go.Proofs.YtfimmmbamlejaaaDoor.SpI
