import Derived.Test.YtfimmmbamlejaaaDoorSpD
namespace Go.Proofs.YtfimmmbamlejaaaDoor.SpH
open Go.RowKit Go.Shelf Go.Proofs.YtfimmmbamlejaaaDoorW.PrintWords Go.Proofs.YtfimmmbamlejaaaDoorW.PrintLast Go.Proofs.YtfimmmbamlejaaaDoorW.PrintMore
open Go.Proofs.YtfimmmbamlejaaaDoor.PSpanAll
open Go.Proofs.YtfimmmbamlejaaaDoor.SpA Go.Proofs.YtfimmmbamlejaaaDoor.SpB Go.Proofs.YtfimmmbamlejaaaDoor.SpC Go.Proofs.YtfimmmbamlejaaaDoor.SpD

def row1 (b : Int) : List Int := [b * 16]
def row2 (b : Int) : List Int := [b]
def row3 (b : Int) : List Int := [b * 16 / 256, b * 16 % 256]
/-- the text at which a bucket begins; nothing behind the last -/
def begin_ (row : Int → List Int) (N k : Nat) : Option ByteArray := if N ≤ k then some ⟨#[]⟩ else strings_trimRightByte.f 5 (strOfNums (row k)) 0
def fits (row : Int → List Int) (d : Int) (N k : Nat) : Bool :=
  match begin_ row N k, begin_ row N (k + 1), hawserref06_Of.f 20 d k with
  | some f, some t, some (g, u, e) => f.data.toList == g.data.toList && t.data.toList == u.data.toList && e == 0
  | _, _, _ => false
theorem fits1 : (List.range 16).all (fun i => fits row1 1 16 (0 + i)) = true := by decide +kernel
theorem fits2 : (List.range 256).all (fun i => fits row2 2 256 (0 + i)) = true := by decide +kernel
theorem fits3_0 : (List.range 128).all (fun i => fits row3 3 4096 (0 + i)) = true := by decide +kernel
theorem fits3_1 : (List.range 128).all (fun i => fits row3 3 4096 (128 + i)) = true := by decide +kernel
theorem fits3_2 : (List.range 128).all (fun i => fits row3 3 4096 (256 + i)) = true := by decide +kernel
theorem fits3_3 : (List.range 128).all (fun i => fits row3 3 4096 (384 + i)) = true := by decide +kernel
theorem fits3_4 : (List.range 128).all (fun i => fits row3 3 4096 (512 + i)) = true := by decide +kernel
theorem fits3_5 : (List.range 128).all (fun i => fits row3 3 4096 (640 + i)) = true := by decide +kernel
theorem fits3_6 : (List.range 128).all (fun i => fits row3 3 4096 (768 + i)) = true := by decide +kernel
theorem fits3_7 : (List.range 128).all (fun i => fits row3 3 4096 (896 + i)) = true := by decide +kernel
theorem fits3_8 : (List.range 128).all (fun i => fits row3 3 4096 (1024 + i)) = true := by decide +kernel
theorem fits3_9 : (List.range 128).all (fun i => fits row3 3 4096 (1152 + i)) = true := by decide +kernel
theorem fits3_10 : (List.range 128).all (fun i => fits row3 3 4096 (1280 + i)) = true := by decide +kernel
theorem fits3_11 : (List.range 128).all (fun i => fits row3 3 4096 (1408 + i)) = true := by decide +kernel
theorem fits3_12 : (List.range 128).all (fun i => fits row3 3 4096 (1536 + i)) = true := by decide +kernel
theorem fits3_13 : (List.range 128).all (fun i => fits row3 3 4096 (1664 + i)) = true := by decide +kernel
theorem fits3_14 : (List.range 128).all (fun i => fits row3 3 4096 (1792 + i)) = true := by decide +kernel
theorem fits3_15 : (List.range 128).all (fun i => fits row3 3 4096 (1920 + i)) = true := by decide +kernel
theorem fits3_16 : (List.range 128).all (fun i => fits row3 3 4096 (2048 + i)) = true := by decide +kernel
theorem fits3_17 : (List.range 128).all (fun i => fits row3 3 4096 (2176 + i)) = true := by decide +kernel
theorem fits3_18 : (List.range 128).all (fun i => fits row3 3 4096 (2304 + i)) = true := by decide +kernel
theorem fits3_19 : (List.range 128).all (fun i => fits row3 3 4096 (2432 + i)) = true := by decide +kernel
theorem fits3_20 : (List.range 128).all (fun i => fits row3 3 4096 (2560 + i)) = true := by decide +kernel
theorem fits3_21 : (List.range 128).all (fun i => fits row3 3 4096 (2688 + i)) = true := by decide +kernel
theorem fits3_22 : (List.range 128).all (fun i => fits row3 3 4096 (2816 + i)) = true := by decide +kernel
theorem fits3_23 : (List.range 128).all (fun i => fits row3 3 4096 (2944 + i)) = true := by decide +kernel
theorem fits3_24 : (List.range 128).all (fun i => fits row3 3 4096 (3072 + i)) = true := by decide +kernel
theorem fits3_25 : (List.range 128).all (fun i => fits row3 3 4096 (3200 + i)) = true := by decide +kernel
theorem fits3_26 : (List.range 128).all (fun i => fits row3 3 4096 (3328 + i)) = true := by decide +kernel
theorem fits3_27 : (List.range 128).all (fun i => fits row3 3 4096 (3456 + i)) = true := by decide +kernel
theorem fits3_28 : (List.range 128).all (fun i => fits row3 3 4096 (3584 + i)) = true := by decide +kernel
theorem fits3_29 : (List.range 128).all (fun i => fits row3 3 4096 (3712 + i)) = true := by decide +kernel
theorem fits3_30 : (List.range 128).all (fun i => fits row3 3 4096 (3840 + i)) = true := by decide +kernel
theorem fits3_31 : (List.range 128).all (fun i => fits row3 3 4096 (3968 + i)) = true := by decide +kernel
theorem all_of {a n : Nat} {p : Nat → Bool} (h : (List.range n).all (fun i => p (a + i)) = true) (k : Nat) (h1 : a ≤ k) (h2 : k < a + n) : p k = true := by
  have := List.all_eq_true.1 h (k - a) (List.mem_range.2 (by omega))
  rwa [Nat.add_sub_cancel' h1] at this
theorem fits3 (k : Nat) (h : k < 4096) : fits row3 3 4096 k = true := by
  by_cases h0 : k < 128
  · exact all_of fits3_0 k (by omega) (by omega)
  by_cases h1 : k < 256
  · exact all_of fits3_1 k (by omega) (by omega)
  by_cases h2 : k < 384
  · exact all_of fits3_2 k (by omega) (by omega)
  by_cases h3 : k < 512
  · exact all_of fits3_3 k (by omega) (by omega)
  by_cases h4 : k < 640
  · exact all_of fits3_4 k (by omega) (by omega)
  by_cases h5 : k < 768
  · exact all_of fits3_5 k (by omega) (by omega)
  by_cases h6 : k < 896
  · exact all_of fits3_6 k (by omega) (by omega)
  by_cases h7 : k < 1024
  · exact all_of fits3_7 k (by omega) (by omega)
  by_cases h8 : k < 1152
  · exact all_of fits3_8 k (by omega) (by omega)
  by_cases h9 : k < 1280
  · exact all_of fits3_9 k (by omega) (by omega)
  by_cases h10 : k < 1408
  · exact all_of fits3_10 k (by omega) (by omega)
  by_cases h11 : k < 1536
  · exact all_of fits3_11 k (by omega) (by omega)
  by_cases h12 : k < 1664
  · exact all_of fits3_12 k (by omega) (by omega)
  by_cases h13 : k < 1792
  · exact all_of fits3_13 k (by omega) (by omega)
  by_cases h14 : k < 1920
  · exact all_of fits3_14 k (by omega) (by omega)
  by_cases h15 : k < 2048
  · exact all_of fits3_15 k (by omega) (by omega)
  by_cases h16 : k < 2176
  · exact all_of fits3_16 k (by omega) (by omega)
  by_cases h17 : k < 2304
  · exact all_of fits3_17 k (by omega) (by omega)
  by_cases h18 : k < 2432
  · exact all_of fits3_18 k (by omega) (by omega)
  by_cases h19 : k < 2560
  · exact all_of fits3_19 k (by omega) (by omega)
  by_cases h20 : k < 2688
  · exact all_of fits3_20 k (by omega) (by omega)
  by_cases h21 : k < 2816
  · exact all_of fits3_21 k (by omega) (by omega)
  by_cases h22 : k < 2944
  · exact all_of fits3_22 k (by omega) (by omega)
  by_cases h23 : k < 3072
  · exact all_of fits3_23 k (by omega) (by omega)
  by_cases h24 : k < 3200
  · exact all_of fits3_24 k (by omega) (by omega)
  by_cases h25 : k < 3328
  · exact all_of fits3_25 k (by omega) (by omega)
  by_cases h26 : k < 3456
  · exact all_of fits3_26 k (by omega) (by omega)
  by_cases h27 : k < 3584
  · exact all_of fits3_27 k (by omega) (by omega)
  by_cases h28 : k < 3712
  · exact all_of fits3_28 k (by omega) (by omega)
  by_cases h29 : k < 3840
  · exact all_of fits3_29 k (by omega) (by omega)
  by_cases h30 : k < 3968
  · exact all_of fits3_30 k (by omega) (by omega)
  exact all_of fits3_31 k (by omega) (by omega)
end Go.Proofs.YtfimmmbamlejaaaDoor.SpH
