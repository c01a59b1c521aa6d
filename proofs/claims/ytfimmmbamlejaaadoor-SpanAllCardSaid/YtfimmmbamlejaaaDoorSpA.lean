import Derived.Test.YtfimmmbamlejaaaDoorPSpanAllx2
import Derived.Outline
namespace Go.Proofs.YtfimmmbamlejaaaDoor.SpA
open Go.RowKit Go.Proofs.YtfimmmbamlejaaaDoorW.PrintWords Go.Proofs.YtfimmmbamlejaaaDoorW.PrintLast Go.Proofs.YtfimmmbamlejaaaDoorW.PrintMore
open Go.Proofs.YtfimmmbamlejaaaDoor.PSpanAll
set_option maxRecDepth 100000 in
set_option maxHeartbeats 400000 in
theorem trim_some (k : Nat) (s : ByteArray) (r : ByteArray) (w : World) (h : strings_trimRightByte.f k s 0 = some r) (hs : s.toList ≠ []) :
    Calls Tryd.prog 32 #[.string s, .string ⟨#[0]⟩] w fun e w' => e = .returned (.string r) ∧ Drawn0 w w' := by
  have H := Aside0.mk h
  clear h
  have h1 : (s.toList == ([] : List UInt8)) = false := beq_eq_false_iff_ne.mpr hs
  clear hs
  go_enter Tryd.func32, Tryd.ntmps32
  go_wp2_with ((with_reducible go_at_call 45); (refine (strings_trimRightByte.calls k s 0 r _ H.out).mono ?_); rintro e w' ⟨rfl, ⟨nd, rfl⟩⟩)
  go_ret
  exact ⟨rfl, ⟨nd, rfl⟩⟩
set_option maxRecDepth 100000 in
set_option maxHeartbeats 400000 in
theorem trim_none (s : ByteArray) (w : World) (hs : s.toList = []) :
    Calls Tryd.prog 32 #[.string s, .string ⟨#[0]⟩] w fun e w' => e = .returned (.string s) ∧ Drawn0 w w' := by
  have h1 : (s.toList == ([] : List UInt8)) = true := beq_iff_eq.mpr hs
  clear hs
  go_enter Tryd.func32, Tryd.ntmps32
  go_wp2
  go_ret
  exact ⟨rfl, ⟨0, rfl⟩⟩
end Go.Proofs.YtfimmmbamlejaaaDoor.SpA
