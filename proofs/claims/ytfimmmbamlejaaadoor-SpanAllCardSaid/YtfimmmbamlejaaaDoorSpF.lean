import Derived.Test.YtfimmmbamlejaaaDoorSpE
namespace Go.Proofs.YtfimmmbamlejaaaDoor.SpF
open Go.RowKit Go.Shelf Go.Proofs.YtfimmmbamlejaaaDoorW.PrintWords Go.Proofs.YtfimmmbamlejaaaDoorW.PrintLast Go.Proofs.YtfimmmbamlejaaaDoorW.PrintMore
open Go.Proofs.YtfimmmbamlejaaaDoor.PSpanAll
open Go.Proofs.YtfimmmbamlejaaaDoor.SpA Go.Proofs.YtfimmmbamlejaaaDoor.SpB Go.Proofs.YtfimmmbamlejaaaDoor.SpC Go.Proofs.YtfimmmbamlejaaaDoor.SpD Go.Proofs.YtfimmmbamlejaaaDoor.SpE
attribute [local go_sem] Oper.semAt_some

def rfOf : Code → Option (Code × Code)
  | .rangeFunc _ _ a b => some (a, b)
  | .seq a b => match rfOf a with | some r => some r | none => rfOf b
  | .cond _ a b => match rfOf a with | some r => some r | none => rfOf b
  | .block _ b => rfOf b
  | .loop b => rfOf b
  | _ => none

/-- the bytes of two strings: a box of two strings -/
def Boxed2 (W : World) (B : Nat) (t : TypeId) (u v : Value) : Prop := W.heap[B]? = some (.cells #[u, v] t (0, 0))

theorem boxed2_kept {X Y : World} {row : Option Nat} {B : Nat} {t : TypeId} {u v : Value} (h : Boxed2 X B t u v) (hg : X.grownBy Y row) (hr : ∀ r, row = some r → ∃ o : Obj, X.heap[r]? = some o ∧ o.isCells = false) : Boxed2 Y B t u v := by
  refine (hg.block B (Array.getElem?_eq_some_iff.1 h).1 (fun e => ?_)).trans h
  obtain ⟨o, ho, hc⟩ := hr B e.symm
  rw [show X.heap[B]? = _ from h] at ho
  cases ho; cases hc
theorem lt_of_cell {W : World} {b i : Nat} {v : Value} (h : W.cell? ⟨b, i, none⟩ = some v) : b < W.heap.size := World.block_lt_of_cell? W ⟨b, i, none⟩ h
theorem old_cell {W W' : World} {b i : Nat} {v : Value} (hb : Below W.heap.size W W') (h : W.cell? ⟨b, i, none⟩ = some v) : W'.cell? ⟨b, i, none⟩ = some v := (hb.cell (p := ⟨b, i, none⟩) (lt_of_cell h)).trans h
theorem old_frozen {W W' : World} {b i : Nat} {v : Bool} (hb : Below W.heap.size W W') (hl : b < W.heap.size) (h : W.frozen? ⟨b, i, none⟩ = v) : W'.frozen? ⟨b, i, none⟩ = v := (hb.frozen (p := ⟨b, i, none⟩) hl).trans h
theorem Boxed2.fst {W : World} {B : Nat} {t : TypeId} {u v : Value} (h : Boxed2 W B t u v) : W.cell? ⟨B, 0, none⟩ = some u := by simp [World.cell?, show W.heap[B]? = _ from h]
theorem Boxed2.snd {W : World} {B : Nat} {t : TypeId} {u v : Value} (h : Boxed2 W B t u v) : W.cell? ⟨B, 1, none⟩ = some v := by simp [World.cell?, show W.heap[B]? = _ from h]
structure At (W0 : World) (B2 B3 B4 B5 B6 B7 B8 Bd : Nat) (d leave : Int) (N : Nat) (ρ : Int) : Prop where
  b2 : Boxed W0 B2 3 (.int .i64 d)
  b3 : Boxed W0 B3 3 (.int .i64 leave)
  b5 : Boxed W0 B5 3 (.int .i64 N)
  b6 : Boxed W0 B6 24 (.func (.func 18) #[] #[.pointer (some ⟨Bd, 0, none⟩)])
  b7 : Boxed W0 B7 3 (.int .i64 ρ)
  bd : Boxed W0 Bd 3 (.int .i64 d)
  b8 : Boxed W0 B8 3 (.int .i64 0)
  b9 : Boxed W0 (B8 + 1) 4 (.bool true)
  l2 : B2 < B8
  l3 : B3 < B8
  l5 : B5 < B8
  l6 : B6 < B8
  l7 : B7 < B8
  ld : Bd < B8
  sz : W0.heap.size = B8 + 2

def good {N : Nat} (pre : List (Fin N)) : Bool := decide (pre.map (·.1) = List.range pre.length)

/-- between two rounds -/
def Mid (W0 : World) (B8 : Nat) (leave ρ : Int) {N : Nat} (pre : List (Fin N)) (W : World) : Prop :=
  ((ρ = 0 → ∀ y ∈ pre, (y.1 : Int) ≠ leave) ∧ Boxed W B8 3 (.int .i64 (pre.length : Int)) ∧ Boxed W (B8 + 1) 4 (.bool (good pre))) ∧ Below B8 W0 W
/-- where a round has left -/
def Left (W0 : World) (B8 : Nat) (leave ρ : Int) {N : Nat} (c : Code) (pre : List (Fin N)) (W : World) : Prop :=
  ((c = .exit 2 ∧ ρ = 0 ∧ ∃ p x, pre = p ++ [x] ∧ (x.1 : Int) = leave ∧ Boxed W B8 3 (.int .i64 (p.length : Int))) ∧ Boxed W (B8 + 1) 4 (.bool (good pre))) ∧ Below B8 W0 W

theorem mid_own (W0 : World) (B8 : Nat) (h : B8 ≤ W0.heap.size) (leave ρ : Int) {N : Nat} : OwnFrom W0.heap.size (Mid W0 B8 leave ρ (N := N)) :=
  OwnFrom.and (OwnFrom.and (ownFrom_pure _ _) (OwnFrom.and (Own.from (boxed_own _ _ _) _) (Own.from (boxed_own _ _ _) _))) (ownFrom_below (by omega) (by omega))
theorem mid_alloc {W0 : World} {B8 : Nat} {leave ρ : Int} {N : Nat} {pre : List (Fin N)} {W : World} (hs : B8 ≤ W0.heap.size) (h : Mid W0 B8 leave ρ pre W) (o : Obj) : Mid W0 B8 leave ρ pre (W.alloc o) :=
  ⟨⟨h.1.1, h.1.2.1.alloc o, h.1.2.2.alloc o⟩, h.2.alloc (Nat.le_trans hs h.2.size) o⟩
theorem left_own (W0 : World) (B8 : Nat) (h : B8 ≤ W0.heap.size) (leave ρ : Int) {N : Nat} (c : Code) : OwnFrom W0.heap.size (Left W0 B8 leave ρ (N := N) c) := by
  refine OwnFrom.and (OwnFrom.and ?_ (Own.from (boxed_own _ _ _) _)) (ownFrom_below (by omega) (by omega))
  rintro s X Y row ⟨e1, e2, p, x, e3, e4, hs⟩ hg hr
  exact ⟨e1, e2, p, x, e3, e4, boxed_own B8 3 (fun (_ : Unit) => Value.int .i64 (p.length : Int)) () X Y row hs hg (fun r e => (hr r e).2)⟩

theorem good_snoc {N : Nat} (pre : List (Fin N)) (x : Fin N) : good (pre ++ [x]) = (good pre && decide (x.1 = pre.length)) := by
  unfold good
  rw [Bool.eq_iff_iff]
  simp only [List.map_append, List.map_cons, List.map_nil, List.length_append, List.length_cons, List.length_nil, Nat.zero_add, List.range_succ, decide_eq_true_eq, Bool.and_eq_true]
  constructor
  · intro h
    have := List.append_inj' h rfl
    exact ⟨this.1, by simpa using this.2⟩
  · rintro ⟨h1, h2⟩
    rw [h1, h2]
theorem fin_keep {W w2 : World} (hb2 : Below W.heap.size W w2) : KeepsOthers W w2 :=
  KeepsOthers.of_grownBy (grown_of_below hb2 none) (fun j o e => by cases e)
theorem fin_no {B8 : Nat} {W0 W w2 : World} {leave ρ : Int} {N : Nat} {pre : List (Fin N)} {x : Fin N} (hsz : W0.heap.size = B8 + 2) (hI : Mid W0 B8 leave ρ pre W) (hgo : ρ = 0 → (x.1 : Int) ≠ leave) (hx : x.1 = pre.length ↔ false = true) (hb2 : Below W.heap.size W w2) (o : Obj) (a : Act) :
    ownPostG W0.heap.size (Below B8) (Mid W0 B8 leave ρ) (Left W0 B8 leave ρ) (pre ++ [x]) W .normal a
      (((w2.setCell ⟨B8 + 1, 0, none⟩ (.bool false)).setCell ⟨B8, 0, none⟩ (.int .i64 ((pre.length : Int) + 1))).alloc o) := by
  have hs := hI.2.size
  have hbB : Below B8 W (((w2.setCell ⟨B8 + 1, 0, none⟩ (.bool false)).setCell ⟨B8, 0, none⟩ (.int .i64 ((pre.length : Int) + 1))).alloc o) :=
    ((((hb2.mono (by omega)).setCell (p := ⟨B8 + 1, 0, none⟩) (by simp) _).setCell (p := ⟨B8, 0, none⟩) (by simp) _).alloc (by have := hb2.size; simp; omega) _)
  have g : good (pre ++ [x]) = false := by rw [good_snoc, decide_eq_false (fun e => by simpa using hx.1 e)]; simp
  refine ⟨(((fin_keep hb2).trans (KeepsOthers.setCell _ _ _)).trans (KeepsOthers.setCell _ _ _)).trans (KeepsOthers.alloc _ _) |>.from _, hbB, ⟨⟨?_, ?_, ?_⟩, hI.2.trans hbB⟩⟩
  · intro e y hy
    rcases List.mem_append.1 hy with hy | hy
    · exact hI.1.1 e y hy
    · obtain rfl : y = x := by simpa using hy
      exact hgo e
  · have e : ((pre ++ [x]).length : Int) = (pre.length : Int) + 1 := by simp
    rw [e]
    exact ((boxed_below hI.1.2.1 hb2).other (by omega) _).set _ |>.alloc _
  · rw [g]
    exact (((boxed_below hI.1.2.2 hb2).set _).other (by omega) _).alloc _
theorem fin_yes {B8 : Nat} {W0 W w2 : World} {leave ρ : Int} {N : Nat} {pre : List (Fin N)} {x : Fin N} (hsz : W0.heap.size = B8 + 2) (hI : Mid W0 B8 leave ρ pre W) (hgo : ρ = 0 → (x.1 : Int) ≠ leave) (hx : x.1 = pre.length ↔ true = true) (hb2 : Below W.heap.size W w2) (o : Obj) (a : Act) :
    ownPostG W0.heap.size (Below B8) (Mid W0 B8 leave ρ) (Left W0 B8 leave ρ) (pre ++ [x]) W .normal a
      ((w2.setCell ⟨B8, 0, none⟩ (.int .i64 ((pre.length : Int) + 1))).alloc o) := by
  have hs := hI.2.size
  have hbB : Below B8 W ((w2.setCell ⟨B8, 0, none⟩ (.int .i64 ((pre.length : Int) + 1))).alloc o) :=
    (((hb2.mono (by omega)).setCell (p := ⟨B8, 0, none⟩) (by simp) _).alloc (by have := hb2.size; simp; omega) _)
  have g : good (pre ++ [x]) = good pre := by rw [good_snoc, decide_eq_true (hx.2 rfl)]; simp
  refine ⟨((fin_keep hb2).trans (KeepsOthers.setCell _ _ _)).trans (KeepsOthers.alloc _ _) |>.from _, hbB, ⟨⟨?_, ?_, ?_⟩, hI.2.trans hbB⟩⟩
  · intro e y hy
    rcases List.mem_append.1 hy with hy | hy
    · exact hI.1.1 e y hy
    · obtain rfl : y = x := by simpa using hy
      exact hgo e
  · have e : ((pre ++ [x]).length : Int) = (pre.length : Int) + 1 := by simp
    rw [e]
    exact ((boxed_below hI.1.2.1 hb2).set _).alloc _
  · rw [g]
    exact ((boxed_below hI.1.2.2 hb2).other (by omega) _).alloc _

theorem start_no {B8 : Nat} {W0 W w2 : World} {leave ρ : Int} {N : Nat} {pre : List (Fin N)} {x : Fin N} (hsz : W0.heap.size = B8 + 2) (hI : Mid W0 B8 leave ρ pre W) (hx : x.1 = pre.length ↔ false = true) (hb2 : Below W.heap.size W w2) (o : Obj) :
    ∃ Wi, (((w2.setCell ⟨B8 + 1, 0, none⟩ (.bool false)).alloc o).alloc (.cells #[.int .i64 0] 3)) = Wi ∧ Wi.heap.size = w2.heap.size + 2 ∧ Boxed Wi (w2.heap.size + 1) 3 (.int .i64 0) ∧ Boxed Wi B8 3 (.int .i64 (pre.length : Int)) ∧ Boxed Wi (B8 + 1) 4 (.bool (good (pre ++ [x]))) ∧ Below B8 W Wi ∧ KeepsFrom W0.heap.size W Wi := by
  have hs := hI.2.size
  have hs2 := hb2.size
  refine ⟨_, rfl, by simp, ?_, ((boxed_below hI.1.2.1 hb2).other (by omega) _).alloc _ |>.alloc _, ?_, ?_, ?_⟩
  · have := Boxed.new ((w2.setCell ⟨B8 + 1, 0, none⟩ (.bool false)).alloc o) 3 (.int .i64 0)
    simpa using this
  · rw [good_snoc, decide_eq_false (fun e => by simpa using hx.1 e), Bool.and_false]
    exact ((boxed_below hI.1.2.2 hb2).set _).alloc _ |>.alloc _
  · exact (((hb2.mono (by omega)).setCell (p := ⟨B8 + 1, 0, none⟩) (by simp) _).alloc (by simp; omega) _).alloc (by simp; omega) _
  · exact ((((fin_keep hb2).trans (KeepsOthers.setCell _ _ _)).trans (KeepsOthers.alloc _ _)).trans (KeepsOthers.alloc _ _)).from _
theorem start_yes {B8 : Nat} {W0 W w2 : World} {leave ρ : Int} {N : Nat} {pre : List (Fin N)} {x : Fin N} (hsz : W0.heap.size = B8 + 2) (hI : Mid W0 B8 leave ρ pre W) (hx : x.1 = pre.length ↔ true = true) (hb2 : Below W.heap.size W w2) (o : Obj) :
    ∃ Wi, ((w2.alloc o).alloc (.cells #[.int .i64 0] 3)) = Wi ∧ Wi.heap.size = w2.heap.size + 2 ∧ Boxed Wi (w2.heap.size + 1) 3 (.int .i64 0) ∧ Boxed Wi B8 3 (.int .i64 (pre.length : Int)) ∧ Boxed Wi (B8 + 1) 4 (.bool (good (pre ++ [x]))) ∧ Below B8 W Wi ∧ KeepsFrom W0.heap.size W Wi := by
  have hs := hI.2.size
  have hs2 := hb2.size
  refine ⟨_, rfl, by simp, ?_, (boxed_below hI.1.2.1 hb2).alloc _ |>.alloc _, ?_, ?_, ?_⟩
  · have := Boxed.new (w2.alloc o) 3 (.int .i64 0)
    simpa using this
  · rw [good_snoc, decide_eq_true (hx.2 rfl), Bool.and_true]
    exact (boxed_below hI.1.2.2 hb2).alloc _ |>.alloc _
  · exact ((hb2.mono (by omega)).alloc (by omega) _).alloc (by simp; omega) _
  · exact (((fin_keep hb2).trans (KeepsOthers.alloc _ _)).trans (KeepsOthers.alloc _ _)).from _
theorem rangeN_skip {F : Fence} {n : Nat} {P : Program} {α : Type} {g : Operand} {ps : Array Tmp} {body : Code} {Q : Exit → Act → World → Prop} {a : Act} {w : World}
    {l₀ : Nat} {r₀ : Loop} (hro : F.round = some l₀) (hl₀ : w.heap[l₀]? = some (.loop r₀)) (h1 : 1 ≤ n) {gf : Nat} {lb : Array Value} (hg : a.eval g = .func (.func gf) #[] lb) (hFg : F.fn gf) (eg : ∀ args w, (callFunc gf args).run P w = .ok (.enter gf args) w)
    {encs : α → Array Value} {Kp : World → World → Prop} {S Sp : List α → Prop} {N : Nat} {w0 : World} (hseq : SeqStopsK F (n - 1) P gf lb encs Kp S Sp N w0)
    (hKt : ∀ {A B C : World}, Kp A B → Kp B C → Kp A C) (hKr : ∀ A, Kp A A) (hKb : ∀ (W : World) (l : Nat) (o o' : Obj), w.heap.size ≤ l → W.heap[l]? = some o → o.isCells = false → o.isWalk = false → Kp W (W.putObj l o')) (hb0 : Below w0.heap.size w0 w) (hps : ∀ x, (encs x).size = ps.size)
    (I : List α → World → Prop) (Ix : Code → List α → World → Prop) (hI : OwnFrom w.heap.size I) (hIx : ∀ c, OwnFrom w.heap.size (Ix c)) (h0 : I [] w)
    (hbody : ∀ (l : Nat) (pre : List α) (x : α) (W : World), w.heap.size ≤ l → (∃ r, W.heap[l]? = some (.loop r)) → I pre W → pre.length < N → body.wpIn (F.inRound l) (n - 1 - 1) P (ownPostG w.heap.size Kp I Ix (pre ++ [x]) W) { tmps := (ps.zip (encs x)).foldl (fun t (p, v) => t.setIfInBounds p v) a.tmps, defers := [] } W)
    (hdone : ∀ (xs : List α) (W : World), S xs → I xs W → Q .normal a W)
    (hstop : ∀ (c : Code) (pre : List α) (W : World), Sp pre → Ix c pre W → c.wpIn F n P Q a W) :
    (Code.rangeFunc g ps .skip body).wpIn F n P Q a w := by
  refine wpIn_rangeFunc_ownN hro hl₀ h1 hg hFg eg hseq hKt hKb hb0 hps I Ix hI hIx h0
    (fun x a' _ => a' = { tmps := (ps.zip (encs x)).foldl (fun t (p, v) => t.setIfInBounds p v) a.tmps, defers := [] }) (fun _ _ _ _ _ _ hs _ _ => hs) ?_ ?_ hdone hstop
  · intro l pre x W K hi hK
    exact wpIn_skip (hK _ _ (KeepsFrom.refl _ _) (hKr _) hi rfl)
  · rintro l pre x a' W hl hr hi rfl hlt
    exact hbody l pre x W hl hr hi hlt

set_option maxRecDepth 100000 in
set_option maxHeartbeats 4000000 in
theorem outer {d leave : Int} {N : Nat} {F T : Nat → ByteArray} (HD : Depth d N F T) {kr : Nat} (href : ∀ x, x < N → hawserref06_Of.f kr d (x : Int) = some (F x, T x, 0)) {W0 : World} {B2 B3 B4 B5 B6 B7 B8 Bd : Nat} {ρ : Int} (h : At W0 B2 B3 B4 B5 B6 B7 B8 Bd d leave N ρ)
    (ac bc : Code) (hc : (Tryd.f3.body.bind rfOf) = some (ac, bc)) {ds : List Deferred} {x0 x1 x10 x11 x12 x13 x14 x15 x16 x17 x18 x19 x20 x21 x22 x23 x24 x25 x26 x27 x29 x30 x31 x32 x33 x34 x35 x36 x37 x38 x39 x40 x41 x42 x43 x44 x45 x46 x47 x48 x49 x50 x51 x52 x53 x54 x55 x56 x57 x58 x59 x60 x61 x62 x63 x64 x65 x66 x67 x68 x69 x70 x71 x72 x73 x74 x75 x76 x77 x78 x79 x80 x81 x82 x83 x84 x85 x86 x87 x88 x89 x90 x91 x92 x93 x94 x95 x96 x97 x98 x99 x100 x101 x102 x103 x104 x105 x106 x107 x108 x109 x110 x111 x112 x113 x114 x115 x116 x117 x118 x119 : Value} :
    (Code.rangeFunc (.tmp 28) #[29, 30] ac bc).wpIn Fence.wide 9 Tryd.prog
      (fun e a' W => ∃ D, W.heap[D]? = some (.deferred (some [])) ∧ W0.heap.size ≤ D ∧ a' = { tmps := #[x0, x1, .pointer (some ⟨B2, 0, none⟩), .pointer (some ⟨B3, 0, none⟩), .pointer (some ⟨B4, 0, none⟩), .pointer (some ⟨B5, 0, none⟩), .pointer (some ⟨B6, 0, none⟩), .pointer (some ⟨B7, 0, none⟩), .pointer (some ⟨B8, 0, none⟩), .pointer (some ⟨(B8 + 1), 0, none⟩), x10, x11, x12, x13, x14, x15, x16, x17, x18, x19, x20, x21, x22, x23, x24, x25, x26, x27, .func (.func 18) #[] #[.pointer (some ⟨Bd, 0, none⟩)], x29, x30, x31, x32, x33, x34, x35, x36, x37, x38, x39, x40, x41, x42, x43, x44, x45, x46, x47, x48, x49, x50, x51, x52, x53, x54, x55, x56, x57, x58, x59, x60, x61, x62, x63, x64, x65, x66, x67, x68, x69, x70, x71, x72, x73, x74, x75, x76, x77, x78, x79, x80, x81, x82, x83, x84, x85, x86, x87, x88, x89, x90, x91, x92, x93, x94, x95, x96, x97, x98, x99, x100, x101, x102, x103, x104, x105, x106, x107, x108, x109, x110, x111, x112, x113, x114, x115, x116, x117, x118, x119], defers := { target := .collected D, args := #[] } :: ds } ∧
        ((e = .normal ∧ Mid W0 B8 leave ρ (upto N N) W) ∨ (e = .exit 2 ∧ ∃ k, k ≤ N ∧ Left W0 B8 leave ρ (.exit 2) (upto N k) W)))
      { tmps := #[x0, x1, .pointer (some ⟨B2, 0, none⟩), .pointer (some ⟨B3, 0, none⟩), .pointer (some ⟨B4, 0, none⟩), .pointer (some ⟨B5, 0, none⟩), .pointer (some ⟨B6, 0, none⟩), .pointer (some ⟨B7, 0, none⟩), .pointer (some ⟨B8, 0, none⟩), .pointer (some ⟨(B8 + 1), 0, none⟩), x10, x11, x12, x13, x14, x15, x16, x17, x18, x19, x20, x21, x22, x23, x24, x25, x26, x27, .func (.func 18) #[] #[.pointer (some ⟨Bd, 0, none⟩)], x29, x30, x31, x32, x33, x34, x35, x36, x37, x38, x39, x40, x41, x42, x43, x44, x45, x46, x47, x48, x49, x50, x51, x52, x53, x54, x55, x56, x57, x58, x59, x60, x61, x62, x63, x64, x65, x66, x67, x68, x69, x70, x71, x72, x73, x74, x75, x76, x77, x78, x79, x80, x81, x82, x83, x84, x85, x86, x87, x88, x89, x90, x91, x92, x93, x94, x95, x96, x97, x98, x99, x100, x101, x102, x103, x104, x105, x106, x107, x108, x109, x110, x111, x112, x113, x114, x115, x116, x117, x118, x119], defers := ds } W0 := by
  have hsz := h.sz
  simp only [Tryd.f3, rfOf, Option.bind_some, Option.some.injEq, Prod.mk.injEq] at hc
  obtain ⟨rfl, rfl⟩ := hc
  refine wpIn_rangeFunc_ownH rfl (by omega) (gf := 18) (lb := #[.pointer (some ⟨Bd, 0, none⟩)]) rfl trivial (enters_of Tryd.func18 (by kernel_rfl) rfl)
    (all_stops HD 8 (by omega) Bd B8 W0 h.ld (by omega) h.bd.cell) belowK_t (belowK_b (by omega)) (Below.refl _ _) (fun _ => rfl)
    (Mid W0 B8 leave ρ) (Left W0 B8 leave ρ) (mid_own W0 B8 (by omega) leave ρ) (left_own W0 B8 (by omega) leave ρ)
    ⟨⟨(fun _ y hy => by cases hy), h.b8, h.b9⟩, Below.refl _ _⟩
    (fun x a' W => ∃ Bx, B8 + 1 < Bx ∧ Boxed2 W Bx 27 (.string (F x.1)) (.string (T x.1)) ∧ a' = { tmps := #[x0, x1, .pointer (some ⟨B2, 0, none⟩), .pointer (some ⟨B3, 0, none⟩), .pointer (some ⟨B4, 0, none⟩), .pointer (some ⟨B5, 0, none⟩), .pointer (some ⟨B6, 0, none⟩), .pointer (some ⟨B7, 0, none⟩), .pointer (some ⟨B8, 0, none⟩), .pointer (some ⟨(B8 + 1), 0, none⟩), .int .i64 (x.1 : Int), .pointer (some ⟨Bx, 0, none⟩), x12, x13, x14, x15, x16, x17, x18, x19, x20, x21, x22, x23, x24, x25, x26, x27, .func (.func 18) #[] #[.pointer (some ⟨Bd, 0, none⟩)], .int .i64 (x.1 : Int), .agg #[.string (F x.1), .string (T x.1)], x31, x32, x33, x34, x35, x36, x37, x38, x39, x40, x41, x42, x43, x44, x45, x46, x47, x48, x49, x50, x51, x52, x53, x54, x55, x56, x57, x58, x59, x60, x61, x62, x63, x64, x65, x66, x67, x68, x69, x70, x71, x72, x73, x74, x75, x76, x77, x78, x79, x80, x81, x82, x83, x84, x85, x86, x87, x88, x89, x90, x91, x92, x93, x94, x95, x96, x97, x98, x99, x100, x101, x102, x103, x104, x105, x106, x107, x108, x109, x110, x111, x112, x113, x114, x115, x116, x117, x118, x119], defers := [] })
    (fun x a' _ X Y row hs hg hr => by obtain ⟨Bx, e1, e2, e3⟩ := hs; exact ⟨Bx, e1, boxed2_kept e2 hg (fun r e => (hr r e).2), e3⟩)
    ?assign ?body ?done ?stop
  case assign =>
    rintro l pre x W K hI hK
    simp only [SpD.encs]
    gi_wp2
    refine hK _ _ ((KeepsOthers.alloc _ _).from _) ((Below.refl _ W).alloc (by have := hI.2.size; omega) _) (mid_alloc (by omega) hI _) ⟨W.heap.size, by have := hI.2.size; omega, World.alloc_heap_new W _, rfl⟩
  case body =>
    rintro l pre x a' W hl ⟨r, hr⟩ hI ⟨Bx, hBx, bX, rfl⟩ hlt
    have hb := hI.2
    have k2 := (hb.cell (p := ⟨B2, 0, none⟩) h.l2).trans h.b2.cell
    have k3 := (hb.cell (p := ⟨B3, 0, none⟩) h.l3).trans h.b3.cell
    have k5 := (hb.cell (p := ⟨B5, 0, none⟩) h.l5).trans h.b5.cell
    have k6 := (hb.cell (p := ⟨B6, 0, none⟩) h.l6).trans h.b6.cell
    have kd := (hb.cell (p := ⟨Bd, 0, none⟩) h.ld).trans h.bd.cell
    have k7 := (hb.cell (p := ⟨B7, 0, none⟩) h.l7).trans h.b7.cell
    have k8 := hI.1.2.1.cell
    have k9 := hI.1.2.2.cell
    have f8 := hI.1.2.1.frozen
    have f9 := hI.1.2.2.frozen
    have hx := Aside0.mk (href x.1 x.2)
    have q2 := lt_of_cell k2
    have q3 := lt_of_cell k3
    have q5 := lt_of_cell k5
    have q6 := lt_of_cell k6
    have qd := lt_of_cell kd
    have q7 := lt_of_cell k7
    have q8 := lt_of_cell k8
    have q9 := lt_of_cell k9
    have kx := bX.fst
    have ky := bX.snd
    have qx := lt_of_cell kx
    have hgt : decide ((N : Int) < (pre.length : Int) + 1) = false := by simp; omega
    have hlen : (pre.length : Int) ≤ 5000 := by have := HD.small; omega
    have hlen0 : (0 : Int) ≤ (pre.length : Int) := by omega
    have hrx := Aside0.mk (show x.1 = pre.length ↔ ((x.1 : Int) = (pre.length : Int)) by omega)
    replace hI := Aside0.mk hI
    replace hb := Aside0.mk hb
    have n3 : B3 ≠ B8 + 1 := by have := h.l3; omega
    have n5 : B5 ≠ B8 + 1 := by have := h.l5; omega
    have n6 : B6 ≠ B8 + 1 := by have := h.l6; omega
    have nd : Bd ≠ B8 + 1 := by have := h.ld; omega
    have n7 : B7 ≠ B8 + 1 := by have := h.l7; omega
    have m5 : B5 ≠ B8 := by have := h.l5; omega
    replace h := Aside0.mk h
    replace bX := Aside0.mk bX
    obtain ⟨bx, hbx1, hbx2, hbx3⟩ : ∃ bx, ((x.1 : Int) == (pre.length : Int)) = bx ∧ ((x.1 : Int) != (pre.length : Int)) = !bx ∧ Aside0 ((x.1 = pre.length) ↔ bx = true) := ⟨_, rfl, rfl, ⟨by rw [hrx.out]; simp⟩⟩
    clear hrx
    obtain ⟨br, hbr1, hbr2⟩ : ∃ br, (ρ == 0) = br ∧ Aside0 (ρ = 0 ↔ br = true) := ⟨_, rfl, ⟨by simp⟩⟩
    obtain ⟨bl, hbl1, hbl2⟩ : ∃ bl, ((x.1 : Int) == leave) = bl ∧ Aside0 ((x.1 : Int) = leave ↔ bl = true) := ⟨_, rfl, ⟨by simp⟩⟩
    by_cases hgo : br = true ∧ bl = true
    · obtain ⟨rfl, rfl⟩ := hgo
      cases bx
      all_goals
        simp only [Bool.not_true, Bool.not_false] at hbx2
        gi_wp2_with (refine ⟨trivial, ?_⟩; gi_at_call 7; refine (CallsIn.inRound l (callsIn_wide.2 (hawserref06_Of.calls kr d x.1 _ _ _ _ hx.out))).mono ?_; rintro e w2 ⟨rfl, hb2⟩; replace hb2 := Aside0.mk hb2; replace k2 := old_cell hb2.out k2; replace k3 := old_cell hb2.out k3; replace k5 := old_cell hb2.out k5; replace k6 := old_cell hb2.out k6; replace kd := old_cell hb2.out kd; replace k7 := old_cell hb2.out k7; replace k8 := old_cell hb2.out k8; replace k9 := old_cell hb2.out k9; replace kx := old_cell hb2.out kx; replace ky := old_cell hb2.out ky; replace f8 := old_frozen hb2.out q8 f8; replace f9 := old_frozen hb2.out q9 f9; replace q2 := lt_of_cell k2; replace q3 := lt_of_cell k3; replace q5 := lt_of_cell k5; replace q6 := lt_of_cell k6; replace qd := lt_of_cell kd; replace q7 := lt_of_cell k7; replace q8 := lt_of_cell k8; replace q9 := lt_of_cell k9; replace qx := lt_of_cell kx)
        first
          | (obtain ⟨Wi, hWi, si, bi, b8, b9, hBi, hKi⟩ := start_no hsz hI.out (by first | exact hbx3.out | simpa using hbx3.out) hb2.out (.cells #[.string (F x.1), .string (T x.1)] 28); rw [hWi])
          | (obtain ⟨Wi, hWi, si, bi, b8, b9, hBi, hKi⟩ := start_yes hsz hI.out (by first | exact hbx3.out | simpa using hbx3.out) hb2.out (.cells #[.string (F x.1), .string (T x.1)] 28); rw [hWi])
        clear hWi
        have ci5 := (hBi.cell (p := ⟨B5, 0, none⟩) h.out.l5).trans ((hb.out.cell (p := ⟨B5, 0, none⟩) h.out.l5).trans h.out.b5.cell)
        have cid := (hBi.cell (p := ⟨Bd, 0, none⟩) h.out.ld).trans ((hb.out.cell (p := ⟨Bd, 0, none⟩) h.out.ld).trans h.out.bd.cell)
        have hb8 : B8 + 1 < w2.heap.size := q9
        refine rangeN_skip (F := Fence.wide.inRound l) (l₀ := l) (r₀ := r) rfl (hKi.same _ _ hl hr rfl) (by omega) (gf := 18) (lb := #[.pointer (some ⟨Bd, 0, none⟩)]) rfl trivial (enters_of Tryd.func18 (by kernel_rfl) rfl)
          ((all_stops HD 6 (by omega) Bd (w2.heap.size + 1) Wi (by omega) (by omega) cid).inRound l) belowK_t (fun _ => Below.refl _ _) (belowK_b (by omega)) (Below.refl _ _) (fun _ => rfl)
          (fun pre' W' => Boxed W' (w2.heap.size + 1) 3 (.int .i64 (pre'.length : Int)) ∧ (Below (w2.heap.size + 1) Wi W' ∧ KeepsFrom W0.heap.size Wi W'))
          (fun _ _ _ => False)
          (OwnFrom.and (Own.from (boxed_own _ _ _) _) (OwnFrom.and (ownFrom_below (by omega) (by omega)) (ownFrom_keepsFrom (by omega))))
          (fun _ _ _ _ _ hs _ _ => hs)
          ⟨bi, Below.refl _ _, KeepsFrom.refl _ _⟩ ?_ ?_ ?_
        · rintro l2 pre' y W' _ _ ⟨bi2, hB2, hK2⟩ hl2
          have ci := bi2.cell
          have fi := bi2.frozen
          have hl3 : (pre'.length : Int) ≤ 5000 := by have := HD.small; omega
          have hl4 : (0 : Int) ≤ (pre'.length : Int) := by omega
          simp only [SpD.encs]
          gi_wp2
          have e' : ((pre' ++ [y]).length : Int) = (pre'.length : Int) + 1 := by simp
          exact ⟨(KeepsOthers.setCell _ _ _).from _, (Below.refl _ W').setCell (p := ⟨w2.heap.size + 1, 0, none⟩) (by simp) _, by rw [e']; exact bi2.set _, hB2.setCell (p := ⟨w2.heap.size + 1, 0, none⟩) (by simp) _, hK2.trans ((KeepsOthers.setCell _ _ _).from _)⟩
        · rintro xs W' rfl ⟨bi2, hB2, hK2⟩
          rw [upto_length (Nat.le_refl N)] at bi2
          have ci := bi2.cell
          have cj := (hB2.cell (p := ⟨B5, 0, none⟩) (by simp; omega)).trans ci5
          gi_wp2
          have hbe : Below B8 W W' := hBi.trans (hB2.mono (by omega))
          exact ⟨hKi.trans hK2, ⟨⟨rfl, hbr2.out.2 (by trivial), pre, x, rfl, hbl2.out.2 (by trivial), (hB2.block B8 (by omega)).trans b8⟩, (hB2.block (B8 + 1) (by omega)).trans b9⟩, hI.out.2.trans hbe⟩
        · rintro c pre' W' _ h
          exact h.elim
    · have hgo' := Aside0.mk (show (ρ = 0 → (x.1 : Int) ≠ leave) by intro e1 e2; exact hgo ⟨hbr2.out.1 e1, hbl2.out.1 e2⟩)
      have hpick : br = false ∨ (br = true ∧ bl = false) := by cases br <;> cases bl <;> simp_all
      clear hgo
      rcases hpick with rfl | ⟨rfl, rfl⟩ <;> cases bx
      all_goals
        simp only [Bool.not_true, Bool.not_false] at hbx2
        gi_wp2_with (refine ⟨trivial, ?_⟩; gi_at_call 7; refine (CallsIn.inRound l (callsIn_wide.2 (hawserref06_Of.calls kr d x.1 _ _ _ _ hx.out))).mono ?_; rintro e w2 ⟨rfl, hb2⟩; replace hb2 := Aside0.mk hb2; replace k2 := old_cell hb2.out k2; replace k3 := old_cell hb2.out k3; replace k5 := old_cell hb2.out k5; replace k6 := old_cell hb2.out k6; replace kd := old_cell hb2.out kd; replace k7 := old_cell hb2.out k7; replace k8 := old_cell hb2.out k8; replace k9 := old_cell hb2.out k9; replace kx := old_cell hb2.out kx; replace ky := old_cell hb2.out ky; replace f8 := old_frozen hb2.out q8 f8; replace f9 := old_frozen hb2.out q9 f9; replace q2 := lt_of_cell k2; replace q3 := lt_of_cell k3; replace q5 := lt_of_cell k5; replace q6 := lt_of_cell k6; replace qd := lt_of_cell kd; replace q7 := lt_of_cell k7; replace q8 := lt_of_cell k8; replace q9 := lt_of_cell k9; replace qx := lt_of_cell kx)
        first
          | exact fin_no hsz hI.out hgo'.out (by first | exact hbx3.out | simpa using hbx3.out) hb2.out _ _
          | exact fin_yes hsz hI.out hgo'.out (by first | exact hbx3.out | simpa using hbx3.out) hb2.out _ _
  case done =>
    rintro D zs W hD rfl hI hK
    exact ⟨D, hK, by omega, rfl, .inl ⟨rfl, hI⟩⟩
  case stop =>
    rintro D c pre W hD ⟨k, hk, rfl⟩ hI hK
    obtain rfl : c = .exit 2 := hI.1.1.1
    gi_wp2
    exact ⟨D, hK, by omega, rfl, ⟨k, hk, hI⟩⟩
end Go.Proofs.YtfimmmbamlejaaaDoor.SpF

