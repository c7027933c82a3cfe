/- Sizes by hints: the contract of the program's Normal. -/
import Derived.Test.YtajpnmiblepmkaaSzN
import Derived.StillTailTactics

namespace Go.Proofs.Ytajpnmiblepmkaa.Sz
open Go.RowKit Go.Proofs.YtajpnmiblepmkaaW.PrintMore Go.Proofs.YtajpnmiblepmkaaW.PrintWords Go.Proofs.YtajpnmiblepmkaaW.PrintLast Go.Proofs.Ytajpnmiblepmkaa.Geo
set_option linter.unusedVariables false
set_option linter.unusedSimpArgs false

def fineP (n : Int) : Prop := 1 ≤ n ∧ n ≤ 65535
def okN (k : Nat) (h : Hn) : Prop := match k with
  | 0 => True
  | 1 => True ∧ fineP h.lowX
  | 2 => (True ∧ fineP h.lowX) ∧ fineP h.lowY
  | 3 => ((True ∧ fineP h.lowX) ∧ fineP h.lowY) ∧ fineP h.highX
  | _ => (((True ∧ fineP h.lowX) ∧ fineP h.lowY) ∧ fineP h.highX) ∧ fineP h.highY
theorem ok_step0 {h : Hn} : okN 1 h ↔ okN 0 h ∧ fineP h.lowX := Iff.rfl
theorem ok_step1 {h : Hn} : okN 2 h ↔ okN 1 h ∧ fineP h.lowY := Iff.rfl
theorem ok_step2 {h : Hn} : okN 3 h ↔ okN 2 h ∧ fineP h.highX := Iff.rfl
theorem ok_step3 {h : Hn} : okN 4 h ↔ okN 3 h ∧ fineP h.highY := Iff.rfl
theorem asp_ok {h : Hn} : Asp1 h ↔ okN 4 h ∧ h.lowX * h.highY ≤ h.highX * h.lowY :=
  ⟨fun ⟨a, b, c, d, e⟩ => ⟨⟨⟨⟨⟨trivial, a⟩, b⟩, c⟩, d⟩, e⟩, fun ⟨⟨⟨⟨⟨_, a⟩, b⟩, c⟩, d⟩, e⟩ => ⟨a, b, c, d, e⟩⟩
theorem region_tail {P : Program} {id : Nat} {Q : Exit → Act → World → Prop} {a : Act} {w : World} {l : List Oper} (n : Nat) (hm : P.follows .mixedOrders = true) (hB : Region.lexTailB .any l.toArray n = true)
    (h : wpStill P l.toArray w.drew (fun a' => wpList P l.toArray Q (l.drop n) a' w.drew) (l.take n) a) : (Code.region id l.toArray true).wp P Q a w := wp_region_still_tail n hm hB h
set_option maxHeartbeats 16000000 in
set_option maxRecDepth 100000 in
theorem c_normal (h : Hn) (W : World) : Calls Try.prog 55 #[.agg #[.int .i64 h.minW, .int .i64 h.minH, .int .i64 h.maxW, .int .i64 h.maxH, .int .i64 h.baseW, .int .i64 h.baseH, .int .i64 h.incW, .int .i64 h.incH, .int .i64 h.lowX, .int .i64 h.lowY, .int .i64 h.highX, .int .i64 h.highY]] W fun e w' => e = .returned (.agg #[.int .i64 (normal h).minW, .int .i64 (normal h).minH, .int .i64 (normal h).maxW, .int .i64 (normal h).maxH, .int .i64 (normal h).baseW, .int .i64 (normal h).baseH, .int .i64 (normal h).incW, .int .i64 (normal h).incH, .int .i64 (normal h).lowX, .int .i64 (normal h).lowY, .int .i64 (normal h).highX, .int .i64 (normal h).highY]) ∧ Below W.heap.size W w' := by
  obtain ⟨S, hS⟩ : ∃ S, S = span0 h := ⟨_, rfl⟩
  obtain ⟨R, hR⟩ : ∃ r, r = normal h := ⟨_, rfl⟩
  have HR := Aside0.mk (show R = norm2 S by rw [hR, hS]; rfl)
  rw [← hR]
  clear hR
  have k0 := fun w => c_gspan h.minW 1 65535 w
  have k1 := fun w => c_gspan h.minH 1 65535 w
  have k2 := fun w => c_gspan h.incW 1 65535 w
  have k3 := fun w => c_gspan h.incH 1 65535 w
  have k4 := fun w => c_gspan h.baseW 0 65535 w
  have k5 := fun w => c_gspan h.baseH 0 65535 w
  have k6 := fun w => c_bound h.maxW S.minW w
  have k7 := fun w => c_bound h.maxH S.minH w
  rw [show spanI h.minW 1 65535 = S.minW by rw [hS]; rfl] at k0
  rw [show spanI h.minH 1 65535 = S.minH by rw [hS]; rfl] at k1
  rw [show spanI h.incW 1 65535 = S.incW by rw [hS]; rfl] at k2
  rw [show spanI h.incH 1 65535 = S.incH by rw [hS]; rfl] at k3
  rw [show spanI h.baseW 0 65535 = S.baseW by rw [hS]; rfl] at k4
  rw [show spanI h.baseH 0 65535 = S.baseH by rw [hS]; rfl] at k5
  rw [show boundI h.maxW S.minW = S.maxW by rw [hS]; rfl] at k6
  rw [show boundI h.maxH S.minH = S.maxH by rw [hS]; rfl] at k7
  replace k0 := Aside0.mk k0; replace k1 := Aside0.mk k1; replace k2 := Aside0.mk k2; replace k3 := Aside0.mk k3; replace k4 := Aside0.mk k4; replace k5 := Aside0.mk k5; replace k6 := Aside0.mk k6; replace k7 := Aside0.mk k7
  have L8 := Aside0.mk (show S.lowX = h.lowX by rw [hS]; rfl)
  have L9 := Aside0.mk (show S.lowY = h.lowY by rw [hS]; rfl)
  have L10 := Aside0.mk (show S.highX = h.highX by rw [hS]; rfl)
  have L11 := Aside0.mk (show S.highY = h.highY by rw [hS]; rfl)
  have HS := Aside0.mk hS
  clear hS
  go_enter Try.func55, Try.ntmps55
  go_wp2_with fail
  go_loopg [22] (4 : Nat) (fun gk v22 wr => (v22 = .int .i64 0 ∧ gk = 4 ∧ wr = (((W.alloc (.cells #[.int .i64 h.minW, .int .i64 h.minH, .int .i64 h.maxW, .int .i64 h.maxH, .int .i64 h.baseW, .int .i64 h.baseH, .int .i64 h.incW, .int .i64 h.incH, .int .i64 h.lowX, .int .i64 h.lowY, .int .i64 h.highX, .int .i64 h.highY] 25 (0, 0))).alloc (.cells #[.int .i64 0, .int .i64 0, .int .i64 0, .int .i64 0, .int .i64 0, .int .i64 0, .int .i64 0, .int .i64 0, .int .i64 0, .int .i64 0, .int .i64 0, .int .i64 0] 25 (0, 0))).alloc (.cells #[.pointer (some ⟨W.heap.size, 0, none⟩), .pointer (some ⟨W.heap.size, 1, none⟩), .pointer (some ⟨W.heap.size, 6, none⟩), .pointer (some ⟨W.heap.size, 7, none⟩)] 76))) ∨ (v22 = .int .i64 1 ∧ gk = 3 ∧ wr = (((W.alloc (.cells #[.int .i64 S.minW, .int .i64 h.minH, .int .i64 h.maxW, .int .i64 h.maxH, .int .i64 h.baseW, .int .i64 h.baseH, .int .i64 h.incW, .int .i64 h.incH, .int .i64 h.lowX, .int .i64 h.lowY, .int .i64 h.highX, .int .i64 h.highY] 25 (0, 0))).alloc (.cells #[.int .i64 0, .int .i64 0, .int .i64 0, .int .i64 0, .int .i64 0, .int .i64 0, .int .i64 0, .int .i64 0, .int .i64 0, .int .i64 0, .int .i64 0, .int .i64 0] 25 (0, 0))).alloc (.cells #[.pointer (some ⟨W.heap.size, 0, none⟩), .pointer (some ⟨W.heap.size, 1, none⟩), .pointer (some ⟨W.heap.size, 6, none⟩), .pointer (some ⟨W.heap.size, 7, none⟩)] 76))) ∨ (v22 = .int .i64 2 ∧ gk = 2 ∧ wr = (((W.alloc (.cells #[.int .i64 S.minW, .int .i64 S.minH, .int .i64 h.maxW, .int .i64 h.maxH, .int .i64 h.baseW, .int .i64 h.baseH, .int .i64 h.incW, .int .i64 h.incH, .int .i64 h.lowX, .int .i64 h.lowY, .int .i64 h.highX, .int .i64 h.highY] 25 (0, 0))).alloc (.cells #[.int .i64 0, .int .i64 0, .int .i64 0, .int .i64 0, .int .i64 0, .int .i64 0, .int .i64 0, .int .i64 0, .int .i64 0, .int .i64 0, .int .i64 0, .int .i64 0] 25 (0, 0))).alloc (.cells #[.pointer (some ⟨W.heap.size, 0, none⟩), .pointer (some ⟨W.heap.size, 1, none⟩), .pointer (some ⟨W.heap.size, 6, none⟩), .pointer (some ⟨W.heap.size, 7, none⟩)] 76))) ∨ (v22 = .int .i64 3 ∧ gk = 1 ∧ wr = (((W.alloc (.cells #[.int .i64 S.minW, .int .i64 S.minH, .int .i64 h.maxW, .int .i64 h.maxH, .int .i64 h.baseW, .int .i64 h.baseH, .int .i64 S.incW, .int .i64 h.incH, .int .i64 h.lowX, .int .i64 h.lowY, .int .i64 h.highX, .int .i64 h.highY] 25 (0, 0))).alloc (.cells #[.int .i64 0, .int .i64 0, .int .i64 0, .int .i64 0, .int .i64 0, .int .i64 0, .int .i64 0, .int .i64 0, .int .i64 0, .int .i64 0, .int .i64 0, .int .i64 0] 25 (0, 0))).alloc (.cells #[.pointer (some ⟨W.heap.size, 0, none⟩), .pointer (some ⟨W.heap.size, 1, none⟩), .pointer (some ⟨W.heap.size, 6, none⟩), .pointer (some ⟨W.heap.size, 7, none⟩)] 76))) ∨ (v22 = .int .i64 4 ∧ gk = 0 ∧ wr = (((W.alloc (.cells #[.int .i64 S.minW, .int .i64 S.minH, .int .i64 h.maxW, .int .i64 h.maxH, .int .i64 h.baseW, .int .i64 h.baseH, .int .i64 S.incW, .int .i64 S.incH, .int .i64 h.lowX, .int .i64 h.lowY, .int .i64 h.highX, .int .i64 h.highY] 25 (0, 0))).alloc (.cells #[.int .i64 0, .int .i64 0, .int .i64 0, .int .i64 0, .int .i64 0, .int .i64 0, .int .i64 0, .int .i64 0, .int .i64 0, .int .i64 0, .int .i64 0, .int .i64 0] 25 (0, 0))).alloc (.cells #[.pointer (some ⟨W.heap.size, 0, none⟩), .pointer (some ⟨W.heap.size, 1, none⟩), .pointer (some ⟨W.heap.size, 6, none⟩), .pointer (some ⟨W.heap.size, 7, none⟩)] 76))))
  case atStart => exact Or.inl ⟨rfl, rfl, rfl⟩
  case round =>
    rcases hrel with ⟨rfl, rfl, rfl⟩ | ⟨rfl, rfl, rfl⟩ | ⟨rfl, rfl, rfl⟩ | ⟨rfl, rfl, rfl⟩ | ⟨rfl, rfl, rfl⟩
    · go_wp2_with fail
      refine (k0.out _).mono ?_
      rintro e w1 ⟨rfl, rfl⟩
      go_wp2_with fail
      go_roundg 3
      case measure => omega
      case rel => exact Or.inr (Or.inl ⟨rfl, rfl, rfl⟩)
    · go_wp2_with fail
      refine (k1.out _).mono ?_
      rintro e w1 ⟨rfl, rfl⟩
      go_wp2_with fail
      go_roundg 2
      case measure => omega
      case rel => exact Or.inr (Or.inr (Or.inl ⟨rfl, rfl, rfl⟩))
    · go_wp2_with fail
      refine (k2.out _).mono ?_
      rintro e w1 ⟨rfl, rfl⟩
      go_wp2_with fail
      go_roundg 1
      case measure => omega
      case rel => exact Or.inr (Or.inr (Or.inr (Or.inl ⟨rfl, rfl, rfl⟩)))
    · go_wp2_with fail
      refine (k3.out _).mono ?_
      rintro e w1 ⟨rfl, rfl⟩
      go_wp2_with fail
      go_roundg 0
      case measure => omega
      case rel => exact Or.inr (Or.inr (Or.inr (Or.inr ⟨rfl, rfl, rfl⟩)))
    · clear k0 k1 k2 k3
      go_wp2_with fail
      go_loopg [37] (2 : Nat) (fun gk v37 wr => (v37 = .int .i64 0 ∧ gk = 2 ∧ wr = ((((W.alloc (.cells #[.int .i64 S.minW, .int .i64 S.minH, .int .i64 h.maxW, .int .i64 h.maxH, .int .i64 h.baseW, .int .i64 h.baseH, .int .i64 S.incW, .int .i64 S.incH, .int .i64 h.lowX, .int .i64 h.lowY, .int .i64 h.highX, .int .i64 h.highY] 25 (0, 0))).alloc (.cells #[.int .i64 0, .int .i64 0, .int .i64 0, .int .i64 0, .int .i64 0, .int .i64 0, .int .i64 0, .int .i64 0, .int .i64 0, .int .i64 0, .int .i64 0, .int .i64 0] 25 (0, 0))).alloc (.cells #[.pointer (some ⟨W.heap.size, 0, none⟩), .pointer (some ⟨W.heap.size, 1, none⟩), .pointer (some ⟨W.heap.size, 6, none⟩), .pointer (some ⟨W.heap.size, 7, none⟩)] 76)).alloc (.cells #[.pointer (some ⟨W.heap.size, 4, none⟩), .pointer (some ⟨W.heap.size, 5, none⟩)] 76))) ∨ (v37 = .int .i64 1 ∧ gk = 1 ∧ wr = ((((W.alloc (.cells #[.int .i64 S.minW, .int .i64 S.minH, .int .i64 h.maxW, .int .i64 h.maxH, .int .i64 S.baseW, .int .i64 h.baseH, .int .i64 S.incW, .int .i64 S.incH, .int .i64 h.lowX, .int .i64 h.lowY, .int .i64 h.highX, .int .i64 h.highY] 25 (0, 0))).alloc (.cells #[.int .i64 0, .int .i64 0, .int .i64 0, .int .i64 0, .int .i64 0, .int .i64 0, .int .i64 0, .int .i64 0, .int .i64 0, .int .i64 0, .int .i64 0, .int .i64 0] 25 (0, 0))).alloc (.cells #[.pointer (some ⟨W.heap.size, 0, none⟩), .pointer (some ⟨W.heap.size, 1, none⟩), .pointer (some ⟨W.heap.size, 6, none⟩), .pointer (some ⟨W.heap.size, 7, none⟩)] 76)).alloc (.cells #[.pointer (some ⟨W.heap.size, 4, none⟩), .pointer (some ⟨W.heap.size, 5, none⟩)] 76))) ∨ (v37 = .int .i64 2 ∧ gk = 0 ∧ wr = ((((W.alloc (.cells #[.int .i64 S.minW, .int .i64 S.minH, .int .i64 h.maxW, .int .i64 h.maxH, .int .i64 S.baseW, .int .i64 S.baseH, .int .i64 S.incW, .int .i64 S.incH, .int .i64 h.lowX, .int .i64 h.lowY, .int .i64 h.highX, .int .i64 h.highY] 25 (0, 0))).alloc (.cells #[.int .i64 0, .int .i64 0, .int .i64 0, .int .i64 0, .int .i64 0, .int .i64 0, .int .i64 0, .int .i64 0, .int .i64 0, .int .i64 0, .int .i64 0, .int .i64 0] 25 (0, 0))).alloc (.cells #[.pointer (some ⟨W.heap.size, 0, none⟩), .pointer (some ⟨W.heap.size, 1, none⟩), .pointer (some ⟨W.heap.size, 6, none⟩), .pointer (some ⟨W.heap.size, 7, none⟩)] 76)).alloc (.cells #[.pointer (some ⟨W.heap.size, 4, none⟩), .pointer (some ⟨W.heap.size, 5, none⟩)] 76))))
      case atStart => exact Or.inl ⟨rfl, rfl, rfl⟩
      case round =>
        rcases hrel with ⟨rfl, rfl, rfl⟩ | ⟨rfl, rfl, rfl⟩ | ⟨rfl, rfl, rfl⟩
        · go_wp2_with fail
          refine (k4.out _).mono ?_
          rintro e w1 ⟨rfl, rfl⟩
          go_wp2_with fail
          go_roundg 1
          case measure => omega
          case rel => exact Or.inr (Or.inl ⟨rfl, rfl, rfl⟩)
        · go_wp2_with fail
          refine (k5.out _).mono ?_
          rintro e w1 ⟨rfl, rfl⟩
          go_wp2_with fail
          go_roundg 0
          case measure => omega
          case rel => exact Or.inr (Or.inr ⟨rfl, rfl, rfl⟩)
        · clear k4 k5
          go_upto_region 11 with fail
          go_cut [] (fun wx => wx = ((((W.alloc (.cells #[.int .i64 S.minW, .int .i64 S.minH, .int .i64 S.maxW, .int .i64 S.maxH, .int .i64 S.baseW, .int .i64 S.baseH, .int .i64 S.incW, .int .i64 S.incH, .int .i64 S.lowX, .int .i64 S.lowY, .int .i64 S.highX, .int .i64 S.highY] 25 (0, 0))).alloc (.cells #[.int .i64 0, .int .i64 0, .int .i64 0, .int .i64 0, .int .i64 0, .int .i64 0, .int .i64 0, .int .i64 0, .int .i64 0, .int .i64 0, .int .i64 0, .int .i64 0] 25 (0, 0))).alloc (.cells #[.pointer (some ⟨W.heap.size, 0, none⟩), .pointer (some ⟨W.heap.size, 1, none⟩), .pointer (some ⟨W.heap.size, 6, none⟩), .pointer (some ⟨W.heap.size, 7, none⟩)] 76)).alloc (.cells #[.pointer (some ⟨W.heap.size, 4, none⟩), .pointer (some ⟨W.heap.size, 5, none⟩)] 76)).drew)
          case first =>
            refine region_tail 10 (by kernel_rfl) (by kernel_rfl) ?_
            simp only [List.take_succ_cons, List.take_zero, List.drop_succ_cons, List.drop_zero]
            iterate 4 still_step
            still_call ((k6.out _).mono (fun _ _ hq => ⟨hq.1, hq.2.symm⟩))
            iterate 4 still_step
            still_call ((k7.out _).mono (fun _ _ hq => ⟨hq.1, hq.2.symm⟩))
            refine wpStill_nil ?_
            go_wp2_with fail
            go_meet
            exact by rw [L8.out, L9.out, L10.out, L11.out]
          case rest =>
            obtain rfl := hcut
            clear k6 k7
            go_wp2_with fail
            go_loopg [75] (4 : Nat) (fun gk v75 wr => (v75 = .int .i64 0 ∧ gk = 4 ∧ wr = ((((((W.alloc (.cells #[.int .i64 S.minW, .int .i64 S.minH, .int .i64 S.maxW, .int .i64 S.maxH, .int .i64 S.baseW, .int .i64 S.baseH, .int .i64 S.incW, .int .i64 S.incH, .int .i64 S.lowX, .int .i64 S.lowY, .int .i64 S.highX, .int .i64 S.highY] 25 (0, 0))).alloc (.cells #[.int .i64 0, .int .i64 0, .int .i64 0, .int .i64 0, .int .i64 0, .int .i64 0, .int .i64 0, .int .i64 0, .int .i64 0, .int .i64 0, .int .i64 0, .int .i64 0] 25 (0, 0))).alloc (.cells #[.pointer (some ⟨W.heap.size, 0, none⟩), .pointer (some ⟨W.heap.size, 1, none⟩), .pointer (some ⟨W.heap.size, 6, none⟩), .pointer (some ⟨W.heap.size, 7, none⟩)] 76)).alloc (.cells #[.pointer (some ⟨W.heap.size, 4, none⟩), .pointer (some ⟨W.heap.size, 5, none⟩)] 76)).alloc (.cells #[.int .i64 S.minW, .int .i64 S.minH, .int .i64 S.maxW, .int .i64 S.maxH, .int .i64 S.baseW, .int .i64 S.baseH, .int .i64 S.incW, .int .i64 S.incH, .int .i64 0, .int .i64 0, .int .i64 0, .int .i64 0] 25 (0, 0))).alloc (.cells #[.int .i64 S.lowX, .int .i64 S.lowY, .int .i64 S.highX, .int .i64 S.highY] 3)).drew ∧ Aside0 (okN 0 S)) ∨ (v75 = .int .i64 0 ∧ gk = 4 ∧ wr = ((((((W.alloc (.cells #[.int .i64 S.minW, .int .i64 S.minH, .int .i64 S.maxW, .int .i64 S.maxH, .int .i64 S.baseW, .int .i64 S.baseH, .int .i64 S.incW, .int .i64 S.incH, .int .i64 0, .int .i64 0, .int .i64 0, .int .i64 0] 25 (0, 0))).alloc (.cells #[.int .i64 0, .int .i64 0, .int .i64 0, .int .i64 0, .int .i64 0, .int .i64 0, .int .i64 0, .int .i64 0, .int .i64 0, .int .i64 0, .int .i64 0, .int .i64 0] 25 (0, 0))).alloc (.cells #[.pointer (some ⟨W.heap.size, 0, none⟩), .pointer (some ⟨W.heap.size, 1, none⟩), .pointer (some ⟨W.heap.size, 6, none⟩), .pointer (some ⟨W.heap.size, 7, none⟩)] 76)).alloc (.cells #[.pointer (some ⟨W.heap.size, 4, none⟩), .pointer (some ⟨W.heap.size, 5, none⟩)] 76)).alloc (.cells #[.int .i64 S.minW, .int .i64 S.minH, .int .i64 S.maxW, .int .i64 S.maxH, .int .i64 S.baseW, .int .i64 S.baseH, .int .i64 S.incW, .int .i64 S.incH, .int .i64 0, .int .i64 0, .int .i64 0, .int .i64 0] 25 (0, 0))).alloc (.cells #[.int .i64 S.lowX, .int .i64 S.lowY, .int .i64 S.highX, .int .i64 S.highY] 3)).drew ∧ Aside0 (¬ okN 0 S)) ∨ (v75 = .int .i64 1 ∧ gk = 3 ∧ wr = ((((((W.alloc (.cells #[.int .i64 S.minW, .int .i64 S.minH, .int .i64 S.maxW, .int .i64 S.maxH, .int .i64 S.baseW, .int .i64 S.baseH, .int .i64 S.incW, .int .i64 S.incH, .int .i64 S.lowX, .int .i64 S.lowY, .int .i64 S.highX, .int .i64 S.highY] 25 (0, 0))).alloc (.cells #[.int .i64 0, .int .i64 0, .int .i64 0, .int .i64 0, .int .i64 0, .int .i64 0, .int .i64 0, .int .i64 0, .int .i64 0, .int .i64 0, .int .i64 0, .int .i64 0] 25 (0, 0))).alloc (.cells #[.pointer (some ⟨W.heap.size, 0, none⟩), .pointer (some ⟨W.heap.size, 1, none⟩), .pointer (some ⟨W.heap.size, 6, none⟩), .pointer (some ⟨W.heap.size, 7, none⟩)] 76)).alloc (.cells #[.pointer (some ⟨W.heap.size, 4, none⟩), .pointer (some ⟨W.heap.size, 5, none⟩)] 76)).alloc (.cells #[.int .i64 S.minW, .int .i64 S.minH, .int .i64 S.maxW, .int .i64 S.maxH, .int .i64 S.baseW, .int .i64 S.baseH, .int .i64 S.incW, .int .i64 S.incH, .int .i64 0, .int .i64 0, .int .i64 0, .int .i64 0] 25 (0, 0))).alloc (.cells #[.int .i64 S.lowX, .int .i64 S.lowY, .int .i64 S.highX, .int .i64 S.highY] 3)).drew ∧ Aside0 (okN 1 S)) ∨ (v75 = .int .i64 1 ∧ gk = 3 ∧ wr = ((((((W.alloc (.cells #[.int .i64 S.minW, .int .i64 S.minH, .int .i64 S.maxW, .int .i64 S.maxH, .int .i64 S.baseW, .int .i64 S.baseH, .int .i64 S.incW, .int .i64 S.incH, .int .i64 0, .int .i64 0, .int .i64 0, .int .i64 0] 25 (0, 0))).alloc (.cells #[.int .i64 0, .int .i64 0, .int .i64 0, .int .i64 0, .int .i64 0, .int .i64 0, .int .i64 0, .int .i64 0, .int .i64 0, .int .i64 0, .int .i64 0, .int .i64 0] 25 (0, 0))).alloc (.cells #[.pointer (some ⟨W.heap.size, 0, none⟩), .pointer (some ⟨W.heap.size, 1, none⟩), .pointer (some ⟨W.heap.size, 6, none⟩), .pointer (some ⟨W.heap.size, 7, none⟩)] 76)).alloc (.cells #[.pointer (some ⟨W.heap.size, 4, none⟩), .pointer (some ⟨W.heap.size, 5, none⟩)] 76)).alloc (.cells #[.int .i64 S.minW, .int .i64 S.minH, .int .i64 S.maxW, .int .i64 S.maxH, .int .i64 S.baseW, .int .i64 S.baseH, .int .i64 S.incW, .int .i64 S.incH, .int .i64 0, .int .i64 0, .int .i64 0, .int .i64 0] 25 (0, 0))).alloc (.cells #[.int .i64 S.lowX, .int .i64 S.lowY, .int .i64 S.highX, .int .i64 S.highY] 3)).drew ∧ Aside0 (¬ okN 1 S)) ∨ (v75 = .int .i64 2 ∧ gk = 2 ∧ wr = ((((((W.alloc (.cells #[.int .i64 S.minW, .int .i64 S.minH, .int .i64 S.maxW, .int .i64 S.maxH, .int .i64 S.baseW, .int .i64 S.baseH, .int .i64 S.incW, .int .i64 S.incH, .int .i64 S.lowX, .int .i64 S.lowY, .int .i64 S.highX, .int .i64 S.highY] 25 (0, 0))).alloc (.cells #[.int .i64 0, .int .i64 0, .int .i64 0, .int .i64 0, .int .i64 0, .int .i64 0, .int .i64 0, .int .i64 0, .int .i64 0, .int .i64 0, .int .i64 0, .int .i64 0] 25 (0, 0))).alloc (.cells #[.pointer (some ⟨W.heap.size, 0, none⟩), .pointer (some ⟨W.heap.size, 1, none⟩), .pointer (some ⟨W.heap.size, 6, none⟩), .pointer (some ⟨W.heap.size, 7, none⟩)] 76)).alloc (.cells #[.pointer (some ⟨W.heap.size, 4, none⟩), .pointer (some ⟨W.heap.size, 5, none⟩)] 76)).alloc (.cells #[.int .i64 S.minW, .int .i64 S.minH, .int .i64 S.maxW, .int .i64 S.maxH, .int .i64 S.baseW, .int .i64 S.baseH, .int .i64 S.incW, .int .i64 S.incH, .int .i64 0, .int .i64 0, .int .i64 0, .int .i64 0] 25 (0, 0))).alloc (.cells #[.int .i64 S.lowX, .int .i64 S.lowY, .int .i64 S.highX, .int .i64 S.highY] 3)).drew ∧ Aside0 (okN 2 S)) ∨ (v75 = .int .i64 2 ∧ gk = 2 ∧ wr = ((((((W.alloc (.cells #[.int .i64 S.minW, .int .i64 S.minH, .int .i64 S.maxW, .int .i64 S.maxH, .int .i64 S.baseW, .int .i64 S.baseH, .int .i64 S.incW, .int .i64 S.incH, .int .i64 0, .int .i64 0, .int .i64 0, .int .i64 0] 25 (0, 0))).alloc (.cells #[.int .i64 0, .int .i64 0, .int .i64 0, .int .i64 0, .int .i64 0, .int .i64 0, .int .i64 0, .int .i64 0, .int .i64 0, .int .i64 0, .int .i64 0, .int .i64 0] 25 (0, 0))).alloc (.cells #[.pointer (some ⟨W.heap.size, 0, none⟩), .pointer (some ⟨W.heap.size, 1, none⟩), .pointer (some ⟨W.heap.size, 6, none⟩), .pointer (some ⟨W.heap.size, 7, none⟩)] 76)).alloc (.cells #[.pointer (some ⟨W.heap.size, 4, none⟩), .pointer (some ⟨W.heap.size, 5, none⟩)] 76)).alloc (.cells #[.int .i64 S.minW, .int .i64 S.minH, .int .i64 S.maxW, .int .i64 S.maxH, .int .i64 S.baseW, .int .i64 S.baseH, .int .i64 S.incW, .int .i64 S.incH, .int .i64 0, .int .i64 0, .int .i64 0, .int .i64 0] 25 (0, 0))).alloc (.cells #[.int .i64 S.lowX, .int .i64 S.lowY, .int .i64 S.highX, .int .i64 S.highY] 3)).drew ∧ Aside0 (¬ okN 2 S)) ∨ (v75 = .int .i64 3 ∧ gk = 1 ∧ wr = ((((((W.alloc (.cells #[.int .i64 S.minW, .int .i64 S.minH, .int .i64 S.maxW, .int .i64 S.maxH, .int .i64 S.baseW, .int .i64 S.baseH, .int .i64 S.incW, .int .i64 S.incH, .int .i64 S.lowX, .int .i64 S.lowY, .int .i64 S.highX, .int .i64 S.highY] 25 (0, 0))).alloc (.cells #[.int .i64 0, .int .i64 0, .int .i64 0, .int .i64 0, .int .i64 0, .int .i64 0, .int .i64 0, .int .i64 0, .int .i64 0, .int .i64 0, .int .i64 0, .int .i64 0] 25 (0, 0))).alloc (.cells #[.pointer (some ⟨W.heap.size, 0, none⟩), .pointer (some ⟨W.heap.size, 1, none⟩), .pointer (some ⟨W.heap.size, 6, none⟩), .pointer (some ⟨W.heap.size, 7, none⟩)] 76)).alloc (.cells #[.pointer (some ⟨W.heap.size, 4, none⟩), .pointer (some ⟨W.heap.size, 5, none⟩)] 76)).alloc (.cells #[.int .i64 S.minW, .int .i64 S.minH, .int .i64 S.maxW, .int .i64 S.maxH, .int .i64 S.baseW, .int .i64 S.baseH, .int .i64 S.incW, .int .i64 S.incH, .int .i64 0, .int .i64 0, .int .i64 0, .int .i64 0] 25 (0, 0))).alloc (.cells #[.int .i64 S.lowX, .int .i64 S.lowY, .int .i64 S.highX, .int .i64 S.highY] 3)).drew ∧ Aside0 (okN 3 S)) ∨ (v75 = .int .i64 3 ∧ gk = 1 ∧ wr = ((((((W.alloc (.cells #[.int .i64 S.minW, .int .i64 S.minH, .int .i64 S.maxW, .int .i64 S.maxH, .int .i64 S.baseW, .int .i64 S.baseH, .int .i64 S.incW, .int .i64 S.incH, .int .i64 0, .int .i64 0, .int .i64 0, .int .i64 0] 25 (0, 0))).alloc (.cells #[.int .i64 0, .int .i64 0, .int .i64 0, .int .i64 0, .int .i64 0, .int .i64 0, .int .i64 0, .int .i64 0, .int .i64 0, .int .i64 0, .int .i64 0, .int .i64 0] 25 (0, 0))).alloc (.cells #[.pointer (some ⟨W.heap.size, 0, none⟩), .pointer (some ⟨W.heap.size, 1, none⟩), .pointer (some ⟨W.heap.size, 6, none⟩), .pointer (some ⟨W.heap.size, 7, none⟩)] 76)).alloc (.cells #[.pointer (some ⟨W.heap.size, 4, none⟩), .pointer (some ⟨W.heap.size, 5, none⟩)] 76)).alloc (.cells #[.int .i64 S.minW, .int .i64 S.minH, .int .i64 S.maxW, .int .i64 S.maxH, .int .i64 S.baseW, .int .i64 S.baseH, .int .i64 S.incW, .int .i64 S.incH, .int .i64 0, .int .i64 0, .int .i64 0, .int .i64 0] 25 (0, 0))).alloc (.cells #[.int .i64 S.lowX, .int .i64 S.lowY, .int .i64 S.highX, .int .i64 S.highY] 3)).drew ∧ Aside0 (¬ okN 3 S)) ∨ (v75 = .int .i64 4 ∧ gk = 0 ∧ ∃ N : Hn, wr = ((((((W.alloc (.cells #[.int .i64 N.minW, .int .i64 N.minH, .int .i64 N.maxW, .int .i64 N.maxH, .int .i64 N.baseW, .int .i64 N.baseH, .int .i64 N.incW, .int .i64 N.incH, .int .i64 N.lowX, .int .i64 N.lowY, .int .i64 N.highX, .int .i64 N.highY] 25 (0, 0))).alloc (.cells #[.int .i64 0, .int .i64 0, .int .i64 0, .int .i64 0, .int .i64 0, .int .i64 0, .int .i64 0, .int .i64 0, .int .i64 0, .int .i64 0, .int .i64 0, .int .i64 0] 25 (0, 0))).alloc (.cells #[.pointer (some ⟨W.heap.size, 0, none⟩), .pointer (some ⟨W.heap.size, 1, none⟩), .pointer (some ⟨W.heap.size, 6, none⟩), .pointer (some ⟨W.heap.size, 7, none⟩)] 76)).alloc (.cells #[.pointer (some ⟨W.heap.size, 4, none⟩), .pointer (some ⟨W.heap.size, 5, none⟩)] 76)).alloc (.cells #[.int .i64 S.minW, .int .i64 S.minH, .int .i64 S.maxW, .int .i64 S.maxH, .int .i64 S.baseW, .int .i64 S.baseH, .int .i64 S.incW, .int .i64 S.incH, .int .i64 0, .int .i64 0, .int .i64 0, .int .i64 0] 25 (0, 0))).alloc (.cells #[.int .i64 S.lowX, .int .i64 S.lowY, .int .i64 S.highX, .int .i64 S.highY] 3)).drew ∧ Aside0 (N = S ∧ okN 4 S ∨ N = free0 S ∧ ¬ okN 4 S)))
            case atStart => exact Or.inl ⟨rfl, rfl, rfl, ⟨trivial⟩⟩
            case round =>
              rcases hrel with ⟨rfl, rfl, rfl, HO⟩ | ⟨rfl, rfl, rfl, HO⟩ | ⟨rfl, rfl, rfl, HO⟩ | ⟨rfl, rfl, rfl, HO⟩ | ⟨rfl, rfl, rfl, HO⟩ | ⟨rfl, rfl, rfl, HO⟩ | ⟨rfl, rfl, rfl, HO⟩ | ⟨rfl, rfl, rfl, HO⟩ | ⟨rfl, rfl, N, rfl, HO⟩
              · by_cases c1 : S.lowX < 1
                · skip
                  go_wp2_with fail
                  go_roundg 3
                  case measure => omega
                  case rel => exact Or.inr (Or.inr (Or.inr (Or.inl ⟨rfl, rfl, rfl, ⟨fun q => by have := (ok_step0.1 q).2.1; omega⟩⟩)))
                · by_cases c2 : 65535 < S.lowX
                  · skip
                    go_wp2_with fail
                    go_roundg 3
                    case measure => omega
                    case rel => exact Or.inr (Or.inr (Or.inr (Or.inl ⟨rfl, rfl, rfl, ⟨fun q => by have := (ok_step0.1 q).2.2; omega⟩⟩)))
                  · skip
                    go_wp2_with fail
                    go_roundg 3
                    case measure => omega
                    case rel => exact Or.inr (Or.inr (Or.inl ⟨rfl, rfl, rfl, ⟨ok_step0.2 ⟨HO.out, by omega, by omega⟩⟩⟩))
              · by_cases c1 : S.lowX < 1
                · skip
                  go_wp2_with fail
                  go_roundg 3
                  case measure => omega
                  case rel => exact Or.inr (Or.inr (Or.inr (Or.inl ⟨rfl, rfl, rfl, ⟨fun q => by have := (ok_step0.1 q).2.1; omega⟩⟩)))
                · by_cases c2 : 65535 < S.lowX
                  · skip
                    go_wp2_with fail
                    go_roundg 3
                    case measure => omega
                    case rel => exact Or.inr (Or.inr (Or.inr (Or.inl ⟨rfl, rfl, rfl, ⟨fun q => by have := (ok_step0.1 q).2.2; omega⟩⟩)))
                  · skip
                    go_wp2_with fail
                    go_roundg 3
                    case measure => omega
                    case rel => exact Or.inr (Or.inr (Or.inr (Or.inl ⟨rfl, rfl, rfl, ⟨fun q => HO.out (ok_step0.1 q).1⟩⟩)))
              · by_cases c1 : S.lowY < 1
                · skip
                  go_wp2_with fail
                  go_roundg 2
                  case measure => omega
                  case rel => exact Or.inr (Or.inr (Or.inr (Or.inr (Or.inr (Or.inl ⟨rfl, rfl, rfl, ⟨fun q => by have := (ok_step1.1 q).2.1; omega⟩⟩)))))
                · by_cases c2 : 65535 < S.lowY
                  · skip
                    go_wp2_with fail
                    go_roundg 2
                    case measure => omega
                    case rel => exact Or.inr (Or.inr (Or.inr (Or.inr (Or.inr (Or.inl ⟨rfl, rfl, rfl, ⟨fun q => by have := (ok_step1.1 q).2.2; omega⟩⟩)))))
                  · skip
                    go_wp2_with fail
                    go_roundg 2
                    case measure => omega
                    case rel => exact Or.inr (Or.inr (Or.inr (Or.inr (Or.inl ⟨rfl, rfl, rfl, ⟨ok_step1.2 ⟨HO.out, by omega, by omega⟩⟩⟩))))
              · by_cases c1 : S.lowY < 1
                · skip
                  go_wp2_with fail
                  go_roundg 2
                  case measure => omega
                  case rel => exact Or.inr (Or.inr (Or.inr (Or.inr (Or.inr (Or.inl ⟨rfl, rfl, rfl, ⟨fun q => by have := (ok_step1.1 q).2.1; omega⟩⟩)))))
                · by_cases c2 : 65535 < S.lowY
                  · skip
                    go_wp2_with fail
                    go_roundg 2
                    case measure => omega
                    case rel => exact Or.inr (Or.inr (Or.inr (Or.inr (Or.inr (Or.inl ⟨rfl, rfl, rfl, ⟨fun q => by have := (ok_step1.1 q).2.2; omega⟩⟩)))))
                  · skip
                    go_wp2_with fail
                    go_roundg 2
                    case measure => omega
                    case rel => exact Or.inr (Or.inr (Or.inr (Or.inr (Or.inr (Or.inl ⟨rfl, rfl, rfl, ⟨fun q => HO.out (ok_step1.1 q).1⟩⟩)))))
              · by_cases c1 : S.highX < 1
                · skip
                  go_wp2_with fail
                  go_roundg 1
                  case measure => omega
                  case rel => exact Or.inr (Or.inr (Or.inr (Or.inr (Or.inr (Or.inr (Or.inr (Or.inl ⟨rfl, rfl, rfl, ⟨fun q => by have := (ok_step2.1 q).2.1; omega⟩⟩)))))))
                · by_cases c2 : 65535 < S.highX
                  · skip
                    go_wp2_with fail
                    go_roundg 1
                    case measure => omega
                    case rel => exact Or.inr (Or.inr (Or.inr (Or.inr (Or.inr (Or.inr (Or.inr (Or.inl ⟨rfl, rfl, rfl, ⟨fun q => by have := (ok_step2.1 q).2.2; omega⟩⟩)))))))
                  · skip
                    go_wp2_with fail
                    go_roundg 1
                    case measure => omega
                    case rel => exact Or.inr (Or.inr (Or.inr (Or.inr (Or.inr (Or.inr (Or.inl ⟨rfl, rfl, rfl, ⟨ok_step2.2 ⟨HO.out, by omega, by omega⟩⟩⟩))))))
              · by_cases c1 : S.highX < 1
                · skip
                  go_wp2_with fail
                  go_roundg 1
                  case measure => omega
                  case rel => exact Or.inr (Or.inr (Or.inr (Or.inr (Or.inr (Or.inr (Or.inr (Or.inl ⟨rfl, rfl, rfl, ⟨fun q => by have := (ok_step2.1 q).2.1; omega⟩⟩)))))))
                · by_cases c2 : 65535 < S.highX
                  · skip
                    go_wp2_with fail
                    go_roundg 1
                    case measure => omega
                    case rel => exact Or.inr (Or.inr (Or.inr (Or.inr (Or.inr (Or.inr (Or.inr (Or.inl ⟨rfl, rfl, rfl, ⟨fun q => by have := (ok_step2.1 q).2.2; omega⟩⟩)))))))
                  · skip
                    go_wp2_with fail
                    go_roundg 1
                    case measure => omega
                    case rel => exact Or.inr (Or.inr (Or.inr (Or.inr (Or.inr (Or.inr (Or.inr (Or.inl ⟨rfl, rfl, rfl, ⟨fun q => HO.out (ok_step2.1 q).1⟩⟩)))))))
              · by_cases c1 : S.highY < 1
                · skip
                  go_wp2_with fail
                  go_roundg 0
                  case measure => omega
                  case rel => exact Or.inr (Or.inr (Or.inr (Or.inr (Or.inr (Or.inr (Or.inr (Or.inr (⟨rfl, rfl, free0 S, rfl, ⟨Or.inr ⟨rfl, fun q => by have := (ok_step3.1 q).2.1; omega⟩⟩⟩))))))))
                · by_cases c2 : 65535 < S.highY
                  · skip
                    go_wp2_with fail
                    go_roundg 0
                    case measure => omega
                    case rel => exact Or.inr (Or.inr (Or.inr (Or.inr (Or.inr (Or.inr (Or.inr (Or.inr (⟨rfl, rfl, free0 S, rfl, ⟨Or.inr ⟨rfl, fun q => by have := (ok_step3.1 q).2.2; omega⟩⟩⟩))))))))
                  · skip
                    go_wp2_with fail
                    go_roundg 0
                    case measure => omega
                    case rel => exact Or.inr (Or.inr (Or.inr (Or.inr (Or.inr (Or.inr (Or.inr (Or.inr (⟨rfl, rfl, S, rfl, ⟨Or.inl ⟨rfl, ok_step3.2 ⟨HO.out, by omega, by omega⟩⟩⟩⟩))))))))
              · by_cases c1 : S.highY < 1
                · skip
                  go_wp2_with fail
                  go_roundg 0
                  case measure => omega
                  case rel => exact Or.inr (Or.inr (Or.inr (Or.inr (Or.inr (Or.inr (Or.inr (Or.inr (⟨rfl, rfl, free0 S, rfl, ⟨Or.inr ⟨rfl, fun q => by have := (ok_step3.1 q).2.1; omega⟩⟩⟩))))))))
                · by_cases c2 : 65535 < S.highY
                  · skip
                    go_wp2_with fail
                    go_roundg 0
                    case measure => omega
                    case rel => exact Or.inr (Or.inr (Or.inr (Or.inr (Or.inr (Or.inr (Or.inr (Or.inr (⟨rfl, rfl, free0 S, rfl, ⟨Or.inr ⟨rfl, fun q => by have := (ok_step3.1 q).2.2; omega⟩⟩⟩))))))))
                  · skip
                    go_wp2_with fail
                    go_roundg 0
                    case measure => omega
                    case rel => exact Or.inr (Or.inr (Or.inr (Or.inr (Or.inr (Or.inr (Or.inr (Or.inr (⟨rfl, rfl, free0 S, rfl, ⟨Or.inr ⟨rfl, fun q => HO.out (ok_step3.1 q).1⟩⟩⟩))))))))
              · have MB : 0 ≤ N.lowX * N.highY ∧ N.lowX * N.highY ≤ 4294836225 ∧ 0 ≤ N.highX * N.lowY ∧ N.highX * N.lowY ≤ 4294836225 := by
                  rcases HO.out with ⟨rfl, q⟩ | ⟨rfl, q⟩
                  · obtain ⟨⟨⟨⟨_, q1⟩, q2⟩, q3⟩, q4⟩ := q
                    have m1 := mul_bd (show 0 ≤ N.lowX by have := q1.1; omega) q1.2 (b := N.highY) (by have := q4.1; omega) q4.2
                    have m2 := mul_bd (show 0 ≤ N.highX by have := q3.1; omega) q3.2 (b := N.lowY) (by have := q2.1; omega) q2.2
                    omega
                  · show 0 ≤ (0 : Int) * 0 ∧ (0 : Int) * 0 ≤ 4294836225 ∧ 0 ≤ (0 : Int) * 0 ∧ (0 : Int) * 0 ≤ 4294836225
                    decide
                obtain ⟨mb1, mb2, mb3, mb4⟩ := MB
                obtain ⟨N1, hN1⟩ : ∃ n, n = norm1 S := ⟨_, rfl⟩
                have HN1 := Aside0.mk hN1
                clear hN1
                obtain ⟨bb, q97⟩ : ∃ bb : Bool, decide (N.highX * N.lowY < N.lowX * N.highY) = bb := ⟨_, rfl⟩
                go_upto_if 97 with fail
                go_cut [] (fun wx => wx = ((((((W.alloc (.cells #[.int .i64 N1.minW, .int .i64 N1.minH, .int .i64 N1.maxW, .int .i64 N1.maxH, .int .i64 N1.baseW, .int .i64 N1.baseH, .int .i64 N1.incW, .int .i64 N1.incH, .int .i64 N1.lowX, .int .i64 N1.lowY, .int .i64 N1.highX, .int .i64 N1.highY] 25 (0, 0))).alloc (.cells #[.int .i64 0, .int .i64 0, .int .i64 0, .int .i64 0, .int .i64 0, .int .i64 0, .int .i64 0, .int .i64 0, .int .i64 0, .int .i64 0, .int .i64 0, .int .i64 0] 25 (0, 0))).alloc (.cells #[.pointer (some ⟨W.heap.size, 0, none⟩), .pointer (some ⟨W.heap.size, 1, none⟩), .pointer (some ⟨W.heap.size, 6, none⟩), .pointer (some ⟨W.heap.size, 7, none⟩)] 76)).alloc (.cells #[.pointer (some ⟨W.heap.size, 4, none⟩), .pointer (some ⟨W.heap.size, 5, none⟩)] 76)).alloc (.cells #[.int .i64 S.minW, .int .i64 S.minH, .int .i64 S.maxW, .int .i64 S.maxH, .int .i64 S.baseW, .int .i64 S.baseH, .int .i64 S.incW, .int .i64 S.incH, .int .i64 0, .int .i64 0, .int .i64 0, .int .i64 0] 25 (0, 0))).alloc (.cells #[.int .i64 S.lowX, .int .i64 S.lowY, .int .i64 S.highX, .int .i64 S.highY] 3)).drew)
                case first =>
                  cases bb
                  · have E : N = N1 := by
                      have c := of_decide_eq_false q97
                      rw [HN1.out]
                      unfold norm1
                      rcases HO.out with ⟨rfl, q⟩ | ⟨rfl, q⟩
                      · rw [if_pos (asp_ok.2 ⟨q, by omega⟩)]
                      · rw [if_neg (fun r => q (asp_ok.1 r).1)]
                    have ES := Aside0.mk E
                    clear E
                    go_wp2_with fail
                    go_meet
                    exact by rw [ES.out]
                  · have E : N1 = free0 S := by
                      have c := of_decide_eq_true q97
                      rw [HN1.out]
                      unfold norm1
                      rw [if_neg]
                      intro r
                      have r2 := asp_ok.1 r
                      rcases HO.out with ⟨rfl, q⟩ | ⟨rfl, q⟩
                      · have := r2.2; omega
                      · exact q r2.1
                    have ES := Aside0.mk E
                    clear E
                    go_wp2_with fail
                    go_meet
                    exact by rw [ES.out]; rfl
                case rest =>
                  obtain rfl := hcut
                  clear q97 mb1 mb2 mb3 mb4 HO
                  have S0 := Aside0.mk (show Nrm0 S by rw [HS.out]; exact span0_nrm h)
                  have NN := Aside0.mk (show Nrm N1 by rw [HN1.out]; exact norm1_nrm S0.out)
                  obtain ⟨⟨x1, y1, ok1⟩, e1⟩ : ∃ r, best N1 65535 65535 = r := ⟨_, rfl⟩
                  have K1 := Aside0.mk (c_find NN.out (by decide) (by decide) (by decide) e1)
                  have X1 := (best_cases NN.out.1 e1).2
                  rw [HN1.out] at X1
                  clear e1
                  cases ok1
                  rotate_left
                  · have ERS := Aside0.mk (show R = N1 by rw [HR.out, HN1.out]; unfold norm2; rw [if_pos (X1.1 rfl)])
                    clear X1
                    go_wp2_with fail
                    refine (K1.out _).mono ?_
                    rintro e w2 ⟨rfl, hb⟩
                    have B1 := Aside0.mk (blk_below (g := W.heap.size) (o := .cells #[.int .i64 N1.minW, .int .i64 N1.minH, .int .i64 N1.maxW, .int .i64 N1.maxH, .int .i64 N1.baseW, .int .i64 N1.baseH, .int .i64 N1.incW, .int .i64 N1.incH, .int .i64 N1.lowX, .int .i64 N1.lowY, .int .i64 N1.highX, .int .i64 N1.highY] 25 (0, 0)) (by (repeat (first | exact new_at (by simp only [World.size_alloc, World.size_drew]; done) | refine blk_drew ?_ | refine blk_alloc ?_ _))) hb)
                    have B2 := Aside0.mk (blk_below (g := W.heap.size + 1) (o := .cells #[.int .i64 0, .int .i64 0, .int .i64 0, .int .i64 0, .int .i64 0, .int .i64 0, .int .i64 0, .int .i64 0, .int .i64 0, .int .i64 0, .int .i64 0, .int .i64 0] 25 (0, 0)) (by (repeat (first | exact new_at (by simp only [World.size_alloc, World.size_drew]; done) | refine blk_drew ?_ | refine blk_alloc ?_ _))) hb)
                    have HB := Aside0.mk (below_step (w := W) (by (repeat (first | exact Below.refl _ _ | apply below_alloc | apply below_drew))) hb)
                    clear hb K1
                    have p0 : w2.cell? ⟨W.heap.size, 0, none⟩ = some (.int .i64 (N1.minW)) := (blk_cell B1.out 0).trans rfl
                    have fp0 := blk_frozen B1.out 0
                    have p1 : w2.cell? ⟨W.heap.size, 1, none⟩ = some (.int .i64 (N1.minH)) := (blk_cell B1.out 1).trans rfl
                    have fp1 := blk_frozen B1.out 1
                    have p2 : w2.cell? ⟨W.heap.size, 2, none⟩ = some (.int .i64 (N1.maxW)) := (blk_cell B1.out 2).trans rfl
                    have fp2 := blk_frozen B1.out 2
                    have p3 : w2.cell? ⟨W.heap.size, 3, none⟩ = some (.int .i64 (N1.maxH)) := (blk_cell B1.out 3).trans rfl
                    have fp3 := blk_frozen B1.out 3
                    have p4 : w2.cell? ⟨W.heap.size, 4, none⟩ = some (.int .i64 (N1.baseW)) := (blk_cell B1.out 4).trans rfl
                    have fp4 := blk_frozen B1.out 4
                    have p5 : w2.cell? ⟨W.heap.size, 5, none⟩ = some (.int .i64 (N1.baseH)) := (blk_cell B1.out 5).trans rfl
                    have fp5 := blk_frozen B1.out 5
                    have p6 : w2.cell? ⟨W.heap.size, 6, none⟩ = some (.int .i64 (N1.incW)) := (blk_cell B1.out 6).trans rfl
                    have fp6 := blk_frozen B1.out 6
                    have p7 : w2.cell? ⟨W.heap.size, 7, none⟩ = some (.int .i64 (N1.incH)) := (blk_cell B1.out 7).trans rfl
                    have fp7 := blk_frozen B1.out 7
                    have p8 : w2.cell? ⟨W.heap.size, 8, none⟩ = some (.int .i64 (N1.lowX)) := (blk_cell B1.out 8).trans rfl
                    have fp8 := blk_frozen B1.out 8
                    have p9 : w2.cell? ⟨W.heap.size, 9, none⟩ = some (.int .i64 (N1.lowY)) := (blk_cell B1.out 9).trans rfl
                    have fp9 := blk_frozen B1.out 9
                    have p10 : w2.cell? ⟨W.heap.size, 10, none⟩ = some (.int .i64 (N1.highX)) := (blk_cell B1.out 10).trans rfl
                    have fp10 := blk_frozen B1.out 10
                    have p11 : w2.cell? ⟨W.heap.size, 11, none⟩ = some (.int .i64 (N1.highY)) := (blk_cell B1.out 11).trans rfl
                    have fp11 := blk_frozen B1.out 11
                    have q0 : w2.cell? ⟨W.heap.size + 1, 0, none⟩ = some (.int .i64 (0)) := (blk_cell B2.out 0).trans rfl
                    have fq0 := blk_frozen B2.out 0
                    have q1 : w2.cell? ⟨W.heap.size + 1, 1, none⟩ = some (.int .i64 (0)) := (blk_cell B2.out 1).trans rfl
                    have fq1 := blk_frozen B2.out 1
                    have q2 : w2.cell? ⟨W.heap.size + 1, 2, none⟩ = some (.int .i64 (0)) := (blk_cell B2.out 2).trans rfl
                    have fq2 := blk_frozen B2.out 2
                    have q3 : w2.cell? ⟨W.heap.size + 1, 3, none⟩ = some (.int .i64 (0)) := (blk_cell B2.out 3).trans rfl
                    have fq3 := blk_frozen B2.out 3
                    have q4 : w2.cell? ⟨W.heap.size + 1, 4, none⟩ = some (.int .i64 (0)) := (blk_cell B2.out 4).trans rfl
                    have fq4 := blk_frozen B2.out 4
                    have q5 : w2.cell? ⟨W.heap.size + 1, 5, none⟩ = some (.int .i64 (0)) := (blk_cell B2.out 5).trans rfl
                    have fq5 := blk_frozen B2.out 5
                    have q6 : w2.cell? ⟨W.heap.size + 1, 6, none⟩ = some (.int .i64 (0)) := (blk_cell B2.out 6).trans rfl
                    have fq6 := blk_frozen B2.out 6
                    have q7 : w2.cell? ⟨W.heap.size + 1, 7, none⟩ = some (.int .i64 (0)) := (blk_cell B2.out 7).trans rfl
                    have fq7 := blk_frozen B2.out 7
                    have q8 : w2.cell? ⟨W.heap.size + 1, 8, none⟩ = some (.int .i64 (0)) := (blk_cell B2.out 8).trans rfl
                    have fq8 := blk_frozen B2.out 8
                    have q9 : w2.cell? ⟨W.heap.size + 1, 9, none⟩ = some (.int .i64 (0)) := (blk_cell B2.out 9).trans rfl
                    have fq9 := blk_frozen B2.out 9
                    have q10 : w2.cell? ⟨W.heap.size + 1, 10, none⟩ = some (.int .i64 (0)) := (blk_cell B2.out 10).trans rfl
                    have fq10 := blk_frozen B2.out 10
                    have q11 : w2.cell? ⟨W.heap.size + 1, 11, none⟩ = some (.int .i64 (0)) := (blk_cell B2.out 11).trans rfl
                    have fq11 := blk_frozen B2.out 11
                    go_wp2_with fail
                    exact bodyPost_ret (v := .agg #[.int .i64 N1.minW, .int .i64 N1.minH, .int .i64 N1.maxW, .int .i64 N1.maxH, .int .i64 N1.baseW, .int .i64 N1.baseH, .int .i64 N1.incW, .int .i64 N1.incH, .int .i64 N1.lowX, .int .i64 N1.lowY, .int .i64 N1.highX, .int .i64 N1.highY]) (by simp [results, Try.results55, go_sem, q0, fq0, q1, fq1, q2, fq2, q3, fq3, q4, fq4, q5, fq5, q6, fq6, q7, fq7, q8, fq8, q9, fq9, q10, fq10, q11, fq11]) rfl ⟨by rw [ERS.out], put12_below HB.out (by omega) (.int .i64 N1.minW) (.int .i64 N1.minH) (.int .i64 N1.maxW) (.int .i64 N1.maxH) (.int .i64 N1.baseW) (.int .i64 N1.baseH) (.int .i64 N1.incW) (.int .i64 N1.incH) (.int .i64 N1.lowX) (.int .i64 N1.lowY) (.int .i64 N1.highX) (.int .i64 N1.highY)⟩
                  · have HNIL := Aside0.mk (show Nil (norm1 S) from Classical.byContradiction fun q => absurd (X1.2 q) (by decide))
                    clear X1
                    obtain ⟨⟨x2, y2, ok2⟩, e2⟩ : ∃ r, best (free0 S) 65535 65535 = r := ⟨_, rfl⟩
                    have X2 := (best_cases (free0_nrm S0.out).1 e2).2
                    have k2 : ∀ W, Calls Try.prog 54 #[.agg #[.int .i64 S.minW, .int .i64 S.minH, .int .i64 S.maxW, .int .i64 S.maxH, .int .i64 S.baseW, .int .i64 S.baseH, .int .i64 S.incW, .int .i64 S.incH, .int .i64 0, .int .i64 0, .int .i64 0, .int .i64 0], .int .i64 65535, .int .i64 65535] W fun e w' => e = .returned (.tuple #[.int .i64 x2, .int .i64 y2, .bool ok2]) ∧ Below W.heap.size W w' := fun W => c_find (free0_nrm S0.out) (by decide) (by decide) (by decide) e2 W
                    have K2 := Aside0.mk k2
                    clear e2 k2
                    go_wp2_with fail
                    refine (K1.out _).mono ?_
                    rintro e w2 ⟨rfl, hb⟩
                    have B2 := Aside0.mk (blk_below (g := W.heap.size + 1) (o := .cells #[.int .i64 0, .int .i64 0, .int .i64 0, .int .i64 0, .int .i64 0, .int .i64 0, .int .i64 0, .int .i64 0, .int .i64 0, .int .i64 0, .int .i64 0, .int .i64 0] 25 (0, 0)) (by (repeat (first | exact new_at (by simp only [World.size_alloc, World.size_drew]; done) | refine blk_drew ?_ | refine blk_alloc ?_ _))) hb)
                    have B3 := Aside0.mk (blk_below (g := W.heap.size + 1 + 1 + 1 + 1) (o := .cells #[.int .i64 S.minW, .int .i64 S.minH, .int .i64 S.maxW, .int .i64 S.maxH, .int .i64 S.baseW, .int .i64 S.baseH, .int .i64 S.incW, .int .i64 S.incH, .int .i64 0, .int .i64 0, .int .i64 0, .int .i64 0] 25 (0, 0)) (by (repeat (first | exact new_at (by simp only [World.size_alloc, World.size_drew]; done) | refine blk_drew ?_ | refine blk_alloc ?_ _))) hb)
                    have HB := Aside0.mk (below_step (w := W) (by (repeat (first | exact Below.refl _ _ | apply below_alloc | apply below_drew))) hb)
                    clear hb K1
                    have r0 : w2.cell? ⟨W.heap.size + 1 + 1 + 1 + 1, 0, none⟩ = some (.int .i64 (S.minW)) := (blk_cell B3.out 0).trans rfl
                    have fr0 := blk_frozen B3.out 0
                    have r1 : w2.cell? ⟨W.heap.size + 1 + 1 + 1 + 1, 1, none⟩ = some (.int .i64 (S.minH)) := (blk_cell B3.out 1).trans rfl
                    have fr1 := blk_frozen B3.out 1
                    have r2 : w2.cell? ⟨W.heap.size + 1 + 1 + 1 + 1, 2, none⟩ = some (.int .i64 (S.maxW)) := (blk_cell B3.out 2).trans rfl
                    have fr2 := blk_frozen B3.out 2
                    have r3 : w2.cell? ⟨W.heap.size + 1 + 1 + 1 + 1, 3, none⟩ = some (.int .i64 (S.maxH)) := (blk_cell B3.out 3).trans rfl
                    have fr3 := blk_frozen B3.out 3
                    have r4 : w2.cell? ⟨W.heap.size + 1 + 1 + 1 + 1, 4, none⟩ = some (.int .i64 (S.baseW)) := (blk_cell B3.out 4).trans rfl
                    have fr4 := blk_frozen B3.out 4
                    have r5 : w2.cell? ⟨W.heap.size + 1 + 1 + 1 + 1, 5, none⟩ = some (.int .i64 (S.baseH)) := (blk_cell B3.out 5).trans rfl
                    have fr5 := blk_frozen B3.out 5
                    have r6 : w2.cell? ⟨W.heap.size + 1 + 1 + 1 + 1, 6, none⟩ = some (.int .i64 (S.incW)) := (blk_cell B3.out 6).trans rfl
                    have fr6 := blk_frozen B3.out 6
                    have r7 : w2.cell? ⟨W.heap.size + 1 + 1 + 1 + 1, 7, none⟩ = some (.int .i64 (S.incH)) := (blk_cell B3.out 7).trans rfl
                    have fr7 := blk_frozen B3.out 7
                    have r8 : w2.cell? ⟨W.heap.size + 1 + 1 + 1 + 1, 8, none⟩ = some (.int .i64 (0)) := (blk_cell B3.out 8).trans rfl
                    have fr8 := blk_frozen B3.out 8
                    have r9 : w2.cell? ⟨W.heap.size + 1 + 1 + 1 + 1, 9, none⟩ = some (.int .i64 (0)) := (blk_cell B3.out 9).trans rfl
                    have fr9 := blk_frozen B3.out 9
                    have r10 : w2.cell? ⟨W.heap.size + 1 + 1 + 1 + 1, 10, none⟩ = some (.int .i64 (0)) := (blk_cell B3.out 10).trans rfl
                    have fr10 := blk_frozen B3.out 10
                    have r11 : w2.cell? ⟨W.heap.size + 1 + 1 + 1 + 1, 11, none⟩ = some (.int .i64 (0)) := (blk_cell B3.out 11).trans rfl
                    have fr11 := blk_frozen B3.out 11
                    cases ok2
                    rotate_left
                    · have ERS := Aside0.mk (show R = free0 S by rw [HR.out]; unfold norm2; rw [if_neg (fun q => q HNIL.out), if_pos (X2.1 rfl)])
                      clear X2
                      go_wp2_with fail
                      refine (K2.out _).mono ?_
                      rintro e w3 ⟨rfl, hb⟩
                      clear r0 fr0 r1 fr1 r2 fr2 r3 fr3 r4 fr4 r5 fr5 r6 fr6 r7 fr7 r8 fr8 r9 fr9 r10 fr10 r11 fr11
                      replace B2 := Aside0.mk (blk_below B2.out hb)
                      replace B3 := Aside0.mk (blk_below B3.out hb)
                      replace HB := Aside0.mk (below_step HB.out hb)
                      clear hb K2
                      have r0 : w3.cell? ⟨W.heap.size + 1 + 1 + 1 + 1, 0, none⟩ = some (.int .i64 (S.minW)) := (blk_cell B3.out 0).trans rfl
                      have fr0 := blk_frozen B3.out 0
                      have r1 : w3.cell? ⟨W.heap.size + 1 + 1 + 1 + 1, 1, none⟩ = some (.int .i64 (S.minH)) := (blk_cell B3.out 1).trans rfl
                      have fr1 := blk_frozen B3.out 1
                      have r2 : w3.cell? ⟨W.heap.size + 1 + 1 + 1 + 1, 2, none⟩ = some (.int .i64 (S.maxW)) := (blk_cell B3.out 2).trans rfl
                      have fr2 := blk_frozen B3.out 2
                      have r3 : w3.cell? ⟨W.heap.size + 1 + 1 + 1 + 1, 3, none⟩ = some (.int .i64 (S.maxH)) := (blk_cell B3.out 3).trans rfl
                      have fr3 := blk_frozen B3.out 3
                      have r4 : w3.cell? ⟨W.heap.size + 1 + 1 + 1 + 1, 4, none⟩ = some (.int .i64 (S.baseW)) := (blk_cell B3.out 4).trans rfl
                      have fr4 := blk_frozen B3.out 4
                      have r5 : w3.cell? ⟨W.heap.size + 1 + 1 + 1 + 1, 5, none⟩ = some (.int .i64 (S.baseH)) := (blk_cell B3.out 5).trans rfl
                      have fr5 := blk_frozen B3.out 5
                      have r6 : w3.cell? ⟨W.heap.size + 1 + 1 + 1 + 1, 6, none⟩ = some (.int .i64 (S.incW)) := (blk_cell B3.out 6).trans rfl
                      have fr6 := blk_frozen B3.out 6
                      have r7 : w3.cell? ⟨W.heap.size + 1 + 1 + 1 + 1, 7, none⟩ = some (.int .i64 (S.incH)) := (blk_cell B3.out 7).trans rfl
                      have fr7 := blk_frozen B3.out 7
                      have r8 : w3.cell? ⟨W.heap.size + 1 + 1 + 1 + 1, 8, none⟩ = some (.int .i64 (0)) := (blk_cell B3.out 8).trans rfl
                      have fr8 := blk_frozen B3.out 8
                      have r9 : w3.cell? ⟨W.heap.size + 1 + 1 + 1 + 1, 9, none⟩ = some (.int .i64 (0)) := (blk_cell B3.out 9).trans rfl
                      have fr9 := blk_frozen B3.out 9
                      have r10 : w3.cell? ⟨W.heap.size + 1 + 1 + 1 + 1, 10, none⟩ = some (.int .i64 (0)) := (blk_cell B3.out 10).trans rfl
                      have fr10 := blk_frozen B3.out 10
                      have r11 : w3.cell? ⟨W.heap.size + 1 + 1 + 1 + 1, 11, none⟩ = some (.int .i64 (0)) := (blk_cell B3.out 11).trans rfl
                      have fr11 := blk_frozen B3.out 11
                      have q0 : w3.cell? ⟨W.heap.size + 1, 0, none⟩ = some (.int .i64 (0)) := (blk_cell B2.out 0).trans rfl
                      have fq0 := blk_frozen B2.out 0
                      have q1 : w3.cell? ⟨W.heap.size + 1, 1, none⟩ = some (.int .i64 (0)) := (blk_cell B2.out 1).trans rfl
                      have fq1 := blk_frozen B2.out 1
                      have q2 : w3.cell? ⟨W.heap.size + 1, 2, none⟩ = some (.int .i64 (0)) := (blk_cell B2.out 2).trans rfl
                      have fq2 := blk_frozen B2.out 2
                      have q3 : w3.cell? ⟨W.heap.size + 1, 3, none⟩ = some (.int .i64 (0)) := (blk_cell B2.out 3).trans rfl
                      have fq3 := blk_frozen B2.out 3
                      have q4 : w3.cell? ⟨W.heap.size + 1, 4, none⟩ = some (.int .i64 (0)) := (blk_cell B2.out 4).trans rfl
                      have fq4 := blk_frozen B2.out 4
                      have q5 : w3.cell? ⟨W.heap.size + 1, 5, none⟩ = some (.int .i64 (0)) := (blk_cell B2.out 5).trans rfl
                      have fq5 := blk_frozen B2.out 5
                      have q6 : w3.cell? ⟨W.heap.size + 1, 6, none⟩ = some (.int .i64 (0)) := (blk_cell B2.out 6).trans rfl
                      have fq6 := blk_frozen B2.out 6
                      have q7 : w3.cell? ⟨W.heap.size + 1, 7, none⟩ = some (.int .i64 (0)) := (blk_cell B2.out 7).trans rfl
                      have fq7 := blk_frozen B2.out 7
                      have q8 : w3.cell? ⟨W.heap.size + 1, 8, none⟩ = some (.int .i64 (0)) := (blk_cell B2.out 8).trans rfl
                      have fq8 := blk_frozen B2.out 8
                      have q9 : w3.cell? ⟨W.heap.size + 1, 9, none⟩ = some (.int .i64 (0)) := (blk_cell B2.out 9).trans rfl
                      have fq9 := blk_frozen B2.out 9
                      have q10 : w3.cell? ⟨W.heap.size + 1, 10, none⟩ = some (.int .i64 (0)) := (blk_cell B2.out 10).trans rfl
                      have fq10 := blk_frozen B2.out 10
                      have q11 : w3.cell? ⟨W.heap.size + 1, 11, none⟩ = some (.int .i64 (0)) := (blk_cell B2.out 11).trans rfl
                      have fq11 := blk_frozen B2.out 11
                      go_wp2_with fail
                      exact bodyPost_ret (v := .agg #[.int .i64 S.minW, .int .i64 S.minH, .int .i64 S.maxW, .int .i64 S.maxH, .int .i64 S.baseW, .int .i64 S.baseH, .int .i64 S.incW, .int .i64 S.incH, .int .i64 0, .int .i64 0, .int .i64 0, .int .i64 0]) (by simp [results, Try.results55, go_sem, q0, fq0, q1, fq1, q2, fq2, q3, fq3, q4, fq4, q5, fq5, q6, fq6, q7, fq7, q8, fq8, q9, fq9, q10, fq10, q11, fq11]) rfl ⟨by rw [ERS.out]; rfl, put12_below HB.out (by omega) (.int .i64 S.minW) (.int .i64 S.minH) (.int .i64 S.maxW) (.int .i64 S.maxH) (.int .i64 S.baseW) (.int .i64 S.baseH) (.int .i64 S.incW) (.int .i64 S.incH) (.int .i64 0) (.int .i64 0) (.int .i64 0) (.int .i64 0)⟩
                    · have hnil2 : Nil (free0 S) := Classical.byContradiction fun q => absurd (X2.2 q) (by decide)
                      have ERS := Aside0.mk (show R = free1 S by rw [HR.out]; unfold norm2; rw [if_neg (fun q => q HNIL.out), if_neg (fun q => q hnil2)])
                      clear X2 hnil2
                      go_wp2_with fail
                      refine (K2.out _).mono ?_
                      rintro e w3 ⟨rfl, hb⟩
                      clear r0 fr0 r1 fr1 r2 fr2 r3 fr3 r4 fr4 r5 fr5 r6 fr6 r7 fr7 r8 fr8 r9 fr9 r10 fr10 r11 fr11
                      replace B2 := Aside0.mk (blk_below B2.out hb)
                      replace B3 := Aside0.mk (blk_below B3.out hb)
                      replace HB := Aside0.mk (below_step HB.out hb)
                      clear hb K2
                      have r0 : w3.cell? ⟨W.heap.size + 1 + 1 + 1 + 1, 0, none⟩ = some (.int .i64 (S.minW)) := (blk_cell B3.out 0).trans rfl
                      have fr0 := blk_frozen B3.out 0
                      have r1 : w3.cell? ⟨W.heap.size + 1 + 1 + 1 + 1, 1, none⟩ = some (.int .i64 (S.minH)) := (blk_cell B3.out 1).trans rfl
                      have fr1 := blk_frozen B3.out 1
                      have r2 : w3.cell? ⟨W.heap.size + 1 + 1 + 1 + 1, 2, none⟩ = some (.int .i64 (S.maxW)) := (blk_cell B3.out 2).trans rfl
                      have fr2 := blk_frozen B3.out 2
                      have r3 : w3.cell? ⟨W.heap.size + 1 + 1 + 1 + 1, 3, none⟩ = some (.int .i64 (S.maxH)) := (blk_cell B3.out 3).trans rfl
                      have fr3 := blk_frozen B3.out 3
                      have r4 : w3.cell? ⟨W.heap.size + 1 + 1 + 1 + 1, 4, none⟩ = some (.int .i64 (S.baseW)) := (blk_cell B3.out 4).trans rfl
                      have fr4 := blk_frozen B3.out 4
                      have r5 : w3.cell? ⟨W.heap.size + 1 + 1 + 1 + 1, 5, none⟩ = some (.int .i64 (S.baseH)) := (blk_cell B3.out 5).trans rfl
                      have fr5 := blk_frozen B3.out 5
                      have r6 : w3.cell? ⟨W.heap.size + 1 + 1 + 1 + 1, 6, none⟩ = some (.int .i64 (S.incW)) := (blk_cell B3.out 6).trans rfl
                      have fr6 := blk_frozen B3.out 6
                      have r7 : w3.cell? ⟨W.heap.size + 1 + 1 + 1 + 1, 7, none⟩ = some (.int .i64 (S.incH)) := (blk_cell B3.out 7).trans rfl
                      have fr7 := blk_frozen B3.out 7
                      have r8 : w3.cell? ⟨W.heap.size + 1 + 1 + 1 + 1, 8, none⟩ = some (.int .i64 (0)) := (blk_cell B3.out 8).trans rfl
                      have fr8 := blk_frozen B3.out 8
                      have r9 : w3.cell? ⟨W.heap.size + 1 + 1 + 1 + 1, 9, none⟩ = some (.int .i64 (0)) := (blk_cell B3.out 9).trans rfl
                      have fr9 := blk_frozen B3.out 9
                      have r10 : w3.cell? ⟨W.heap.size + 1 + 1 + 1 + 1, 10, none⟩ = some (.int .i64 (0)) := (blk_cell B3.out 10).trans rfl
                      have fr10 := blk_frozen B3.out 10
                      have r11 : w3.cell? ⟨W.heap.size + 1 + 1 + 1 + 1, 11, none⟩ = some (.int .i64 (0)) := (blk_cell B3.out 11).trans rfl
                      have fr11 := blk_frozen B3.out 11
                      have q0 : w3.cell? ⟨W.heap.size + 1, 0, none⟩ = some (.int .i64 (0)) := (blk_cell B2.out 0).trans rfl
                      have fq0 := blk_frozen B2.out 0
                      have q1 : w3.cell? ⟨W.heap.size + 1, 1, none⟩ = some (.int .i64 (0)) := (blk_cell B2.out 1).trans rfl
                      have fq1 := blk_frozen B2.out 1
                      have q2 : w3.cell? ⟨W.heap.size + 1, 2, none⟩ = some (.int .i64 (0)) := (blk_cell B2.out 2).trans rfl
                      have fq2 := blk_frozen B2.out 2
                      have q3 : w3.cell? ⟨W.heap.size + 1, 3, none⟩ = some (.int .i64 (0)) := (blk_cell B2.out 3).trans rfl
                      have fq3 := blk_frozen B2.out 3
                      have q4 : w3.cell? ⟨W.heap.size + 1, 4, none⟩ = some (.int .i64 (0)) := (blk_cell B2.out 4).trans rfl
                      have fq4 := blk_frozen B2.out 4
                      have q5 : w3.cell? ⟨W.heap.size + 1, 5, none⟩ = some (.int .i64 (0)) := (blk_cell B2.out 5).trans rfl
                      have fq5 := blk_frozen B2.out 5
                      have q6 : w3.cell? ⟨W.heap.size + 1, 6, none⟩ = some (.int .i64 (0)) := (blk_cell B2.out 6).trans rfl
                      have fq6 := blk_frozen B2.out 6
                      have q7 : w3.cell? ⟨W.heap.size + 1, 7, none⟩ = some (.int .i64 (0)) := (blk_cell B2.out 7).trans rfl
                      have fq7 := blk_frozen B2.out 7
                      have q8 : w3.cell? ⟨W.heap.size + 1, 8, none⟩ = some (.int .i64 (0)) := (blk_cell B2.out 8).trans rfl
                      have fq8 := blk_frozen B2.out 8
                      have q9 : w3.cell? ⟨W.heap.size + 1, 9, none⟩ = some (.int .i64 (0)) := (blk_cell B2.out 9).trans rfl
                      have fq9 := blk_frozen B2.out 9
                      have q10 : w3.cell? ⟨W.heap.size + 1, 10, none⟩ = some (.int .i64 (0)) := (blk_cell B2.out 10).trans rfl
                      have fq10 := blk_frozen B2.out 10
                      have q11 : w3.cell? ⟨W.heap.size + 1, 11, none⟩ = some (.int .i64 (0)) := (blk_cell B2.out 11).trans rfl
                      have fq11 := blk_frozen B2.out 11
                      go_wp2_with fail
                      exact bodyPost_ret (v := .agg #[.int .i64 S.minW, .int .i64 S.minH, .int .i64 S.maxW, .int .i64 S.maxH, .int .i64 0, .int .i64 0, .int .i64 1, .int .i64 1, .int .i64 0, .int .i64 0, .int .i64 0, .int .i64 0]) (by simp [results, Try.results55, go_sem, q0, fq0, q1, fq1, q2, fq2, q3, fq3, q4, fq4, q5, fq5, q6, fq6, q7, fq7, q8, fq8, q9, fq9, q10, fq10, q11, fq11, r0, fr0, r1, fr1, r2, fr2, r3, fr3, r4, fr4, r5, fr5, r6, fr6, r7, fr7, r8, fr8, r9, fr9, r10, fr10, r11, fr11]) rfl ⟨by rw [ERS.out]; rfl, put12_below (by (repeat (refine below_set ?_ (by omega))); exact HB.out) (by omega) (.int .i64 S.minW) (.int .i64 S.minH) (.int .i64 S.maxW) (.int .i64 S.maxH) (.int .i64 0) (.int .i64 0) (.int .i64 1) (.int .i64 1) (.int .i64 0) (.int .i64 0) (.int .i64 0) (.int .i64 0)⟩
end Go.Proofs.Ytajpnmiblepmkaa.Sz
