/- Sizes by hints: the contract of the program's find: the best size by hints that are normal. -/
import Derived.Test.YtajpnmiblepmkaaSzH
import Derived.Deep.DeepCutAuto
import Derived.LoopTactic

namespace Go.Proofs.Ytajpnmiblepmkaa.Sz
open Go.RowKit Go.Proofs.YtajpnmiblepmkaaW.PrintMore Go.Proofs.YtajpnmiblepmkaaW.PrintWords Go.Proofs.YtajpnmiblepmkaaW.PrintLast Go.Proofs.Ytajpnmiblepmkaa.Geo
set_option linter.unusedVariables false
set_option linter.unusedSimpArgs false

/-- No good size of a width in a range. -/
def NoneIn (h : Hn) (a b : Int) : Prop := ∀ z, wideP h z → a ≤ z → z ≤ b → ∀ y, ¬ highP h z y
theorem top_bd {h : Hn} (hn : Nrm0 h) : 1 ≤ topP h.maxW ∧ topP h.maxW ≤ 65535 ∧ 1 ≤ topP h.maxH ∧ topP h.maxH ≤ 65535 := by
  unfold Nrm0 at hn; unfold topP
  refine ⟨?_, ?_, ?_, ?_⟩ <;> split <;> omega
theorem low_bd {h : Hn} (hn : Nrm h) {x : Int} (hx0 : 0 ≤ x) (hx : x ≤ 65535) : lowV h x ≤ 1099511627776 := by
  have q := hn.1
  unfold Nrm0 at q
  unfold lowV
  split
  · rcases hn.2 with ha | ha
    · have := ha.1; omega
    · obtain ⟨a, b, c, d, e⟩ := ha
      have m1 := mul_bd hx0 hx (b := h.highY) (by omega) (by omega)
      have d1 := div_bd (a := x * h.highY + h.highX - 1) (b := h.highX) (by omega) (by omega)
      omega
  · omega
/-- What the program's look beside a width tells. -/
theorem hnear_r {h : Hn} (hn : Nrm h) {x t y : Int} {ok : Bool} (e : nearR (lowV h x) (mostV h x) h.baseH h.incH t = (y, ok)) : (ok = true → IsNear (highP h x) t y) ∧ (ok = false → ∀ z, ¬ highP h x z) := by
  have q := hn.1
  unfold Nrm0 at q
  have r := near_r (by omega) e
  exact ⟨fun k => IsNear.congr (el_high hn.2 x) (r.1 k), fun k z hz => r.2 k z ((el_high hn.2 x z).2 hz)⟩
/-- One step down. -/
theorem down_yes {h : Hn} (hn : Nrm h) {w t n m y : Int} (e : lastR h.minW (topP h.maxW) h.baseW h.incW n = (m, true)) (hnw : n ≤ w) (no : NoneIn h (n + 1) w) : (0 ≤ m ∧ m ≤ 65535 ∧ m ≤ n) ∧ (IsNear (highP h m) t y → best h w t = (m, y, true)) ∧ ((∀ z, ¬ highP h m z) → NoneIn h (m - 1 + 1) w) := by
  have q := hn.1
  unfold Nrm0 at q
  obtain ⟨l1, l2, l3⟩ := (last_r e).1 rfl
  obtain ⟨f1, f2, f3⟩ := last_yes (least := h.minW) (most := topP h.maxW) (base := h.baseW) (inc := h.incW) (n := n) (by omega) l1 l2
  rw [← l3] at f1 f2 f3
  have hx := hn.1.wide f1
  refine ⟨by omega, fun nr => best_of ⟨⟨⟨f1, y, nr.1⟩, Or.inl ⟨by omega, fun z hz hl => ?_⟩⟩, nr⟩, fun nn z hz a b y hy => ?_⟩
  · by_cases c : n < z
    · exact absurd hz.2.choose_spec (no z hz.1 (by omega) hl _)
    · exact f3 z hz.1 (by omega)
  · by_cases c : n < z
    · exact no z hz (by omega) b y hy
    · have := f3 z hz (by omega)
      obtain rfl : z = m := by omega
      exact nn y hy
theorem down_no {h : Hn} (hn : Nrm h) {w n m : Int} (e : lastR h.minW (topP h.maxW) h.baseW h.incW n = (m, false)) (no : NoneIn h (n + 1) w) : NoneIn h 1 w := by
  have q := hn.1
  unfold Nrm0 at q
  intro z hz a b
  by_cases c : n < z
  · exact no z hz (by omega) b
  · have := last_no (by omega) ((last_r e).2 rfl) z hz; omega
/-- One step up. -/
theorem up_yes {h : Hn} (hn : Nrm h) {w t n m y : Int} (e : firstR h.minW (topP h.maxW) h.baseW h.incW n = (m, true)) (hnw : w < n) (no : NoneIn h 1 (n - 1)) : (0 ≤ m ∧ m ≤ 65535 ∧ n ≤ m) ∧ (IsNear (highP h m) t y → best h w t = (m, y, true)) ∧ ((∀ z, ¬ highP h m z) → NoneIn h 1 (m + 1 - 1)) := by
  have q := hn.1
  unfold Nrm0 at q
  obtain ⟨l1, l2, _⟩ := first_r e
  have l2 := l2 rfl
  obtain ⟨f1, f2, f3⟩ := first_yes (least := h.minW) (most := topP h.maxW) (base := h.baseW) (inc := h.incW) (n := n) (by omega) l2
  rw [← l1] at f1 f2 f3
  have hx := hn.1.wide f1
  refine ⟨by omega, fun nr => best_of ⟨⟨⟨f1, y, nr.1⟩, Or.inr ⟨by omega, fun z hz => ?_⟩⟩, nr⟩, fun nn z hz a b y hy => ?_⟩
  · by_cases c : z < n
    · exact absurd hz.2.choose_spec (no z hz.1 (by have := hn.1.wide hz.1; omega) (by omega) _)
    · have := f3 z hz.1 (by omega); omega
  · by_cases c : z < n
    · exact no z hz a (by omega) y hy
    · have := f3 z hz (by omega)
      obtain rfl : z = m := by omega
      exact nn y hy
theorem up_no {h : Hn} (hn : Nrm h) {w t n m : Int} (e : firstR h.minW (topP h.maxW) h.baseW h.incW n = (m, false)) (no : NoneIn h 1 (n - 1)) : best h w t = (0, 0, false) := by
  have q := hn.1
  unfold Nrm0 at q
  obtain ⟨_, _, l3⟩ := first_r e
  apply best_none
  intro z hz
  by_cases c : z < n
  · exact no z hz (by have := hn.1.wide hz; omega) (by omega)
  · have := first_no (by omega) (l3 rfl) z hz; omega

set_option maxHeartbeats 8000000 in
set_option maxRecDepth 100000 in
theorem c_find {h : Hn} (hn : Nrm h) {w t : Int} (hw0 : 0 ≤ w) (hw : w ≤ 65535) (ht : t ≤ 65535) {x y : Int} {ok : Bool} (eb : best h w t = (x, y, ok)) (W : World) :
    Calls Try.prog 54 #[.agg #[.int .i64 h.minW, .int .i64 h.minH, .int .i64 h.maxW, .int .i64 h.maxH, .int .i64 h.baseW, .int .i64 h.baseH, .int .i64 h.incW, .int .i64 h.incH, .int .i64 h.lowX, .int .i64 h.lowY, .int .i64 h.highX, .int .i64 h.highY], .int .i64 w, .int .i64 t] W fun e w' => e = .returned (.tuple #[.int .i64 x, .int .i64 y, .bool ok]) ∧ Below W.heap.size W w' := by
  have HN := Aside0.mk hn
  have HE := Aside0.mk eb
  have HQ := Aside0.mk (show (1 ≤ h.incW ∧ h.incW ≤ 65535 ∧ 0 ≤ h.baseW ∧ h.baseW ≤ 65535 ∧ h.minW ≤ 1099511627776) ∧ (1 ≤ h.incH ∧ h.incH ≤ 65535 ∧ 0 ≤ h.baseH ∧ h.baseH ≤ 65535) by have q := hn.1; unfold Nrm0 at q; omega)
  obtain ⟨⟨m0, b0⟩, e0⟩ : ∃ r, lastR h.minW (topP h.maxW) h.baseW h.incW w = r := ⟨_, rfl⟩
  have E0 := Aside0.mk e0
  have K0 := Aside0.mk (c_last e0 HQ.out.1.1 HQ.out.1.2.1 HQ.out.1.2.2.1 HQ.out.1.2.2.2.1 (by omega))
  clear hn eb e0
  go_enter Try.func54, Try.ntmps54
  go_wp2_with fail
  refine (c_wide h _).mono ?_
  rintro e w1 ⟨rfl, hb⟩
  have B3 := Aside0.mk (blk_below (blk_new W (.cells #[.int .i64 h.minW, .int .i64 h.minH, .int .i64 h.maxW, .int .i64 h.maxH, .int .i64 h.baseW, .int .i64 h.baseH, .int .i64 h.incW, .int .i64 h.incH, .int .i64 h.lowX, .int .i64 h.lowY, .int .i64 h.highX, .int .i64 h.highY] 25 (0, 0))) hb)
  have HB := Aside0.mk (below_step (below_alloc (Below.refl W.heap.size W) (.cells #[.int .i64 h.minW, .int .i64 h.minH, .int .i64 h.maxW, .int .i64 h.maxH, .int .i64 h.baseW, .int .i64 h.baseH, .int .i64 h.incW, .int .i64 h.incH, .int .i64 h.lowX, .int .i64 h.lowY, .int .i64 h.highX, .int .i64 h.highY] 25 (0, 0))) hb)
  clear hb
  go_wp2_with fail
  refine (K0.out _).mono ?_
  rintro e w2 ⟨rfl, hb⟩
  have B9 := Aside0.mk (blk_below (blk_new w1 (.cells #[.int .i64 h.minW, .int .i64 (topP h.maxW), .int .i64 h.baseW, .int .i64 h.incW] 71 (0, 0))) hb)
  replace B3 := Aside0.mk (blk_below (blk_alloc B3.out (.cells #[.int .i64 h.minW, .int .i64 (topP h.maxW), .int .i64 h.baseW, .int .i64 h.incW] 71 (0, 0))) hb)
  replace HB := Aside0.mk (below_step (below_alloc HB.out (.cells #[.int .i64 h.minW, .int .i64 (topP h.maxW), .int .i64 h.baseW, .int .i64 h.incW] 71 (0, 0))) hb)
  clear hb
  go_wp2_with fail
  go_loopg [10, 11] ((w + 2).toNat) (fun gk v10 v11 wr => ∃ (n m : Int) (b : Bool), v10 = .int .i64 m ∧ v11 = .bool b ∧ Aside0 (lastR h.minW (topP h.maxW) h.baseW h.incW n = (m, b) ∧ (n + 2).toNat ≤ gk ∧ n ≤ w ∧ -1 ≤ n ∧ NoneIn h (n + 1) w) ∧ Aside0 (wr.heap[W.heap.size]? = some (.cells #[.int .i64 h.minW, .int .i64 h.minH, .int .i64 h.maxW, .int .i64 h.maxH, .int .i64 h.baseW, .int .i64 h.baseH, .int .i64 h.incW, .int .i64 h.incH, .int .i64 h.lowX, .int .i64 h.lowY, .int .i64 h.highX, .int .i64 h.highY] 25 (0, 0))) ∧ Aside0 (wr.heap[w1.heap.size]? = some (.cells #[.int .i64 h.minW, .int .i64 (topP h.maxW), .int .i64 h.baseW, .int .i64 h.incW] 71 (0, 0))) ∧ Aside0 (Below W.heap.size W wr))
  case atStart => exact ⟨w, m0, b0, rfl, rfl, ⟨E0.out, Nat.le_refl _, Int.le_refl _, by omega, fun z _ a b => by omega⟩, B3, B9, HB⟩
  case round =>
    clear B3 B9 HB E0 K0
    obtain ⟨n, m, b, rfl, rfl, H, B3, B9, HB⟩ := hrel
    cases b
    · have N1 := Aside0.mk (down_no HN.out H.out.1 H.out.2.2.2.2)
      clear H
      obtain ⟨⟨m1, b1⟩, e1⟩ : ∃ r, firstR h.minW (topP h.maxW) h.baseW h.incW (w + 1) = r := ⟨_, rfl⟩
      have E1 := Aside0.mk e1
      have K1 := Aside0.mk (c_first e1 HQ.out.1.1 HQ.out.1.2.1 HQ.out.1.2.2.1 HQ.out.1.2.2.2.1 (by omega) HQ.out.1.2.2.2.2)
      clear e1
      have s0 : wr.cell? ⟨w1.heap.size, 0, none⟩ = some (.int .i64 (h.minW)) := (blk_cell B9.out 0).trans rfl
      have s1 : wr.cell? ⟨w1.heap.size, 1, none⟩ = some (.int .i64 (topP h.maxW)) := (blk_cell B9.out 1).trans rfl
      have s2 : wr.cell? ⟨w1.heap.size, 2, none⟩ = some (.int .i64 (h.baseW)) := (blk_cell B9.out 2).trans rfl
      have s3 : wr.cell? ⟨w1.heap.size, 3, none⟩ = some (.int .i64 (h.incW)) := (blk_cell B9.out 3).trans rfl
      go_wp2_with fail
      refine (K1.out _).mono ?_
      rintro e w3 ⟨rfl, hb⟩
      clear s0 s1 s2 s3
      replace B9 := Aside0.mk (blk_below B9.out hb)
      replace B3 := Aside0.mk (blk_below B3.out hb)
      replace HB := Aside0.mk (below_step HB.out hb)
      clear hb K1
      go_wp2_with fail
      obtain ⟨wo, hwo⟩ : ∃ wo : World, wo = wr := ⟨_, rfl⟩
      go_loopg [14, 15] ((65538 : Nat)) (fun gk v14 v15 wr => ∃ (n m : Int) (b : Bool), v14 = .int .i64 m ∧ v15 = .bool b ∧ Aside0 (firstR h.minW (topP h.maxW) h.baseW h.incW n = (m, b) ∧ (65538 - n).toNat ≤ gk ∧ w < n ∧ n ≤ 65537 ∧ NoneIn h 1 (n - 1)) ∧ Aside0 (wr.heap[W.heap.size]? = some (.cells #[.int .i64 h.minW, .int .i64 h.minH, .int .i64 h.maxW, .int .i64 h.maxH, .int .i64 h.baseW, .int .i64 h.baseH, .int .i64 h.incW, .int .i64 h.incH, .int .i64 h.lowX, .int .i64 h.lowY, .int .i64 h.highX, .int .i64 h.highY] 25 (0, 0))) ∧ Aside0 (wr.heap[w1.heap.size]? = some (.cells #[.int .i64 h.minW, .int .i64 (topP h.maxW), .int .i64 h.baseW, .int .i64 h.incW] 71 (0, 0))) ∧ Aside0 (Below W.heap.size W wr))
      case atStart => exact ⟨w + 1, m1, b1, rfl, rfl, ⟨E1.out, by omega, by omega, by omega, by rw [show w + 1 - 1 = w by omega]; exact N1.out⟩, B3, B9, HB⟩
      case round =>
        clear B3 B9 HB E1 N1
        obtain ⟨n, m, b, rfl, rfl, H, B3, B9, HB⟩ := hrel
        cases b
        · have r := HE.out
          rw [up_no HN.out H.out.1 H.out.2.2.2.2] at r
          injection r with r1 r2
          injection r2 with r2 r3
          subst r1 r2 r3
          clear HE H
          go_wp2
          go_ret3
          exact ⟨rfl, HB.out⟩
        · obtain ⟨⟨y1, b1⟩, e1⟩ : ∃ r, nearR (lowV h m) (mostV h m) h.baseH h.incH t = r := ⟨_, rfl⟩
          have U := up_yes (t := t) (y := y1) HN.out H.out.1 H.out.2.2.1 H.out.2.2.2.2
          obtain ⟨⟨u1, u2, u3⟩, u4, u5⟩ := U
          have R := hnear_r HN.out e1
          have KN := Aside0.mk (c_near e1 HQ.out.2.1 HQ.out.2.2.1 HQ.out.2.2.2.1 HQ.out.2.2.2.2 (by omega) (low_bd HN.out u1 u2))
          have KH := Aside0.mk (c_high HN.out u1 u2)
          have HI := H.out.2.1
          have HI2 := H.out.2.2.1
          clear e1 H
          cases b1
          · replace u5 := Aside0.mk (u5 (R.2 rfl))
            obtain ⟨⟨m2, b2⟩, e2⟩ : ∃ r, firstR h.minW (topP h.maxW) h.baseW h.incW (m + 1) = r := ⟨_, rfl⟩
            have E2 := Aside0.mk e2
            have K2 := Aside0.mk (c_first e2 HQ.out.1.1 HQ.out.1.2.1 HQ.out.1.2.2.1 HQ.out.1.2.2.2.1 (by omega) HQ.out.1.2.2.2.2)
            clear e2 u4 R
            have p0 : wr.cell? ⟨W.heap.size, 0, none⟩ = some (.int .i64 (h.minW)) := (blk_cell B3.out 0).trans rfl
            have p1 : wr.cell? ⟨W.heap.size, 1, none⟩ = some (.int .i64 (h.minH)) := (blk_cell B3.out 1).trans rfl
            have p2 : wr.cell? ⟨W.heap.size, 2, none⟩ = some (.int .i64 (h.maxW)) := (blk_cell B3.out 2).trans rfl
            have p3 : wr.cell? ⟨W.heap.size, 3, none⟩ = some (.int .i64 (h.maxH)) := (blk_cell B3.out 3).trans rfl
            have p4 : wr.cell? ⟨W.heap.size, 4, none⟩ = some (.int .i64 (h.baseW)) := (blk_cell B3.out 4).trans rfl
            have p5 : wr.cell? ⟨W.heap.size, 5, none⟩ = some (.int .i64 (h.baseH)) := (blk_cell B3.out 5).trans rfl
            have p6 : wr.cell? ⟨W.heap.size, 6, none⟩ = some (.int .i64 (h.incW)) := (blk_cell B3.out 6).trans rfl
            have p7 : wr.cell? ⟨W.heap.size, 7, none⟩ = some (.int .i64 (h.incH)) := (blk_cell B3.out 7).trans rfl
            have p8 : wr.cell? ⟨W.heap.size, 8, none⟩ = some (.int .i64 (h.lowX)) := (blk_cell B3.out 8).trans rfl
            have p9 : wr.cell? ⟨W.heap.size, 9, none⟩ = some (.int .i64 (h.lowY)) := (blk_cell B3.out 9).trans rfl
            have p10 : wr.cell? ⟨W.heap.size, 10, none⟩ = some (.int .i64 (h.highX)) := (blk_cell B3.out 10).trans rfl
            have p11 : wr.cell? ⟨W.heap.size, 11, none⟩ = some (.int .i64 (h.highY)) := (blk_cell B3.out 11).trans rfl
            go_wp2_with fail
            refine (KH.out _).mono ?_
            rintro e w4 ⟨rfl, hb⟩
            clear p0 p1 p2 p3 p4 p5 p6 p7 p8 p9 p10 p11
            replace B9 := Aside0.mk (blk_below B9.out hb)
            replace B3 := Aside0.mk (blk_below B3.out hb)
            replace HB := Aside0.mk (below_step HB.out hb)
            clear hb KH
            go_wp2_with fail
            refine (KN.out _).mono ?_
            rintro e w5 ⟨rfl, hb⟩
            replace B9 := Aside0.mk (blk_below B9.out hb)
            replace B3 := Aside0.mk (blk_below B3.out hb)
            replace HB := Aside0.mk (below_step HB.out hb)
            clear hb KN
            have s0 : w5.cell? ⟨w1.heap.size, 0, none⟩ = some (.int .i64 (h.minW)) := (blk_cell B9.out 0).trans rfl
            have s1 : w5.cell? ⟨w1.heap.size, 1, none⟩ = some (.int .i64 (topP h.maxW)) := (blk_cell B9.out 1).trans rfl
            have s2 : w5.cell? ⟨w1.heap.size, 2, none⟩ = some (.int .i64 (h.baseW)) := (blk_cell B9.out 2).trans rfl
            have s3 : w5.cell? ⟨w1.heap.size, 3, none⟩ = some (.int .i64 (h.incW)) := (blk_cell B9.out 3).trans rfl
            go_wp2_with fail
            refine (K2.out _).mono ?_
            rintro e w6 ⟨rfl, hb⟩
            clear s0 s1 s2 s3
            replace B9 := Aside0.mk (blk_below B9.out hb)
            replace B3 := Aside0.mk (blk_below B3.out hb)
            replace HB := Aside0.mk (below_step HB.out hb)
            clear hb K2
            go_wp2_with fail
            go_roundg (65538 - (m + 1)).toNat
            case measure => omega
            case rel => exact ⟨m + 1, m2, b2, rfl, rfl, ⟨E2.out, Nat.le_refl _, by omega, by omega, u5.out⟩, B3, B9, HB⟩
          · have r := HE.out
            rw [u4 (R.1 rfl)] at r
            injection r with r1 r2
            injection r2 with r2 r3
            subst r1 r2 r3
            clear HE u4 u5 R
            have p0 : wr.cell? ⟨W.heap.size, 0, none⟩ = some (.int .i64 (h.minW)) := (blk_cell B3.out 0).trans rfl
            have p1 : wr.cell? ⟨W.heap.size, 1, none⟩ = some (.int .i64 (h.minH)) := (blk_cell B3.out 1).trans rfl
            have p2 : wr.cell? ⟨W.heap.size, 2, none⟩ = some (.int .i64 (h.maxW)) := (blk_cell B3.out 2).trans rfl
            have p3 : wr.cell? ⟨W.heap.size, 3, none⟩ = some (.int .i64 (h.maxH)) := (blk_cell B3.out 3).trans rfl
            have p4 : wr.cell? ⟨W.heap.size, 4, none⟩ = some (.int .i64 (h.baseW)) := (blk_cell B3.out 4).trans rfl
            have p5 : wr.cell? ⟨W.heap.size, 5, none⟩ = some (.int .i64 (h.baseH)) := (blk_cell B3.out 5).trans rfl
            have p6 : wr.cell? ⟨W.heap.size, 6, none⟩ = some (.int .i64 (h.incW)) := (blk_cell B3.out 6).trans rfl
            have p7 : wr.cell? ⟨W.heap.size, 7, none⟩ = some (.int .i64 (h.incH)) := (blk_cell B3.out 7).trans rfl
            have p8 : wr.cell? ⟨W.heap.size, 8, none⟩ = some (.int .i64 (h.lowX)) := (blk_cell B3.out 8).trans rfl
            have p9 : wr.cell? ⟨W.heap.size, 9, none⟩ = some (.int .i64 (h.lowY)) := (blk_cell B3.out 9).trans rfl
            have p10 : wr.cell? ⟨W.heap.size, 10, none⟩ = some (.int .i64 (h.highX)) := (blk_cell B3.out 10).trans rfl
            have p11 : wr.cell? ⟨W.heap.size, 11, none⟩ = some (.int .i64 (h.highY)) := (blk_cell B3.out 11).trans rfl
            go_wp2_with fail
            refine (KH.out _).mono ?_
            rintro e w4 ⟨rfl, hb⟩
            clear p0 p1 p2 p3 p4 p5 p6 p7 p8 p9 p10 p11
            replace B9 := Aside0.mk (blk_below B9.out hb)
            replace B3 := Aside0.mk (blk_below B3.out hb)
            replace HB := Aside0.mk (below_step HB.out hb)
            clear hb KH
            go_wp2_with fail
            refine (KN.out _).mono ?_
            rintro e w5 ⟨rfl, hb⟩
            replace B9 := Aside0.mk (blk_below B9.out hb)
            replace B3 := Aside0.mk (blk_below B3.out hb)
            replace HB := Aside0.mk (below_step HB.out hb)
            clear hb KN
            go_wp2
            go_ret3
            exact ⟨rfl, HB.out⟩
    · obtain ⟨⟨y1, b1⟩, e1⟩ : ∃ r, nearR (lowV h m) (mostV h m) h.baseH h.incH t = r := ⟨_, rfl⟩
      have U := down_yes (t := t) (y := y1) HN.out H.out.1 H.out.2.2.1 H.out.2.2.2.2
      obtain ⟨⟨u1, u2, u3⟩, u4, u5⟩ := U
      have R := hnear_r HN.out e1
      have KN := Aside0.mk (c_near e1 HQ.out.2.1 HQ.out.2.2.1 HQ.out.2.2.2.1 HQ.out.2.2.2.2 (by omega) (low_bd HN.out u1 u2))
      have KH := Aside0.mk (c_high HN.out u1 u2)
      have HI := H.out.2.1
      have HI2 := H.out.2.2.1
      clear e1 H
      cases b1
      · replace u5 := Aside0.mk (u5 (R.2 rfl))
        obtain ⟨⟨m2, b2⟩, e2⟩ : ∃ r, lastR h.minW (topP h.maxW) h.baseW h.incW (m - 1) = r := ⟨_, rfl⟩
        have E2 := Aside0.mk e2
        have K2 := Aside0.mk (c_last e2 HQ.out.1.1 HQ.out.1.2.1 HQ.out.1.2.2.1 HQ.out.1.2.2.2.1 (by omega))
        clear e2 u4 R
        have p0 : wr.cell? ⟨W.heap.size, 0, none⟩ = some (.int .i64 (h.minW)) := (blk_cell B3.out 0).trans rfl
        have p1 : wr.cell? ⟨W.heap.size, 1, none⟩ = some (.int .i64 (h.minH)) := (blk_cell B3.out 1).trans rfl
        have p2 : wr.cell? ⟨W.heap.size, 2, none⟩ = some (.int .i64 (h.maxW)) := (blk_cell B3.out 2).trans rfl
        have p3 : wr.cell? ⟨W.heap.size, 3, none⟩ = some (.int .i64 (h.maxH)) := (blk_cell B3.out 3).trans rfl
        have p4 : wr.cell? ⟨W.heap.size, 4, none⟩ = some (.int .i64 (h.baseW)) := (blk_cell B3.out 4).trans rfl
        have p5 : wr.cell? ⟨W.heap.size, 5, none⟩ = some (.int .i64 (h.baseH)) := (blk_cell B3.out 5).trans rfl
        have p6 : wr.cell? ⟨W.heap.size, 6, none⟩ = some (.int .i64 (h.incW)) := (blk_cell B3.out 6).trans rfl
        have p7 : wr.cell? ⟨W.heap.size, 7, none⟩ = some (.int .i64 (h.incH)) := (blk_cell B3.out 7).trans rfl
        have p8 : wr.cell? ⟨W.heap.size, 8, none⟩ = some (.int .i64 (h.lowX)) := (blk_cell B3.out 8).trans rfl
        have p9 : wr.cell? ⟨W.heap.size, 9, none⟩ = some (.int .i64 (h.lowY)) := (blk_cell B3.out 9).trans rfl
        have p10 : wr.cell? ⟨W.heap.size, 10, none⟩ = some (.int .i64 (h.highX)) := (blk_cell B3.out 10).trans rfl
        have p11 : wr.cell? ⟨W.heap.size, 11, none⟩ = some (.int .i64 (h.highY)) := (blk_cell B3.out 11).trans rfl
        go_wp2_with fail
        refine (KH.out _).mono ?_
        rintro e w4 ⟨rfl, hb⟩
        clear p0 p1 p2 p3 p4 p5 p6 p7 p8 p9 p10 p11
        replace B9 := Aside0.mk (blk_below B9.out hb)
        replace B3 := Aside0.mk (blk_below B3.out hb)
        replace HB := Aside0.mk (below_step HB.out hb)
        clear hb KH
        go_wp2_with fail
        refine (KN.out _).mono ?_
        rintro e w5 ⟨rfl, hb⟩
        replace B9 := Aside0.mk (blk_below B9.out hb)
        replace B3 := Aside0.mk (blk_below B3.out hb)
        replace HB := Aside0.mk (below_step HB.out hb)
        clear hb KN
        have s0 : w5.cell? ⟨w1.heap.size, 0, none⟩ = some (.int .i64 (h.minW)) := (blk_cell B9.out 0).trans rfl
        have s1 : w5.cell? ⟨w1.heap.size, 1, none⟩ = some (.int .i64 (topP h.maxW)) := (blk_cell B9.out 1).trans rfl
        have s2 : w5.cell? ⟨w1.heap.size, 2, none⟩ = some (.int .i64 (h.baseW)) := (blk_cell B9.out 2).trans rfl
        have s3 : w5.cell? ⟨w1.heap.size, 3, none⟩ = some (.int .i64 (h.incW)) := (blk_cell B9.out 3).trans rfl
        go_wp2_with fail
        refine (K2.out _).mono ?_
        rintro e w6 ⟨rfl, hb⟩
        clear s0 s1 s2 s3
        replace B9 := Aside0.mk (blk_below B9.out hb)
        replace B3 := Aside0.mk (blk_below B3.out hb)
        replace HB := Aside0.mk (below_step HB.out hb)
        clear hb K2
        go_wp2_with fail
        go_roundg (m - 1 + 2).toNat
        case measure => omega
        case rel => exact ⟨m - 1, m2, b2, rfl, rfl, ⟨E2.out, Nat.le_refl _, by omega, by omega, u5.out⟩, B3, B9, HB⟩
      · have r := HE.out
        rw [u4 (R.1 rfl)] at r
        injection r with r1 r2
        injection r2 with r2 r3
        subst r1 r2 r3
        clear HE u4 u5 R
        have p0 : wr.cell? ⟨W.heap.size, 0, none⟩ = some (.int .i64 (h.minW)) := (blk_cell B3.out 0).trans rfl
        have p1 : wr.cell? ⟨W.heap.size, 1, none⟩ = some (.int .i64 (h.minH)) := (blk_cell B3.out 1).trans rfl
        have p2 : wr.cell? ⟨W.heap.size, 2, none⟩ = some (.int .i64 (h.maxW)) := (blk_cell B3.out 2).trans rfl
        have p3 : wr.cell? ⟨W.heap.size, 3, none⟩ = some (.int .i64 (h.maxH)) := (blk_cell B3.out 3).trans rfl
        have p4 : wr.cell? ⟨W.heap.size, 4, none⟩ = some (.int .i64 (h.baseW)) := (blk_cell B3.out 4).trans rfl
        have p5 : wr.cell? ⟨W.heap.size, 5, none⟩ = some (.int .i64 (h.baseH)) := (blk_cell B3.out 5).trans rfl
        have p6 : wr.cell? ⟨W.heap.size, 6, none⟩ = some (.int .i64 (h.incW)) := (blk_cell B3.out 6).trans rfl
        have p7 : wr.cell? ⟨W.heap.size, 7, none⟩ = some (.int .i64 (h.incH)) := (blk_cell B3.out 7).trans rfl
        have p8 : wr.cell? ⟨W.heap.size, 8, none⟩ = some (.int .i64 (h.lowX)) := (blk_cell B3.out 8).trans rfl
        have p9 : wr.cell? ⟨W.heap.size, 9, none⟩ = some (.int .i64 (h.lowY)) := (blk_cell B3.out 9).trans rfl
        have p10 : wr.cell? ⟨W.heap.size, 10, none⟩ = some (.int .i64 (h.highX)) := (blk_cell B3.out 10).trans rfl
        have p11 : wr.cell? ⟨W.heap.size, 11, none⟩ = some (.int .i64 (h.highY)) := (blk_cell B3.out 11).trans rfl
        go_wp2_with fail
        refine (KH.out _).mono ?_
        rintro e w4 ⟨rfl, hb⟩
        clear p0 p1 p2 p3 p4 p5 p6 p7 p8 p9 p10 p11
        replace B9 := Aside0.mk (blk_below B9.out hb)
        replace B3 := Aside0.mk (blk_below B3.out hb)
        replace HB := Aside0.mk (below_step HB.out hb)
        clear hb KH
        go_wp2_with fail
        refine (KN.out _).mono ?_
        rintro e w5 ⟨rfl, hb⟩
        replace B9 := Aside0.mk (blk_below B9.out hb)
        replace B3 := Aside0.mk (blk_below B3.out hb)
        replace HB := Aside0.mk (below_step HB.out hb)
        clear hb KN
        go_wp2
        go_ret3
        exact ⟨rfl, HB.out⟩
end Go.Proofs.Ytajpnmiblepmkaa.Sz
