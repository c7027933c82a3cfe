/- Frames around clients: the contracts of Check, Frame and Inner; FloatFrames. -/
import Derived.Test.YtajpnmiblepmkaaFlFi

namespace Go.Proofs.Ytajpnmiblepmkaa.Fl
open Go.RowKit Go.Proofs.YtajpnmiblepmkaaW.PrintMore Go.Proofs.YtajpnmiblepmkaaW.PrintWords Go.Proofs.YtajpnmiblepmkaaW.PrintLast Go.Proofs.Ytajpnmiblepmkaa.Geo Go.Proofs.Ytajpnmiblepmkaa.Sz Go.Proofs.Ytajpnmiblepmkaa.Fl
set_option linter.unusedVariables false
set_option linter.unusedSimpArgs false
attribute [local go_sem] max2_int min2_int max_two min_two max_three min_three
attribute [local go_sem high] eqR

def chkI (g b t : Int) : Int := if styleB g b t = true then 0 else 1
theorem style_true {g b t : Int} : styleB g b t = true ↔ (0 ≤ g ∧ g ≤ 100) ∧ (0 ≤ b ∧ b ≤ 100) ∧ (0 ≤ t ∧ t ≤ 100) := by simp [styleB]; omega
def fine1 (n : Int) : Prop := 0 ≤ n ∧ n ≤ 100
set_option maxHeartbeats 4000000 in
theorem c_check (g b t : Int) (w : World) : Calls Try.prog 50 #[.agg #[.int .i64 g, .int .i64 b, .int .i64 t]] w fun e w' => e = .returned (.int .i64 (chkI g b t)) ∧ Below w.heap.size w w' := by
  obtain ⟨C, hC⟩ : ∃ C, C = chkI g b t := ⟨_, rfl⟩
  rw [← hC]
  have HC := Aside0.mk (show C = if (0 ≤ g ∧ g ≤ 100) ∧ (0 ≤ b ∧ b ≤ 100) ∧ (0 ≤ t ∧ t ≤ 100) then 0 else 1 by rw [hC]; unfold chkI; simp only [style_true])
  clear hC
  go_enter Try.func50, Try.ntmps50
  go_wp2_with fail
  go_loopg [13] (3 : Nat) (fun gk v13 wr => (v13 = .int .i64 0 ∧ gk = 3 ∧ wr = ((w.alloc (.cells #[.int .i64 g, .int .i64 b, .int .i64 t] 39 (0, 0))).alloc (.cells #[.int .i64 g, .int .i64 b, .int .i64 t] 3))) ∨ (v13 = .int .i64 1 ∧ gk = 2 ∧ wr = ((w.alloc (.cells #[.int .i64 g, .int .i64 b, .int .i64 t] 39 (0, 0))).alloc (.cells #[.int .i64 g, .int .i64 b, .int .i64 t] 3)) ∧ Aside0 (fine1 g)) ∨ (v13 = .int .i64 2 ∧ gk = 1 ∧ wr = ((w.alloc (.cells #[.int .i64 g, .int .i64 b, .int .i64 t] 39 (0, 0))).alloc (.cells #[.int .i64 g, .int .i64 b, .int .i64 t] 3)) ∧ Aside0 (fine1 g ∧ fine1 b)) ∨ (v13 = .int .i64 3 ∧ gk = 0 ∧ wr = ((w.alloc (.cells #[.int .i64 g, .int .i64 b, .int .i64 t] 39 (0, 0))).alloc (.cells #[.int .i64 g, .int .i64 b, .int .i64 t] 3)) ∧ Aside0 (fine1 g ∧ fine1 b ∧ fine1 t)))
  case atStart => exact Or.inl ⟨rfl, rfl, rfl⟩
  case round =>
    rcases hrel with ⟨rfl, rfl, rfl⟩ | ⟨rfl, rfl, rfl, HF⟩ | ⟨rfl, rfl, rfl, HF⟩ | ⟨rfl, rfl, rfl, HF⟩
    · by_cases c1 : g < 0
      · skip
        have eC : C = 1 := by rw [HC.out, if_neg (by omega)]
        subst eC
        go_wp2
        go_ret
        exact ⟨rfl, below_alloc (below_alloc (Below.refl _ _) _) _⟩
      by_cases c2 : 100 < g
      · skip
        have eC : C = 1 := by rw [HC.out, if_neg (by omega)]
        subst eC
        go_wp2
        go_ret
        exact ⟨rfl, below_alloc (below_alloc (Below.refl _ _) _) _⟩
      go_wp2_with fail
      go_roundg 2
      case measure => omega
      case rel => exact Or.inr (Or.inl ⟨rfl, rfl, rfl, ⟨⟨by omega, by omega⟩⟩⟩)
    · by_cases c1 : b < 0
      · skip
        have eC : C = 1 := by rw [HC.out, if_neg (by omega)]
        subst eC
        go_wp2
        go_ret
        exact ⟨rfl, below_alloc (below_alloc (Below.refl _ _) _) _⟩
      by_cases c2 : 100 < b
      · skip
        have eC : C = 1 := by rw [HC.out, if_neg (by omega)]
        subst eC
        go_wp2
        go_ret
        exact ⟨rfl, below_alloc (below_alloc (Below.refl _ _) _) _⟩
      go_wp2_with fail
      go_roundg 1
      case measure => omega
      case rel => exact Or.inr (Or.inr (Or.inl ⟨rfl, rfl, rfl, ⟨HF.out, ⟨by omega, by omega⟩⟩⟩))
    · by_cases c1 : t < 0
      · skip
        have eC : C = 1 := by rw [HC.out, if_neg (by omega)]
        subst eC
        go_wp2
        go_ret
        exact ⟨rfl, below_alloc (below_alloc (Below.refl _ _) _) _⟩
      by_cases c2 : 100 < t
      · skip
        have eC : C = 1 := by rw [HC.out, if_neg (by omega)]
        subst eC
        go_wp2
        go_ret
        exact ⟨rfl, below_alloc (below_alloc (Below.refl _ _) _) _⟩
      go_wp2_with fail
      go_roundg 0
      case measure => omega
      case rel => exact Or.inr (Or.inr (Or.inr ⟨rfl, rfl, rfl, ⟨HF.out.1, HF.out.2, ⟨by omega, by omega⟩⟩⟩))
    · have eC : C = 0 := by rw [HC.out, if_pos ⟨HF.out.1, HF.out.2.1, HF.out.2.2⟩]
      subst eC
      go_wp2
      go_ret
      exact ⟨rfl, below_alloc (below_alloc (Below.refl _ _) _) _⟩
set_option maxHeartbeats 4000000 in
theorem c_rcheck (g b t : Int) (w : World) : Calls Try.prog 51 #[.agg #[.int .i64 g, .int .i64 b, .int .i64 t]] w fun e w' => e = .returned (.int .i64 (chkI g b t)) ∧ Below w.heap.size w w' := by
  have HC : chkI g b t = if (0 ≤ g ∧ g ≤ 100) ∧ (0 ≤ b ∧ b ≤ 100) ∧ (0 ≤ t ∧ t ≤ 100) then 0 else 1 := by unfold chkI; simp only [style_true]
  rw [HC]
  clear HC
  by_cases c0 : g < 0
  · skip
    rw [if_neg (by omega)]
    go_enter Try.func51, Try.ntmps51
    go_wp2
    go_ret
    exact ⟨rfl, below_alloc (Below.refl _ _) _⟩
  by_cases c1 : 100 < g
  · skip
    rw [if_neg (by omega)]
    go_enter Try.func51, Try.ntmps51
    go_wp2
    go_ret
    exact ⟨rfl, below_alloc (Below.refl _ _) _⟩
  by_cases c2 : b < 0
  · skip
    rw [if_neg (by omega)]
    go_enter Try.func51, Try.ntmps51
    go_wp2
    go_ret
    exact ⟨rfl, below_alloc (Below.refl _ _) _⟩
  by_cases c3 : 100 < b
  · skip
    rw [if_neg (by omega)]
    go_enter Try.func51, Try.ntmps51
    go_wp2
    go_ret
    exact ⟨rfl, below_alloc (Below.refl _ _) _⟩
  by_cases c4 : t < 0
  · skip
    rw [if_neg (by omega)]
    go_enter Try.func51, Try.ntmps51
    go_wp2
    go_ret
    exact ⟨rfl, below_alloc (Below.refl _ _) _⟩
  by_cases c5 : 100 < t
  · skip
    rw [if_neg (by omega)]
    go_enter Try.func51, Try.ntmps51
    go_wp2
    go_ret
    exact ⟨rfl, below_alloc (Below.refl _ _) _⟩
  rw [if_pos (by omega)]
  go_enter Try.func51, Try.ntmps51
  go_wp2
  go_ret
  exact ⟨rfl, below_alloc (Below.refl _ _) _⟩
set_option maxHeartbeats 8000000 in
set_option maxRecDepth 100000 in
theorem c_frame (r : Rc) (g b t : Int) (W : World) : Calls Try.prog 22 #[.agg #[.int .i64 r.x, .int .i64 r.y, .int .i64 r.w, .int .i64 r.h], .agg #[.int .i64 g, .int .i64 b, .int .i64 t]] W fun e w' => e = .returned (.tuple #[.agg #[.int .i64 (frameP r g b t).x, .int .i64 (frameP r g b t).y, .int .i64 (frameP r g b t).w, .int .i64 (frameP r g b t).h], .bool (frameB r g b t)]) ∧ Below W.heap.size W w' := by
  obtain ⟨L, hL⟩ : ∃ L, L = frameP r g b t := ⟨_, rfl⟩
  obtain ⟨ok, hok⟩ : ∃ ok, ok = frameB r g b t := ⟨_, rfl⟩
  rw [← hL, ← hok]
  have K1 := c_gRight r
  have K2 := c_check g b t
  by_cases c : rightB r = true
  · rw [c] at K1
    by_cases s : styleB g b t = true
    · rw [show chkI g b t = 0 by unfold chkI; rw [if_pos s]] at K2
      have rr := rightB_true.1 c
      obtain ⟨⟨x1, x2, x3, x4⟩, y1, y2, y3, y4⟩ := rr
      obtain ⟨⟨s1, s2⟩, ⟨s3, s4⟩, s5, s6⟩ := style_true.1 s
      have K3 := c_gRight ⟨r.x - b, r.y - b - t, r.w + 2 * b, r.h + 2 * b + t⟩
      have eF : (⟨r.x - b, r.y - b - t, r.w + 2 * b, r.h + 2 * b + t⟩ : Rc) = frameR r b t := by unfold frameR; apply Rc.ext' <;> dsimp only <;> omega
      have eb : frameB r g b t = rightB (frameR r b t) := by unfold frameB; rw [c, s]; rfl
      rw [eb] at hok
      have eL : L = if ok = true then frameR r b t else z4 := by rw [hL]; unfold frameP; rw [eb, ← hok]
      rw [← eF] at eL hok
      rw [← hok] at K3
      replace K1 := Aside0.mk K1; replace K2 := Aside0.mk K2
      have K3' := Aside0.mk (show ∀ w, Calls Try.prog 18 #[.agg #[.int .i64 (r.x - b), .int .i64 (r.y - b - t), .int .i64 (r.w + 2 * b), .int .i64 (r.h + 2 * b + t)]] w (RetB ok w) from K3)
      have EL := Aside0.mk eL
      clear hL hok eF eb eL c s K3
      go_enter Try.func22, Try.ntmps22
      go_wp2_with fail
      refine (K1.out _).mono ?_
      rintro e w1 ⟨rfl, hb⟩
      have B2 := Aside0.mk (blk_below (g := W.heap.size) (o := .cells #[.int .i64 r.x, .int .i64 r.y, .int .i64 r.w, .int .i64 r.h] 23 (0, 0)) (by (repeat (first | exact new_at (by simp only [World.size_alloc, World.size_drew]; done) | refine blk_drew ?_ | refine blk_alloc ?_ _))) hb)
      have B3 := Aside0.mk (blk_below (g := W.heap.size + 1) (o := .cells #[.int .i64 g, .int .i64 b, .int .i64 t] 39 (0, 0)) (by (repeat (first | exact new_at (by simp only [World.size_alloc, World.size_drew]; done) | refine blk_drew ?_ | refine blk_alloc ?_ _))) hb)
      have B4 := Aside0.mk (blk_below (g := W.heap.size + 1 + 1) (o := .cells #[.int .i64 0, .int .i64 0, .int .i64 0, .int .i64 0] 23 (0, 0)) (by (repeat (first | exact new_at (by simp only [World.size_alloc, World.size_drew]; done) | refine blk_drew ?_ | refine blk_alloc ?_ _))) hb)
      have QB := Aside0.mk (below_step (w := W) (by (repeat (first | exact Below.refl _ _ | apply below_alloc))) hb)
      clear hb
      have v0 : w1.cell? ⟨W.heap.size + 1, 0, none⟩ = some (.int .i64 (g)) := (blk_cell B3.out 0).trans rfl
      have v1 : w1.cell? ⟨W.heap.size + 1, 1, none⟩ = some (.int .i64 (b)) := (blk_cell B3.out 1).trans rfl
      have v2 : w1.cell? ⟨W.heap.size + 1, 2, none⟩ = some (.int .i64 (t)) := (blk_cell B3.out 2).trans rfl
      go_wp2_with fail
      refine (K2.out _).mono ?_
      rintro e w2 ⟨rfl, hb⟩
      clear v0 v1 v2
      replace B2 := Aside0.mk (blk_below B2.out hb)
      replace B3 := Aside0.mk (blk_below B3.out hb)
      replace B4 := Aside0.mk (blk_below B4.out hb)
      replace QB := Aside0.mk (below_step (w := W) QB.out hb)
      clear hb
      have p0 : w2.cell? ⟨W.heap.size, 0, none⟩ = some (.int .i64 (r.x)) := (blk_cell B2.out 0).trans rfl
      have p1 : w2.cell? ⟨W.heap.size, 1, none⟩ = some (.int .i64 (r.y)) := (blk_cell B2.out 1).trans rfl
      have p2 : w2.cell? ⟨W.heap.size, 2, none⟩ = some (.int .i64 (r.w)) := (blk_cell B2.out 2).trans rfl
      have p3 : w2.cell? ⟨W.heap.size, 3, none⟩ = some (.int .i64 (r.h)) := (blk_cell B2.out 3).trans rfl
      have v0 : w2.cell? ⟨W.heap.size + 1, 0, none⟩ = some (.int .i64 (g)) := (blk_cell B3.out 0).trans rfl
      have v1 : w2.cell? ⟨W.heap.size + 1, 1, none⟩ = some (.int .i64 (b)) := (blk_cell B3.out 1).trans rfl
      have v2 : w2.cell? ⟨W.heap.size + 1, 2, none⟩ = some (.int .i64 (t)) := (blk_cell B3.out 2).trans rfl
      have q0 : w2.cell? ⟨W.heap.size + 1 + 1, 0, none⟩ = some (.int .i64 (0)) := (blk_cell B4.out 0).trans rfl
      have fq0 := blk_frozen B4.out 0
      have q1 : w2.cell? ⟨W.heap.size + 1 + 1, 1, none⟩ = some (.int .i64 (0)) := (blk_cell B4.out 1).trans rfl
      have fq1 := blk_frozen B4.out 1
      have q2 : w2.cell? ⟨W.heap.size + 1 + 1, 2, none⟩ = some (.int .i64 (0)) := (blk_cell B4.out 2).trans rfl
      have fq2 := blk_frozen B4.out 2
      have q3 : w2.cell? ⟨W.heap.size + 1 + 1, 3, none⟩ = some (.int .i64 (0)) := (blk_cell B4.out 3).trans rfl
      have fq3 := blk_frozen B4.out 3
      have HZ0 := Aside0.mk (show W.heap.size + 1 + 1 < w2.heap.size from blk_lt B4.out)
      go_wp2_with fail
      refine (K3'.out _).mono ?_
      rintro e w3 ⟨rfl, hb⟩
      clear p0 p1 p2 p3 v0 v1 v2 q0 q1 q2 q3 fq0 fq1 fq2 fq3
      have B6 := Aside0.mk (blk_below (blk_new w2 (.cells #[.int .i64 (r.x - b), .int .i64 (r.y - b - t), .int .i64 (r.w + 2 * b), .int .i64 (r.h + 2 * b + t)] 23 (0, 0))) hb)
      replace B4 := Aside0.mk (blk_below (blk_alloc B4.out (.cells #[.int .i64 (r.x - b), .int .i64 (r.y - b - t), .int .i64 (r.w + 2 * b), .int .i64 (r.h + 2 * b + t)] 23 (0, 0))) hb)
      have HZ : W.heap.size + 1 + 1 < w2.heap.size := by have := HZ0.out; omega
      replace QB := Aside0.mk (below_step (w := W) (below_alloc QB.out (.cells #[.int .i64 (r.x - b), .int .i64 (r.y - b - t), .int .i64 (r.w + 2 * b), .int .i64 (r.h + 2 * b + t)] 23 (0, 0))) hb)
      clear hb
      cases ok
      · have eL := EL.out
        rw [if_neg (by decide)] at eL
        subst eL
        have q0 : w3.cell? ⟨W.heap.size + 1 + 1, 0, none⟩ = some (.int .i64 (0)) := (blk_cell B4.out 0).trans rfl
        have fq0 := blk_frozen B4.out 0
        have q1 : w3.cell? ⟨W.heap.size + 1 + 1, 1, none⟩ = some (.int .i64 (0)) := (blk_cell B4.out 1).trans rfl
        have fq1 := blk_frozen B4.out 1
        have q2 : w3.cell? ⟨W.heap.size + 1 + 1, 2, none⟩ = some (.int .i64 (0)) := (blk_cell B4.out 2).trans rfl
        have fq2 := blk_frozen B4.out 2
        have q3 : w3.cell? ⟨W.heap.size + 1 + 1, 3, none⟩ = some (.int .i64 (0)) := (blk_cell B4.out 3).trans rfl
        have fq3 := blk_frozen B4.out 3
        go_wp2
        exact bodyPost_ret (v := .tuple #[.agg #[.int .i64 0, .int .i64 0, .int .i64 0, .int .i64 0], .bool false]) (by simp [results, Try.results22, go_sem, q0, fq0, q1, fq1, q2, fq2, q3, fq3]) rfl ⟨rfl, by (repeat (refine below_set ?_ (by omega))); exact QB.out⟩
      · have eL := EL.out
        rw [if_pos rfl] at eL
        subst eL
        have p0 : w3.cell? ⟨w2.heap.size, 0, none⟩ = some (.int .i64 (r.x - b)) := (blk_cell B6.out 0).trans rfl
        have p1 : w3.cell? ⟨w2.heap.size, 1, none⟩ = some (.int .i64 (r.y - b - t)) := (blk_cell B6.out 1).trans rfl
        have p2 : w3.cell? ⟨w2.heap.size, 2, none⟩ = some (.int .i64 (r.w + 2 * b)) := (blk_cell B6.out 2).trans rfl
        have p3 : w3.cell? ⟨w2.heap.size, 3, none⟩ = some (.int .i64 (r.h + 2 * b + t)) := (blk_cell B6.out 3).trans rfl
        have q0 : w3.cell? ⟨W.heap.size + 1 + 1, 0, none⟩ = some (.int .i64 (0)) := (blk_cell B4.out 0).trans rfl
        have fq0 := blk_frozen B4.out 0
        have q1 : w3.cell? ⟨W.heap.size + 1 + 1, 1, none⟩ = some (.int .i64 (0)) := (blk_cell B4.out 1).trans rfl
        have fq1 := blk_frozen B4.out 1
        have q2 : w3.cell? ⟨W.heap.size + 1 + 1, 2, none⟩ = some (.int .i64 (0)) := (blk_cell B4.out 2).trans rfl
        have fq2 := blk_frozen B4.out 2
        have q3 : w3.cell? ⟨W.heap.size + 1 + 1, 3, none⟩ = some (.int .i64 (0)) := (blk_cell B4.out 3).trans rfl
        have fq3 := blk_frozen B4.out 3
        go_wp2
        exact bodyPost_ret (v := .tuple #[.agg #[.int .i64 (r.x - b), .int .i64 (r.y - b - t), .int .i64 (r.w + 2 * b), .int .i64 (r.h + 2 * b + t)], .bool true]) (by simp [results, Try.results22, go_sem, q0, fq0, q1, fq1, q2, fq2, q3, fq3]) rfl ⟨rfl, by (repeat (refine below_set ?_ (by omega))); exact QB.out⟩
    · simp only [Bool.not_eq_true] at s
      rw [show chkI g b t = 1 by unfold chkI; rw [if_neg (by rw [s]; decide)]] at K2
      have eb : frameB r g b t = false := by unfold frameB; rw [c, s]; rfl
      have eL : L = z4 := by rw [hL]; unfold frameP; rw [eb]; rfl
      rw [eb] at hok
      subst eL hok
      replace K1 := Aside0.mk K1; replace K2 := Aside0.mk K2
      clear c s hL eb
      go_enter Try.func22, Try.ntmps22
      go_wp2_with fail
      refine (K1.out _).mono ?_
      rintro e w1 ⟨rfl, hb⟩
      have B2 := Aside0.mk (blk_below (g := W.heap.size) (o := .cells #[.int .i64 r.x, .int .i64 r.y, .int .i64 r.w, .int .i64 r.h] 23 (0, 0)) (by (repeat (first | exact new_at (by simp only [World.size_alloc, World.size_drew]; done) | refine blk_drew ?_ | refine blk_alloc ?_ _))) hb)
      have B3 := Aside0.mk (blk_below (g := W.heap.size + 1) (o := .cells #[.int .i64 g, .int .i64 b, .int .i64 t] 39 (0, 0)) (by (repeat (first | exact new_at (by simp only [World.size_alloc, World.size_drew]; done) | refine blk_drew ?_ | refine blk_alloc ?_ _))) hb)
      have B4 := Aside0.mk (blk_below (g := W.heap.size + 1 + 1) (o := .cells #[.int .i64 0, .int .i64 0, .int .i64 0, .int .i64 0] 23 (0, 0)) (by (repeat (first | exact new_at (by simp only [World.size_alloc, World.size_drew]; done) | refine blk_drew ?_ | refine blk_alloc ?_ _))) hb)
      have QB := Aside0.mk (below_step (w := W) (by (repeat (first | exact Below.refl _ _ | apply below_alloc))) hb)
      clear hb
      have v0 : w1.cell? ⟨W.heap.size + 1, 0, none⟩ = some (.int .i64 (g)) := (blk_cell B3.out 0).trans rfl
      have v1 : w1.cell? ⟨W.heap.size + 1, 1, none⟩ = some (.int .i64 (b)) := (blk_cell B3.out 1).trans rfl
      have v2 : w1.cell? ⟨W.heap.size + 1, 2, none⟩ = some (.int .i64 (t)) := (blk_cell B3.out 2).trans rfl
      go_wp2_with fail
      refine (K2.out _).mono ?_
      rintro e w2 ⟨rfl, hb⟩
      clear v0 v1 v2
      replace B2 := Aside0.mk (blk_below B2.out hb)
      replace B3 := Aside0.mk (blk_below B3.out hb)
      replace B4 := Aside0.mk (blk_below B4.out hb)
      replace QB := Aside0.mk (below_step (w := W) QB.out hb)
      clear hb
      have q0 : w2.cell? ⟨W.heap.size + 1 + 1, 0, none⟩ = some (.int .i64 (0)) := (blk_cell B4.out 0).trans rfl
      have fq0 := blk_frozen B4.out 0
      have q1 : w2.cell? ⟨W.heap.size + 1 + 1, 1, none⟩ = some (.int .i64 (0)) := (blk_cell B4.out 1).trans rfl
      have fq1 := blk_frozen B4.out 1
      have q2 : w2.cell? ⟨W.heap.size + 1 + 1, 2, none⟩ = some (.int .i64 (0)) := (blk_cell B4.out 2).trans rfl
      have fq2 := blk_frozen B4.out 2
      have q3 : w2.cell? ⟨W.heap.size + 1 + 1, 3, none⟩ = some (.int .i64 (0)) := (blk_cell B4.out 3).trans rfl
      have fq3 := blk_frozen B4.out 3
      go_wp2
      exact bodyPost_ret (v := .tuple #[.agg #[.int .i64 0, .int .i64 0, .int .i64 0, .int .i64 0], .bool false]) (by simp [results, Try.results22, go_sem, q0, fq0, q1, fq1, q2, fq2, q3, fq3]) rfl ⟨rfl, by (repeat (refine below_set ?_ (by omega))); exact QB.out⟩
  · simp only [Bool.not_eq_true] at c
    rw [c] at K1
    have eb : frameB r g b t = false := by unfold frameB; rw [c]; rfl
    have eL : L = z4 := by rw [hL]; unfold frameP; rw [eb]; rfl
    rw [eb] at hok
    subst eL hok
    replace K1 := Aside0.mk K1
    clear c hL eb K2
    go_enter Try.func22, Try.ntmps22
    go_wp2_with fail
    refine (K1.out _).mono ?_
    rintro e w1 ⟨rfl, hb⟩
    have B2 := Aside0.mk (blk_below (g := W.heap.size) (o := .cells #[.int .i64 r.x, .int .i64 r.y, .int .i64 r.w, .int .i64 r.h] 23 (0, 0)) (by (repeat (first | exact new_at (by simp only [World.size_alloc, World.size_drew]; done) | refine blk_drew ?_ | refine blk_alloc ?_ _))) hb)
    have B3 := Aside0.mk (blk_below (g := W.heap.size + 1) (o := .cells #[.int .i64 g, .int .i64 b, .int .i64 t] 39 (0, 0)) (by (repeat (first | exact new_at (by simp only [World.size_alloc, World.size_drew]; done) | refine blk_drew ?_ | refine blk_alloc ?_ _))) hb)
    have B4 := Aside0.mk (blk_below (g := W.heap.size + 1 + 1) (o := .cells #[.int .i64 0, .int .i64 0, .int .i64 0, .int .i64 0] 23 (0, 0)) (by (repeat (first | exact new_at (by simp only [World.size_alloc, World.size_drew]; done) | refine blk_drew ?_ | refine blk_alloc ?_ _))) hb)
    have QB := Aside0.mk (below_step (w := W) (by (repeat (first | exact Below.refl _ _ | apply below_alloc))) hb)
    clear hb
    have q0 : w1.cell? ⟨W.heap.size + 1 + 1, 0, none⟩ = some (.int .i64 (0)) := (blk_cell B4.out 0).trans rfl
    have fq0 := blk_frozen B4.out 0
    have q1 : w1.cell? ⟨W.heap.size + 1 + 1, 1, none⟩ = some (.int .i64 (0)) := (blk_cell B4.out 1).trans rfl
    have fq1 := blk_frozen B4.out 1
    have q2 : w1.cell? ⟨W.heap.size + 1 + 1, 2, none⟩ = some (.int .i64 (0)) := (blk_cell B4.out 2).trans rfl
    have fq2 := blk_frozen B4.out 2
    have q3 : w1.cell? ⟨W.heap.size + 1 + 1, 3, none⟩ = some (.int .i64 (0)) := (blk_cell B4.out 3).trans rfl
    have fq3 := blk_frozen B4.out 3
    go_wp2
    exact bodyPost_ret (v := .tuple #[.agg #[.int .i64 0, .int .i64 0, .int .i64 0, .int .i64 0], .bool false]) (by simp [results, Try.results22, go_sem, q0, fq0, q1, fq1, q2, fq2, q3, fq3]) rfl ⟨rfl, by (repeat (refine below_set ?_ (by omega))); exact QB.out⟩
set_option maxHeartbeats 8000000 in
set_option maxRecDepth 100000 in
theorem c_rframe (r : Rc) (g b t : Int) (W : World) : Calls Try.prog 23 #[.agg #[.int .i64 r.x, .int .i64 r.y, .int .i64 r.w, .int .i64 r.h], .agg #[.int .i64 g, .int .i64 b, .int .i64 t]] W fun e w' => e = .returned (.tuple #[.agg #[.int .i64 (frameP r g b t).x, .int .i64 (frameP r g b t).y, .int .i64 (frameP r g b t).w, .int .i64 (frameP r g b t).h], .bool (frameB r g b t)]) ∧ Below W.heap.size W w' := by
  obtain ⟨L, hL⟩ : ∃ L, L = frameP r g b t := ⟨_, rfl⟩
  obtain ⟨ok, hok⟩ : ∃ ok, ok = frameB r g b t := ⟨_, rfl⟩
  rw [← hL, ← hok]
  have K1 := c_rRight r
  have K2 := c_rcheck g b t
  by_cases c : rightB r = true
  · rw [c] at K1
    by_cases s : styleB g b t = true
    · rw [show chkI g b t = 0 by unfold chkI; rw [if_pos s]] at K2
      have rr := rightB_true.1 c
      obtain ⟨⟨x1, x2, x3, x4⟩, y1, y2, y3, y4⟩ := rr
      obtain ⟨⟨s1, s2⟩, ⟨s3, s4⟩, s5, s6⟩ := style_true.1 s
      have K3 := c_rRight ⟨r.x - b, r.y - b - t, r.w + b + b, r.h + b + b + t⟩
      have eF : (⟨r.x - b, r.y - b - t, r.w + b + b, r.h + b + b + t⟩ : Rc) = frameR r b t := by unfold frameR; apply Rc.ext' <;> dsimp only <;> omega
      have eb : frameB r g b t = rightB (frameR r b t) := by unfold frameB; rw [c, s]; rfl
      rw [eb] at hok
      have eL : L = if ok = true then frameR r b t else z4 := by rw [hL]; unfold frameP; rw [eb, ← hok]
      rw [← eF] at eL hok
      rw [← hok] at K3
      replace K1 := Aside0.mk K1; replace K2 := Aside0.mk K2
      have K3' := Aside0.mk (show ∀ w, Calls Try.prog 41 #[.agg #[.int .i64 (r.x - b), .int .i64 (r.y - b - t), .int .i64 (r.w + b + b), .int .i64 (r.h + b + b + t)]] w (RetB ok w) from K3)
      have EL := Aside0.mk eL
      clear hL hok eF eb eL c s K3
      go_enter Try.func23, Try.ntmps23
      go_wp2_with fail
      refine (K1.out _).mono ?_
      rintro e w1 ⟨rfl, hb⟩
      have B2 := Aside0.mk (blk_below (g := W.heap.size) (o := .cells #[.int .i64 r.x, .int .i64 r.y, .int .i64 r.w, .int .i64 r.h] 23 (0, 0)) (by (repeat (first | exact new_at (by simp only [World.size_alloc, World.size_drew]; done) | refine blk_drew ?_ | refine blk_alloc ?_ _))) hb)
      have B3 := Aside0.mk (blk_below (g := W.heap.size + 1) (o := .cells #[.int .i64 g, .int .i64 b, .int .i64 t] 39 (0, 0)) (by (repeat (first | exact new_at (by simp only [World.size_alloc, World.size_drew]; done) | refine blk_drew ?_ | refine blk_alloc ?_ _))) hb)
      have B4 := Aside0.mk (blk_below (g := W.heap.size + 1 + 1) (o := .cells #[.int .i64 0, .int .i64 0, .int .i64 0, .int .i64 0] 23 (0, 0)) (by (repeat (first | exact new_at (by simp only [World.size_alloc, World.size_drew]; done) | refine blk_drew ?_ | refine blk_alloc ?_ _))) hb)
      have QB := Aside0.mk (below_step (w := W) (by (repeat (first | exact Below.refl _ _ | apply below_alloc))) hb)
      clear hb
      have v0 : w1.cell? ⟨W.heap.size + 1, 0, none⟩ = some (.int .i64 (g)) := (blk_cell B3.out 0).trans rfl
      have v1 : w1.cell? ⟨W.heap.size + 1, 1, none⟩ = some (.int .i64 (b)) := (blk_cell B3.out 1).trans rfl
      have v2 : w1.cell? ⟨W.heap.size + 1, 2, none⟩ = some (.int .i64 (t)) := (blk_cell B3.out 2).trans rfl
      go_wp2_with fail
      refine (K2.out _).mono ?_
      rintro e w2 ⟨rfl, hb⟩
      clear v0 v1 v2
      replace B2 := Aside0.mk (blk_below B2.out hb)
      replace B3 := Aside0.mk (blk_below B3.out hb)
      replace B4 := Aside0.mk (blk_below B4.out hb)
      replace QB := Aside0.mk (below_step (w := W) QB.out hb)
      clear hb
      have p0 : w2.cell? ⟨W.heap.size, 0, none⟩ = some (.int .i64 (r.x)) := (blk_cell B2.out 0).trans rfl
      have p1 : w2.cell? ⟨W.heap.size, 1, none⟩ = some (.int .i64 (r.y)) := (blk_cell B2.out 1).trans rfl
      have p2 : w2.cell? ⟨W.heap.size, 2, none⟩ = some (.int .i64 (r.w)) := (blk_cell B2.out 2).trans rfl
      have p3 : w2.cell? ⟨W.heap.size, 3, none⟩ = some (.int .i64 (r.h)) := (blk_cell B2.out 3).trans rfl
      have v0 : w2.cell? ⟨W.heap.size + 1, 0, none⟩ = some (.int .i64 (g)) := (blk_cell B3.out 0).trans rfl
      have v1 : w2.cell? ⟨W.heap.size + 1, 1, none⟩ = some (.int .i64 (b)) := (blk_cell B3.out 1).trans rfl
      have v2 : w2.cell? ⟨W.heap.size + 1, 2, none⟩ = some (.int .i64 (t)) := (blk_cell B3.out 2).trans rfl
      have q0 : w2.cell? ⟨W.heap.size + 1 + 1, 0, none⟩ = some (.int .i64 (0)) := (blk_cell B4.out 0).trans rfl
      have fq0 := blk_frozen B4.out 0
      have q1 : w2.cell? ⟨W.heap.size + 1 + 1, 1, none⟩ = some (.int .i64 (0)) := (blk_cell B4.out 1).trans rfl
      have fq1 := blk_frozen B4.out 1
      have q2 : w2.cell? ⟨W.heap.size + 1 + 1, 2, none⟩ = some (.int .i64 (0)) := (blk_cell B4.out 2).trans rfl
      have fq2 := blk_frozen B4.out 2
      have q3 : w2.cell? ⟨W.heap.size + 1 + 1, 3, none⟩ = some (.int .i64 (0)) := (blk_cell B4.out 3).trans rfl
      have fq3 := blk_frozen B4.out 3
      have HZ0 := Aside0.mk (show W.heap.size + 1 + 1 < w2.heap.size from blk_lt B4.out)
      go_wp2_with fail
      refine (K3'.out _).mono ?_
      rintro e w3 ⟨rfl, hb⟩
      clear p0 p1 p2 p3 v0 v1 v2 q0 q1 q2 q3 fq0 fq1 fq2 fq3
      have B6 := Aside0.mk (blk_below (blk_new w2 (.cells #[.int .i64 (r.x - b), .int .i64 (r.y - b - t), .int .i64 (r.w + b + b), .int .i64 (r.h + b + b + t)] 23 (0, 0))) hb)
      replace B4 := Aside0.mk (blk_below (blk_alloc B4.out (.cells #[.int .i64 (r.x - b), .int .i64 (r.y - b - t), .int .i64 (r.w + b + b), .int .i64 (r.h + b + b + t)] 23 (0, 0))) hb)
      have HZ : W.heap.size + 1 + 1 < w2.heap.size := by have := HZ0.out; omega
      replace QB := Aside0.mk (below_step (w := W) (below_alloc QB.out (.cells #[.int .i64 (r.x - b), .int .i64 (r.y - b - t), .int .i64 (r.w + b + b), .int .i64 (r.h + b + b + t)] 23 (0, 0))) hb)
      clear hb
      cases ok
      · have eL := EL.out
        rw [if_neg (by decide)] at eL
        subst eL
        have q0 : w3.cell? ⟨W.heap.size + 1 + 1, 0, none⟩ = some (.int .i64 (0)) := (blk_cell B4.out 0).trans rfl
        have fq0 := blk_frozen B4.out 0
        have q1 : w3.cell? ⟨W.heap.size + 1 + 1, 1, none⟩ = some (.int .i64 (0)) := (blk_cell B4.out 1).trans rfl
        have fq1 := blk_frozen B4.out 1
        have q2 : w3.cell? ⟨W.heap.size + 1 + 1, 2, none⟩ = some (.int .i64 (0)) := (blk_cell B4.out 2).trans rfl
        have fq2 := blk_frozen B4.out 2
        have q3 : w3.cell? ⟨W.heap.size + 1 + 1, 3, none⟩ = some (.int .i64 (0)) := (blk_cell B4.out 3).trans rfl
        have fq3 := blk_frozen B4.out 3
        go_wp2
        exact bodyPost_ret (v := .tuple #[.agg #[.int .i64 0, .int .i64 0, .int .i64 0, .int .i64 0], .bool false]) (by simp [results, Try.results23, go_sem, q0, fq0, q1, fq1, q2, fq2, q3, fq3]) rfl ⟨rfl, by (repeat (refine below_set ?_ (by omega))); exact QB.out⟩
      · have eL := EL.out
        rw [if_pos rfl] at eL
        subst eL
        have p0 : w3.cell? ⟨w2.heap.size, 0, none⟩ = some (.int .i64 (r.x - b)) := (blk_cell B6.out 0).trans rfl
        have p1 : w3.cell? ⟨w2.heap.size, 1, none⟩ = some (.int .i64 (r.y - b - t)) := (blk_cell B6.out 1).trans rfl
        have p2 : w3.cell? ⟨w2.heap.size, 2, none⟩ = some (.int .i64 (r.w + b + b)) := (blk_cell B6.out 2).trans rfl
        have p3 : w3.cell? ⟨w2.heap.size, 3, none⟩ = some (.int .i64 (r.h + b + b + t)) := (blk_cell B6.out 3).trans rfl
        have q0 : w3.cell? ⟨W.heap.size + 1 + 1, 0, none⟩ = some (.int .i64 (0)) := (blk_cell B4.out 0).trans rfl
        have fq0 := blk_frozen B4.out 0
        have q1 : w3.cell? ⟨W.heap.size + 1 + 1, 1, none⟩ = some (.int .i64 (0)) := (blk_cell B4.out 1).trans rfl
        have fq1 := blk_frozen B4.out 1
        have q2 : w3.cell? ⟨W.heap.size + 1 + 1, 2, none⟩ = some (.int .i64 (0)) := (blk_cell B4.out 2).trans rfl
        have fq2 := blk_frozen B4.out 2
        have q3 : w3.cell? ⟨W.heap.size + 1 + 1, 3, none⟩ = some (.int .i64 (0)) := (blk_cell B4.out 3).trans rfl
        have fq3 := blk_frozen B4.out 3
        go_wp2
        exact bodyPost_ret (v := .tuple #[.agg #[.int .i64 (r.x - b), .int .i64 (r.y - b - t), .int .i64 (r.w + b + b), .int .i64 (r.h + b + b + t)], .bool true]) (by simp [results, Try.results23, go_sem, q0, fq0, q1, fq1, q2, fq2, q3, fq3]) rfl ⟨rfl, by (repeat (refine below_set ?_ (by omega))); exact QB.out⟩
    · simp only [Bool.not_eq_true] at s
      rw [show chkI g b t = 1 by unfold chkI; rw [if_neg (by rw [s]; decide)]] at K2
      have eb : frameB r g b t = false := by unfold frameB; rw [c, s]; rfl
      have eL : L = z4 := by rw [hL]; unfold frameP; rw [eb]; rfl
      rw [eb] at hok
      subst eL hok
      replace K1 := Aside0.mk K1; replace K2 := Aside0.mk K2
      clear c s hL eb
      go_enter Try.func23, Try.ntmps23
      go_wp2_with fail
      refine (K1.out _).mono ?_
      rintro e w1 ⟨rfl, hb⟩
      have B2 := Aside0.mk (blk_below (g := W.heap.size) (o := .cells #[.int .i64 r.x, .int .i64 r.y, .int .i64 r.w, .int .i64 r.h] 23 (0, 0)) (by (repeat (first | exact new_at (by simp only [World.size_alloc, World.size_drew]; done) | refine blk_drew ?_ | refine blk_alloc ?_ _))) hb)
      have B3 := Aside0.mk (blk_below (g := W.heap.size + 1) (o := .cells #[.int .i64 g, .int .i64 b, .int .i64 t] 39 (0, 0)) (by (repeat (first | exact new_at (by simp only [World.size_alloc, World.size_drew]; done) | refine blk_drew ?_ | refine blk_alloc ?_ _))) hb)
      have B4 := Aside0.mk (blk_below (g := W.heap.size + 1 + 1) (o := .cells #[.int .i64 0, .int .i64 0, .int .i64 0, .int .i64 0] 23 (0, 0)) (by (repeat (first | exact new_at (by simp only [World.size_alloc, World.size_drew]; done) | refine blk_drew ?_ | refine blk_alloc ?_ _))) hb)
      have QB := Aside0.mk (below_step (w := W) (by (repeat (first | exact Below.refl _ _ | apply below_alloc))) hb)
      clear hb
      have v0 : w1.cell? ⟨W.heap.size + 1, 0, none⟩ = some (.int .i64 (g)) := (blk_cell B3.out 0).trans rfl
      have v1 : w1.cell? ⟨W.heap.size + 1, 1, none⟩ = some (.int .i64 (b)) := (blk_cell B3.out 1).trans rfl
      have v2 : w1.cell? ⟨W.heap.size + 1, 2, none⟩ = some (.int .i64 (t)) := (blk_cell B3.out 2).trans rfl
      go_wp2_with fail
      refine (K2.out _).mono ?_
      rintro e w2 ⟨rfl, hb⟩
      clear v0 v1 v2
      replace B2 := Aside0.mk (blk_below B2.out hb)
      replace B3 := Aside0.mk (blk_below B3.out hb)
      replace B4 := Aside0.mk (blk_below B4.out hb)
      replace QB := Aside0.mk (below_step (w := W) QB.out hb)
      clear hb
      have q0 : w2.cell? ⟨W.heap.size + 1 + 1, 0, none⟩ = some (.int .i64 (0)) := (blk_cell B4.out 0).trans rfl
      have fq0 := blk_frozen B4.out 0
      have q1 : w2.cell? ⟨W.heap.size + 1 + 1, 1, none⟩ = some (.int .i64 (0)) := (blk_cell B4.out 1).trans rfl
      have fq1 := blk_frozen B4.out 1
      have q2 : w2.cell? ⟨W.heap.size + 1 + 1, 2, none⟩ = some (.int .i64 (0)) := (blk_cell B4.out 2).trans rfl
      have fq2 := blk_frozen B4.out 2
      have q3 : w2.cell? ⟨W.heap.size + 1 + 1, 3, none⟩ = some (.int .i64 (0)) := (blk_cell B4.out 3).trans rfl
      have fq3 := blk_frozen B4.out 3
      go_wp2
      exact bodyPost_ret (v := .tuple #[.agg #[.int .i64 0, .int .i64 0, .int .i64 0, .int .i64 0], .bool false]) (by simp [results, Try.results23, go_sem, q0, fq0, q1, fq1, q2, fq2, q3, fq3]) rfl ⟨rfl, by (repeat (refine below_set ?_ (by omega))); exact QB.out⟩
  · simp only [Bool.not_eq_true] at c
    rw [c] at K1
    have eb : frameB r g b t = false := by unfold frameB; rw [c]; rfl
    have eL : L = z4 := by rw [hL]; unfold frameP; rw [eb]; rfl
    rw [eb] at hok
    subst eL hok
    replace K1 := Aside0.mk K1
    clear c hL eb K2
    go_enter Try.func23, Try.ntmps23
    go_wp2_with fail
    refine (K1.out _).mono ?_
    rintro e w1 ⟨rfl, hb⟩
    have B2 := Aside0.mk (blk_below (g := W.heap.size) (o := .cells #[.int .i64 r.x, .int .i64 r.y, .int .i64 r.w, .int .i64 r.h] 23 (0, 0)) (by (repeat (first | exact new_at (by simp only [World.size_alloc, World.size_drew]; done) | refine blk_drew ?_ | refine blk_alloc ?_ _))) hb)
    have B3 := Aside0.mk (blk_below (g := W.heap.size + 1) (o := .cells #[.int .i64 g, .int .i64 b, .int .i64 t] 39 (0, 0)) (by (repeat (first | exact new_at (by simp only [World.size_alloc, World.size_drew]; done) | refine blk_drew ?_ | refine blk_alloc ?_ _))) hb)
    have B4 := Aside0.mk (blk_below (g := W.heap.size + 1 + 1) (o := .cells #[.int .i64 0, .int .i64 0, .int .i64 0, .int .i64 0] 23 (0, 0)) (by (repeat (first | exact new_at (by simp only [World.size_alloc, World.size_drew]; done) | refine blk_drew ?_ | refine blk_alloc ?_ _))) hb)
    have QB := Aside0.mk (below_step (w := W) (by (repeat (first | exact Below.refl _ _ | apply below_alloc))) hb)
    clear hb
    have q0 : w1.cell? ⟨W.heap.size + 1 + 1, 0, none⟩ = some (.int .i64 (0)) := (blk_cell B4.out 0).trans rfl
    have fq0 := blk_frozen B4.out 0
    have q1 : w1.cell? ⟨W.heap.size + 1 + 1, 1, none⟩ = some (.int .i64 (0)) := (blk_cell B4.out 1).trans rfl
    have fq1 := blk_frozen B4.out 1
    have q2 : w1.cell? ⟨W.heap.size + 1 + 1, 2, none⟩ = some (.int .i64 (0)) := (blk_cell B4.out 2).trans rfl
    have fq2 := blk_frozen B4.out 2
    have q3 : w1.cell? ⟨W.heap.size + 1 + 1, 3, none⟩ = some (.int .i64 (0)) := (blk_cell B4.out 3).trans rfl
    have fq3 := blk_frozen B4.out 3
    go_wp2
    exact bodyPost_ret (v := .tuple #[.agg #[.int .i64 0, .int .i64 0, .int .i64 0, .int .i64 0], .bool false]) (by simp [results, Try.results23, go_sem, q0, fq0, q1, fq1, q2, fq2, q3, fq3]) rfl ⟨rfl, by (repeat (refine below_set ?_ (by omega))); exact QB.out⟩
end Go.Proofs.Ytajpnmiblepmkaa.Fl
