/- FontSeen and FontShort: the laws' own functions, called with whatever arguments, answer true; nothing is changed. -/
import Derived.Test.YtpggmkgfknmldaaFontL
import Derived.RegionTactic
import Derived.Deep.QuietTactic
import Derived.BigQuiet
namespace Go.Proofs.Ytpggmkgfknmldaa.Font
open Go.RowKit
set_option linter.unusedVariables false
set_option linter.unusedSimpArgs false

def cnt (c : Int) : Nat → Int
  | 0 => 0
  | j + 1 => cnt c j + if bitsP c j = 0 then 0 else 1
def edgeB : Bool := (List.range 256).all fun c => (List.range 16).all fun r => Go.bits .and .u8 (bitsP (c : Int) (r : Int)) 129 == 0
theorem edgeB_true : edgeB = true := by kernel_rfl
def inkB : Bool := (List.range 256).all fun c => decide (cnt (c : Int) 16 > 0) == ((c : Int) != 32)
theorem inkB_true : inkB = true := by kernel_rfl
theorem edge_none (c : Int) (r : Nat) (h0 : 0 ≤ c) (h1 : c ≤ 255) (h2 : r < 16) : Go.bits .and .u8 (bitsP c r) 129 = 0 := by
  have h := edgeB_true
  unfold edgeB at h
  rw [List.all_eq_true] at h
  have hc := h c.toNat (by rw [List.mem_range]; omega)
  rw [List.all_eq_true] at hc
  have hr := hc r (by rw [List.mem_range]; omega)
  rw [beq_iff_eq, show ((c.toNat : Nat) : Int) = c by omega] at hr
  exact hr
theorem ink_eq (c : Int) (h0 : 0 ≤ c) (h1 : c ≤ 255) : (decide (0 < cnt c 16) == (c != 32)) = true := by
  have h := inkB_true
  unfold inkB at h
  rw [List.all_eq_true] at h
  have hc := h c.toNat (by rw [List.mem_range]; omega)
  rw [show ((c.toNat : Nat) : Int) = c by omega] at hc
  exact hc
theorem cnt_bound (c : Int) : ∀ j : Nat, 0 ≤ cnt c j ∧ cnt c j ≤ j
  | 0 => by simp [cnt]
  | j + 1 => by
    have := cnt_bound c j
    unfold cnt
    split <;> (constructor <;> omega)
theorem cnt_hit {c : Int} {j : Nat} (h : bitsP c j ≠ 0) : cnt c j + 1 = cnt c (j + 1) := by
  show _ = cnt c j + (if bitsP c j = 0 then 0 else 1)
  rw [if_neg h]
theorem cnt_miss {c : Int} {j : Nat} (h : bitsP c j = 0) : cnt c j = cnt c (j + 1) := by
  show _ = cnt c j + (if bitsP c j = 0 then 0 else 1)
  rw [if_pos h, Int.add_zero]

set_option maxHeartbeats 4000000 in
theorem fontseen_any (c : Int) (w : World) (hc : 0 ≤ c) (hc' : c ≤ 255) :
    Calls Try.prog 6 #[.int .u8 c] w fun e w' => e = .returned (.bool true) ∧ w = w' := by
  have B := Lib.hid (fun (row : Int) (w : World) => bits_any c row w hc hc')
  have b1 := fun w => bits_any c (-1) w hc hc'
  rw [show bitsP c (-1) = 0 by unfold bitsP; rw [if_pos (by decide)]] at b1
  have b2 := fun w => bits_any c 16 w hc hc'
  rw [show bitsP c 16 = 0 by unfold bitsP; rw [if_neg (by decide), if_pos (by decide)]] at b2
  have B1 := Lib.hid b1; have B2 := Lib.hid b2
  clear b1 b2
  go_enter Try.func6, Try.ntmps6
  go_wp2
  go_loop [3, 4] (fun p i => ∃ (j : Nat) (n : Int), j ≤ 16 ∧ n = cnt c j ∧ i = .int .i64 j ∧ p = .int .i64 n) (fun _ i => 16 - (intOf i).toNat)
  case atStart => exact ⟨0, 0, by omega, rfl, rfl, rfl⟩
  case round =>
    obtain ⟨j, n, hj, hn, rfl, rfl⟩ := hrel
    have nb := cnt_bound c j
    rw [← hn] at nb
    obtain ⟨nb1, nb2⟩ := nb
    have HN := Lib.hid hn
    clear hn
    by_cases hlt : j < 16
    · have he := edge_none c j hc hc' hlt
      obtain ⟨b, hb⟩ : ∃ b, b = bitsP c j := ⟨_, rfl⟩
      have BJ := B.out (j : Int)
      rw [← hb] at BJ he
      have BJ' := Lib.hid BJ
      clear BJ
      by_cases hz : b = 0
      · have hm := cnt_miss (c := c) (j := j) (by rw [← hb]; exact hz)
        rw [← HN.out] at hm
        have HM := Lib.hid hm
        subst hz
        clear hb hm he
        go_wp2_with fail
        refine (BJ'.out _).mono ?_
        rintro e w' ⟨rfl, rfl⟩
        go_wp2
        all_goals
          go_round
          case rel => exact ⟨j + 1, n, by omega, HM.out, by go_num, rfl⟩
          case measure => simp [intOf]; omega
      · have hm := cnt_hit (c := c) (j := j) (by rw [← hb]; exact hz)
        rw [← HN.out] at hm
        have HM := Lib.hid hm
        have hz' : (b == 0) = false := by simp [hz]
        have hz2 : (b != 0) = true := by simp [hz]
        clear hb hm
        go_wp2_with fail
        refine (BJ'.out _).mono ?_
        rintro e w' ⟨rfl, rfl⟩
        go_wp2
        all_goals
          go_round
          case rel => exact ⟨j + 1, n + 1, by omega, HM.out, by go_num, rfl⟩
          case measure => simp [intOf]; omega
    · obtain rfl : j = 16 := by omega
      have ik := ink_eq c hc hc'
      rw [← HN.out] at ik
      have IK := Lib.hid ik
      clear ik
      by_cases hq : c = 32
      · have hn0 : ¬ 0 < n := by have := IK.out; rw [hq] at this; simpa using this
        subst hq
        go_wp2_with fail
        refine (B1.out _).mono ?_
        rintro e w' ⟨rfl, rfl⟩
        go_wp2_with fail
        refine (B2.out _).mono ?_
        rintro e w' ⟨rfl, rfl⟩
        go_wp2_with fail
        refine (awake_any _).mono ?_
        rintro e w' ⟨rfl, rfl⟩
        go_wp2_with fail
        go_ret
        exact ⟨rfl, rfl⟩
      · have hq2 : (c != 32) = true := by simp [hq]
        have hn0 : 0 < n := by have := IK.out; rw [hq2] at this; simpa using this
        go_wp2_with fail
        refine (B1.out _).mono ?_
        rintro e w' ⟨rfl, rfl⟩
        go_wp2_with fail
        refine (B2.out _).mono ?_
        rintro e w' ⟨rfl, rfl⟩
        go_wp2_with fail
        refine (awake_any _).mono ?_
        rintro e w' ⟨rfl, rfl⟩
        go_wp2_with fail
        go_ret
        exact ⟨rfl, rfl⟩
theorem FontSeen_law (a0 : Int) (W : World) (w0 : (Lit.int .u8 a0).wf = true) :
    Calls Try.prog 6 #[.int .u8 a0] W fun e w' => e = .returned (.bool true) ∧ Below W.heap.size W w' :=
  (fontseen_any a0 W (u8_of w0).1 (u8_of w0).2).mono fun _ _ ⟨h1, h2⟩ => ⟨h1, h2 ▸ Below.refl _ _⟩
end Go.Proofs.Ytpggmkgfknmldaa.Font
