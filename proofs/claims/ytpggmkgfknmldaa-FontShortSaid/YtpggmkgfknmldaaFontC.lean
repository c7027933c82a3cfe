/- The contracts of font and of its reference: what each call answers, in plain numbers and bytes. -/
import Derived.Test.YtpggmkgfknmldaaProg
import Derived.WalkKit
import Derived.WalkSpells
import Derived.WalkLawsBesides
import Derived.Laws.BitsLemmas
import Derived.IntWalk
import Derived.Lib.Strings
import Derived.Lib.Hide
namespace Go.Proofs.Ytpggmkgfknmldaa.Font
open Go.RowKit
set_option linter.unusedVariables false
set_option linter.unusedSimpArgs false

def box (row : Int) : Int := if row = 2 then 126 else if row = 13 then 126 else if 2 < row then (if row < 13 then 66 else 0) else 0
/-- A sign of its own, in numbers. -/
def glyph (c row : Int) : Int := Go.bits .or .u8 (Go.bits .and .i64 (wrap64 (c * 31 + row * 53 + wrap64 (c / 8 * row))) 126 % 256) (2 ^ (1 + (c + row) % 6).toNat % 256)
def bitsP (c row : Int) : Int := if row < 0 then 0 else if 16 ≤ row then 0 else if c = 32 then 0 else if 32 < c ∧ c < 127 then (if row = 0 then 0 else if row = 15 then 0 else glyph c row) else box row

set_option maxHeartbeats 400000 in
theorem sign_any (c : Int) (w : World) :
    Calls Try.prog 23 #[.int .u8 c] w fun e w' => e = .returned (.bool (decide (32 < c) && decide (c < 127))) ∧ w = w' := by
  by_cases h1 : 32 < c <;> by_cases h2 : c < 127
  all_goals
    go_enter Try.func23, Try.ntmps23
    go_wp2
    go_ret
    exact ⟨by simp [h1, h2], rfl⟩

set_option maxHeartbeats 400000 in
theorem box_any (row : Int) (w : World) :
    Calls Try.prog 24 #[.int .i64 row] w fun e w' => e = .returned (.int .u8 (box row)) ∧ w = w' := by
  unfold box
  by_cases h1 : row = 2
  · subst h1
    go_enter Try.func24, Try.ntmps24
    go_wp2
    go_ret
    exact ⟨rfl, rfl⟩
  by_cases h2 : row = 13
  · subst h2
    go_enter Try.func24, Try.ntmps24
    go_wp2
    go_ret
    exact ⟨rfl, rfl⟩
  rw [if_neg h1, if_neg h2]
  have e1 : (row == 2) = false := by simp [h1]
  have e2 : (row == 13) = false := by simp [h2]
  by_cases h3 : 2 < row <;> by_cases h4 : row < 13
  all_goals
    go_enter Try.func24, Try.ntmps24
    go_wp2
    all_goals first | done | (go_ret; exact ⟨rfl, rfl⟩)

set_option maxHeartbeats 1000000 in
theorem bits_glyph (c row : Int) (w : World) (h1 : 32 < c) (h2 : c < 127) (h3 : 0 < row) (h4 : row < 15) :
    Calls Try.prog 9 #[.int .u8 c, .int .i64 row] w fun e w' => e = .returned (.int .u8 (glyph c row)) ∧ w = w' := by
  have e0 : (c == 32) = false := by simp; omega
  have e1 : (row == 0) = false := by simp; omega
  have e2 : (row == 15) = false := by simp; omega
  have b1 : 0 ≤ c := by omega
  have b2 : c ≤ 255 := by omega
  have b3 : 0 ≤ row := by omega
  have b4 : row ≤ 15 := by omega
  have b5 : row < 16 := by omega
  go_enter Try.func9, Try.ntmps9
  go_wp2_with fail
  refine (sign_any c _).mono ?_
  rintro e w' ⟨rfl, rfl⟩
  go_wp2
  go_ret
  exact ⟨rfl, rfl⟩
set_option maxHeartbeats 2000000 in
theorem bits_any (c row : Int) (w : World) (hc : 0 ≤ c) (hc' : c ≤ 255) :
    Calls Try.prog 9 #[.int .u8 c, .int .i64 row] w fun e w' => e = .returned (.int .u8 (bitsP c row)) ∧ w = w' := by
  unfold bitsP
  by_cases r1 : row < 0
  · rw [if_pos r1]
    go_enter Try.func9, Try.ntmps9
    go_wp2
    go_ret
    exact ⟨rfl, rfl⟩
  by_cases r2 : 16 ≤ row
  · rw [if_neg r1, if_pos r2]
    go_enter Try.func9, Try.ntmps9
    go_wp2
    go_ret
    exact ⟨rfl, rfl⟩
  rw [if_neg r1, if_neg r2]
  have r3 : 0 ≤ row := by omega
  have r4 : row < 16 := by omega
  clear r1 r2
  by_cases c1 : c = 32
  · rw [if_pos c1]
    subst c1
    go_enter Try.func9, Try.ntmps9
    go_wp2
    go_ret
    exact ⟨rfl, rfl⟩
  rw [if_neg c1]
  have e0 : (c == 32) = false := by simp [c1]
  by_cases c2 : 32 < c ∧ c < 127
  · obtain ⟨c3, c4⟩ := c2
    rw [if_pos ⟨c3, c4⟩]
    by_cases r5 : row = 0
    · rw [if_pos r5]
      subst r5
      clear c1
      go_enter Try.func9, Try.ntmps9
      go_wp2_with fail
      refine (sign_any c _).mono ?_
      rintro e w' ⟨rfl, rfl⟩
      go_wp2
      go_ret
      exact ⟨rfl, rfl⟩
    rw [if_neg r5]
    by_cases r6 : row = 15
    · rw [if_pos r6]
      subst r6
      clear c1 r5
      go_enter Try.func9, Try.ntmps9
      go_wp2_with fail
      refine (sign_any c _).mono ?_
      rintro e w' ⟨rfl, rfl⟩
      go_wp2
      go_ret
      exact ⟨rfl, rfl⟩
    rw [if_neg r6]
    exact bits_glyph c row w c3 c4 (by omega) (by omega)
  · rw [if_neg c2]
    have s0 : (decide (32 < c) && decide (c < 127)) = false := by
      rw [Bool.eq_false_iff]; simp; omega
    have cs := sign_any c
    rw [s0] at cs
    clear c1 c2 s0
    go_enter Try.func9, Try.ntmps9
    go_wp2_with fail
    refine (cs _).mono ?_
    rintro e w' ⟨rfl, rfl⟩
    clear cs
    go_wp2_with fail
    refine (box_any row _).mono ?_
    rintro e w' ⟨rfl, rfl⟩
    go_wp2
    go_ret
    exact ⟨rfl, rfl⟩

set_option maxHeartbeats 400000 in
theorem width_any (s : ByteArray) (w : World) (hs : s.size ≤ 140737488351232) :
    Calls Try.prog 12 #[.string s] w fun e w' => e = .returned (.int .i64 (8 * s.size)) ∧ w = w' := by
  go_enter Try.func12, Try.ntmps12
  go_wp2
  go_ret
  exact ⟨rfl, rfl⟩

def dots : ByteArray := ⟨#[46, 46, 46]⟩
def fitP (s : ByteArray) (n : Int) : ByteArray := if n < 0 then ⟨#[]⟩ else if n / 8 < 3 ∧ n / 8 < s.size then ⟨#[]⟩ else if n / 8 ≥ s.size then s else s.extract 0 (n / 8 - 3).toNat ++ dots
set_option maxHeartbeats 1000000 in
theorem fit_any (s : ByteArray) (n : Int) (w : World) (hs : s.size ≤ 140737488351232) (hn : n ≤ 9223372036854775807) :
    Calls Try.prog 13 #[.string s, .int .i64 n] w fun e w' => e = .returned (.string (fitP s n)) ∧ w = w' := by
  unfold fitP
  by_cases h1 : n < 0
  · rw [if_pos h1]
    go_enter Try.func13, Try.ntmps13
    go_wp2
    go_ret
    exact ⟨rfl, rfl⟩
  have h2 : 0 ≤ n := by omega
  rw [if_neg h1]
  clear h1
  by_cases h3 : n / 8 < 3
  · by_cases h4 : n / 8 < (s.size : Int)
    · rw [if_pos ⟨h3, h4⟩]
      go_enter Try.func13, Try.ntmps13
      go_wp2
      go_ret
      exact ⟨rfl, rfl⟩
    · rw [if_neg (fun h => h4 h.2), if_pos (by omega)]
      go_enter Try.func13, Try.ntmps13
      go_wp2
      go_ret
      exact ⟨rfl, rfl⟩
  · rw [if_neg (fun h => h3 h.1)]
    by_cases h4 : n / 8 < (s.size : Int)
    · rw [if_neg (by omega)]
      go_enter Try.func13, Try.ntmps13
      go_wp2
      go_ret
      exact ⟨rfl, rfl⟩
    · rw [if_pos (by omega)]
      go_enter Try.func13, Try.ntmps13
      go_wp2
      go_ret
      exact ⟨rfl, rfl⟩

set_option maxHeartbeats 1000000 in
theorem rfit_any (s : ByteArray) (n : Int) (w : World) (hs : s.size ≤ 140737488351232) (hn : n ≤ 9223372036854775807) :
    Calls Try.prog 14 #[.string s, .int .i64 n] w fun e w' => e = .returned (.string (fitP s n)) ∧ w = w' := by
  unfold fitP
  by_cases h1 : n < 0
  · rw [if_pos h1]
    go_enter Try.func14, Try.ntmps14
    go_wp2
    go_ret
    exact ⟨rfl, rfl⟩
  have h2 : 0 ≤ n := by omega
  rw [if_neg h1]
  clear h1
  by_cases h4 : n / 8 < (s.size : Int)
  · by_cases h3 : n / 8 < 3
    · rw [if_pos ⟨h3, h4⟩]
      go_enter Try.func14, Try.ntmps14
      go_wp2
      go_ret
      exact ⟨rfl, rfl⟩
    · rw [if_neg (fun h => h3 h.1), if_neg (by omega)]
      go_enter Try.func14, Try.ntmps14
      go_wp2
      go_ret
      exact ⟨rfl, rfl⟩
  · rw [if_neg (fun h => h4 h.2), if_pos (by omega)]
    go_enter Try.func14, Try.ntmps14
    go_wp2
    go_ret
    exact ⟨rfl, rfl⟩

/- The examples of the chapter. -/
set_option maxHeartbeats 2000000 in
theorem awake_any (w : World) : Calls Try.prog 11 #[] w fun e w' => e = .returned (.bool true) ∧ w = w' := by
  have f1 : ∀ w, Calls Try.prog 13 #[.string ⟨#[97, 98, 99, 100, 101, 102]⟩, .int .i64 40] w fun e w' => e = .returned (.string ⟨#[97, 98, 46, 46, 46]⟩) ∧ w = w' := fun w => by
    have := fit_any ⟨#[97, 98, 99, 100, 101, 102]⟩ 40 w (by decide) (by decide)
    rw [show fitP ⟨#[97, 98, 99, 100, 101, 102]⟩ 40 = ⟨#[97, 98, 46, 46, 46]⟩ by kernel_rfl] at this
    exact this
  have f2 : ∀ w, Calls Try.prog 13 #[.string ⟨#[97, 98, 99]⟩, .int .i64 24] w fun e w' => e = .returned (.string ⟨#[97, 98, 99]⟩) ∧ w = w' := fun w => by
    have := fit_any ⟨#[97, 98, 99]⟩ 24 w (by decide) (by decide)
    rw [show fitP ⟨#[97, 98, 99]⟩ 24 = ⟨#[97, 98, 99]⟩ by kernel_rfl] at this
    exact this
  have f3 : ∀ w, Calls Try.prog 13 #[.string ⟨#[97, 98, 99, 100]⟩, .int .i64 16] w fun e w' => e = .returned (.string ⟨#[]⟩) ∧ w = w' := fun w => by
    have := fit_any ⟨#[97, 98, 99, 100]⟩ 16 w (by decide) (by decide)
    rw [show fitP ⟨#[97, 98, 99, 100]⟩ 16 = ⟨#[]⟩ by kernel_rfl] at this
    exact this
  have b1 : ∀ w, Calls Try.prog 9 #[.int .u8 33, .int .i64 0] w fun e w' => e = .returned (.int .u8 0) ∧ w = w' := fun w => by
    have := bits_any 33 0 w (by decide) (by decide)
    rw [show bitsP 33 0 = 0 by kernel_rfl] at this
    exact this
  have b2 : ∀ w, Calls Try.prog 9 #[.int .u8 127, .int .i64 2] w fun e w' => e = .returned (.int .u8 126) ∧ w = w' := fun w => by
    have := bits_any 127 2 w (by decide) (by decide)
    rw [show bitsP 127 2 = 126 by kernel_rfl] at this
    exact this
  have d1 : ∀ w, Calls Try.prog 12 #[.string ⟨#[97, 98]⟩] w fun e w' => e = .returned (.int .i64 16) ∧ w = w' := fun w => width_any ⟨#[97, 98]⟩ w (by decide)
  have F1 := Lib.hid f1; have F2 := Lib.hid f2; have F3 := Lib.hid f3; have B1 := Lib.hid b1; have B2 := Lib.hid b2; have D1 := Lib.hid d1
  clear f1 f2 f3 b1 b2 d1
  go_enter Try.func11, Try.ntmps11
  go_wp2_with fail
  refine (F1.out _).mono ?_
  rintro e w' ⟨rfl, rfl⟩
  go_wp2_with fail
  refine (F2.out _).mono ?_
  rintro e w' ⟨rfl, rfl⟩
  go_wp2_with fail
  refine (F3.out _).mono ?_
  rintro e w' ⟨rfl, rfl⟩
  go_wp2_with fail
  refine (B1.out _).mono ?_
  rintro e w' ⟨rfl, rfl⟩
  go_wp2_with fail
  refine (B2.out _).mono ?_
  rintro e w' ⟨rfl, rfl⟩
  go_wp2_with fail
  refine (D1.out _).mono ?_
  rintro e w' ⟨rfl, rfl⟩
  go_wp2_with fail
  go_ret
  exact ⟨rfl, rfl⟩

/- FontFits. -/
set_option maxHeartbeats 1000000 in
theorem fits_any (s : ByteArray) (n : Int) (w : World) (hs : s.size ≤ 140737488351232) (hn : n ≤ 9223372036854775807) :
    Calls Try.prog 4 #[.string s, .int .i64 n] w fun e w' => e = .returned (.bool true) ∧ w = w' := by
  obtain ⟨r, hr⟩ : ∃ r, r = fitP s n := ⟨_, rfl⟩
  have c1 := fit_any s n w hs hn
  have c2 := rfit_any s n w hs hn
  rw [← hr] at c1 c2
  have C1 := Lib.hid c1; have C2 := Lib.hid c2
  clear c1 c2 hr
  go_enter Try.func4, Try.ntmps4
  go_wp2_with fail
  refine (width_any s _ hs).mono ?_
  rintro e w' ⟨rfl, rfl⟩
  go_wp2_with fail
  refine C1.out.mono ?_
  rintro e w' ⟨rfl, rfl⟩
  go_wp2_with fail
  refine C2.out.mono ?_
  rintro e w' ⟨rfl, rfl⟩
  go_wp2_with fail
  refine (awake_any _).mono ?_
  rintro e w' ⟨rfl, rfl⟩
  go_wp2_with fail
  go_ret
  exact ⟨rfl, rfl⟩

/- The reference's signs. -/
def refSum (c row : Int) : Int := c * 31 + row * 53 + row * (c / 8)
def refHit (c row : Int) (k : Nat) : Bool := decide (refSum c row / 2 ^ k % 2 = 1) || decide ((k : Int) = 1 + (c + row) % 6)
def refOut (c row : Int) : Nat → Int
  | 0 => 0
  | k + 1 => refOut c row k + if refHit c row (k + 1) then 2 ^ (k + 1) else 0
set_option maxHeartbeats 1000000 in
theorem power_any (n : Nat) (hn : n ≤ 7) (w : World) : Calls Try.prog 25 #[.int .i64 n] w fun e w' => e = .returned (.int .i64 (2 ^ n)) ∧ w = w' := by
  go_enter Try.func25, Try.ntmps25
  go_wp2
  go_loop [3, 4] (fun p i => ∃ k : Nat, k ≤ n ∧ i = .int .i64 k ∧ p = .int .i64 (2 ^ k)) (fun _ i => n - (intOf i).toNat)
  case atStart => exact ⟨0, Nat.zero_le _, rfl, rfl⟩
  case round =>
    obtain ⟨k, hk, rfl, rfl⟩ := hrel
    have hp : (2 : Int) ^ k ≤ 2 ^ 7 := by exact_mod_cast Nat.pow_le_pow_right (by omega) (show k ≤ 7 by omega)
    have hq : (0 : Int) ≤ 2 ^ k := by exact_mod_cast Nat.zero_le _
    obtain ⟨p, hpp⟩ : ∃ p : Int, p = 2 ^ k := ⟨_, rfl⟩
    rw [← hpp] at hp hq ⊢
    have hp2 : p ≤ 128 := by simpa using hp
    have HP := Lib.hid hpp
    clear hpp hp
    by_cases hlt : k < n
    · go_wp2
      go_round
      case rel => exact ⟨k + 1, by omega, by go_num, by rw [Int.pow_succ, ← HP.out, Int.mul_comm]⟩
      case measure => simp [intOf]; omega
    · go_wp2
      go_ret
      have e : p = 2 ^ n := by rw [HP.out, show k = n by omega]
      exact ⟨congrArg (fun x => Ending.returned (.int .i64 x)) e, rfl⟩

theorem refOut_bound (c row : Int) : ∀ k : Nat, 0 ≤ refOut c row k ∧ refOut c row k ≤ 2 ^ (k + 1) - 2
  | 0 => by simp [refOut]
  | k + 1 => by
    have := refOut_bound c row k
    have e : (2 : Int) ^ (k + 1 + 1) = 2 * 2 ^ (k + 1) := by rw [Int.pow_succ, Int.mul_comm]
    have p : (0 : Int) < 2 ^ (k + 1) := by exact_mod_cast Nat.pos_of_ne_zero (by simp)
    unfold refOut
    split <;> omega
theorem refOut_hit {c row : Int} {k : Nat} (h : refHit c row (k + 1) = true) : refOut c row k + 2 ^ (k + 1) = refOut c row (k + 1) := by
  show _ = refOut c row k + (if refHit c row (k + 1) = true then 2 ^ (k + 1) else 0)
  rw [if_pos h]
theorem refOut_miss {c row : Int} {k : Nat} (h : refHit c row (k + 1) = false) : refOut c row k = refOut c row (k + 1) := by
  show _ = refOut c row k + (if refHit c row (k + 1) = true then 2 ^ (k + 1) else 0)
  rw [h]; simp
set_option maxHeartbeats 4000000 in
theorem rbits_glyph (c row : Int) (w : World) (h1 : 32 < c) (h2 : c < 127) (h3 : 0 < row) (h4 : row < 15) :
    Calls Try.prog 10 #[.int .u8 c, .int .i64 row] w fun e w' => e = .returned (.int .u8 (refOut c row 6 % 256)) ∧ w = w' := by
  have e0 : (c == 32) = false := by simp; omega
  have e1 : (row == 0) = false := by simp; omega
  have e2 : (row == 15) = false := by simp; omega
  have b1 : 0 ≤ c := by omega
  have b2 : c ≤ 255 := by omega
  have b3 : 0 ≤ row := by omega
  have b4 : row ≤ 15 := by omega
  have m1 : 0 ≤ row * (c / 8) := Int.mul_nonneg b3 (by omega)
  have m2 : row * (c / 8) ≤ 15 * 31 := Int.mul_le_mul b4 (by omega) (by omega) (by omega)
  obtain ⟨m, hm⟩ : ∃ m, m = row * (c / 8) := ⟨_, rfl⟩
  rw [← hm] at m1 m2
  have HM := Lib.hid hm
  clear hm
  have es : wrap64 (c * 31 + row * 53 + wrap64 m) = refSum c row := by
    have e := HM.out
    unfold refSum; rw [← e]; unfold wrap64; omega
  have s1 : 0 ≤ refSum c row := by unfold refSum; have e := HM.out; rw [← e]; omega
  have s2 : refSum c row ≤ 6000 := by unfold refSum; have e := HM.out; rw [← e]; omega
  rw [HM.out] at es
  have ES := Lib.hid es
  clear es HM m1 m2
  go_enter Try.func10, Try.ntmps10
  go_wp2_with fail
  rw [ES.out]
  have q1 : 0 ≤ (c + row) % 6 := Int.emod_nonneg _ (by omega)
  have q2 : (c + row) % 6 < 6 := Int.emod_lt_of_pos _ (by omega)
  go_loop [7, 8] (fun p i => ∃ (j : Nat) (n o : Int), j ≤ 6 ∧ n = (j : Int) + 1 ∧ o = refOut c row j ∧ i = .int .i64 n ∧ p = .int .i64 o) (fun _ i => 8 - (intOf i).toNat)
  case atStart => exact ⟨0, 1, 0, by omega, rfl, rfl, rfl, rfl⟩
  case round =>
    obtain ⟨j, n, o, hj, hn, ho, rfl, rfl⟩ := hrel
    have ob := refOut_bound c row j
    rw [← ho] at ob
    obtain ⟨ob1, ob2⟩ := ob
    have HO := Lib.hid ho
    clear ho ES
    rcases (show j = 0 ∨ j = 1 ∨ j = 2 ∨ j = 3 ∨ j = 4 ∨ j = 5 ∨ j = 6 by omega) with rfl | rfl | rfl | rfl | rfl | rfl | rfl
    · have ob3 : o ≤ 254 := by simp at ob2; omega
      obtain rfl : n = 1 := by simpa using hn
      clear ob2 hn hj
      have pw := fun w => power_any 1 (by omega) w
      have PW := Lib.hid pw
      clear pw
      by_cases t1 : refSum c row / 2 % 2 = 1
      · have hit : refHit c row (0 + 1) = true := by unfold refHit; rw [show (2 : Int) ^ (0 + 1) = 2 by rfl, decide_eq_true t1, Bool.true_or]
        have d1 : (refSum c row / 2 % 2 == 1) = true := beq_iff_eq.2 t1
        have HT := Lib.hid hit
        clear t1 hit
        go_wp2_with fail
        refine (PW.out _).mono ?_
        rintro e w' ⟨rfl, rfl⟩
        go_wp2_with fail
        refine (PW.out _).mono ?_
        rintro e w' ⟨rfl, rfl⟩
        go_wp2
        go_round
        case rel => exact ⟨1, 2, o + 2, by omega, rfl, by have := refOut_hit HT.out; rw [← this, HO.out]; rfl, rfl, rfl⟩
        case measure => simp [intOf]
      · have d1 : (refSum c row / 2 % 2 == 1) = false := beq_eq_false_iff_ne.2 t1
        by_cases t2 : (1 : Int) = 1 + (c + row) % 6
        · have hit : refHit c row (0 + 1) = true := by unfold refHit; rw [Bool.or_eq_true]; right; exact decide_eq_true (by omega)
          have d2 : ((1 : Int) == 1 + (c + row) % 6) = true := beq_iff_eq.2 t2
          have HT := Lib.hid hit
          clear t1 t2 hit
          go_wp2_with fail
          refine (PW.out _).mono ?_
          rintro e w' ⟨rfl, rfl⟩
          go_wp2_with fail
          refine (PW.out _).mono ?_
          rintro e w' ⟨rfl, rfl⟩
          go_wp2
          go_round
          case rel => exact ⟨1, 2, o + 2, by omega, rfl, by have := refOut_hit HT.out; rw [← this, HO.out]; rfl, rfl, rfl⟩
          case measure => simp [intOf]
        · have hit : refHit c row (0 + 1) = false := by unfold refHit; rw [show (2 : Int) ^ (0 + 1) = 2 by rfl, decide_eq_false t1, Bool.false_or]; exact decide_eq_false (by omega)
          have d2 : ((1 : Int) == 1 + (c + row) % 6) = false := beq_eq_false_iff_ne.2 t2
          have HT := Lib.hid hit
          clear t1 t2 hit
          go_wp2_with fail
          refine (PW.out _).mono ?_
          rintro e w' ⟨rfl, rfl⟩
          go_wp2
          go_round
          case rel => exact ⟨1, 2, o, by omega, rfl, by have := refOut_miss HT.out; rw [HO.out]; exact this, rfl, rfl⟩
          case measure => simp [intOf]
    · have ob3 : o ≤ 254 := by simp at ob2; omega
      obtain rfl : n = 2 := by simpa using hn
      clear ob2 hn hj
      have pw := fun w => power_any 2 (by omega) w
      have PW := Lib.hid pw
      clear pw
      by_cases t1 : refSum c row / 4 % 2 = 1
      · have hit : refHit c row (1 + 1) = true := by unfold refHit; rw [show (2 : Int) ^ (1 + 1) = 4 by rfl, decide_eq_true t1, Bool.true_or]
        have d1 : (refSum c row / 4 % 2 == 1) = true := beq_iff_eq.2 t1
        have HT := Lib.hid hit
        clear t1 hit
        go_wp2_with fail
        refine (PW.out _).mono ?_
        rintro e w' ⟨rfl, rfl⟩
        go_wp2_with fail
        refine (PW.out _).mono ?_
        rintro e w' ⟨rfl, rfl⟩
        go_wp2
        go_round
        case rel => exact ⟨2, 3, o + 4, by omega, rfl, by have := refOut_hit HT.out; rw [← this, HO.out]; rfl, rfl, rfl⟩
        case measure => simp [intOf]
      · have d1 : (refSum c row / 4 % 2 == 1) = false := beq_eq_false_iff_ne.2 t1
        by_cases t2 : (2 : Int) = 1 + (c + row) % 6
        · have hit : refHit c row (1 + 1) = true := by unfold refHit; rw [Bool.or_eq_true]; right; exact decide_eq_true (by omega)
          have d2 : ((2 : Int) == 1 + (c + row) % 6) = true := beq_iff_eq.2 t2
          have HT := Lib.hid hit
          clear t1 t2 hit
          go_wp2_with fail
          refine (PW.out _).mono ?_
          rintro e w' ⟨rfl, rfl⟩
          go_wp2_with fail
          refine (PW.out _).mono ?_
          rintro e w' ⟨rfl, rfl⟩
          go_wp2
          go_round
          case rel => exact ⟨2, 3, o + 4, by omega, rfl, by have := refOut_hit HT.out; rw [← this, HO.out]; rfl, rfl, rfl⟩
          case measure => simp [intOf]
        · have hit : refHit c row (1 + 1) = false := by unfold refHit; rw [show (2 : Int) ^ (1 + 1) = 4 by rfl, decide_eq_false t1, Bool.false_or]; exact decide_eq_false (by omega)
          have d2 : ((2 : Int) == 1 + (c + row) % 6) = false := beq_eq_false_iff_ne.2 t2
          have HT := Lib.hid hit
          clear t1 t2 hit
          go_wp2_with fail
          refine (PW.out _).mono ?_
          rintro e w' ⟨rfl, rfl⟩
          go_wp2
          go_round
          case rel => exact ⟨2, 3, o, by omega, rfl, by have := refOut_miss HT.out; rw [HO.out]; exact this, rfl, rfl⟩
          case measure => simp [intOf]
    · have ob3 : o ≤ 254 := by simp at ob2; omega
      obtain rfl : n = 3 := by simpa using hn
      clear ob2 hn hj
      have pw := fun w => power_any 3 (by omega) w
      have PW := Lib.hid pw
      clear pw
      by_cases t1 : refSum c row / 8 % 2 = 1
      · have hit : refHit c row (2 + 1) = true := by unfold refHit; rw [show (2 : Int) ^ (2 + 1) = 8 by rfl, decide_eq_true t1, Bool.true_or]
        have d1 : (refSum c row / 8 % 2 == 1) = true := beq_iff_eq.2 t1
        have HT := Lib.hid hit
        clear t1 hit
        go_wp2_with fail
        refine (PW.out _).mono ?_
        rintro e w' ⟨rfl, rfl⟩
        go_wp2_with fail
        refine (PW.out _).mono ?_
        rintro e w' ⟨rfl, rfl⟩
        go_wp2
        go_round
        case rel => exact ⟨3, 4, o + 8, by omega, rfl, by have := refOut_hit HT.out; rw [← this, HO.out]; rfl, rfl, rfl⟩
        case measure => simp [intOf]
      · have d1 : (refSum c row / 8 % 2 == 1) = false := beq_eq_false_iff_ne.2 t1
        by_cases t2 : (3 : Int) = 1 + (c + row) % 6
        · have hit : refHit c row (2 + 1) = true := by unfold refHit; rw [Bool.or_eq_true]; right; exact decide_eq_true (by omega)
          have d2 : ((3 : Int) == 1 + (c + row) % 6) = true := beq_iff_eq.2 t2
          have HT := Lib.hid hit
          clear t1 t2 hit
          go_wp2_with fail
          refine (PW.out _).mono ?_
          rintro e w' ⟨rfl, rfl⟩
          go_wp2_with fail
          refine (PW.out _).mono ?_
          rintro e w' ⟨rfl, rfl⟩
          go_wp2
          go_round
          case rel => exact ⟨3, 4, o + 8, by omega, rfl, by have := refOut_hit HT.out; rw [← this, HO.out]; rfl, rfl, rfl⟩
          case measure => simp [intOf]
        · have hit : refHit c row (2 + 1) = false := by unfold refHit; rw [show (2 : Int) ^ (2 + 1) = 8 by rfl, decide_eq_false t1, Bool.false_or]; exact decide_eq_false (by omega)
          have d2 : ((3 : Int) == 1 + (c + row) % 6) = false := beq_eq_false_iff_ne.2 t2
          have HT := Lib.hid hit
          clear t1 t2 hit
          go_wp2_with fail
          refine (PW.out _).mono ?_
          rintro e w' ⟨rfl, rfl⟩
          go_wp2
          go_round
          case rel => exact ⟨3, 4, o, by omega, rfl, by have := refOut_miss HT.out; rw [HO.out]; exact this, rfl, rfl⟩
          case measure => simp [intOf]
    · have ob3 : o ≤ 254 := by simp at ob2; omega
      obtain rfl : n = 4 := by simpa using hn
      clear ob2 hn hj
      have pw := fun w => power_any 4 (by omega) w
      have PW := Lib.hid pw
      clear pw
      by_cases t1 : refSum c row / 16 % 2 = 1
      · have hit : refHit c row (3 + 1) = true := by unfold refHit; rw [show (2 : Int) ^ (3 + 1) = 16 by rfl, decide_eq_true t1, Bool.true_or]
        have d1 : (refSum c row / 16 % 2 == 1) = true := beq_iff_eq.2 t1
        have HT := Lib.hid hit
        clear t1 hit
        go_wp2_with fail
        refine (PW.out _).mono ?_
        rintro e w' ⟨rfl, rfl⟩
        go_wp2_with fail
        refine (PW.out _).mono ?_
        rintro e w' ⟨rfl, rfl⟩
        go_wp2
        go_round
        case rel => exact ⟨4, 5, o + 16, by omega, rfl, by have := refOut_hit HT.out; rw [← this, HO.out]; rfl, rfl, rfl⟩
        case measure => simp [intOf]
      · have d1 : (refSum c row / 16 % 2 == 1) = false := beq_eq_false_iff_ne.2 t1
        by_cases t2 : (4 : Int) = 1 + (c + row) % 6
        · have hit : refHit c row (3 + 1) = true := by unfold refHit; rw [Bool.or_eq_true]; right; exact decide_eq_true (by omega)
          have d2 : ((4 : Int) == 1 + (c + row) % 6) = true := beq_iff_eq.2 t2
          have HT := Lib.hid hit
          clear t1 t2 hit
          go_wp2_with fail
          refine (PW.out _).mono ?_
          rintro e w' ⟨rfl, rfl⟩
          go_wp2_with fail
          refine (PW.out _).mono ?_
          rintro e w' ⟨rfl, rfl⟩
          go_wp2
          go_round
          case rel => exact ⟨4, 5, o + 16, by omega, rfl, by have := refOut_hit HT.out; rw [← this, HO.out]; rfl, rfl, rfl⟩
          case measure => simp [intOf]
        · have hit : refHit c row (3 + 1) = false := by unfold refHit; rw [show (2 : Int) ^ (3 + 1) = 16 by rfl, decide_eq_false t1, Bool.false_or]; exact decide_eq_false (by omega)
          have d2 : ((4 : Int) == 1 + (c + row) % 6) = false := beq_eq_false_iff_ne.2 t2
          have HT := Lib.hid hit
          clear t1 t2 hit
          go_wp2_with fail
          refine (PW.out _).mono ?_
          rintro e w' ⟨rfl, rfl⟩
          go_wp2
          go_round
          case rel => exact ⟨4, 5, o, by omega, rfl, by have := refOut_miss HT.out; rw [HO.out]; exact this, rfl, rfl⟩
          case measure => simp [intOf]
    · have ob3 : o ≤ 254 := by simp at ob2; omega
      obtain rfl : n = 5 := by simpa using hn
      clear ob2 hn hj
      have pw := fun w => power_any 5 (by omega) w
      have PW := Lib.hid pw
      clear pw
      by_cases t1 : refSum c row / 32 % 2 = 1
      · have hit : refHit c row (4 + 1) = true := by unfold refHit; rw [show (2 : Int) ^ (4 + 1) = 32 by rfl, decide_eq_true t1, Bool.true_or]
        have d1 : (refSum c row / 32 % 2 == 1) = true := beq_iff_eq.2 t1
        have HT := Lib.hid hit
        clear t1 hit
        go_wp2_with fail
        refine (PW.out _).mono ?_
        rintro e w' ⟨rfl, rfl⟩
        go_wp2_with fail
        refine (PW.out _).mono ?_
        rintro e w' ⟨rfl, rfl⟩
        go_wp2
        go_round
        case rel => exact ⟨5, 6, o + 32, by omega, rfl, by have := refOut_hit HT.out; rw [← this, HO.out]; rfl, rfl, rfl⟩
        case measure => simp [intOf]
      · have d1 : (refSum c row / 32 % 2 == 1) = false := beq_eq_false_iff_ne.2 t1
        by_cases t2 : (5 : Int) = 1 + (c + row) % 6
        · have hit : refHit c row (4 + 1) = true := by unfold refHit; rw [Bool.or_eq_true]; right; exact decide_eq_true (by omega)
          have d2 : ((5 : Int) == 1 + (c + row) % 6) = true := beq_iff_eq.2 t2
          have HT := Lib.hid hit
          clear t1 t2 hit
          go_wp2_with fail
          refine (PW.out _).mono ?_
          rintro e w' ⟨rfl, rfl⟩
          go_wp2_with fail
          refine (PW.out _).mono ?_
          rintro e w' ⟨rfl, rfl⟩
          go_wp2
          go_round
          case rel => exact ⟨5, 6, o + 32, by omega, rfl, by have := refOut_hit HT.out; rw [← this, HO.out]; rfl, rfl, rfl⟩
          case measure => simp [intOf]
        · have hit : refHit c row (4 + 1) = false := by unfold refHit; rw [show (2 : Int) ^ (4 + 1) = 32 by rfl, decide_eq_false t1, Bool.false_or]; exact decide_eq_false (by omega)
          have d2 : ((5 : Int) == 1 + (c + row) % 6) = false := beq_eq_false_iff_ne.2 t2
          have HT := Lib.hid hit
          clear t1 t2 hit
          go_wp2_with fail
          refine (PW.out _).mono ?_
          rintro e w' ⟨rfl, rfl⟩
          go_wp2
          go_round
          case rel => exact ⟨5, 6, o, by omega, rfl, by have := refOut_miss HT.out; rw [HO.out]; exact this, rfl, rfl⟩
          case measure => simp [intOf]
    · have ob3 : o ≤ 254 := by simp at ob2; omega
      obtain rfl : n = 6 := by simpa using hn
      clear ob2 hn hj
      have pw := fun w => power_any 6 (by omega) w
      have PW := Lib.hid pw
      clear pw
      by_cases t1 : refSum c row / 64 % 2 = 1
      · have hit : refHit c row (5 + 1) = true := by unfold refHit; rw [show (2 : Int) ^ (5 + 1) = 64 by rfl, decide_eq_true t1, Bool.true_or]
        have d1 : (refSum c row / 64 % 2 == 1) = true := beq_iff_eq.2 t1
        have HT := Lib.hid hit
        clear t1 hit
        go_wp2_with fail
        refine (PW.out _).mono ?_
        rintro e w' ⟨rfl, rfl⟩
        go_wp2_with fail
        refine (PW.out _).mono ?_
        rintro e w' ⟨rfl, rfl⟩
        go_wp2
        go_round
        case rel => exact ⟨6, 7, o + 64, by omega, rfl, by have := refOut_hit HT.out; rw [← this, HO.out]; rfl, rfl, rfl⟩
        case measure => simp [intOf]
      · have d1 : (refSum c row / 64 % 2 == 1) = false := beq_eq_false_iff_ne.2 t1
        by_cases t2 : (6 : Int) = 1 + (c + row) % 6
        · have hit : refHit c row (5 + 1) = true := by unfold refHit; rw [Bool.or_eq_true]; right; exact decide_eq_true (by omega)
          have d2 : ((6 : Int) == 1 + (c + row) % 6) = true := beq_iff_eq.2 t2
          have HT := Lib.hid hit
          clear t1 t2 hit
          go_wp2_with fail
          refine (PW.out _).mono ?_
          rintro e w' ⟨rfl, rfl⟩
          go_wp2_with fail
          refine (PW.out _).mono ?_
          rintro e w' ⟨rfl, rfl⟩
          go_wp2
          go_round
          case rel => exact ⟨6, 7, o + 64, by omega, rfl, by have := refOut_hit HT.out; rw [← this, HO.out]; rfl, rfl, rfl⟩
          case measure => simp [intOf]
        · have hit : refHit c row (5 + 1) = false := by unfold refHit; rw [show (2 : Int) ^ (5 + 1) = 64 by rfl, decide_eq_false t1, Bool.false_or]; exact decide_eq_false (by omega)
          have d2 : ((6 : Int) == 1 + (c + row) % 6) = false := beq_eq_false_iff_ne.2 t2
          have HT := Lib.hid hit
          clear t1 t2 hit
          go_wp2_with fail
          refine (PW.out _).mono ?_
          rintro e w' ⟨rfl, rfl⟩
          go_wp2
          go_round
          case rel => exact ⟨6, 7, o, by omega, rfl, by have := refOut_miss HT.out; rw [HO.out]; exact this, rfl, rfl⟩
          case measure => simp [intOf]
    · obtain rfl : n = 7 := by simpa using hn
      clear ob2 hn hj
      have e := HO.out
      go_wp2
      go_ret
      exact ⟨by first | rfl | (rw [HO.out]), rfl⟩

def rbitsP (c row : Int) : Int := if row < 0 then 0 else if 15 < row then 0 else if c = 32 then 0 else if c < 33 ∨ 126 < c then box row else if row = 0 then 0 else if row = 15 then 0 else refOut c row 6 % 256
set_option maxHeartbeats 4000000 in
theorem rbits_any (c row : Int) (w : World) (hc : 0 ≤ c) (hc' : c ≤ 255) :
    Calls Try.prog 10 #[.int .u8 c, .int .i64 row] w fun e w' => e = .returned (.int .u8 (rbitsP c row)) ∧ w = w' := by
  unfold rbitsP
  by_cases r1 : row < 0
  · rw [if_pos r1]
    go_enter Try.func10, Try.ntmps10
    go_wp2
    go_ret
    exact ⟨rfl, rfl⟩
  by_cases r2 : 15 < row
  · rw [if_neg r1, if_pos r2]
    go_enter Try.func10, Try.ntmps10
    go_wp2
    go_ret
    exact ⟨rfl, rfl⟩
  rw [if_neg r1, if_neg r2]
  have r3 : 0 ≤ row := by omega
  have r4 : row ≤ 15 := by omega
  clear r1 r2
  by_cases c1 : c = 32
  · rw [if_pos c1]
    subst c1
    go_enter Try.func10, Try.ntmps10
    go_wp2
    go_ret
    exact ⟨rfl, rfl⟩
  rw [if_neg c1]
  have e0 : (c == 32) = false := by simp [c1]
  by_cases c2 : c < 33 ∨ 126 < c
  · rw [if_pos c2]
    have c3 : (c < 33) ∨ (¬ c < 33 ∧ 126 < c) := by omega
    clear c1 c2
    unfold box
    by_cases k1 : row = 2
    · subst k1
      rcases c3 with c3 | ⟨c3, c4⟩
      all_goals
        go_enter Try.func10, Try.ntmps10
        go_wp2
        go_ret
        exact ⟨rfl, rfl⟩
    by_cases k2 : row = 13
    · subst k2
      rcases c3 with c3 | ⟨c3, c4⟩
      all_goals
        go_enter Try.func10, Try.ntmps10
        go_wp2
        go_ret
        exact ⟨rfl, rfl⟩
    rw [if_neg k1, if_neg k2]
    have e1 : (row == 2) = false := by simp [k1]
    have e2 : (row == 13) = false := by simp [k2]
    clear k1 k2
    by_cases k3 : 2 < row
    · rw [if_pos k3]
      by_cases k4 : row < 13
      · rw [if_pos k4]
        rcases c3 with c3 | ⟨c3, c4⟩
        all_goals
          go_enter Try.func10, Try.ntmps10
          go_wp2
          go_ret
          exact ⟨rfl, rfl⟩
      · rw [if_neg k4]
        rcases c3 with c3 | ⟨c3, c4⟩
        all_goals
          go_enter Try.func10, Try.ntmps10
          go_wp2
          go_ret
          exact ⟨rfl, rfl⟩
    · rw [if_neg k3]
      rcases c3 with c3 | ⟨c3, c4⟩
      all_goals
        go_enter Try.func10, Try.ntmps10
        go_wp2
        go_ret
        exact ⟨rfl, rfl⟩
  · rw [if_neg c2]
    have c3 : ¬ c < 33 := by omega
    have c4 : ¬ 126 < c := by omega
    by_cases r5 : row = 0
    · rw [if_pos r5]
      subst r5
      clear c1 c2
      go_enter Try.func10, Try.ntmps10
      go_wp2
      go_ret
      exact ⟨rfl, rfl⟩
    rw [if_neg r5]
    by_cases r6 : row = 15
    · rw [if_pos r6]
      subst r6
      clear c1 c2 r5
      go_enter Try.func10, Try.ntmps10
      go_wp2
      go_ret
      exact ⟨rfl, rfl⟩
    rw [if_neg r6]
    exact rbits_glyph c row w (by omega) (by omega) (by omega) (by omega)

/- Both tell the same: asked of all signs and rows. -/
def sameB : Bool := (List.range 94).all fun c => (List.range 14).all fun r => glyph ((c : Int) + 33) ((r : Int) + 1) == refOut ((c : Int) + 33) ((r : Int) + 1) 6 % 256
theorem sameB_true : sameB = true := by kernel_rfl
theorem glyph_eq (c row : Int) (h1 : 32 < c) (h2 : c < 127) (h3 : 0 < row) (h4 : row < 15) : glyph c row = refOut c row 6 % 256 := by
  have h := sameB_true
  unfold sameB at h
  rw [List.all_eq_true] at h
  have hc := h (c - 33).toNat (by rw [List.mem_range]; omega)
  rw [List.all_eq_true] at hc
  have hr := hc (row - 1).toNat (by rw [List.mem_range]; omega)
  rw [beq_iff_eq, show (((c - 33).toNat : Nat) : Int) + 33 = c by omega, show (((row - 1).toNat : Nat) : Int) + 1 = row by omega] at hr
  exact hr
theorem bits_eq (c row : Int) : bitsP c row = rbitsP c row := by
  unfold bitsP rbitsP
  by_cases r1 : row < 0
  · rw [if_pos r1, if_pos r1]
  by_cases r2 : 15 < row
  · rw [if_neg r1, if_neg r1, if_pos (by omega), if_pos r2]
  rw [if_neg r1, if_neg r1, if_neg (by omega), if_neg r2]
  by_cases c1 : c = 32
  · rw [if_pos c1, if_pos c1]
  rw [if_neg c1, if_neg c1]
  by_cases c2 : c < 33 ∨ 126 < c
  · rw [if_neg (by omega), if_pos c2]
  rw [if_pos (by omega), if_neg c2]
  by_cases r3 : row = 0
  · rw [if_pos r3, if_pos r3]
  by_cases r4 : row = 15
  · rw [if_neg r3, if_neg r3, if_pos r4, if_pos r4]
  rw [if_neg r3, if_neg r3, if_neg r4, if_neg r4]
  exact glyph_eq c row (by omega) (by omega) (by omega) (by omega)
/- FontBits. -/
set_option maxHeartbeats 1000000 in
theorem fontbits_any (c row : Int) (w : World) (hc : 0 ≤ c) (hc' : c ≤ 255) :
    Calls Try.prog 3 #[.int .u8 c, .int .i64 row] w fun e w' => e = .returned (.bool true) ∧ w = w' := by
  have c1 := bits_any c row w hc hc'
  have c2 := rbits_any c row w hc hc'
  rw [← bits_eq] at c2
  have C1 := Lib.hid c1; have C2 := Lib.hid c2
  clear c1 c2
  go_enter Try.func3, Try.ntmps3
  go_wp2_with fail
  refine C1.out.mono ?_
  rintro e w' ⟨rfl, rfl⟩
  go_wp2_with fail
  refine C2.out.mono ?_
  rintro e w' ⟨rfl, rfl⟩
  go_wp2_with fail
  refine (awake_any _).mono ?_
  rintro e w' ⟨rfl, rfl⟩
  go_wp2_with fail
  go_ret
  exact ⟨rfl, rfl⟩
end Go.Proofs.Ytpggmkgfknmldaa.Font
