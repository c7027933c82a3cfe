/- FontShort: the law's own function, called with whatever arguments, answers true; nothing is changed. -/
import Derived.Test.YtpggmkgfknmldaaFontL
import Derived.RegionTactic
import Derived.Deep.QuietTactic
import Derived.BigQuiet
namespace Go.Proofs.Ytpggmkgfknmldaa.Font
open Go.RowKit
set_option linter.unusedVariables false
set_option linter.unusedSimpArgs false

theorem dots_size : dots.size = 3 := rfl
theorem fit_neg (s : ByteArray) (n : Int) (h : n < 0) : fitP s n = ⟨#[]⟩ := by unfold fitP; rw [if_pos h]
theorem fit_whole (s : ByteArray) (n : Int) (h : 0 ≤ n) (h' : 8 * (s.size : Int) ≤ n) : fitP s n = s := by
  unfold fitP; rw [if_neg (by omega), if_neg (by omega), if_pos (by omega)]
theorem cut_size (s : ByteArray) (m : Nat) (h : m ≤ s.size) : (s.extract 0 m ++ dots).size = m + 3 := by
  rw [ByteArray.size_append, ByteArray.size_extract, dots_size]; omega
/-- What fits: the text, nothing, or so many of its first bytes and three points. -/
theorem fit_cases (s : ByteArray) (n : Int) (h : 0 ≤ n) : fitP s n = s ∧ 8 * (s.size : Int) ≤ n ∨ fitP s n = ⟨#[]⟩ ∨ ∃ m : Nat, m ≤ s.size ∧ m + 3 < s.size + 1 ∧ 8 * ((m : Int) + 3) ≤ n ∧ n < 8 * (m + 4) ∧ n / 8 < s.size ∧ fitP s n = s.extract 0 m ++ dots := by
  unfold fitP
  rw [if_neg (by omega)]
  by_cases h1 : n / 8 < 3 ∧ n / 8 < s.size
  · rw [if_pos h1]; exact Or.inr (Or.inl rfl)
  · rw [if_neg h1]
    by_cases h2 : n / 8 ≥ s.size
    · rw [if_pos h2]; exact Or.inl ⟨rfl, by omega⟩
    · rw [if_neg h2]
      exact Or.inr (Or.inr ⟨(n / 8 - 3).toNat, by omega, by omega, by omega, by omega, by omega, rfl⟩)
theorem fit_size (s : ByteArray) (n : Int) (h : 0 ≤ n) : (fitP s n).size ≤ s.size ∧ 8 * ((fitP s n).size : Int) ≤ n := by
  rcases fit_cases s n h with ⟨e, e2⟩ | e | ⟨m, h1, h2, h3, h4, h5, e⟩
  · rw [e]; exact ⟨Nat.le_refl _, e2⟩
  · rw [e]; exact ⟨Nat.zero_le _, by show 8 * ((0 : Nat) : Int) ≤ n; omega⟩
  · rw [e, cut_size s m h1]; omega
theorem fit_again (s : ByteArray) (n : Int) (h : 0 ≤ n) : fitP (fitP s n) n = fitP s n := fit_whole _ _ h (fit_size s n h).2
theorem fit_byte (s : ByteArray) (n : Int) (h : 0 ≤ n) (k : Nat) (hk : k + 3 < (fitP s n).size) (h1 : k < (fitP s n).size) (h2 : k < s.size) : (fitP s n)[k] = s[k] := by
  rcases fit_cases s n h with ⟨e, e2⟩ | e | ⟨m, g1, g2, g3, g4, g5, e⟩
  · have : ∀ (t : ByteArray) (h1 : k < t.size), t = s → t[k] = s[k] := by intro t h1 ht; subst ht; rfl
    exact this _ h1 e
  · rw [e] at hk; exact absurd hk (Nat.not_lt_zero _)
  · have hk' := hk
    rw [e, cut_size s m g1] at hk'
    have : ∀ (t : ByteArray) (h1 : k < t.size), t = s.extract 0 m ++ dots → t[k] = s[k] := by
      intro t h1 ht
      subst ht
      rw [ByteArray.getElem_append_left (by rw [ByteArray.size_extract]; omega), ByteArray.getElem_extract]
      simp
    exact this _ h1 e

set_option maxHeartbeats 4000000 in
theorem fontshort_any (s : ByteArray) (n : Int) (w : World) (hs : s.size ≤ 140737488351232) (hn : n ≤ 9223372036854775807) :
    Calls Try.prog 5 #[.string s, .int .i64 n] w fun e w' => e = .returned (.bool true) ∧ ∃ m, w' = w.drewN m := by
  by_cases h0 : n < 0
  · have c1 := fit_any s n w hs hn
    rw [fit_neg s n h0] at c1
    have C1 := Lib.hid c1
    clear c1
    go_enter Try.func5, Try.ntmps5
    go_wp2_with fail
    refine C1.out.mono ?_
    rintro e w' ⟨rfl, rfl⟩
    go_wp2_with fail
    refine (awake_any _).mono ?_
    rintro e w' ⟨rfl, rfl⟩
    go_wp2_with fail
    go_ret
    exact ⟨rfl, 0, rfl⟩
  · have h1 : 0 ≤ n := by omega
    obtain ⟨t, ht⟩ : ∃ t, t = fitP s n := ⟨_, rfl⟩
    have z := fit_size s n h1
    have fb := fit_byte s n h1
    have fa := fit_again s n h1
    have fw := fit_whole s n h1
    rw [← ht] at z fa fw
    obtain ⟨z1, z2⟩ := z
    have z3 : (t.size : Int) ≤ s.size := by omega
    have c1 := fit_any s n w hs hn
    rw [← ht] at c1
    have c2 := fun w => fit_any t n w (by omega) hn
    rw [fa] at c2
    have C1 := Lib.hid c1; have C2 := Lib.hid c2
    clear c1 c2 fa
    rw [← ht] at fb
    have FB := Lib.hid fb
    clear fb ht
    by_cases hw : 8 * (s.size : Int) ≤ n
    · obtain rfl := fw hw
      clear fw
      go_enter Try.func5, Try.ntmps5
      go_wp2_with fail
      refine C1.out.mono ?_
      rintro e w' ⟨rfl, rfl⟩
      go_wp2_with fail
      refine (width_any t _ (by omega)).mono ?_
      rintro e w' ⟨rfl, rfl⟩
      go_wp2_with fail
      refine (width_any t _ (by omega)).mono ?_
      rintro e w' ⟨rfl, rfl⟩
      go_wp2_with fail
      go_loopw [6] (fun i wr => ∃ k : Nat, i = .int .i64 k ∧ (k = 0 ∨ k + 3 ≤ t.size) ∧ ∃ m, wr = w.drewN m) (fun i _ => t.size - (intOf i).toNat)
      case atStart => exact ⟨0, rfl, Or.inl rfl, 0, rfl⟩
      case round =>
        obtain ⟨k, rfl, hk, m, rfl⟩ := hrel
        by_cases hlt : k + 3 < t.size
        · have i1 : k < t.size := by omega
          have i2 : k < t.size := by omega
          have j0 : (0 : Int) ≤ (k : Int) := by omega
          have j1 : (k : Int) < (t.size : Int) := by omega
          have j2 : (k : Int) < (t.size : Int) := by omega
          have j3 : (k : Int) < (t.size : Int) - 3 := by omega
          have bq : (((t[k]'i1).toNat : Int) != ((t[k]'i2).toNat : Int)) = false := by first | (rw [FB.out k hlt i1 i2]; simp; done) | simp
          go_wp2_with fail
          go_quiet (fail)
          go_wp2
          go_roundw
          case rel => exact ⟨k + 1, by go_num, Or.inr (by omega), _, rfl⟩
          case measure => simp [intOf]; omega
        · have j3 : ¬ (k : Int) < (t.size : Int) - 3 := by omega
          clear hk
          go_wp2_with fail
          refine (C2.out _).mono ?_
          rintro e w' ⟨rfl, rfl⟩
          go_wp2_with fail
          refine (awake_any _).mono ?_
          rintro e w' ⟨rfl, rfl⟩
          go_wp2_with fail
          go_ret
          exact ⟨rfl, m, rfl⟩
    · clear fw
      go_enter Try.func5, Try.ntmps5
      go_wp2_with fail
      refine C1.out.mono ?_
      rintro e w' ⟨rfl, rfl⟩
      go_wp2_with fail
      refine (width_any t _ (by omega)).mono ?_
      rintro e w' ⟨rfl, rfl⟩
      go_wp2_with fail
      refine (width_any s _ hs).mono ?_
      rintro e w' ⟨rfl, rfl⟩
      go_wp2_with fail
      go_loopw [6] (fun i wr => ∃ k : Nat, i = .int .i64 k ∧ (k = 0 ∨ k + 3 ≤ t.size) ∧ ∃ m, wr = w.drewN m) (fun i _ => t.size - (intOf i).toNat)
      case atStart => exact ⟨0, rfl, Or.inl rfl, 0, rfl⟩
      case round =>
        obtain ⟨k, rfl, hk, m, rfl⟩ := hrel
        by_cases hlt : k + 3 < t.size
        · have i1 : k < t.size := by omega
          have i2 : k < s.size := by omega
          have j0 : (0 : Int) ≤ (k : Int) := by omega
          have j1 : (k : Int) < (t.size : Int) := by omega
          have j2 : (k : Int) < (s.size : Int) := by omega
          have j3 : (k : Int) < (t.size : Int) - 3 := by omega
          have bq : (((t[k]'i1).toNat : Int) != ((s[k]'i2).toNat : Int)) = false := by first | (rw [FB.out k hlt i1 i2]; simp; done) | simp
          go_wp2_with fail
          go_quiet (fail)
          go_wp2
          go_roundw
          case rel => exact ⟨k + 1, by go_num, Or.inr (by omega), _, rfl⟩
          case measure => simp [intOf]; omega
        · have j3 : ¬ (k : Int) < (t.size : Int) - 3 := by omega
          clear hk
          go_wp2_with fail
          refine (C2.out _).mono ?_
          rintro e w' ⟨rfl, rfl⟩
          go_wp2_with fail
          refine (awake_any _).mono ?_
          rintro e w' ⟨rfl, rfl⟩
          go_wp2_with fail
          go_ret
          exact ⟨rfl, m, rfl⟩
theorem FontShort_law (a0 : ByteArray) (a1 : Int) (W : World) (w0 : a0.size ≤ 140737488351232) (w1 : (Lit.int .i64 a1).wf = true) :
    Calls Try.prog 5 #[.string a0, .int .i64 a1] W fun e w' => e = .returned (.bool true) ∧ Below W.heap.size W w' := by
  refine (fontshort_any a0 a1 W w0 (i64_of w1).2).mono ?_
  rintro e w' ⟨h1, m, rfl⟩
  exact ⟨h1, ⟨rfl, rfl, rfl, Nat.le_refl _, fun _ _ => rfl⟩⟩
end Go.Proofs.Ytpggmkgfknmldaa.Font
