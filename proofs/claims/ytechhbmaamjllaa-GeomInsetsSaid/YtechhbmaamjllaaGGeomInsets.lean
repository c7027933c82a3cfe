/- GeomInsets: edges taken off twice are their sums taken off once; what is left lies inside. -/
import Derived.Test.YtechhbmaamjllaaGeoA
import Derived.Test.YtechhbmaamjllaaGeoL
import Derived.Test.YtechhbmaamjllaaGeoIn
import Derived.Deep.RegionHeld3
import Derived.Deep.DeepCutAuto
import Derived.IntWalk
import Derived.Test.YtechhbmaamjllaaPGeomMeetsx1
namespace Go.Proofs.Ytechhbmaamjllaa.Geo
open Go.RowKit Go.Proofs.YtechhbmaamjllaaW.PrintMore Go.Proofs.YtechhbmaamjllaaW.PrintWords Go.Proofs.YtechhbmaamjllaaW.PrintLast
set_option linter.unusedVariables false
set_option linter.unusedSimpArgs false
attribute [local go_sem high] Go.Proofs.Ytechhbmaamjllaa.PGeomMeets.eqA23

theorem u16_wf {n : Int} (h : (Lit.int .u16 n).wf = true) : 0 ≤ n ∧ n ≤ 65535 := by
  have e1 : IntKind.u16.min = 0 := by rfl
  have e2 : IntKind.u16.max = 65535 := by rfl
  simp only [Lit.wf, e1, e2, Bool.and_eq_true, decide_eq_true_eq] at h
  exact h
theorem in_cell {W w1 : World} {a : Addr} {v : Value} {n : Nat} (hb : Below n W w1) (hn : n = W.heap.size) (h : W.cell? a = some v) : w1.cell? a = some v := by subst hn; exact cell_held hb h

theorem free_c {W w1 : World} {g i : Nat} {v : Value} (hb : Below W.heap.size W w1) (h : W.cell? ⟨g, i, none⟩ = some v) (hf : W.frozen? ⟨g, i, none⟩ = false) : w1.frozen? ⟨g, i, none⟩ = false := (hb.frozen (World.block_lt_of_cell? W _ h)).trans hf
theorem al_cell {w : World} {o : Obj} {a : Addr} {v : Value} (h : w.cell? a = some v) : (w.alloc o).cell? a = some v := cell_held (below_alloc (Below.refl _ _) o) h
theorem al_below {W w : World} {o : Obj} (h : Below W.heap.size W w) : Below W.heap.size W (w.alloc o) := below_alloc h o
theorem sets_below {g : Nat} {W w : World} {x0 x1 x2 x3 : Value} (h : Below W.heap.size W w) (hg : W.heap.size ≤ g) : Below W.heap.size W ((((w.setCell ⟨g, 0, none⟩ x0).setCell ⟨g, 1, none⟩ x1).setCell ⟨g, 2, none⟩ x2).setCell ⟨g, 3, none⟩ x3) := below_set (below_set (below_set (below_set h hg) hg) hg) hg

set_option maxHeartbeats 8000000 in
set_option maxRecDepth 100000 in
theorem GeomInsets_any (r : Rc) (a0 a1 a2 a3 b0 b1 b2 b3 : Int) (W : World) (h0 : 0 ≤ a0 ∧ a0 ≤ 65535) (h1 : 0 ≤ a1 ∧ a1 ≤ 65535) (h2 : 0 ≤ a2 ∧ a2 ≤ 65535) (h3 : 0 ≤ a3 ∧ a3 ≤ 65535) (k0 : 0 ≤ b0 ∧ b0 ≤ 65535) (k1 : 0 ≤ b1 ∧ b1 ≤ 65535) : Calls Try.prog 6 #[.agg #[.int .i64 r.x, .int .i64 r.y, .int .i64 r.w, .int .i64 r.h], .agg #[.int .u16 a0, .int .u16 a1, .int .u16 a2, .int .u16 a3], .agg #[.int .u16 b0, .int .u16 b1, .int .u16 b2, .int .u16 b3]] W (Yes W) := by
  obtain ⟨h0, h0'⟩ := h0
  obtain ⟨h1, h1'⟩ := h1
  obtain ⟨h2, h2'⟩ := h2
  obtain ⟨h3, h3'⟩ := h3
  obtain ⟨k0, k0'⟩ := k0
  obtain ⟨k1, k1'⟩ := k1
  obtain ⟨m, hm⟩ : ∃ m, m = insetP r a0 a1 0 0 := ⟨_, rfl⟩
  obtain ⟨o, ho⟩ : ∃ o, o = insetP m b0 b1 0 0 := ⟨_, rfl⟩
  obtain ⟨t, ht⟩ : ∃ t, t = insetP r (a0 + b0) (a1 + b1) 0 0 := ⟨_, rfl⟩
  obtain ⟨d, hd⟩ : ∃ d, d = insetP r a0 a1 a2 a3 := ⟨_, rfl⟩
  have C1 : Aside0 (∀ w, Calls Try.prog 11 #[.agg #[.int .i64 r.x, .int .i64 r.y, .int .i64 r.w, .int .i64 r.h], .agg #[.int .i64 a0, .int .i64 a1, .int .i64 0, .int .i64 0]] w (RetR m w)) := ⟨fun w => hm ▸ c_gInset r a0 a1 0 0 w⟩
  have C2 : Aside0 (∀ w, Calls Try.prog 11 #[.agg #[.int .i64 m.x, .int .i64 m.y, .int .i64 m.w, .int .i64 m.h], .agg #[.int .i64 b0, .int .i64 b1, .int .i64 0, .int .i64 0]] w (RetR o w)) := ⟨fun w => ho ▸ c_gInset m b0 b1 0 0 w⟩
  have C3 : Aside0 (∀ w, Calls Try.prog 11 #[.agg #[.int .i64 r.x, .int .i64 r.y, .int .i64 r.w, .int .i64 r.h], .agg #[.int .i64 (a0 + b0), .int .i64 (a1 + b1), .int .i64 0, .int .i64 0]] w (RetR t w)) := ⟨fun w => ht ▸ c_gInset r (a0 + b0) (a1 + b1) 0 0 w⟩
  have C4 : Aside0 (∀ w, Calls Try.prog 11 #[.agg #[.int .i64 r.x, .int .i64 r.y, .int .i64 r.w, .int .i64 r.h], .agg #[.int .i64 a0, .int .i64 a1, .int .i64 a2, .int .i64 a3]] w (RetR d w)) := ⟨fun w => hd ▸ c_gInset r a0 a1 a2 a3 w⟩
  have HB := Aside0.mk (below_alloc (below_alloc (below_alloc (Below.refl W.heap.size W) (.cells #[.int .i64 r.x, .int .i64 r.y, .int .i64 r.w, .int .i64 r.h] 23)) (.cells #[.int .u16 a0, .int .u16 a1, .int .u16 a2, .int .u16 a3] 38)) (.cells #[.int .u16 b0, .int .u16 b1, .int .u16 b2, .int .u16 b3] 38))
  have L := Aside0.mk (fun h : rightB r = true => (⟨inset_wh h h0 h1 h2 h3, inset_inside r h a0 a1 a2 a3, inset_twice r h h0 h1 k0 k1⟩ : _ ∧ _ ∧ _))
  have Z := Aside0.mk (inset_zero a0 a1 a2 a3 r)
  rw [← hm, ← ho, ← ht, ← hd] at L
  rw [← hd] at Z
  clear hm ho ht hd
  have e0 : IntKind.i64.wrap a0 = a0 := IntWalk.i64_in _ (by omega)
  have e1 : IntKind.i64.wrap a1 = a1 := IntWalk.i64_in _ (by omega)
  have e2 : IntKind.i64.wrap a2 = a2 := IntWalk.i64_in _ (by omega)
  have e3 : IntKind.i64.wrap a3 = a3 := IntWalk.i64_in _ (by omega)
  have f0 : IntKind.i64.wrap b0 = b0 := IntWalk.i64_in _ (by omega)
  have f1 : IntKind.i64.wrap b1 = b1 := IntWalk.i64_in _ (by omega)
  have s0 : IntKind.i64.wrap (a0 + b0) = a0 + b0 := IntWalk.i64_in _ (by omega)
  have s1 : IntKind.i64.wrap (a1 + b1) = a1 + b1 := IntWalk.i64_in _ (by omega)
  go_enter Try.func6, Try.ntmps6
  go_upto_region 1 with fail
  go_cut [7] (fun s7 wx => ∃ g : Nat, s7 = .pointer (some ⟨g, 0, none⟩) ∧ wx.cell? ⟨g, 0, none⟩ = some (.int .i64 o.x) ∧ wx.cell? ⟨g, 1, none⟩ = some (.int .i64 o.y) ∧ wx.cell? ⟨g, 2, none⟩ = some (.int .i64 o.w) ∧ wx.cell? ⟨g, 3, none⟩ = some (.int .i64 o.h) ∧ wx.cell? ⟨W.heap.size, 0, none⟩ = some (.int .i64 r.x) ∧ wx.cell? ⟨W.heap.size, 1, none⟩ = some (.int .i64 r.y) ∧ wx.cell? ⟨W.heap.size, 2, none⟩ = some (.int .i64 r.w) ∧ wx.cell? ⟨W.heap.size, 3, none⟩ = some (.int .i64 r.h) ∧ wx.cell? ⟨W.heap.size + 1, 0, none⟩ = some (.int .u16 a0) ∧ wx.cell? ⟨W.heap.size + 1, 1, none⟩ = some (.int .u16 a1) ∧ wx.cell? ⟨W.heap.size + 1, 2, none⟩ = some (.int .u16 a2) ∧ wx.cell? ⟨W.heap.size + 1, 3, none⟩ = some (.int .u16 a3) ∧ wx.cell? ⟨W.heap.size + 1 + 1, 0, none⟩ = some (.int .u16 b0) ∧ wx.cell? ⟨W.heap.size + 1 + 1, 1, none⟩ = some (.int .u16 b1) ∧ wx.cell? ⟨W.heap.size + 1 + 1, 2, none⟩ = some (.int .u16 b2) ∧ wx.cell? ⟨W.heap.size + 1 + 1, 3, none⟩ = some (.int .u16 b3) ∧ Below W.heap.size W wx)
  case first =>
    rename_i kk zz jj k2 jz1 jz0
    clear zz
    replace jz1 := Aside0.mk jz1
    replace jz0 := Aside0.mk jz0
    go_region_held3 (fun w' => w'.cell? ⟨W.heap.size, 0, none⟩ = some (.int .i64 r.x) ∧ w'.cell? ⟨W.heap.size, 1, none⟩ = some (.int .i64 r.y) ∧ w'.cell? ⟨W.heap.size, 2, none⟩ = some (.int .i64 r.w) ∧ w'.cell? ⟨W.heap.size, 3, none⟩ = some (.int .i64 r.h) ∧ w'.cell? ⟨W.heap.size + 1, 0, none⟩ = some (.int .u16 a0) ∧ w'.cell? ⟨W.heap.size + 1, 1, none⟩ = some (.int .u16 a1) ∧ w'.cell? ⟨W.heap.size + 1, 2, none⟩ = some (.int .u16 a2) ∧ w'.cell? ⟨W.heap.size + 1, 3, none⟩ = some (.int .u16 a3) ∧ w'.cell? ⟨W.heap.size + 1 + 1, 0, none⟩ = some (.int .u16 b0) ∧ w'.cell? ⟨W.heap.size + 1 + 1, 1, none⟩ = some (.int .u16 b1) ∧ w'.cell? ⟨W.heap.size + 1 + 1, 2, none⟩ = some (.int .u16 b2) ∧ w'.cell? ⟨W.heap.size + 1 + 1, 3, none⟩ = some (.int .u16 b3) ∧ Below W.heap.size W w')
      (first
        | (go_split_ands; with_reducible exact ⟨cell_held ‹_› ‹_›, cell_held ‹_› ‹_›, cell_held ‹_› ‹_›, cell_held ‹_› ‹_›, cell_held ‹_› ‹_›, cell_held ‹_› ‹_›, cell_held ‹_› ‹_›, cell_held ‹_› ‹_›, cell_held ‹_› ‹_›, cell_held ‹_› ‹_›, cell_held ‹_› ‹_›, cell_held ‹_› ‹_›, below_step ‹_› ‹_›⟩)
        | (go_split_ands; with_reducible exact ⟨al_cell ‹_›, al_cell ‹_›, al_cell ‹_›, al_cell ‹_›, al_cell ‹_›, al_cell ‹_›, al_cell ‹_›, al_cell ‹_›, al_cell ‹_›, al_cell ‹_›, al_cell ‹_›, al_cell ‹_›, al_below ‹_›⟩)
        | ((refine ⟨?_, ?_, ?_, ?_, ?_, ?_, ?_, ?_, ?_, ?_, ?_, ?_, ?_⟩) <;> first | exact below_drew HB.out | exact below_drew (below_alloc HB.out _) | (go_simp; done))
        | ((go_split_ands; refine ⟨?_, ?_, ?_, ?_, ?_, ?_, ?_, ?_, ?_, ?_, ?_, ?_, ?_⟩) <;> first | exact below_alloc zB.out _ | with_reducible exact al_cell ‹_› | with_reducible exact sets_below zB.out (by omega) | (go_simp; done)))
      (first
        | (go_at_call 11; refine (C1.out _).mono ?_; rintro e wA ⟨rfl, hb⟩; clear C1; have zA : W.heap.size + 1 + 1 < wA.heap.size := Nat.lt_of_lt_of_le (by first | (go_simp; done) | (go_simp; omega)) hb.size; first | (have n0 : wA.cell? ⟨W.heap.size + 1 + 1 + 1, 0, none⟩ = some (.int .i64 0) := cell_held hb (by go_simp; done); have n1 : wA.cell? ⟨W.heap.size + 1 + 1 + 1, 1, none⟩ = some (.int .i64 0) := cell_held hb (by go_simp; done); have n2 : wA.cell? ⟨W.heap.size + 1 + 1 + 1, 2, none⟩ = some (.int .i64 0) := cell_held hb (by go_simp; done); have n3 : wA.cell? ⟨W.heap.size + 1 + 1 + 1, 3, none⟩ = some (.int .i64 0) := cell_held hb (by go_simp; done); have m0 : wA.frozen? ⟨W.heap.size + 1 + 1 + 1, 0, none⟩ = false := free_held hb (by first | (go_simp; done) | (go_simp; omega)) (by go_simp; done); have m1 : wA.frozen? ⟨W.heap.size + 1 + 1 + 1, 1, none⟩ = false := free_held hb (by first | (go_simp; done) | (go_simp; omega)) (by go_simp; done); have m2 : wA.frozen? ⟨W.heap.size + 1 + 1 + 1, 2, none⟩ = false := free_held hb (by first | (go_simp; done) | (go_simp; omega)) (by go_simp; done); have m3 : wA.frozen? ⟨W.heap.size + 1 + 1 + 1, 3, none⟩ = false := free_held hb (by first | (go_simp; done) | (go_simp; omega)) (by go_simp; done)) | skip)
        | (go_at_call 11; refine (C2.out _).mono ?_; rintro e wB ⟨rfl, hb⟩; clear C2; go_split_ands; have zB := Aside0.mk (below_step ‹Below W.heap.size W _› hb); have z0 : wB.cell? ⟨W.heap.size, 0, none⟩ = some (.int .i64 r.x) := cell_held hb ‹_›; have z1 : wB.cell? ⟨W.heap.size, 1, none⟩ = some (.int .i64 r.y) := cell_held hb ‹_›; have z2 : wB.cell? ⟨W.heap.size, 2, none⟩ = some (.int .i64 r.w) := cell_held hb ‹_›; have z3 : wB.cell? ⟨W.heap.size, 3, none⟩ = some (.int .i64 r.h) := cell_held hb ‹_›; have z4 : wB.cell? ⟨W.heap.size + 1, 0, none⟩ = some (.int .u16 a0) := cell_held hb ‹_›; have z5 : wB.cell? ⟨W.heap.size + 1, 1, none⟩ = some (.int .u16 a1) := cell_held hb ‹_›; have z6 : wB.cell? ⟨W.heap.size + 1, 2, none⟩ = some (.int .u16 a2) := cell_held hb ‹_›; have z7 : wB.cell? ⟨W.heap.size + 1, 3, none⟩ = some (.int .u16 a3) := cell_held hb ‹_›; have z8 : wB.cell? ⟨W.heap.size + 1 + 1, 0, none⟩ = some (.int .u16 b0) := cell_held hb ‹_›; have z9 : wB.cell? ⟨W.heap.size + 1 + 1, 1, none⟩ = some (.int .u16 b1) := cell_held hb ‹_›; have z10 : wB.cell? ⟨W.heap.size + 1 + 1, 2, none⟩ = some (.int .u16 b2) := cell_held hb ‹_›; have z11 : wB.cell? ⟨W.heap.size + 1 + 1, 3, none⟩ = some (.int .u16 b3) := cell_held hb ‹_›; first | (replace m0 := free_c hb n0 m0; replace n0 := cell_held hb n0; replace m1 := free_c hb n1 m1; replace n1 := cell_held hb n1; replace m2 := free_c hb n2 m2; replace n2 := cell_held hb n2; replace m3 := free_c hb n3 m3; replace n3 := cell_held hb n3) | (have n0 : wB.cell? ⟨wA.heap.size, 0, none⟩ = some (.int .i64 0) := cell_held hb (by go_simp; done); have n1 : wB.cell? ⟨wA.heap.size, 1, none⟩ = some (.int .i64 0) := cell_held hb (by go_simp; done); have n2 : wB.cell? ⟨wA.heap.size, 2, none⟩ = some (.int .i64 0) := cell_held hb (by go_simp; done); have n3 : wB.cell? ⟨wA.heap.size, 3, none⟩ = some (.int .i64 0) := cell_held hb (by go_simp; done); have m0 : wB.frozen? ⟨wA.heap.size, 0, none⟩ = false := free_held hb (by first | (go_simp; done) | (go_simp; omega)) (by go_simp; done); have m1 : wB.frozen? ⟨wA.heap.size, 1, none⟩ = false := free_held hb (by first | (go_simp; done) | (go_simp; omega)) (by go_simp; done); have m2 : wB.frozen? ⟨wA.heap.size, 2, none⟩ = false := free_held hb (by first | (go_simp; done) | (go_simp; omega)) (by go_simp; done); have m3 : wB.frozen? ⟨wA.heap.size, 3, none⟩ = false := free_held hb (by first | (go_simp; done) | (go_simp; omega)) (by go_simp; done)) | skip))
    all_goals (have jz2 := jz1.out; have jz3 := jz0.out; go_wp2_with fail; go_meet; clear jz1 jz0; go_split_ands; refine ⟨_, rfl, ?_, ?_, ?_, ?_, ?_, ?_, ?_, ?_, ?_, ?_, ?_, ?_, ?_, ?_, ?_, ?_, ?_⟩ <;> first | with_reducible assumption | with_reducible exact below_alloc zB.out _ | with_reducible exact al_cell ‹_› | with_reducible exact sets_below zB.out (by omega) | (go_simp; done))
  case rest =>
    obtain ⟨g, rfl, g0, g1, g2, g3, q0, q1, q2, q3, q4, q5, q6, q7, q8, q9, q10, q11, HW⟩ := hcut
    replace HB := Aside0.mk HW
    clear HW
    cases hr : rightB r
    · obtain rfl := Z.out hr
      have z0 : z4.x = 0 := rfl
      have z1 : z4.y = 0 := rfl
      have z2 : z4.w = 0 := rfl
      have z3 : z4.h = 0 := rfl
      go_wp2_with fail
      refine (C3.out _).mono ?_
      rintro e w1 ⟨rfl, hb⟩
      replace HB := Aside0.mk (below_step HB.out hb)
      replace g0 := cell_held hb g0
      have Ag0 := fun o => al_cell (o := o) g0
      replace g1 := cell_held hb g1
      have Ag1 := fun o => al_cell (o := o) g1
      replace g2 := cell_held hb g2
      have Ag2 := fun o => al_cell (o := o) g2
      replace g3 := cell_held hb g3
      have Ag3 := fun o => al_cell (o := o) g3
      replace q0 := cell_held hb q0
      have Aq0 := fun o => al_cell (o := o) q0
      replace q1 := cell_held hb q1
      have Aq1 := fun o => al_cell (o := o) q1
      replace q2 := cell_held hb q2
      have Aq2 := fun o => al_cell (o := o) q2
      replace q3 := cell_held hb q3
      have Aq3 := fun o => al_cell (o := o) q3
      replace q4 := cell_held hb q4
      have Aq4 := fun o => al_cell (o := o) q4
      replace q5 := cell_held hb q5
      have Aq5 := fun o => al_cell (o := o) q5
      replace q6 := cell_held hb q6
      have Aq6 := fun o => al_cell (o := o) q6
      replace q7 := cell_held hb q7
      have Aq7 := fun o => al_cell (o := o) q7
      replace q8 := cell_held hb q8
      have Aq8 := fun o => al_cell (o := o) q8
      replace q9 := cell_held hb q9
      have Aq9 := fun o => al_cell (o := o) q9
      replace q10 := cell_held hb q10
      have Aq10 := fun o => al_cell (o := o) q10
      replace q11 := cell_held hb q11
      have Aq11 := fun o => al_cell (o := o) q11
      clear hb
      go_wp2_with fail
      refine (C4.out _).mono ?_
      rintro e w2 ⟨rfl, hb⟩
      replace HB := Aside0.mk (below_step (below_alloc HB.out _) hb)
      have t0 : w2.cell? ⟨w1.heap.size, 0, none⟩ = some (.int .i64 t.x) := cell_held hb (by go_simp; done)
      have t1 : w2.cell? ⟨w1.heap.size, 1, none⟩ = some (.int .i64 t.y) := cell_held hb (by go_simp; done)
      have t2 : w2.cell? ⟨w1.heap.size, 2, none⟩ = some (.int .i64 t.w) := cell_held hb (by go_simp; done)
      have t3 : w2.cell? ⟨w1.heap.size, 3, none⟩ = some (.int .i64 t.h) := cell_held hb (by go_simp; done)
      clear Ag0 Ag1 Ag2 Ag3 Aq0 Aq1 Aq2 Aq3 Aq4 Aq5 Aq6 Aq7 Aq8 Aq9 Aq10 Aq11
      replace g0 := cell_held hb (al_cell g0)
      have Ag0 := fun o => al_cell (o := o) g0
      replace g1 := cell_held hb (al_cell g1)
      have Ag1 := fun o => al_cell (o := o) g1
      replace g2 := cell_held hb (al_cell g2)
      have Ag2 := fun o => al_cell (o := o) g2
      replace g3 := cell_held hb (al_cell g3)
      have Ag3 := fun o => al_cell (o := o) g3
      replace q0 := cell_held hb (al_cell q0)
      have Aq0 := fun o => al_cell (o := o) q0
      replace q1 := cell_held hb (al_cell q1)
      have Aq1 := fun o => al_cell (o := o) q1
      replace q2 := cell_held hb (al_cell q2)
      have Aq2 := fun o => al_cell (o := o) q2
      replace q3 := cell_held hb (al_cell q3)
      have Aq3 := fun o => al_cell (o := o) q3
      replace q4 := cell_held hb (al_cell q4)
      have Aq4 := fun o => al_cell (o := o) q4
      replace q5 := cell_held hb (al_cell q5)
      have Aq5 := fun o => al_cell (o := o) q5
      replace q6 := cell_held hb (al_cell q6)
      have Aq6 := fun o => al_cell (o := o) q6
      replace q7 := cell_held hb (al_cell q7)
      have Aq7 := fun o => al_cell (o := o) q7
      replace q8 := cell_held hb (al_cell q8)
      have Aq8 := fun o => al_cell (o := o) q8
      replace q9 := cell_held hb (al_cell q9)
      have Aq9 := fun o => al_cell (o := o) q9
      replace q10 := cell_held hb (al_cell q10)
      have Aq10 := fun o => al_cell (o := o) q10
      replace q11 := cell_held hb (al_cell q11)
      have Aq11 := fun o => al_cell (o := o) q11
      have At0 := fun o => al_cell (o := o) t0
      have At1 := fun o => al_cell (o := o) t1
      have At2 := fun o => al_cell (o := o) t2
      have At3 := fun o => al_cell (o := o) t3
      clear hb
      go_wp2_with fail
      refine (c_gRight r _).mono ?_
      rintro e w3 ⟨rfl, hb⟩
      replace HB := Aside0.mk (below_step (below_alloc HB.out _) hb)
      have d0 : w3.cell? ⟨w2.heap.size, 0, none⟩ = some (.int .i64 z4.x) := cell_held hb (by go_simp; done)
      have d1 : w3.cell? ⟨w2.heap.size, 1, none⟩ = some (.int .i64 z4.y) := cell_held hb (by go_simp; done)
      have d2 : w3.cell? ⟨w2.heap.size, 2, none⟩ = some (.int .i64 z4.w) := cell_held hb (by go_simp; done)
      have d3 : w3.cell? ⟨w2.heap.size, 3, none⟩ = some (.int .i64 z4.h) := cell_held hb (by go_simp; done)
      clear Ag0 Ag1 Ag2 Ag3 Aq0 Aq1 Aq2 Aq3 Aq4 Aq5 Aq6 Aq7 Aq8 Aq9 Aq10 Aq11 At0 At1 At2 At3
      replace g0 := cell_held hb (al_cell g0)
      replace g1 := cell_held hb (al_cell g1)
      replace g2 := cell_held hb (al_cell g2)
      replace g3 := cell_held hb (al_cell g3)
      replace q0 := cell_held hb (al_cell q0)
      replace q1 := cell_held hb (al_cell q1)
      replace q2 := cell_held hb (al_cell q2)
      replace q3 := cell_held hb (al_cell q3)
      replace q4 := cell_held hb (al_cell q4)
      replace q5 := cell_held hb (al_cell q5)
      replace q6 := cell_held hb (al_cell q6)
      replace q7 := cell_held hb (al_cell q7)
      replace q8 := cell_held hb (al_cell q8)
      replace q9 := cell_held hb (al_cell q9)
      replace q10 := cell_held hb (al_cell q10)
      replace q11 := cell_held hb (al_cell q11)
      replace t0 := cell_held hb (al_cell t0)
      replace t1 := cell_held hb (al_cell t1)
      replace t2 := cell_held hb (al_cell t2)
      replace t3 := cell_held hb (al_cell t3)
      clear hb
      go_wp2_with fail
      refine (awake_any _).mono ?_
      rintro e w9 ⟨rfl, hb⟩
      replace HB := Aside0.mk (below_step HB.out hb)
      clear hb
      go_wp2_with fail
      go_ret
      exact ⟨rfl, HB.out⟩
    · obtain ⟨⟨lw, lh⟩, li, lt⟩ := L.out hr
      have lw' : (a2 < r.w - a0 ∧ d.w = r.w - a0 - a2) ∨ (¬ (a2 < r.w - a0) ∧ d.w = 0) := by
        rcases Int.lt_or_le a2 (r.w - a0) with c | c
        · exact Or.inl ⟨c, by omega⟩
        · exact Or.inr ⟨by omega, by omega⟩
      have lh' : (a3 < r.h - a1 ∧ d.h = r.h - a1 - a3) ∨ (¬ (a3 < r.h - a1) ∧ d.h = 0) := by
        rcases Int.lt_or_le a3 (r.h - a1) with c | c
        · exact Or.inl ⟨c, by omega⟩
        · exact Or.inr ⟨by omega, by omega⟩
      clear lw lh
      obtain ⟨⟨b1', b2', b3', b4'⟩, b5', b6', b7', b8'⟩ := rightB_true.1 hr
      have v0 : IntKind.i64.wrap (r.w - a0) = r.w - a0 := IntWalk.i64_in _ (by omega)
      have v1 : IntKind.i64.wrap (r.h - a1) = r.h - a1 := IntWalk.i64_in _ (by omega)
      have v2 : IntKind.i64.wrap (r.w - a0 - a2) = r.w - a0 - a2 := IntWalk.i64_in _ (by omega)
      have v3 : IntKind.i64.wrap (r.h - a1 - a3) = r.h - a1 - a3 := IntWalk.i64_in _ (by omega)
      have lt' : (emptyB t = true ∧ emptyB o = true) ∨ (emptyB t = false ∧ t = o) := by
        rcases lt with l | l
        · rw [Bool.and_eq_true] at l; exact Or.inl l
        · cases he : emptyB t
          · exact Or.inr ⟨rfl, l.symm⟩
          · exact Or.inl ⟨rfl, by rw [l]; exact he⟩
      clear lt
      obtain ⟨dx, dy, dw, dh⟩ := d
      dsimp only at lw' lh'
      rcases lt' with ⟨et, eo⟩ | ⟨et, rfl⟩
      · rcases lw' with ⟨cw, rfl⟩ | ⟨cw, rfl⟩ <;> rcases lh' with ⟨ch, rfl⟩ | ⟨ch, rfl⟩
        · go_wp2_with fail
          refine (C3.out _).mono ?_
          rintro e w1 ⟨rfl, hb⟩
          replace HB := Aside0.mk (below_step HB.out hb)
          replace g0 := cell_held hb g0
          have Ag0 := fun o => al_cell (o := o) g0
          replace g1 := cell_held hb g1
          have Ag1 := fun o => al_cell (o := o) g1
          replace g2 := cell_held hb g2
          have Ag2 := fun o => al_cell (o := o) g2
          replace g3 := cell_held hb g3
          have Ag3 := fun o => al_cell (o := o) g3
          replace q0 := cell_held hb q0
          have Aq0 := fun o => al_cell (o := o) q0
          replace q1 := cell_held hb q1
          have Aq1 := fun o => al_cell (o := o) q1
          replace q2 := cell_held hb q2
          have Aq2 := fun o => al_cell (o := o) q2
          replace q3 := cell_held hb q3
          have Aq3 := fun o => al_cell (o := o) q3
          replace q4 := cell_held hb q4
          have Aq4 := fun o => al_cell (o := o) q4
          replace q5 := cell_held hb q5
          have Aq5 := fun o => al_cell (o := o) q5
          replace q6 := cell_held hb q6
          have Aq6 := fun o => al_cell (o := o) q6
          replace q7 := cell_held hb q7
          have Aq7 := fun o => al_cell (o := o) q7
          replace q8 := cell_held hb q8
          have Aq8 := fun o => al_cell (o := o) q8
          replace q9 := cell_held hb q9
          have Aq9 := fun o => al_cell (o := o) q9
          replace q10 := cell_held hb q10
          have Aq10 := fun o => al_cell (o := o) q10
          replace q11 := cell_held hb q11
          have Aq11 := fun o => al_cell (o := o) q11
          clear hb
          go_wp2_with fail
          refine (C4.out _).mono ?_
          rintro e w2 ⟨rfl, hb⟩
          replace HB := Aside0.mk (below_step (below_alloc HB.out _) hb)
          have t0 : w2.cell? ⟨w1.heap.size, 0, none⟩ = some (.int .i64 t.x) := cell_held hb (by go_simp; done)
          have t1 : w2.cell? ⟨w1.heap.size, 1, none⟩ = some (.int .i64 t.y) := cell_held hb (by go_simp; done)
          have t2 : w2.cell? ⟨w1.heap.size, 2, none⟩ = some (.int .i64 t.w) := cell_held hb (by go_simp; done)
          have t3 : w2.cell? ⟨w1.heap.size, 3, none⟩ = some (.int .i64 t.h) := cell_held hb (by go_simp; done)
          clear Ag0 Ag1 Ag2 Ag3 Aq0 Aq1 Aq2 Aq3 Aq4 Aq5 Aq6 Aq7 Aq8 Aq9 Aq10 Aq11
          replace g0 := cell_held hb (al_cell g0)
          have Ag0 := fun o => al_cell (o := o) g0
          replace g1 := cell_held hb (al_cell g1)
          have Ag1 := fun o => al_cell (o := o) g1
          replace g2 := cell_held hb (al_cell g2)
          have Ag2 := fun o => al_cell (o := o) g2
          replace g3 := cell_held hb (al_cell g3)
          have Ag3 := fun o => al_cell (o := o) g3
          replace q0 := cell_held hb (al_cell q0)
          have Aq0 := fun o => al_cell (o := o) q0
          replace q1 := cell_held hb (al_cell q1)
          have Aq1 := fun o => al_cell (o := o) q1
          replace q2 := cell_held hb (al_cell q2)
          have Aq2 := fun o => al_cell (o := o) q2
          replace q3 := cell_held hb (al_cell q3)
          have Aq3 := fun o => al_cell (o := o) q3
          replace q4 := cell_held hb (al_cell q4)
          have Aq4 := fun o => al_cell (o := o) q4
          replace q5 := cell_held hb (al_cell q5)
          have Aq5 := fun o => al_cell (o := o) q5
          replace q6 := cell_held hb (al_cell q6)
          have Aq6 := fun o => al_cell (o := o) q6
          replace q7 := cell_held hb (al_cell q7)
          have Aq7 := fun o => al_cell (o := o) q7
          replace q8 := cell_held hb (al_cell q8)
          have Aq8 := fun o => al_cell (o := o) q8
          replace q9 := cell_held hb (al_cell q9)
          have Aq9 := fun o => al_cell (o := o) q9
          replace q10 := cell_held hb (al_cell q10)
          have Aq10 := fun o => al_cell (o := o) q10
          replace q11 := cell_held hb (al_cell q11)
          have Aq11 := fun o => al_cell (o := o) q11
          have At0 := fun o => al_cell (o := o) t0
          have At1 := fun o => al_cell (o := o) t1
          have At2 := fun o => al_cell (o := o) t2
          have At3 := fun o => al_cell (o := o) t3
          clear hb
          go_wp2_with fail
          refine (c_gRight r _).mono ?_
          rintro e w3 ⟨rfl, hb⟩
          replace HB := Aside0.mk (below_step (below_alloc HB.out _) hb)
          have d0 : w3.cell? ⟨w2.heap.size, 0, none⟩ = some (.int .i64 dx) := cell_held hb (by go_simp; done)
          have d1 : w3.cell? ⟨w2.heap.size, 1, none⟩ = some (.int .i64 dy) := cell_held hb (by go_simp; done)
          have d2 : w3.cell? ⟨w2.heap.size, 2, none⟩ = some (.int .i64 (r.w - a0 - a2)) := cell_held hb (by go_simp; done)
          have d3 : w3.cell? ⟨w2.heap.size, 3, none⟩ = some (.int .i64 (r.h - a1 - a3)) := cell_held hb (by go_simp; done)
          clear Ag0 Ag1 Ag2 Ag3 Aq0 Aq1 Aq2 Aq3 Aq4 Aq5 Aq6 Aq7 Aq8 Aq9 Aq10 Aq11 At0 At1 At2 At3
          replace g0 := cell_held hb (al_cell g0)
          replace g1 := cell_held hb (al_cell g1)
          replace g2 := cell_held hb (al_cell g2)
          replace g3 := cell_held hb (al_cell g3)
          replace q0 := cell_held hb (al_cell q0)
          replace q1 := cell_held hb (al_cell q1)
          replace q2 := cell_held hb (al_cell q2)
          replace q3 := cell_held hb (al_cell q3)
          replace q4 := cell_held hb (al_cell q4)
          replace q5 := cell_held hb (al_cell q5)
          replace q6 := cell_held hb (al_cell q6)
          replace q7 := cell_held hb (al_cell q7)
          replace q8 := cell_held hb (al_cell q8)
          replace q9 := cell_held hb (al_cell q9)
          replace q10 := cell_held hb (al_cell q10)
          replace q11 := cell_held hb (al_cell q11)
          replace t0 := cell_held hb (al_cell t0)
          replace t1 := cell_held hb (al_cell t1)
          replace t2 := cell_held hb (al_cell t2)
          replace t3 := cell_held hb (al_cell t3)
          clear hb
          go_wp2_with fail
          refine (c_gInside ⟨dx, dy, r.w - a0 - a2, r.h - a1 - a3⟩ r _).mono ?_
          rintro e w4 ⟨rfl, hb⟩
          replace HB := Aside0.mk (below_step HB.out hb)
          replace g0 := cell_held hb g0
          replace g1 := cell_held hb g1
          replace g2 := cell_held hb g2
          replace g3 := cell_held hb g3
          replace q0 := cell_held hb q0
          replace q1 := cell_held hb q1
          replace q2 := cell_held hb q2
          replace q3 := cell_held hb q3
          replace q4 := cell_held hb q4
          replace q5 := cell_held hb q5
          replace q6 := cell_held hb q6
          replace q7 := cell_held hb q7
          replace q8 := cell_held hb q8
          replace q9 := cell_held hb q9
          replace q10 := cell_held hb q10
          replace q11 := cell_held hb q11
          replace t0 := cell_held hb t0
          replace t1 := cell_held hb t1
          replace t2 := cell_held hb t2
          replace t3 := cell_held hb t3
          replace d0 := cell_held hb d0
          replace d1 := cell_held hb d1
          replace d2 := cell_held hb d2
          replace d3 := cell_held hb d3
          clear hb
          go_wp2_with fail
          refine (c_gEmpty t _).mono ?_
          rintro e w5 ⟨rfl, hb⟩
          replace HB := Aside0.mk (below_step HB.out hb)
          replace g0 := cell_held hb g0
          replace g1 := cell_held hb g1
          replace g2 := cell_held hb g2
          replace g3 := cell_held hb g3
          replace q0 := cell_held hb q0
          replace q1 := cell_held hb q1
          replace q2 := cell_held hb q2
          replace q3 := cell_held hb q3
          replace q4 := cell_held hb q4
          replace q5 := cell_held hb q5
          replace q6 := cell_held hb q6
          replace q7 := cell_held hb q7
          replace q8 := cell_held hb q8
          replace q9 := cell_held hb q9
          replace q10 := cell_held hb q10
          replace q11 := cell_held hb q11
          replace t0 := cell_held hb t0
          replace t1 := cell_held hb t1
          replace t2 := cell_held hb t2
          replace t3 := cell_held hb t3
          replace d0 := cell_held hb d0
          replace d1 := cell_held hb d1
          replace d2 := cell_held hb d2
          replace d3 := cell_held hb d3
          clear hb
          go_wp2_with fail
          refine (c_gEmpty o _).mono ?_
          rintro e w6 ⟨rfl, hb⟩
          replace HB := Aside0.mk (below_step HB.out hb)
          replace g0 := cell_held hb g0
          replace g1 := cell_held hb g1
          replace g2 := cell_held hb g2
          replace g3 := cell_held hb g3
          replace q0 := cell_held hb q0
          replace q1 := cell_held hb q1
          replace q2 := cell_held hb q2
          replace q3 := cell_held hb q3
          replace q4 := cell_held hb q4
          replace q5 := cell_held hb q5
          replace q6 := cell_held hb q6
          replace q7 := cell_held hb q7
          replace q8 := cell_held hb q8
          replace q9 := cell_held hb q9
          replace q10 := cell_held hb q10
          replace q11 := cell_held hb q11
          replace t0 := cell_held hb t0
          replace t1 := cell_held hb t1
          replace t2 := cell_held hb t2
          replace t3 := cell_held hb t3
          replace d0 := cell_held hb d0
          replace d1 := cell_held hb d1
          replace d2 := cell_held hb d2
          replace d3 := cell_held hb d3
          clear hb
          go_wp2_with fail
          refine (awake_any _).mono ?_
          rintro e w9 ⟨rfl, hb⟩
          replace HB := Aside0.mk (below_step HB.out hb)
          clear hb
          go_wp2_with fail
          go_ret
          exact ⟨rfl, HB.out⟩
        · go_wp2_with fail
          refine (C3.out _).mono ?_
          rintro e w1 ⟨rfl, hb⟩
          replace HB := Aside0.mk (below_step HB.out hb)
          replace g0 := cell_held hb g0
          have Ag0 := fun o => al_cell (o := o) g0
          replace g1 := cell_held hb g1
          have Ag1 := fun o => al_cell (o := o) g1
          replace g2 := cell_held hb g2
          have Ag2 := fun o => al_cell (o := o) g2
          replace g3 := cell_held hb g3
          have Ag3 := fun o => al_cell (o := o) g3
          replace q0 := cell_held hb q0
          have Aq0 := fun o => al_cell (o := o) q0
          replace q1 := cell_held hb q1
          have Aq1 := fun o => al_cell (o := o) q1
          replace q2 := cell_held hb q2
          have Aq2 := fun o => al_cell (o := o) q2
          replace q3 := cell_held hb q3
          have Aq3 := fun o => al_cell (o := o) q3
          replace q4 := cell_held hb q4
          have Aq4 := fun o => al_cell (o := o) q4
          replace q5 := cell_held hb q5
          have Aq5 := fun o => al_cell (o := o) q5
          replace q6 := cell_held hb q6
          have Aq6 := fun o => al_cell (o := o) q6
          replace q7 := cell_held hb q7
          have Aq7 := fun o => al_cell (o := o) q7
          replace q8 := cell_held hb q8
          have Aq8 := fun o => al_cell (o := o) q8
          replace q9 := cell_held hb q9
          have Aq9 := fun o => al_cell (o := o) q9
          replace q10 := cell_held hb q10
          have Aq10 := fun o => al_cell (o := o) q10
          replace q11 := cell_held hb q11
          have Aq11 := fun o => al_cell (o := o) q11
          clear hb
          go_wp2_with fail
          refine (C4.out _).mono ?_
          rintro e w2 ⟨rfl, hb⟩
          replace HB := Aside0.mk (below_step (below_alloc HB.out _) hb)
          have t0 : w2.cell? ⟨w1.heap.size, 0, none⟩ = some (.int .i64 t.x) := cell_held hb (by go_simp; done)
          have t1 : w2.cell? ⟨w1.heap.size, 1, none⟩ = some (.int .i64 t.y) := cell_held hb (by go_simp; done)
          have t2 : w2.cell? ⟨w1.heap.size, 2, none⟩ = some (.int .i64 t.w) := cell_held hb (by go_simp; done)
          have t3 : w2.cell? ⟨w1.heap.size, 3, none⟩ = some (.int .i64 t.h) := cell_held hb (by go_simp; done)
          clear Ag0 Ag1 Ag2 Ag3 Aq0 Aq1 Aq2 Aq3 Aq4 Aq5 Aq6 Aq7 Aq8 Aq9 Aq10 Aq11
          replace g0 := cell_held hb (al_cell g0)
          have Ag0 := fun o => al_cell (o := o) g0
          replace g1 := cell_held hb (al_cell g1)
          have Ag1 := fun o => al_cell (o := o) g1
          replace g2 := cell_held hb (al_cell g2)
          have Ag2 := fun o => al_cell (o := o) g2
          replace g3 := cell_held hb (al_cell g3)
          have Ag3 := fun o => al_cell (o := o) g3
          replace q0 := cell_held hb (al_cell q0)
          have Aq0 := fun o => al_cell (o := o) q0
          replace q1 := cell_held hb (al_cell q1)
          have Aq1 := fun o => al_cell (o := o) q1
          replace q2 := cell_held hb (al_cell q2)
          have Aq2 := fun o => al_cell (o := o) q2
          replace q3 := cell_held hb (al_cell q3)
          have Aq3 := fun o => al_cell (o := o) q3
          replace q4 := cell_held hb (al_cell q4)
          have Aq4 := fun o => al_cell (o := o) q4
          replace q5 := cell_held hb (al_cell q5)
          have Aq5 := fun o => al_cell (o := o) q5
          replace q6 := cell_held hb (al_cell q6)
          have Aq6 := fun o => al_cell (o := o) q6
          replace q7 := cell_held hb (al_cell q7)
          have Aq7 := fun o => al_cell (o := o) q7
          replace q8 := cell_held hb (al_cell q8)
          have Aq8 := fun o => al_cell (o := o) q8
          replace q9 := cell_held hb (al_cell q9)
          have Aq9 := fun o => al_cell (o := o) q9
          replace q10 := cell_held hb (al_cell q10)
          have Aq10 := fun o => al_cell (o := o) q10
          replace q11 := cell_held hb (al_cell q11)
          have Aq11 := fun o => al_cell (o := o) q11
          have At0 := fun o => al_cell (o := o) t0
          have At1 := fun o => al_cell (o := o) t1
          have At2 := fun o => al_cell (o := o) t2
          have At3 := fun o => al_cell (o := o) t3
          clear hb
          go_wp2_with fail
          refine (c_gRight r _).mono ?_
          rintro e w3 ⟨rfl, hb⟩
          replace HB := Aside0.mk (below_step (below_alloc HB.out _) hb)
          have d0 : w3.cell? ⟨w2.heap.size, 0, none⟩ = some (.int .i64 dx) := cell_held hb (by go_simp; done)
          have d1 : w3.cell? ⟨w2.heap.size, 1, none⟩ = some (.int .i64 dy) := cell_held hb (by go_simp; done)
          have d2 : w3.cell? ⟨w2.heap.size, 2, none⟩ = some (.int .i64 (r.w - a0 - a2)) := cell_held hb (by go_simp; done)
          have d3 : w3.cell? ⟨w2.heap.size, 3, none⟩ = some (.int .i64 (0)) := cell_held hb (by go_simp; done)
          clear Ag0 Ag1 Ag2 Ag3 Aq0 Aq1 Aq2 Aq3 Aq4 Aq5 Aq6 Aq7 Aq8 Aq9 Aq10 Aq11 At0 At1 At2 At3
          replace g0 := cell_held hb (al_cell g0)
          replace g1 := cell_held hb (al_cell g1)
          replace g2 := cell_held hb (al_cell g2)
          replace g3 := cell_held hb (al_cell g3)
          replace q0 := cell_held hb (al_cell q0)
          replace q1 := cell_held hb (al_cell q1)
          replace q2 := cell_held hb (al_cell q2)
          replace q3 := cell_held hb (al_cell q3)
          replace q4 := cell_held hb (al_cell q4)
          replace q5 := cell_held hb (al_cell q5)
          replace q6 := cell_held hb (al_cell q6)
          replace q7 := cell_held hb (al_cell q7)
          replace q8 := cell_held hb (al_cell q8)
          replace q9 := cell_held hb (al_cell q9)
          replace q10 := cell_held hb (al_cell q10)
          replace q11 := cell_held hb (al_cell q11)
          replace t0 := cell_held hb (al_cell t0)
          replace t1 := cell_held hb (al_cell t1)
          replace t2 := cell_held hb (al_cell t2)
          replace t3 := cell_held hb (al_cell t3)
          clear hb
          go_wp2_with fail
          refine (c_gInside ⟨dx, dy, r.w - a0 - a2, 0⟩ r _).mono ?_
          rintro e w4 ⟨rfl, hb⟩
          replace HB := Aside0.mk (below_step HB.out hb)
          replace g0 := cell_held hb g0
          replace g1 := cell_held hb g1
          replace g2 := cell_held hb g2
          replace g3 := cell_held hb g3
          replace q0 := cell_held hb q0
          replace q1 := cell_held hb q1
          replace q2 := cell_held hb q2
          replace q3 := cell_held hb q3
          replace q4 := cell_held hb q4
          replace q5 := cell_held hb q5
          replace q6 := cell_held hb q6
          replace q7 := cell_held hb q7
          replace q8 := cell_held hb q8
          replace q9 := cell_held hb q9
          replace q10 := cell_held hb q10
          replace q11 := cell_held hb q11
          replace t0 := cell_held hb t0
          replace t1 := cell_held hb t1
          replace t2 := cell_held hb t2
          replace t3 := cell_held hb t3
          replace d0 := cell_held hb d0
          replace d1 := cell_held hb d1
          replace d2 := cell_held hb d2
          replace d3 := cell_held hb d3
          clear hb
          go_wp2_with fail
          refine (c_gEmpty t _).mono ?_
          rintro e w5 ⟨rfl, hb⟩
          replace HB := Aside0.mk (below_step HB.out hb)
          replace g0 := cell_held hb g0
          replace g1 := cell_held hb g1
          replace g2 := cell_held hb g2
          replace g3 := cell_held hb g3
          replace q0 := cell_held hb q0
          replace q1 := cell_held hb q1
          replace q2 := cell_held hb q2
          replace q3 := cell_held hb q3
          replace q4 := cell_held hb q4
          replace q5 := cell_held hb q5
          replace q6 := cell_held hb q6
          replace q7 := cell_held hb q7
          replace q8 := cell_held hb q8
          replace q9 := cell_held hb q9
          replace q10 := cell_held hb q10
          replace q11 := cell_held hb q11
          replace t0 := cell_held hb t0
          replace t1 := cell_held hb t1
          replace t2 := cell_held hb t2
          replace t3 := cell_held hb t3
          replace d0 := cell_held hb d0
          replace d1 := cell_held hb d1
          replace d2 := cell_held hb d2
          replace d3 := cell_held hb d3
          clear hb
          go_wp2_with fail
          refine (c_gEmpty o _).mono ?_
          rintro e w6 ⟨rfl, hb⟩
          replace HB := Aside0.mk (below_step HB.out hb)
          replace g0 := cell_held hb g0
          replace g1 := cell_held hb g1
          replace g2 := cell_held hb g2
          replace g3 := cell_held hb g3
          replace q0 := cell_held hb q0
          replace q1 := cell_held hb q1
          replace q2 := cell_held hb q2
          replace q3 := cell_held hb q3
          replace q4 := cell_held hb q4
          replace q5 := cell_held hb q5
          replace q6 := cell_held hb q6
          replace q7 := cell_held hb q7
          replace q8 := cell_held hb q8
          replace q9 := cell_held hb q9
          replace q10 := cell_held hb q10
          replace q11 := cell_held hb q11
          replace t0 := cell_held hb t0
          replace t1 := cell_held hb t1
          replace t2 := cell_held hb t2
          replace t3 := cell_held hb t3
          replace d0 := cell_held hb d0
          replace d1 := cell_held hb d1
          replace d2 := cell_held hb d2
          replace d3 := cell_held hb d3
          clear hb
          go_wp2_with fail
          refine (awake_any _).mono ?_
          rintro e w9 ⟨rfl, hb⟩
          replace HB := Aside0.mk (below_step HB.out hb)
          clear hb
          go_wp2_with fail
          go_ret
          exact ⟨rfl, HB.out⟩
        · go_wp2_with fail
          refine (C3.out _).mono ?_
          rintro e w1 ⟨rfl, hb⟩
          replace HB := Aside0.mk (below_step HB.out hb)
          replace g0 := cell_held hb g0
          have Ag0 := fun o => al_cell (o := o) g0
          replace g1 := cell_held hb g1
          have Ag1 := fun o => al_cell (o := o) g1
          replace g2 := cell_held hb g2
          have Ag2 := fun o => al_cell (o := o) g2
          replace g3 := cell_held hb g3
          have Ag3 := fun o => al_cell (o := o) g3
          replace q0 := cell_held hb q0
          have Aq0 := fun o => al_cell (o := o) q0
          replace q1 := cell_held hb q1
          have Aq1 := fun o => al_cell (o := o) q1
          replace q2 := cell_held hb q2
          have Aq2 := fun o => al_cell (o := o) q2
          replace q3 := cell_held hb q3
          have Aq3 := fun o => al_cell (o := o) q3
          replace q4 := cell_held hb q4
          have Aq4 := fun o => al_cell (o := o) q4
          replace q5 := cell_held hb q5
          have Aq5 := fun o => al_cell (o := o) q5
          replace q6 := cell_held hb q6
          have Aq6 := fun o => al_cell (o := o) q6
          replace q7 := cell_held hb q7
          have Aq7 := fun o => al_cell (o := o) q7
          replace q8 := cell_held hb q8
          have Aq8 := fun o => al_cell (o := o) q8
          replace q9 := cell_held hb q9
          have Aq9 := fun o => al_cell (o := o) q9
          replace q10 := cell_held hb q10
          have Aq10 := fun o => al_cell (o := o) q10
          replace q11 := cell_held hb q11
          have Aq11 := fun o => al_cell (o := o) q11
          clear hb
          go_wp2_with fail
          refine (C4.out _).mono ?_
          rintro e w2 ⟨rfl, hb⟩
          replace HB := Aside0.mk (below_step (below_alloc HB.out _) hb)
          have t0 : w2.cell? ⟨w1.heap.size, 0, none⟩ = some (.int .i64 t.x) := cell_held hb (by go_simp; done)
          have t1 : w2.cell? ⟨w1.heap.size, 1, none⟩ = some (.int .i64 t.y) := cell_held hb (by go_simp; done)
          have t2 : w2.cell? ⟨w1.heap.size, 2, none⟩ = some (.int .i64 t.w) := cell_held hb (by go_simp; done)
          have t3 : w2.cell? ⟨w1.heap.size, 3, none⟩ = some (.int .i64 t.h) := cell_held hb (by go_simp; done)
          clear Ag0 Ag1 Ag2 Ag3 Aq0 Aq1 Aq2 Aq3 Aq4 Aq5 Aq6 Aq7 Aq8 Aq9 Aq10 Aq11
          replace g0 := cell_held hb (al_cell g0)
          have Ag0 := fun o => al_cell (o := o) g0
          replace g1 := cell_held hb (al_cell g1)
          have Ag1 := fun o => al_cell (o := o) g1
          replace g2 := cell_held hb (al_cell g2)
          have Ag2 := fun o => al_cell (o := o) g2
          replace g3 := cell_held hb (al_cell g3)
          have Ag3 := fun o => al_cell (o := o) g3
          replace q0 := cell_held hb (al_cell q0)
          have Aq0 := fun o => al_cell (o := o) q0
          replace q1 := cell_held hb (al_cell q1)
          have Aq1 := fun o => al_cell (o := o) q1
          replace q2 := cell_held hb (al_cell q2)
          have Aq2 := fun o => al_cell (o := o) q2
          replace q3 := cell_held hb (al_cell q3)
          have Aq3 := fun o => al_cell (o := o) q3
          replace q4 := cell_held hb (al_cell q4)
          have Aq4 := fun o => al_cell (o := o) q4
          replace q5 := cell_held hb (al_cell q5)
          have Aq5 := fun o => al_cell (o := o) q5
          replace q6 := cell_held hb (al_cell q6)
          have Aq6 := fun o => al_cell (o := o) q6
          replace q7 := cell_held hb (al_cell q7)
          have Aq7 := fun o => al_cell (o := o) q7
          replace q8 := cell_held hb (al_cell q8)
          have Aq8 := fun o => al_cell (o := o) q8
          replace q9 := cell_held hb (al_cell q9)
          have Aq9 := fun o => al_cell (o := o) q9
          replace q10 := cell_held hb (al_cell q10)
          have Aq10 := fun o => al_cell (o := o) q10
          replace q11 := cell_held hb (al_cell q11)
          have Aq11 := fun o => al_cell (o := o) q11
          have At0 := fun o => al_cell (o := o) t0
          have At1 := fun o => al_cell (o := o) t1
          have At2 := fun o => al_cell (o := o) t2
          have At3 := fun o => al_cell (o := o) t3
          clear hb
          go_wp2_with fail
          refine (c_gRight r _).mono ?_
          rintro e w3 ⟨rfl, hb⟩
          replace HB := Aside0.mk (below_step (below_alloc HB.out _) hb)
          have d0 : w3.cell? ⟨w2.heap.size, 0, none⟩ = some (.int .i64 dx) := cell_held hb (by go_simp; done)
          have d1 : w3.cell? ⟨w2.heap.size, 1, none⟩ = some (.int .i64 dy) := cell_held hb (by go_simp; done)
          have d2 : w3.cell? ⟨w2.heap.size, 2, none⟩ = some (.int .i64 (0)) := cell_held hb (by go_simp; done)
          have d3 : w3.cell? ⟨w2.heap.size, 3, none⟩ = some (.int .i64 (r.h - a1 - a3)) := cell_held hb (by go_simp; done)
          clear Ag0 Ag1 Ag2 Ag3 Aq0 Aq1 Aq2 Aq3 Aq4 Aq5 Aq6 Aq7 Aq8 Aq9 Aq10 Aq11 At0 At1 At2 At3
          replace g0 := cell_held hb (al_cell g0)
          replace g1 := cell_held hb (al_cell g1)
          replace g2 := cell_held hb (al_cell g2)
          replace g3 := cell_held hb (al_cell g3)
          replace q0 := cell_held hb (al_cell q0)
          replace q1 := cell_held hb (al_cell q1)
          replace q2 := cell_held hb (al_cell q2)
          replace q3 := cell_held hb (al_cell q3)
          replace q4 := cell_held hb (al_cell q4)
          replace q5 := cell_held hb (al_cell q5)
          replace q6 := cell_held hb (al_cell q6)
          replace q7 := cell_held hb (al_cell q7)
          replace q8 := cell_held hb (al_cell q8)
          replace q9 := cell_held hb (al_cell q9)
          replace q10 := cell_held hb (al_cell q10)
          replace q11 := cell_held hb (al_cell q11)
          replace t0 := cell_held hb (al_cell t0)
          replace t1 := cell_held hb (al_cell t1)
          replace t2 := cell_held hb (al_cell t2)
          replace t3 := cell_held hb (al_cell t3)
          clear hb
          go_wp2_with fail
          refine (c_gInside ⟨dx, dy, 0, r.h - a1 - a3⟩ r _).mono ?_
          rintro e w4 ⟨rfl, hb⟩
          replace HB := Aside0.mk (below_step HB.out hb)
          replace g0 := cell_held hb g0
          replace g1 := cell_held hb g1
          replace g2 := cell_held hb g2
          replace g3 := cell_held hb g3
          replace q0 := cell_held hb q0
          replace q1 := cell_held hb q1
          replace q2 := cell_held hb q2
          replace q3 := cell_held hb q3
          replace q4 := cell_held hb q4
          replace q5 := cell_held hb q5
          replace q6 := cell_held hb q6
          replace q7 := cell_held hb q7
          replace q8 := cell_held hb q8
          replace q9 := cell_held hb q9
          replace q10 := cell_held hb q10
          replace q11 := cell_held hb q11
          replace t0 := cell_held hb t0
          replace t1 := cell_held hb t1
          replace t2 := cell_held hb t2
          replace t3 := cell_held hb t3
          replace d0 := cell_held hb d0
          replace d1 := cell_held hb d1
          replace d2 := cell_held hb d2
          replace d3 := cell_held hb d3
          clear hb
          go_wp2_with fail
          refine (c_gEmpty t _).mono ?_
          rintro e w5 ⟨rfl, hb⟩
          replace HB := Aside0.mk (below_step HB.out hb)
          replace g0 := cell_held hb g0
          replace g1 := cell_held hb g1
          replace g2 := cell_held hb g2
          replace g3 := cell_held hb g3
          replace q0 := cell_held hb q0
          replace q1 := cell_held hb q1
          replace q2 := cell_held hb q2
          replace q3 := cell_held hb q3
          replace q4 := cell_held hb q4
          replace q5 := cell_held hb q5
          replace q6 := cell_held hb q6
          replace q7 := cell_held hb q7
          replace q8 := cell_held hb q8
          replace q9 := cell_held hb q9
          replace q10 := cell_held hb q10
          replace q11 := cell_held hb q11
          replace t0 := cell_held hb t0
          replace t1 := cell_held hb t1
          replace t2 := cell_held hb t2
          replace t3 := cell_held hb t3
          replace d0 := cell_held hb d0
          replace d1 := cell_held hb d1
          replace d2 := cell_held hb d2
          replace d3 := cell_held hb d3
          clear hb
          go_wp2_with fail
          refine (c_gEmpty o _).mono ?_
          rintro e w6 ⟨rfl, hb⟩
          replace HB := Aside0.mk (below_step HB.out hb)
          replace g0 := cell_held hb g0
          replace g1 := cell_held hb g1
          replace g2 := cell_held hb g2
          replace g3 := cell_held hb g3
          replace q0 := cell_held hb q0
          replace q1 := cell_held hb q1
          replace q2 := cell_held hb q2
          replace q3 := cell_held hb q3
          replace q4 := cell_held hb q4
          replace q5 := cell_held hb q5
          replace q6 := cell_held hb q6
          replace q7 := cell_held hb q7
          replace q8 := cell_held hb q8
          replace q9 := cell_held hb q9
          replace q10 := cell_held hb q10
          replace q11 := cell_held hb q11
          replace t0 := cell_held hb t0
          replace t1 := cell_held hb t1
          replace t2 := cell_held hb t2
          replace t3 := cell_held hb t3
          replace d0 := cell_held hb d0
          replace d1 := cell_held hb d1
          replace d2 := cell_held hb d2
          replace d3 := cell_held hb d3
          clear hb
          go_wp2_with fail
          refine (awake_any _).mono ?_
          rintro e w9 ⟨rfl, hb⟩
          replace HB := Aside0.mk (below_step HB.out hb)
          clear hb
          go_wp2_with fail
          go_ret
          exact ⟨rfl, HB.out⟩
        · go_wp2_with fail
          refine (C3.out _).mono ?_
          rintro e w1 ⟨rfl, hb⟩
          replace HB := Aside0.mk (below_step HB.out hb)
          replace g0 := cell_held hb g0
          have Ag0 := fun o => al_cell (o := o) g0
          replace g1 := cell_held hb g1
          have Ag1 := fun o => al_cell (o := o) g1
          replace g2 := cell_held hb g2
          have Ag2 := fun o => al_cell (o := o) g2
          replace g3 := cell_held hb g3
          have Ag3 := fun o => al_cell (o := o) g3
          replace q0 := cell_held hb q0
          have Aq0 := fun o => al_cell (o := o) q0
          replace q1 := cell_held hb q1
          have Aq1 := fun o => al_cell (o := o) q1
          replace q2 := cell_held hb q2
          have Aq2 := fun o => al_cell (o := o) q2
          replace q3 := cell_held hb q3
          have Aq3 := fun o => al_cell (o := o) q3
          replace q4 := cell_held hb q4
          have Aq4 := fun o => al_cell (o := o) q4
          replace q5 := cell_held hb q5
          have Aq5 := fun o => al_cell (o := o) q5
          replace q6 := cell_held hb q6
          have Aq6 := fun o => al_cell (o := o) q6
          replace q7 := cell_held hb q7
          have Aq7 := fun o => al_cell (o := o) q7
          replace q8 := cell_held hb q8
          have Aq8 := fun o => al_cell (o := o) q8
          replace q9 := cell_held hb q9
          have Aq9 := fun o => al_cell (o := o) q9
          replace q10 := cell_held hb q10
          have Aq10 := fun o => al_cell (o := o) q10
          replace q11 := cell_held hb q11
          have Aq11 := fun o => al_cell (o := o) q11
          clear hb
          go_wp2_with fail
          refine (C4.out _).mono ?_
          rintro e w2 ⟨rfl, hb⟩
          replace HB := Aside0.mk (below_step (below_alloc HB.out _) hb)
          have t0 : w2.cell? ⟨w1.heap.size, 0, none⟩ = some (.int .i64 t.x) := cell_held hb (by go_simp; done)
          have t1 : w2.cell? ⟨w1.heap.size, 1, none⟩ = some (.int .i64 t.y) := cell_held hb (by go_simp; done)
          have t2 : w2.cell? ⟨w1.heap.size, 2, none⟩ = some (.int .i64 t.w) := cell_held hb (by go_simp; done)
          have t3 : w2.cell? ⟨w1.heap.size, 3, none⟩ = some (.int .i64 t.h) := cell_held hb (by go_simp; done)
          clear Ag0 Ag1 Ag2 Ag3 Aq0 Aq1 Aq2 Aq3 Aq4 Aq5 Aq6 Aq7 Aq8 Aq9 Aq10 Aq11
          replace g0 := cell_held hb (al_cell g0)
          have Ag0 := fun o => al_cell (o := o) g0
          replace g1 := cell_held hb (al_cell g1)
          have Ag1 := fun o => al_cell (o := o) g1
          replace g2 := cell_held hb (al_cell g2)
          have Ag2 := fun o => al_cell (o := o) g2
          replace g3 := cell_held hb (al_cell g3)
          have Ag3 := fun o => al_cell (o := o) g3
          replace q0 := cell_held hb (al_cell q0)
          have Aq0 := fun o => al_cell (o := o) q0
          replace q1 := cell_held hb (al_cell q1)
          have Aq1 := fun o => al_cell (o := o) q1
          replace q2 := cell_held hb (al_cell q2)
          have Aq2 := fun o => al_cell (o := o) q2
          replace q3 := cell_held hb (al_cell q3)
          have Aq3 := fun o => al_cell (o := o) q3
          replace q4 := cell_held hb (al_cell q4)
          have Aq4 := fun o => al_cell (o := o) q4
          replace q5 := cell_held hb (al_cell q5)
          have Aq5 := fun o => al_cell (o := o) q5
          replace q6 := cell_held hb (al_cell q6)
          have Aq6 := fun o => al_cell (o := o) q6
          replace q7 := cell_held hb (al_cell q7)
          have Aq7 := fun o => al_cell (o := o) q7
          replace q8 := cell_held hb (al_cell q8)
          have Aq8 := fun o => al_cell (o := o) q8
          replace q9 := cell_held hb (al_cell q9)
          have Aq9 := fun o => al_cell (o := o) q9
          replace q10 := cell_held hb (al_cell q10)
          have Aq10 := fun o => al_cell (o := o) q10
          replace q11 := cell_held hb (al_cell q11)
          have Aq11 := fun o => al_cell (o := o) q11
          have At0 := fun o => al_cell (o := o) t0
          have At1 := fun o => al_cell (o := o) t1
          have At2 := fun o => al_cell (o := o) t2
          have At3 := fun o => al_cell (o := o) t3
          clear hb
          go_wp2_with fail
          refine (c_gRight r _).mono ?_
          rintro e w3 ⟨rfl, hb⟩
          replace HB := Aside0.mk (below_step (below_alloc HB.out _) hb)
          have d0 : w3.cell? ⟨w2.heap.size, 0, none⟩ = some (.int .i64 dx) := cell_held hb (by go_simp; done)
          have d1 : w3.cell? ⟨w2.heap.size, 1, none⟩ = some (.int .i64 dy) := cell_held hb (by go_simp; done)
          have d2 : w3.cell? ⟨w2.heap.size, 2, none⟩ = some (.int .i64 (0)) := cell_held hb (by go_simp; done)
          have d3 : w3.cell? ⟨w2.heap.size, 3, none⟩ = some (.int .i64 (0)) := cell_held hb (by go_simp; done)
          clear Ag0 Ag1 Ag2 Ag3 Aq0 Aq1 Aq2 Aq3 Aq4 Aq5 Aq6 Aq7 Aq8 Aq9 Aq10 Aq11 At0 At1 At2 At3
          replace g0 := cell_held hb (al_cell g0)
          replace g1 := cell_held hb (al_cell g1)
          replace g2 := cell_held hb (al_cell g2)
          replace g3 := cell_held hb (al_cell g3)
          replace q0 := cell_held hb (al_cell q0)
          replace q1 := cell_held hb (al_cell q1)
          replace q2 := cell_held hb (al_cell q2)
          replace q3 := cell_held hb (al_cell q3)
          replace q4 := cell_held hb (al_cell q4)
          replace q5 := cell_held hb (al_cell q5)
          replace q6 := cell_held hb (al_cell q6)
          replace q7 := cell_held hb (al_cell q7)
          replace q8 := cell_held hb (al_cell q8)
          replace q9 := cell_held hb (al_cell q9)
          replace q10 := cell_held hb (al_cell q10)
          replace q11 := cell_held hb (al_cell q11)
          replace t0 := cell_held hb (al_cell t0)
          replace t1 := cell_held hb (al_cell t1)
          replace t2 := cell_held hb (al_cell t2)
          replace t3 := cell_held hb (al_cell t3)
          clear hb
          go_wp2_with fail
          refine (c_gInside ⟨dx, dy, 0, 0⟩ r _).mono ?_
          rintro e w4 ⟨rfl, hb⟩
          replace HB := Aside0.mk (below_step HB.out hb)
          replace g0 := cell_held hb g0
          replace g1 := cell_held hb g1
          replace g2 := cell_held hb g2
          replace g3 := cell_held hb g3
          replace q0 := cell_held hb q0
          replace q1 := cell_held hb q1
          replace q2 := cell_held hb q2
          replace q3 := cell_held hb q3
          replace q4 := cell_held hb q4
          replace q5 := cell_held hb q5
          replace q6 := cell_held hb q6
          replace q7 := cell_held hb q7
          replace q8 := cell_held hb q8
          replace q9 := cell_held hb q9
          replace q10 := cell_held hb q10
          replace q11 := cell_held hb q11
          replace t0 := cell_held hb t0
          replace t1 := cell_held hb t1
          replace t2 := cell_held hb t2
          replace t3 := cell_held hb t3
          replace d0 := cell_held hb d0
          replace d1 := cell_held hb d1
          replace d2 := cell_held hb d2
          replace d3 := cell_held hb d3
          clear hb
          go_wp2_with fail
          refine (c_gEmpty t _).mono ?_
          rintro e w5 ⟨rfl, hb⟩
          replace HB := Aside0.mk (below_step HB.out hb)
          replace g0 := cell_held hb g0
          replace g1 := cell_held hb g1
          replace g2 := cell_held hb g2
          replace g3 := cell_held hb g3
          replace q0 := cell_held hb q0
          replace q1 := cell_held hb q1
          replace q2 := cell_held hb q2
          replace q3 := cell_held hb q3
          replace q4 := cell_held hb q4
          replace q5 := cell_held hb q5
          replace q6 := cell_held hb q6
          replace q7 := cell_held hb q7
          replace q8 := cell_held hb q8
          replace q9 := cell_held hb q9
          replace q10 := cell_held hb q10
          replace q11 := cell_held hb q11
          replace t0 := cell_held hb t0
          replace t1 := cell_held hb t1
          replace t2 := cell_held hb t2
          replace t3 := cell_held hb t3
          replace d0 := cell_held hb d0
          replace d1 := cell_held hb d1
          replace d2 := cell_held hb d2
          replace d3 := cell_held hb d3
          clear hb
          go_wp2_with fail
          refine (c_gEmpty o _).mono ?_
          rintro e w6 ⟨rfl, hb⟩
          replace HB := Aside0.mk (below_step HB.out hb)
          replace g0 := cell_held hb g0
          replace g1 := cell_held hb g1
          replace g2 := cell_held hb g2
          replace g3 := cell_held hb g3
          replace q0 := cell_held hb q0
          replace q1 := cell_held hb q1
          replace q2 := cell_held hb q2
          replace q3 := cell_held hb q3
          replace q4 := cell_held hb q4
          replace q5 := cell_held hb q5
          replace q6 := cell_held hb q6
          replace q7 := cell_held hb q7
          replace q8 := cell_held hb q8
          replace q9 := cell_held hb q9
          replace q10 := cell_held hb q10
          replace q11 := cell_held hb q11
          replace t0 := cell_held hb t0
          replace t1 := cell_held hb t1
          replace t2 := cell_held hb t2
          replace t3 := cell_held hb t3
          replace d0 := cell_held hb d0
          replace d1 := cell_held hb d1
          replace d2 := cell_held hb d2
          replace d3 := cell_held hb d3
          clear hb
          go_wp2_with fail
          refine (awake_any _).mono ?_
          rintro e w9 ⟨rfl, hb⟩
          replace HB := Aside0.mk (below_step HB.out hb)
          clear hb
          go_wp2_with fail
          go_ret
          exact ⟨rfl, HB.out⟩
      · rcases lw' with ⟨cw, rfl⟩ | ⟨cw, rfl⟩ <;> rcases lh' with ⟨ch, rfl⟩ | ⟨ch, rfl⟩
        · go_wp2_with fail
          refine (C3.out _).mono ?_
          rintro e w1 ⟨rfl, hb⟩
          replace HB := Aside0.mk (below_step HB.out hb)
          replace g0 := cell_held hb g0
          have Ag0 := fun o => al_cell (o := o) g0
          replace g1 := cell_held hb g1
          have Ag1 := fun o => al_cell (o := o) g1
          replace g2 := cell_held hb g2
          have Ag2 := fun o => al_cell (o := o) g2
          replace g3 := cell_held hb g3
          have Ag3 := fun o => al_cell (o := o) g3
          replace q0 := cell_held hb q0
          have Aq0 := fun o => al_cell (o := o) q0
          replace q1 := cell_held hb q1
          have Aq1 := fun o => al_cell (o := o) q1
          replace q2 := cell_held hb q2
          have Aq2 := fun o => al_cell (o := o) q2
          replace q3 := cell_held hb q3
          have Aq3 := fun o => al_cell (o := o) q3
          replace q4 := cell_held hb q4
          have Aq4 := fun o => al_cell (o := o) q4
          replace q5 := cell_held hb q5
          have Aq5 := fun o => al_cell (o := o) q5
          replace q6 := cell_held hb q6
          have Aq6 := fun o => al_cell (o := o) q6
          replace q7 := cell_held hb q7
          have Aq7 := fun o => al_cell (o := o) q7
          replace q8 := cell_held hb q8
          have Aq8 := fun o => al_cell (o := o) q8
          replace q9 := cell_held hb q9
          have Aq9 := fun o => al_cell (o := o) q9
          replace q10 := cell_held hb q10
          have Aq10 := fun o => al_cell (o := o) q10
          replace q11 := cell_held hb q11
          have Aq11 := fun o => al_cell (o := o) q11
          clear hb
          go_wp2_with fail
          refine (C4.out _).mono ?_
          rintro e w2 ⟨rfl, hb⟩
          replace HB := Aside0.mk (below_step (below_alloc HB.out _) hb)
          have t0 : w2.cell? ⟨w1.heap.size, 0, none⟩ = some (.int .i64 t.x) := cell_held hb (by go_simp; done)
          have t1 : w2.cell? ⟨w1.heap.size, 1, none⟩ = some (.int .i64 t.y) := cell_held hb (by go_simp; done)
          have t2 : w2.cell? ⟨w1.heap.size, 2, none⟩ = some (.int .i64 t.w) := cell_held hb (by go_simp; done)
          have t3 : w2.cell? ⟨w1.heap.size, 3, none⟩ = some (.int .i64 t.h) := cell_held hb (by go_simp; done)
          clear Ag0 Ag1 Ag2 Ag3 Aq0 Aq1 Aq2 Aq3 Aq4 Aq5 Aq6 Aq7 Aq8 Aq9 Aq10 Aq11
          replace g0 := cell_held hb (al_cell g0)
          have Ag0 := fun o => al_cell (o := o) g0
          replace g1 := cell_held hb (al_cell g1)
          have Ag1 := fun o => al_cell (o := o) g1
          replace g2 := cell_held hb (al_cell g2)
          have Ag2 := fun o => al_cell (o := o) g2
          replace g3 := cell_held hb (al_cell g3)
          have Ag3 := fun o => al_cell (o := o) g3
          replace q0 := cell_held hb (al_cell q0)
          have Aq0 := fun o => al_cell (o := o) q0
          replace q1 := cell_held hb (al_cell q1)
          have Aq1 := fun o => al_cell (o := o) q1
          replace q2 := cell_held hb (al_cell q2)
          have Aq2 := fun o => al_cell (o := o) q2
          replace q3 := cell_held hb (al_cell q3)
          have Aq3 := fun o => al_cell (o := o) q3
          replace q4 := cell_held hb (al_cell q4)
          have Aq4 := fun o => al_cell (o := o) q4
          replace q5 := cell_held hb (al_cell q5)
          have Aq5 := fun o => al_cell (o := o) q5
          replace q6 := cell_held hb (al_cell q6)
          have Aq6 := fun o => al_cell (o := o) q6
          replace q7 := cell_held hb (al_cell q7)
          have Aq7 := fun o => al_cell (o := o) q7
          replace q8 := cell_held hb (al_cell q8)
          have Aq8 := fun o => al_cell (o := o) q8
          replace q9 := cell_held hb (al_cell q9)
          have Aq9 := fun o => al_cell (o := o) q9
          replace q10 := cell_held hb (al_cell q10)
          have Aq10 := fun o => al_cell (o := o) q10
          replace q11 := cell_held hb (al_cell q11)
          have Aq11 := fun o => al_cell (o := o) q11
          have At0 := fun o => al_cell (o := o) t0
          have At1 := fun o => al_cell (o := o) t1
          have At2 := fun o => al_cell (o := o) t2
          have At3 := fun o => al_cell (o := o) t3
          clear hb
          go_wp2_with fail
          refine (c_gRight r _).mono ?_
          rintro e w3 ⟨rfl, hb⟩
          replace HB := Aside0.mk (below_step (below_alloc HB.out _) hb)
          have d0 : w3.cell? ⟨w2.heap.size, 0, none⟩ = some (.int .i64 dx) := cell_held hb (by go_simp; done)
          have d1 : w3.cell? ⟨w2.heap.size, 1, none⟩ = some (.int .i64 dy) := cell_held hb (by go_simp; done)
          have d2 : w3.cell? ⟨w2.heap.size, 2, none⟩ = some (.int .i64 (r.w - a0 - a2)) := cell_held hb (by go_simp; done)
          have d3 : w3.cell? ⟨w2.heap.size, 3, none⟩ = some (.int .i64 (r.h - a1 - a3)) := cell_held hb (by go_simp; done)
          clear Ag0 Ag1 Ag2 Ag3 Aq0 Aq1 Aq2 Aq3 Aq4 Aq5 Aq6 Aq7 Aq8 Aq9 Aq10 Aq11 At0 At1 At2 At3
          replace g0 := cell_held hb (al_cell g0)
          replace g1 := cell_held hb (al_cell g1)
          replace g2 := cell_held hb (al_cell g2)
          replace g3 := cell_held hb (al_cell g3)
          replace q0 := cell_held hb (al_cell q0)
          replace q1 := cell_held hb (al_cell q1)
          replace q2 := cell_held hb (al_cell q2)
          replace q3 := cell_held hb (al_cell q3)
          replace q4 := cell_held hb (al_cell q4)
          replace q5 := cell_held hb (al_cell q5)
          replace q6 := cell_held hb (al_cell q6)
          replace q7 := cell_held hb (al_cell q7)
          replace q8 := cell_held hb (al_cell q8)
          replace q9 := cell_held hb (al_cell q9)
          replace q10 := cell_held hb (al_cell q10)
          replace q11 := cell_held hb (al_cell q11)
          replace t0 := cell_held hb (al_cell t0)
          replace t1 := cell_held hb (al_cell t1)
          replace t2 := cell_held hb (al_cell t2)
          replace t3 := cell_held hb (al_cell t3)
          clear hb
          go_wp2_with fail
          refine (c_gInside ⟨dx, dy, r.w - a0 - a2, r.h - a1 - a3⟩ r _).mono ?_
          rintro e w4 ⟨rfl, hb⟩
          replace HB := Aside0.mk (below_step HB.out hb)
          replace g0 := cell_held hb g0
          replace g1 := cell_held hb g1
          replace g2 := cell_held hb g2
          replace g3 := cell_held hb g3
          replace q0 := cell_held hb q0
          replace q1 := cell_held hb q1
          replace q2 := cell_held hb q2
          replace q3 := cell_held hb q3
          replace q4 := cell_held hb q4
          replace q5 := cell_held hb q5
          replace q6 := cell_held hb q6
          replace q7 := cell_held hb q7
          replace q8 := cell_held hb q8
          replace q9 := cell_held hb q9
          replace q10 := cell_held hb q10
          replace q11 := cell_held hb q11
          replace t0 := cell_held hb t0
          replace t1 := cell_held hb t1
          replace t2 := cell_held hb t2
          replace t3 := cell_held hb t3
          replace d0 := cell_held hb d0
          replace d1 := cell_held hb d1
          replace d2 := cell_held hb d2
          replace d3 := cell_held hb d3
          clear hb
          go_wp2_with fail
          refine (c_gEmpty t _).mono ?_
          rintro e w5 ⟨rfl, hb⟩
          replace HB := Aside0.mk (below_step HB.out hb)
          replace g0 := cell_held hb g0
          replace g1 := cell_held hb g1
          replace g2 := cell_held hb g2
          replace g3 := cell_held hb g3
          replace q0 := cell_held hb q0
          replace q1 := cell_held hb q1
          replace q2 := cell_held hb q2
          replace q3 := cell_held hb q3
          replace q4 := cell_held hb q4
          replace q5 := cell_held hb q5
          replace q6 := cell_held hb q6
          replace q7 := cell_held hb q7
          replace q8 := cell_held hb q8
          replace q9 := cell_held hb q9
          replace q10 := cell_held hb q10
          replace q11 := cell_held hb q11
          replace t0 := cell_held hb t0
          replace t1 := cell_held hb t1
          replace t2 := cell_held hb t2
          replace t3 := cell_held hb t3
          replace d0 := cell_held hb d0
          replace d1 := cell_held hb d1
          replace d2 := cell_held hb d2
          replace d3 := cell_held hb d3
          clear hb
          go_wp2_with fail
          refine (awake_any _).mono ?_
          rintro e w9 ⟨rfl, hb⟩
          replace HB := Aside0.mk (below_step HB.out hb)
          clear hb
          go_wp2_with fail
          go_ret
          exact ⟨rfl, HB.out⟩
        · go_wp2_with fail
          refine (C3.out _).mono ?_
          rintro e w1 ⟨rfl, hb⟩
          replace HB := Aside0.mk (below_step HB.out hb)
          replace g0 := cell_held hb g0
          have Ag0 := fun o => al_cell (o := o) g0
          replace g1 := cell_held hb g1
          have Ag1 := fun o => al_cell (o := o) g1
          replace g2 := cell_held hb g2
          have Ag2 := fun o => al_cell (o := o) g2
          replace g3 := cell_held hb g3
          have Ag3 := fun o => al_cell (o := o) g3
          replace q0 := cell_held hb q0
          have Aq0 := fun o => al_cell (o := o) q0
          replace q1 := cell_held hb q1
          have Aq1 := fun o => al_cell (o := o) q1
          replace q2 := cell_held hb q2
          have Aq2 := fun o => al_cell (o := o) q2
          replace q3 := cell_held hb q3
          have Aq3 := fun o => al_cell (o := o) q3
          replace q4 := cell_held hb q4
          have Aq4 := fun o => al_cell (o := o) q4
          replace q5 := cell_held hb q5
          have Aq5 := fun o => al_cell (o := o) q5
          replace q6 := cell_held hb q6
          have Aq6 := fun o => al_cell (o := o) q6
          replace q7 := cell_held hb q7
          have Aq7 := fun o => al_cell (o := o) q7
          replace q8 := cell_held hb q8
          have Aq8 := fun o => al_cell (o := o) q8
          replace q9 := cell_held hb q9
          have Aq9 := fun o => al_cell (o := o) q9
          replace q10 := cell_held hb q10
          have Aq10 := fun o => al_cell (o := o) q10
          replace q11 := cell_held hb q11
          have Aq11 := fun o => al_cell (o := o) q11
          clear hb
          go_wp2_with fail
          refine (C4.out _).mono ?_
          rintro e w2 ⟨rfl, hb⟩
          replace HB := Aside0.mk (below_step (below_alloc HB.out _) hb)
          have t0 : w2.cell? ⟨w1.heap.size, 0, none⟩ = some (.int .i64 t.x) := cell_held hb (by go_simp; done)
          have t1 : w2.cell? ⟨w1.heap.size, 1, none⟩ = some (.int .i64 t.y) := cell_held hb (by go_simp; done)
          have t2 : w2.cell? ⟨w1.heap.size, 2, none⟩ = some (.int .i64 t.w) := cell_held hb (by go_simp; done)
          have t3 : w2.cell? ⟨w1.heap.size, 3, none⟩ = some (.int .i64 t.h) := cell_held hb (by go_simp; done)
          clear Ag0 Ag1 Ag2 Ag3 Aq0 Aq1 Aq2 Aq3 Aq4 Aq5 Aq6 Aq7 Aq8 Aq9 Aq10 Aq11
          replace g0 := cell_held hb (al_cell g0)
          have Ag0 := fun o => al_cell (o := o) g0
          replace g1 := cell_held hb (al_cell g1)
          have Ag1 := fun o => al_cell (o := o) g1
          replace g2 := cell_held hb (al_cell g2)
          have Ag2 := fun o => al_cell (o := o) g2
          replace g3 := cell_held hb (al_cell g3)
          have Ag3 := fun o => al_cell (o := o) g3
          replace q0 := cell_held hb (al_cell q0)
          have Aq0 := fun o => al_cell (o := o) q0
          replace q1 := cell_held hb (al_cell q1)
          have Aq1 := fun o => al_cell (o := o) q1
          replace q2 := cell_held hb (al_cell q2)
          have Aq2 := fun o => al_cell (o := o) q2
          replace q3 := cell_held hb (al_cell q3)
          have Aq3 := fun o => al_cell (o := o) q3
          replace q4 := cell_held hb (al_cell q4)
          have Aq4 := fun o => al_cell (o := o) q4
          replace q5 := cell_held hb (al_cell q5)
          have Aq5 := fun o => al_cell (o := o) q5
          replace q6 := cell_held hb (al_cell q6)
          have Aq6 := fun o => al_cell (o := o) q6
          replace q7 := cell_held hb (al_cell q7)
          have Aq7 := fun o => al_cell (o := o) q7
          replace q8 := cell_held hb (al_cell q8)
          have Aq8 := fun o => al_cell (o := o) q8
          replace q9 := cell_held hb (al_cell q9)
          have Aq9 := fun o => al_cell (o := o) q9
          replace q10 := cell_held hb (al_cell q10)
          have Aq10 := fun o => al_cell (o := o) q10
          replace q11 := cell_held hb (al_cell q11)
          have Aq11 := fun o => al_cell (o := o) q11
          have At0 := fun o => al_cell (o := o) t0
          have At1 := fun o => al_cell (o := o) t1
          have At2 := fun o => al_cell (o := o) t2
          have At3 := fun o => al_cell (o := o) t3
          clear hb
          go_wp2_with fail
          refine (c_gRight r _).mono ?_
          rintro e w3 ⟨rfl, hb⟩
          replace HB := Aside0.mk (below_step (below_alloc HB.out _) hb)
          have d0 : w3.cell? ⟨w2.heap.size, 0, none⟩ = some (.int .i64 dx) := cell_held hb (by go_simp; done)
          have d1 : w3.cell? ⟨w2.heap.size, 1, none⟩ = some (.int .i64 dy) := cell_held hb (by go_simp; done)
          have d2 : w3.cell? ⟨w2.heap.size, 2, none⟩ = some (.int .i64 (r.w - a0 - a2)) := cell_held hb (by go_simp; done)
          have d3 : w3.cell? ⟨w2.heap.size, 3, none⟩ = some (.int .i64 (0)) := cell_held hb (by go_simp; done)
          clear Ag0 Ag1 Ag2 Ag3 Aq0 Aq1 Aq2 Aq3 Aq4 Aq5 Aq6 Aq7 Aq8 Aq9 Aq10 Aq11 At0 At1 At2 At3
          replace g0 := cell_held hb (al_cell g0)
          replace g1 := cell_held hb (al_cell g1)
          replace g2 := cell_held hb (al_cell g2)
          replace g3 := cell_held hb (al_cell g3)
          replace q0 := cell_held hb (al_cell q0)
          replace q1 := cell_held hb (al_cell q1)
          replace q2 := cell_held hb (al_cell q2)
          replace q3 := cell_held hb (al_cell q3)
          replace q4 := cell_held hb (al_cell q4)
          replace q5 := cell_held hb (al_cell q5)
          replace q6 := cell_held hb (al_cell q6)
          replace q7 := cell_held hb (al_cell q7)
          replace q8 := cell_held hb (al_cell q8)
          replace q9 := cell_held hb (al_cell q9)
          replace q10 := cell_held hb (al_cell q10)
          replace q11 := cell_held hb (al_cell q11)
          replace t0 := cell_held hb (al_cell t0)
          replace t1 := cell_held hb (al_cell t1)
          replace t2 := cell_held hb (al_cell t2)
          replace t3 := cell_held hb (al_cell t3)
          clear hb
          go_wp2_with fail
          refine (c_gInside ⟨dx, dy, r.w - a0 - a2, 0⟩ r _).mono ?_
          rintro e w4 ⟨rfl, hb⟩
          replace HB := Aside0.mk (below_step HB.out hb)
          replace g0 := cell_held hb g0
          replace g1 := cell_held hb g1
          replace g2 := cell_held hb g2
          replace g3 := cell_held hb g3
          replace q0 := cell_held hb q0
          replace q1 := cell_held hb q1
          replace q2 := cell_held hb q2
          replace q3 := cell_held hb q3
          replace q4 := cell_held hb q4
          replace q5 := cell_held hb q5
          replace q6 := cell_held hb q6
          replace q7 := cell_held hb q7
          replace q8 := cell_held hb q8
          replace q9 := cell_held hb q9
          replace q10 := cell_held hb q10
          replace q11 := cell_held hb q11
          replace t0 := cell_held hb t0
          replace t1 := cell_held hb t1
          replace t2 := cell_held hb t2
          replace t3 := cell_held hb t3
          replace d0 := cell_held hb d0
          replace d1 := cell_held hb d1
          replace d2 := cell_held hb d2
          replace d3 := cell_held hb d3
          clear hb
          go_wp2_with fail
          refine (c_gEmpty t _).mono ?_
          rintro e w5 ⟨rfl, hb⟩
          replace HB := Aside0.mk (below_step HB.out hb)
          replace g0 := cell_held hb g0
          replace g1 := cell_held hb g1
          replace g2 := cell_held hb g2
          replace g3 := cell_held hb g3
          replace q0 := cell_held hb q0
          replace q1 := cell_held hb q1
          replace q2 := cell_held hb q2
          replace q3 := cell_held hb q3
          replace q4 := cell_held hb q4
          replace q5 := cell_held hb q5
          replace q6 := cell_held hb q6
          replace q7 := cell_held hb q7
          replace q8 := cell_held hb q8
          replace q9 := cell_held hb q9
          replace q10 := cell_held hb q10
          replace q11 := cell_held hb q11
          replace t0 := cell_held hb t0
          replace t1 := cell_held hb t1
          replace t2 := cell_held hb t2
          replace t3 := cell_held hb t3
          replace d0 := cell_held hb d0
          replace d1 := cell_held hb d1
          replace d2 := cell_held hb d2
          replace d3 := cell_held hb d3
          clear hb
          go_wp2_with fail
          refine (awake_any _).mono ?_
          rintro e w9 ⟨rfl, hb⟩
          replace HB := Aside0.mk (below_step HB.out hb)
          clear hb
          go_wp2_with fail
          go_ret
          exact ⟨rfl, HB.out⟩
        · go_wp2_with fail
          refine (C3.out _).mono ?_
          rintro e w1 ⟨rfl, hb⟩
          replace HB := Aside0.mk (below_step HB.out hb)
          replace g0 := cell_held hb g0
          have Ag0 := fun o => al_cell (o := o) g0
          replace g1 := cell_held hb g1
          have Ag1 := fun o => al_cell (o := o) g1
          replace g2 := cell_held hb g2
          have Ag2 := fun o => al_cell (o := o) g2
          replace g3 := cell_held hb g3
          have Ag3 := fun o => al_cell (o := o) g3
          replace q0 := cell_held hb q0
          have Aq0 := fun o => al_cell (o := o) q0
          replace q1 := cell_held hb q1
          have Aq1 := fun o => al_cell (o := o) q1
          replace q2 := cell_held hb q2
          have Aq2 := fun o => al_cell (o := o) q2
          replace q3 := cell_held hb q3
          have Aq3 := fun o => al_cell (o := o) q3
          replace q4 := cell_held hb q4
          have Aq4 := fun o => al_cell (o := o) q4
          replace q5 := cell_held hb q5
          have Aq5 := fun o => al_cell (o := o) q5
          replace q6 := cell_held hb q6
          have Aq6 := fun o => al_cell (o := o) q6
          replace q7 := cell_held hb q7
          have Aq7 := fun o => al_cell (o := o) q7
          replace q8 := cell_held hb q8
          have Aq8 := fun o => al_cell (o := o) q8
          replace q9 := cell_held hb q9
          have Aq9 := fun o => al_cell (o := o) q9
          replace q10 := cell_held hb q10
          have Aq10 := fun o => al_cell (o := o) q10
          replace q11 := cell_held hb q11
          have Aq11 := fun o => al_cell (o := o) q11
          clear hb
          go_wp2_with fail
          refine (C4.out _).mono ?_
          rintro e w2 ⟨rfl, hb⟩
          replace HB := Aside0.mk (below_step (below_alloc HB.out _) hb)
          have t0 : w2.cell? ⟨w1.heap.size, 0, none⟩ = some (.int .i64 t.x) := cell_held hb (by go_simp; done)
          have t1 : w2.cell? ⟨w1.heap.size, 1, none⟩ = some (.int .i64 t.y) := cell_held hb (by go_simp; done)
          have t2 : w2.cell? ⟨w1.heap.size, 2, none⟩ = some (.int .i64 t.w) := cell_held hb (by go_simp; done)
          have t3 : w2.cell? ⟨w1.heap.size, 3, none⟩ = some (.int .i64 t.h) := cell_held hb (by go_simp; done)
          clear Ag0 Ag1 Ag2 Ag3 Aq0 Aq1 Aq2 Aq3 Aq4 Aq5 Aq6 Aq7 Aq8 Aq9 Aq10 Aq11
          replace g0 := cell_held hb (al_cell g0)
          have Ag0 := fun o => al_cell (o := o) g0
          replace g1 := cell_held hb (al_cell g1)
          have Ag1 := fun o => al_cell (o := o) g1
          replace g2 := cell_held hb (al_cell g2)
          have Ag2 := fun o => al_cell (o := o) g2
          replace g3 := cell_held hb (al_cell g3)
          have Ag3 := fun o => al_cell (o := o) g3
          replace q0 := cell_held hb (al_cell q0)
          have Aq0 := fun o => al_cell (o := o) q0
          replace q1 := cell_held hb (al_cell q1)
          have Aq1 := fun o => al_cell (o := o) q1
          replace q2 := cell_held hb (al_cell q2)
          have Aq2 := fun o => al_cell (o := o) q2
          replace q3 := cell_held hb (al_cell q3)
          have Aq3 := fun o => al_cell (o := o) q3
          replace q4 := cell_held hb (al_cell q4)
          have Aq4 := fun o => al_cell (o := o) q4
          replace q5 := cell_held hb (al_cell q5)
          have Aq5 := fun o => al_cell (o := o) q5
          replace q6 := cell_held hb (al_cell q6)
          have Aq6 := fun o => al_cell (o := o) q6
          replace q7 := cell_held hb (al_cell q7)
          have Aq7 := fun o => al_cell (o := o) q7
          replace q8 := cell_held hb (al_cell q8)
          have Aq8 := fun o => al_cell (o := o) q8
          replace q9 := cell_held hb (al_cell q9)
          have Aq9 := fun o => al_cell (o := o) q9
          replace q10 := cell_held hb (al_cell q10)
          have Aq10 := fun o => al_cell (o := o) q10
          replace q11 := cell_held hb (al_cell q11)
          have Aq11 := fun o => al_cell (o := o) q11
          have At0 := fun o => al_cell (o := o) t0
          have At1 := fun o => al_cell (o := o) t1
          have At2 := fun o => al_cell (o := o) t2
          have At3 := fun o => al_cell (o := o) t3
          clear hb
          go_wp2_with fail
          refine (c_gRight r _).mono ?_
          rintro e w3 ⟨rfl, hb⟩
          replace HB := Aside0.mk (below_step (below_alloc HB.out _) hb)
          have d0 : w3.cell? ⟨w2.heap.size, 0, none⟩ = some (.int .i64 dx) := cell_held hb (by go_simp; done)
          have d1 : w3.cell? ⟨w2.heap.size, 1, none⟩ = some (.int .i64 dy) := cell_held hb (by go_simp; done)
          have d2 : w3.cell? ⟨w2.heap.size, 2, none⟩ = some (.int .i64 (0)) := cell_held hb (by go_simp; done)
          have d3 : w3.cell? ⟨w2.heap.size, 3, none⟩ = some (.int .i64 (r.h - a1 - a3)) := cell_held hb (by go_simp; done)
          clear Ag0 Ag1 Ag2 Ag3 Aq0 Aq1 Aq2 Aq3 Aq4 Aq5 Aq6 Aq7 Aq8 Aq9 Aq10 Aq11 At0 At1 At2 At3
          replace g0 := cell_held hb (al_cell g0)
          replace g1 := cell_held hb (al_cell g1)
          replace g2 := cell_held hb (al_cell g2)
          replace g3 := cell_held hb (al_cell g3)
          replace q0 := cell_held hb (al_cell q0)
          replace q1 := cell_held hb (al_cell q1)
          replace q2 := cell_held hb (al_cell q2)
          replace q3 := cell_held hb (al_cell q3)
          replace q4 := cell_held hb (al_cell q4)
          replace q5 := cell_held hb (al_cell q5)
          replace q6 := cell_held hb (al_cell q6)
          replace q7 := cell_held hb (al_cell q7)
          replace q8 := cell_held hb (al_cell q8)
          replace q9 := cell_held hb (al_cell q9)
          replace q10 := cell_held hb (al_cell q10)
          replace q11 := cell_held hb (al_cell q11)
          replace t0 := cell_held hb (al_cell t0)
          replace t1 := cell_held hb (al_cell t1)
          replace t2 := cell_held hb (al_cell t2)
          replace t3 := cell_held hb (al_cell t3)
          clear hb
          go_wp2_with fail
          refine (c_gInside ⟨dx, dy, 0, r.h - a1 - a3⟩ r _).mono ?_
          rintro e w4 ⟨rfl, hb⟩
          replace HB := Aside0.mk (below_step HB.out hb)
          replace g0 := cell_held hb g0
          replace g1 := cell_held hb g1
          replace g2 := cell_held hb g2
          replace g3 := cell_held hb g3
          replace q0 := cell_held hb q0
          replace q1 := cell_held hb q1
          replace q2 := cell_held hb q2
          replace q3 := cell_held hb q3
          replace q4 := cell_held hb q4
          replace q5 := cell_held hb q5
          replace q6 := cell_held hb q6
          replace q7 := cell_held hb q7
          replace q8 := cell_held hb q8
          replace q9 := cell_held hb q9
          replace q10 := cell_held hb q10
          replace q11 := cell_held hb q11
          replace t0 := cell_held hb t0
          replace t1 := cell_held hb t1
          replace t2 := cell_held hb t2
          replace t3 := cell_held hb t3
          replace d0 := cell_held hb d0
          replace d1 := cell_held hb d1
          replace d2 := cell_held hb d2
          replace d3 := cell_held hb d3
          clear hb
          go_wp2_with fail
          refine (c_gEmpty t _).mono ?_
          rintro e w5 ⟨rfl, hb⟩
          replace HB := Aside0.mk (below_step HB.out hb)
          replace g0 := cell_held hb g0
          replace g1 := cell_held hb g1
          replace g2 := cell_held hb g2
          replace g3 := cell_held hb g3
          replace q0 := cell_held hb q0
          replace q1 := cell_held hb q1
          replace q2 := cell_held hb q2
          replace q3 := cell_held hb q3
          replace q4 := cell_held hb q4
          replace q5 := cell_held hb q5
          replace q6 := cell_held hb q6
          replace q7 := cell_held hb q7
          replace q8 := cell_held hb q8
          replace q9 := cell_held hb q9
          replace q10 := cell_held hb q10
          replace q11 := cell_held hb q11
          replace t0 := cell_held hb t0
          replace t1 := cell_held hb t1
          replace t2 := cell_held hb t2
          replace t3 := cell_held hb t3
          replace d0 := cell_held hb d0
          replace d1 := cell_held hb d1
          replace d2 := cell_held hb d2
          replace d3 := cell_held hb d3
          clear hb
          go_wp2_with fail
          refine (awake_any _).mono ?_
          rintro e w9 ⟨rfl, hb⟩
          replace HB := Aside0.mk (below_step HB.out hb)
          clear hb
          go_wp2_with fail
          go_ret
          exact ⟨rfl, HB.out⟩
        · go_wp2_with fail
          refine (C3.out _).mono ?_
          rintro e w1 ⟨rfl, hb⟩
          replace HB := Aside0.mk (below_step HB.out hb)
          replace g0 := cell_held hb g0
          have Ag0 := fun o => al_cell (o := o) g0
          replace g1 := cell_held hb g1
          have Ag1 := fun o => al_cell (o := o) g1
          replace g2 := cell_held hb g2
          have Ag2 := fun o => al_cell (o := o) g2
          replace g3 := cell_held hb g3
          have Ag3 := fun o => al_cell (o := o) g3
          replace q0 := cell_held hb q0
          have Aq0 := fun o => al_cell (o := o) q0
          replace q1 := cell_held hb q1
          have Aq1 := fun o => al_cell (o := o) q1
          replace q2 := cell_held hb q2
          have Aq2 := fun o => al_cell (o := o) q2
          replace q3 := cell_held hb q3
          have Aq3 := fun o => al_cell (o := o) q3
          replace q4 := cell_held hb q4
          have Aq4 := fun o => al_cell (o := o) q4
          replace q5 := cell_held hb q5
          have Aq5 := fun o => al_cell (o := o) q5
          replace q6 := cell_held hb q6
          have Aq6 := fun o => al_cell (o := o) q6
          replace q7 := cell_held hb q7
          have Aq7 := fun o => al_cell (o := o) q7
          replace q8 := cell_held hb q8
          have Aq8 := fun o => al_cell (o := o) q8
          replace q9 := cell_held hb q9
          have Aq9 := fun o => al_cell (o := o) q9
          replace q10 := cell_held hb q10
          have Aq10 := fun o => al_cell (o := o) q10
          replace q11 := cell_held hb q11
          have Aq11 := fun o => al_cell (o := o) q11
          clear hb
          go_wp2_with fail
          refine (C4.out _).mono ?_
          rintro e w2 ⟨rfl, hb⟩
          replace HB := Aside0.mk (below_step (below_alloc HB.out _) hb)
          have t0 : w2.cell? ⟨w1.heap.size, 0, none⟩ = some (.int .i64 t.x) := cell_held hb (by go_simp; done)
          have t1 : w2.cell? ⟨w1.heap.size, 1, none⟩ = some (.int .i64 t.y) := cell_held hb (by go_simp; done)
          have t2 : w2.cell? ⟨w1.heap.size, 2, none⟩ = some (.int .i64 t.w) := cell_held hb (by go_simp; done)
          have t3 : w2.cell? ⟨w1.heap.size, 3, none⟩ = some (.int .i64 t.h) := cell_held hb (by go_simp; done)
          clear Ag0 Ag1 Ag2 Ag3 Aq0 Aq1 Aq2 Aq3 Aq4 Aq5 Aq6 Aq7 Aq8 Aq9 Aq10 Aq11
          replace g0 := cell_held hb (al_cell g0)
          have Ag0 := fun o => al_cell (o := o) g0
          replace g1 := cell_held hb (al_cell g1)
          have Ag1 := fun o => al_cell (o := o) g1
          replace g2 := cell_held hb (al_cell g2)
          have Ag2 := fun o => al_cell (o := o) g2
          replace g3 := cell_held hb (al_cell g3)
          have Ag3 := fun o => al_cell (o := o) g3
          replace q0 := cell_held hb (al_cell q0)
          have Aq0 := fun o => al_cell (o := o) q0
          replace q1 := cell_held hb (al_cell q1)
          have Aq1 := fun o => al_cell (o := o) q1
          replace q2 := cell_held hb (al_cell q2)
          have Aq2 := fun o => al_cell (o := o) q2
          replace q3 := cell_held hb (al_cell q3)
          have Aq3 := fun o => al_cell (o := o) q3
          replace q4 := cell_held hb (al_cell q4)
          have Aq4 := fun o => al_cell (o := o) q4
          replace q5 := cell_held hb (al_cell q5)
          have Aq5 := fun o => al_cell (o := o) q5
          replace q6 := cell_held hb (al_cell q6)
          have Aq6 := fun o => al_cell (o := o) q6
          replace q7 := cell_held hb (al_cell q7)
          have Aq7 := fun o => al_cell (o := o) q7
          replace q8 := cell_held hb (al_cell q8)
          have Aq8 := fun o => al_cell (o := o) q8
          replace q9 := cell_held hb (al_cell q9)
          have Aq9 := fun o => al_cell (o := o) q9
          replace q10 := cell_held hb (al_cell q10)
          have Aq10 := fun o => al_cell (o := o) q10
          replace q11 := cell_held hb (al_cell q11)
          have Aq11 := fun o => al_cell (o := o) q11
          have At0 := fun o => al_cell (o := o) t0
          have At1 := fun o => al_cell (o := o) t1
          have At2 := fun o => al_cell (o := o) t2
          have At3 := fun o => al_cell (o := o) t3
          clear hb
          go_wp2_with fail
          refine (c_gRight r _).mono ?_
          rintro e w3 ⟨rfl, hb⟩
          replace HB := Aside0.mk (below_step (below_alloc HB.out _) hb)
          have d0 : w3.cell? ⟨w2.heap.size, 0, none⟩ = some (.int .i64 dx) := cell_held hb (by go_simp; done)
          have d1 : w3.cell? ⟨w2.heap.size, 1, none⟩ = some (.int .i64 dy) := cell_held hb (by go_simp; done)
          have d2 : w3.cell? ⟨w2.heap.size, 2, none⟩ = some (.int .i64 (0)) := cell_held hb (by go_simp; done)
          have d3 : w3.cell? ⟨w2.heap.size, 3, none⟩ = some (.int .i64 (0)) := cell_held hb (by go_simp; done)
          clear Ag0 Ag1 Ag2 Ag3 Aq0 Aq1 Aq2 Aq3 Aq4 Aq5 Aq6 Aq7 Aq8 Aq9 Aq10 Aq11 At0 At1 At2 At3
          replace g0 := cell_held hb (al_cell g0)
          replace g1 := cell_held hb (al_cell g1)
          replace g2 := cell_held hb (al_cell g2)
          replace g3 := cell_held hb (al_cell g3)
          replace q0 := cell_held hb (al_cell q0)
          replace q1 := cell_held hb (al_cell q1)
          replace q2 := cell_held hb (al_cell q2)
          replace q3 := cell_held hb (al_cell q3)
          replace q4 := cell_held hb (al_cell q4)
          replace q5 := cell_held hb (al_cell q5)
          replace q6 := cell_held hb (al_cell q6)
          replace q7 := cell_held hb (al_cell q7)
          replace q8 := cell_held hb (al_cell q8)
          replace q9 := cell_held hb (al_cell q9)
          replace q10 := cell_held hb (al_cell q10)
          replace q11 := cell_held hb (al_cell q11)
          replace t0 := cell_held hb (al_cell t0)
          replace t1 := cell_held hb (al_cell t1)
          replace t2 := cell_held hb (al_cell t2)
          replace t3 := cell_held hb (al_cell t3)
          clear hb
          go_wp2_with fail
          refine (c_gInside ⟨dx, dy, 0, 0⟩ r _).mono ?_
          rintro e w4 ⟨rfl, hb⟩
          replace HB := Aside0.mk (below_step HB.out hb)
          replace g0 := cell_held hb g0
          replace g1 := cell_held hb g1
          replace g2 := cell_held hb g2
          replace g3 := cell_held hb g3
          replace q0 := cell_held hb q0
          replace q1 := cell_held hb q1
          replace q2 := cell_held hb q2
          replace q3 := cell_held hb q3
          replace q4 := cell_held hb q4
          replace q5 := cell_held hb q5
          replace q6 := cell_held hb q6
          replace q7 := cell_held hb q7
          replace q8 := cell_held hb q8
          replace q9 := cell_held hb q9
          replace q10 := cell_held hb q10
          replace q11 := cell_held hb q11
          replace t0 := cell_held hb t0
          replace t1 := cell_held hb t1
          replace t2 := cell_held hb t2
          replace t3 := cell_held hb t3
          replace d0 := cell_held hb d0
          replace d1 := cell_held hb d1
          replace d2 := cell_held hb d2
          replace d3 := cell_held hb d3
          clear hb
          go_wp2_with fail
          refine (c_gEmpty t _).mono ?_
          rintro e w5 ⟨rfl, hb⟩
          replace HB := Aside0.mk (below_step HB.out hb)
          replace g0 := cell_held hb g0
          replace g1 := cell_held hb g1
          replace g2 := cell_held hb g2
          replace g3 := cell_held hb g3
          replace q0 := cell_held hb q0
          replace q1 := cell_held hb q1
          replace q2 := cell_held hb q2
          replace q3 := cell_held hb q3
          replace q4 := cell_held hb q4
          replace q5 := cell_held hb q5
          replace q6 := cell_held hb q6
          replace q7 := cell_held hb q7
          replace q8 := cell_held hb q8
          replace q9 := cell_held hb q9
          replace q10 := cell_held hb q10
          replace q11 := cell_held hb q11
          replace t0 := cell_held hb t0
          replace t1 := cell_held hb t1
          replace t2 := cell_held hb t2
          replace t3 := cell_held hb t3
          replace d0 := cell_held hb d0
          replace d1 := cell_held hb d1
          replace d2 := cell_held hb d2
          replace d3 := cell_held hb d3
          clear hb
          go_wp2_with fail
          refine (awake_any _).mono ?_
          rintro e w9 ⟨rfl, hb⟩
          replace HB := Aside0.mk (below_step HB.out hb)
          clear hb
          go_wp2_with fail
          go_ret
          exact ⟨rfl, HB.out⟩

theorem GeomInsets_law (a0_0 : Int) (a0_1 : Int) (a0_2 : Int) (a0_3 : Int) (a1_0 : Int) (a1_1 : Int) (a1_2 : Int) (a1_3 : Int) (a2_0 : Int) (a2_1 : Int) (a2_2 : Int) (a2_3 : Int) (W : World) (w0_0 : (Lit.int .i64 a0_0).wf = true) (w0_1 : (Lit.int .i64 a0_1).wf = true) (w0_2 : (Lit.int .i64 a0_2).wf = true) (w0_3 : (Lit.int .i64 a0_3).wf = true) (w1_0 : (Lit.int .u16 a1_0).wf = true) (w1_1 : (Lit.int .u16 a1_1).wf = true) (w1_2 : (Lit.int .u16 a1_2).wf = true) (w1_3 : (Lit.int .u16 a1_3).wf = true) (w2_0 : (Lit.int .u16 a2_0).wf = true) (w2_1 : (Lit.int .u16 a2_1).wf = true) (w2_2 : (Lit.int .u16 a2_2).wf = true) (w2_3 : (Lit.int .u16 a2_3).wf = true) :
    Calls Try.prog 6 #[.agg #[.int .i64 a0_0, .int .i64 a0_1, .int .i64 a0_2, .int .i64 a0_3], .agg #[.int .u16 a1_0, .int .u16 a1_1, .int .u16 a1_2, .int .u16 a1_3], .agg #[.int .u16 a2_0, .int .u16 a2_1, .int .u16 a2_2, .int .u16 a2_3]] W fun e w' => e = .returned (.bool true) ∧ Below W.heap.size W w' :=
  GeomInsets_any ⟨a0_0, a0_1, a0_2, a0_3⟩ a1_0 a1_1 a1_2 a1_3 a2_0 a2_1 a2_2 a2_3 W (u16_wf w1_0) (u16_wf w1_1) (u16_wf w1_2) (u16_wf w1_3) (u16_wf w2_0) (u16_wf w2_1)
end Go.Proofs.Ytechhbmaamjllaa.Geo
