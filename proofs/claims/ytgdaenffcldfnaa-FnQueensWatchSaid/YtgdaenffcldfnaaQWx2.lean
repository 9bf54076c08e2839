-- PRINTED by print.py (a twelfth state) out of the translation. Not trusted: Lean checks it.
import Derived.Test.YtgdaenffcldfnaaQWx0
import Derived.Test.YtgdaenffcldfnaaQWx1
namespace Go.Proofs.Ytgdaenffcldfnaa.QW
open Go.RowKit Go.Proofs.YtgdaenffcldfnaaW.PrintWords Go.Proofs.YtgdaenffcldfnaaW.PrintLast Go.Proofs.YtgdaenffcldfnaaW.PrintMore
attribute [local go_sem] max2_int min2_int max_two min_two max_three min_three max_four min_four   -- for this text's walks alone
set_option linter.unusedVariables false
set_option linter.unusedSimpArgs false

/-! ### impl_FullBoard: function 109 -/
mutual
def impl_FullBoard.j0 : Nat → Int → Int → Bool → Option (Int × Int × List Int × Bool)
  | 0, _, _, _ => none
  | k + 1, x0, x1, x15 => if x15 = true then (some (0, 0, ([] : List Int), false)) else ((impl_newBoard.f x0 x1).bind fun bt141 => (impl_FullBoard.l0 k x1 (bt141.2.2.length : Int) 0 bt141.1 bt141.2.1 bt141.2.2))
def impl_FullBoard.l0 : Nat → Int → Int → Int → Int → Int → List Int → Option (Int × Int × List Int × Bool)
  | 0, _, _, _, _, _, _ => none
  | k + 1, x1, x22, x23, x147000, x147001, x147002 => if x23 < x22 then (if 0 ≤ x1 then (if 0 ≤ x23 then (if x23 < (x147002.length : Int) then (impl_FullBoard.l0 k x1 x22 (wrap64 (x23 + 1)) x147000 x147001 (x147002.set (x23 : Int).toNat (wrap64 ((shl .i64 1 x1) - 1)))) else (none)) else (none)) else (none)) else (some (x147000, x147001, x147002, true))
end
def impl_FullBoard.f (k : Nat) (a0 : Int) (a1 : Int) : Option (Int × Int × List Int × Bool) := (impl_isSide.f a0).bind fun t139 => (if t139 = true then ((impl_isSide.f a1).bind fun t140 => (impl_FullBoard.j0 k a0 a1 (!t140))) else (impl_FullBoard.j0 k a0 a1 true))
theorem impl_FullBoard.mono_l : ∀ k, (∀ y0 y1 y2, LeO (impl_FullBoard.j0 k y0 y1 y2) (impl_FullBoard.j0 (k + 1) y0 y1 y2)) ∧ (∀ y0 y1 y2 y3 y4 y5, LeO (impl_FullBoard.l0 k y0 y1 y2 y3 y4 y5) (impl_FullBoard.l0 (k + 1) y0 y1 y2 y3 y4 y5))
  | 0 => ⟨fun _ _ _ r h => by simp [impl_FullBoard.j0] at h, fun _ _ _ _ _ _ r h => by simp [impl_FullBoard.l0] at h⟩
  | k + 1 => by
    obtain ⟨ih0, ih1⟩ := impl_FullBoard.mono_l k
    refine ⟨?_, ?_⟩
    · intro y0 y1 y2
      unfold impl_FullBoard.j0
      repeat' first
      | (with_reducible exact ih0 _ _ _)
      | (with_reducible exact ih1 _ _ _ _ _ _)
      | (with_reducible exact LeO.refl _)
      | (with_reducible exact LeO.none _)
      | (with_reducible refine LeO.ite ?_ ?_)
      | (with_reducible refine LeO.bind ?_ (fun _ => ?_))
      | exact ih0 _ _ _
      | exact ih1 _ _ _ _ _ _
      | exact LeO.none _
      | refine LeO.ite ?_ ?_
      | refine LeO.bind ?_ (fun _ => ?_)
    · intro y0 y1 y2 y3 y4 y5
      unfold impl_FullBoard.l0
      repeat' first
      | (with_reducible exact ih0 _ _ _)
      | (with_reducible exact ih1 _ _ _ _ _ _)
      | (with_reducible exact LeO.refl _)
      | (with_reducible exact LeO.none _)
      | (with_reducible refine LeO.ite ?_ ?_)
      | (with_reducible refine LeO.bind ?_ (fun _ => ?_))
      | exact ih0 _ _ _
      | exact ih1 _ _ _ _ _ _
      | exact LeO.none _
      | refine LeO.ite ?_ ?_
      | refine LeO.bind ?_ (fun _ => ?_)
theorem impl_FullBoard.mono : ∀ a0 a1 k, LeO (impl_FullBoard.f k a0 a1) (impl_FullBoard.f (k + 1) a0 a1) := by
  intro a0 a1 k
  obtain ⟨ih0, ih1⟩ := impl_FullBoard.mono_l k
  unfold impl_FullBoard.f
  repeat' first
      | (with_reducible exact ih0 _ _ _)
      | (with_reducible exact ih1 _ _ _ _ _ _)
      | (with_reducible exact LeO.refl _)
      | (with_reducible exact LeO.none _)
      | (with_reducible refine LeO.ite ?_ ?_)
      | (with_reducible refine LeO.bind ?_ (fun _ => ?_))
      | exact ih0 _ _ _
      | exact ih1 _ _ _ _ _ _
      | exact LeO.none _
      | refine LeO.ite ?_ ?_
      | refine LeO.bind ?_ (fun _ => ?_)
def impl_FullBoard.T7 : Bool × List (List Nat × List Nat) := (true, [([], []), ([0], [0]), ([], []), ([], []), ([3], [3]), ([4], [4]), ([1, 2, 0, 1, 2, 3, 4, 5], [1, 2]), ([6, 5, 0, 1, 2, 3, 4, 5], [5, 6])])
def impl_FullBoard.B7 : List Nat := [0, 1, 0, 0, 8, 24, 63, 127]
theorem impl_FullBoard.tab7 : rtab .any (opsOf Try.f109 7) = impl_FullBoard.T7 := by kernel_rfl
theorem impl_FullBoard.bits7 : waitsOk impl_FullBoard.T7.2 impl_FullBoard.B7 = true := by kernel_rfl
set_option maxHeartbeats 8000000 in
set_option maxRecDepth 100000 in
theorem impl_FullBoard.calls (k : Nat) (a0 : Int) (a1 : Int) (r1 : Int) (r2 : Int) (r3 : List Int) (r4 : Bool) (w : World) (h : impl_FullBoard.f k a0 a1 = some (r1, r2, r3, r4)) :
    Calls Try.prog 109 #[.int .i64 a0, .int .i64 a1] w fun e w' => ∃ v2_ : Value, e = .returned (.tuple #[.agg #[.int .i64 r1, .int .i64 r2, v2_], .bool r4]) ∧ Kd.R (Kd.int .i64) 3 w' w.heap.size (fun _ => True) v2_ r3 ∧ Below w.heap.size w w' := by
  have hu28 := Try.underlying28
  have HB := Aside0.mk (Below.refl w.heap.size w)
  have H : ((impl_isSide.f a0).bind fun t139 => (if t139 = true then ((impl_isSide.f a1).bind fun t140 => (impl_FullBoard.j0 k a0 a1 (!t140))) else (impl_FullBoard.j0 k a0 a1 true))) = some (r1, r2, r3, r4) := h
  clear h
  have HC3 := Aside0.mk H
  clear H
  go_enter Try.func109, Try.ntmps109
  go_upto_region 1 with (first | ((with_reducible refine gate_dst (N := 4) rfl ?_); refine box_event ?hg (N := 4) ?hd (cs := #[.int .i64 0, .int .i64 0, .slice none 0 0]) (t := 28) ?hr ?_; (case hd => rfl); (case hg => rfl); (case hr => first | (go_simp; done) | (go_simp; rfl)); intro gb138 hg w4 hbox hb; have n0_ := Aside0.mk (below_step (by repeat (first | (with_reducible first | exact HB.out | apply below_alloc | apply pw_below_drewN | apply below_drew1) | exact HB.out)) hb); have n1_ := Aside0.mk (hbox); have n2_ := Aside0.mk ((by rw [hg]; exact (below_size (by repeat (first | (with_reducible first | exact HB.out | apply below_alloc | apply pw_below_drewN | apply below_drew1) | exact HB.out))) : w.heap.size ≤ gb138)); have n3_ := Aside0.mk ((by rw [hg]; exact (below_size (by repeat (first | (with_reducible first | exact HB.out | apply below_alloc | apply pw_below_drewN | apply below_drew1) | exact HB.out))) : w.heap.size ≤ gb138)); clear HB; have HB := n0_; have BK138 := n1_; have GW138 := n2_; have GE138 := n3_; clear n0_ n1_ n2_ n3_; clear hb hbox hg))
  (try simp only [Act.put, List.setIfInBounds_toArray, List.set_cons_zero, List.set_cons_succ])
  go_cut [15] (fun v15 wc => ∃ (kq : Nat) (x15_2 : Bool), v15 = .bool x15_2 ∧ Aside0 (impl_FullBoard.j0 kq a0 a1 x15_2 = some (r1, r2, r3, r4)) ∧ Aside0 (kq ≤ k) ∧ Aside0 (wc.heap[gb138]? = some (.cells #[.int .i64 0, .int .i64 0, (.slice none 0 0)] 28 (0, 0))) ∧ Aside0 (Below w.heap.size w wc))
  case first =>
    have H := HC3.out
    clear HC3
    replace H := Option.bind_eq_some_iff.mp H
    obtain ⟨t139, A50, H⟩ := H
    try dsimp only at H
    have A5 := Aside0.mk A50
    clear A50
    by_cases c6 : t139 = true
    · subst c6
      rw [if_pos rfl] at H
      replace H := Option.bind_eq_some_iff.mp H
      obtain ⟨t140, A70, H⟩ := H
      try dsimp only at H
      have A7 := Aside0.mk A70
      clear A70
      have H' := Aside0.mk H
      clear H
      go_wp2_with (first | ((with_reducible refine gate_callee (f := 203) rfl ?_); refine goesL_ (some 9) rfl rfl Try.func203 (by kernel_rfl) rfl #[.int .i64 a0] rfl (by (try simp only [List.map_toArray, List.map_cons, List.map_nil]); first | done | rfl | (simp only [List.length_drop, List.length_take]; rfl)) ?_; (with_reducible refine (impl_isSide.calls a0 true _ A5.out).mono ?_); rintro e w' ⟨rfl, ⟨nd, rfl⟩⟩; refine ⟨_, rfl, ?_⟩) | (go_at_call 203; (with_reducible refine (impl_isSide.calls a1 t140 _ A7.out).mono ?_); rintro e w' ⟨rfl, ⟨nd, rfl⟩⟩))
      go_meet
      case rel => exact ⟨_, (!t140), (by first | rfl | (simp; done) | (simp [*]; done)), H', ⟨by first | omega | exact Nat.le_refl _⟩, ⟨by (with_reducible repeat (first | refine blk_drewN ?_ _ | refine blk_drew ?_ | refine blk_alloc ?_ _)); exact BK138.out⟩, ⟨by repeat (first | (with_reducible first | exact HB.out | apply below_alloc | apply pw_below_drewN | apply below_drew1 | refine below_set ?_ GE138.out) | exact HB.out)⟩⟩
    · replace c6 := Bool.eq_false_iff.mpr c6
      subst c6
      rw [if_neg (show ¬ (false = true) by decide)] at H
      have H' := Aside0.mk H
      clear H
      go_wp2_with (first | ((with_reducible refine gate_callee (f := 203) rfl ?_); refine goesL_ (some 9) rfl rfl Try.func203 (by kernel_rfl) rfl #[.int .i64 a0] rfl (by (try simp only [List.map_toArray, List.map_cons, List.map_nil]); first | done | rfl | (simp only [List.length_drop, List.length_take]; rfl)) ?_; (with_reducible refine (impl_isSide.calls a0 false _ A5.out).mono ?_); rintro e w' ⟨rfl, ⟨nd, rfl⟩⟩; refine ⟨_, rfl, ?_⟩))
      go_meet
      case rel => exact ⟨_, (true), (by first | rfl | (simp; done) | (simp [*]; done)), H', ⟨by first | omega | exact Nat.le_refl _⟩, ⟨by (with_reducible repeat (first | refine blk_drewN ?_ _ | refine blk_drew ?_ | refine blk_alloc ?_ _)); exact BK138.out⟩, ⟨by repeat (first | (with_reducible first | exact HB.out | apply below_alloc | apply pw_below_drewN | apply below_drew1 | refine below_set ?_ GE138.out) | exact HB.out)⟩⟩
  case rest =>
    clear HC3
    try clear c1
    try clear c2
    try clear p2
    try clear c6
    obtain ⟨kq, x15_2, rfl, HA, HJ2, BK138, HB⟩ := hcut
    cases kq with
    | zero => exact absurd HA.out (by simp [impl_FullBoard.j0])
    | succ kj2 =>
      have H := HA.out
      clear HA
      simp only [impl_FullBoard.j0] at H
      by_cases c8 : x15_2 = true
      · subst c8
        rw [if_pos rfl] at H
        simp only [Option.some.injEq, Prod.mk.injEq] at H
        obtain ⟨rfl, rfl, rfl, rfl⟩ := H
        have hcz9_0 : wc.cell? ⟨gb138, 0, none⟩ = some (.int .i64 0) := (blk_cell BK138.out 0).trans rfl
        have hcz9_1 : wc.cell? ⟨gb138, 1, none⟩ = some (.int .i64 0) := (blk_cell BK138.out 1).trans rfl
        have hcz9_2 : wc.cell? ⟨gb138, 2, none⟩ = some (.slice none 0 0) := (blk_cell BK138.out 2).trans rfl
        have hfz9_0 := blk_frozen BK138.out 0
        have hfz9_1 := blk_frozen BK138.out 1
        have hfz9_2 := blk_frozen BK138.out 2
        go_wp2
        refine bodyPost_ret (results_ct rfl _ _ gb138 28 #[.int .i64 0, .int .i64 0, .slice none 0 0] (0, 0) _ rfl (by (with_reducible repeat (first | refine blk_drewN ?_ _ | refine blk_drew ?_ | refine blk_alloc ?_ _)); refine blk_put (cs := #[.int .i64 0, .int .i64 0, .slice none 0 0]) ?_ 2 _ rfl; (with_reducible repeat (first | refine blk_drewN ?_ _ | refine blk_drew ?_ | refine blk_alloc ?_ _)); refine blk_put (cs := #[.int .i64 0, .int .i64 0, .slice none 0 0]) ?_ 1 _ rfl; (with_reducible repeat (first | refine blk_drewN ?_ _ | refine blk_drew ?_ | refine blk_alloc ?_ _)); refine blk_put (cs := #[.int .i64 0, .int .i64 0, .slice none 0 0]) ?_ 0 _ rfl; (with_reducible repeat (first | refine blk_drewN ?_ _ | refine blk_drew ?_ | refine blk_alloc ?_ _)); exact BK138.out) Try.underlying28 rfl (by kernel_rfl)) rfl ?_
        exact ⟨_, by first | rfl | (simp [errW_none, errW_some] <;> rfl) | (simp [*, errW_none, errW_some] <;> rfl), by first | exact Kd.R_nil _ _ _ _ _ | exact Kd.N_nil _ _ _ _ _ | exact Kd.V_nil _ _ _ _ _ | exact Kd.Q_nil _ _ _ _ _ | exact Kd.S_nil _ _ _ _ _, by repeat (first | (with_reducible first | exact HB.out | apply below_alloc | apply pw_below_drewN | apply below_drew1 | refine below_set ?_ GE138.out) | exact HB.out)⟩
      · replace c8 := Bool.eq_false_iff.mpr c8
        subst c8
        rw [if_neg (show ¬ (false = true) by decide)] at H
        replace H := Option.bind_eq_some_iff.mp H
        obtain ⟨⟨t141, t142, t143⟩, A100, H⟩ := H
        try dsimp only at H
        have A10 := Aside0.mk A100
        clear A100
        have H' := Aside0.mk H
        clear H
        go_wp2_with (first | ((with_reducible refine gate_callee (f := 207) rfl ?_); refine goesL_ (some 19) rfl rfl Try.func207 (by kernel_rfl) rfl #[.int .i64 a0, .int .i64 a1] rfl (by (try simp only [List.map_toArray, List.map_cons, List.map_nil]); first | done | rfl | (simp only [List.length_drop, List.length_take]; rfl)) ?_; (with_reducible refine (impl_newBoard.calls a0 a1 t141 t142 t143 _ A10.out).mono ?_); rintro e w11 ⟨v144, rfl, ho0, hb⟩; refine ⟨_, rfl, ?_⟩; have n0_ := Aside0.mk (Kd.R_lower ho0 (below_size (by repeat (first | (with_reducible first | exact HB.out | apply below_alloc | apply pw_below_drewN | apply below_drew1 | refine below_set ?_ GE138.out) | exact HB.out)))); have n1_ := Aside0.mk (blk_below (g := gb138) (o := .cells #[.int .i64 0, .int .i64 0, .slice none 0 0] 28 (0, 0)) (by (with_reducible repeat (first | refine blk_drewN ?_ _ | refine blk_drew ?_ | refine blk_alloc ?_ _)); exact BK138.out) hb); have n2_ := Aside0.mk (below_step (by repeat (first | (with_reducible first | exact HB.out | apply below_alloc | apply pw_below_drewN | apply below_drew1 | refine below_set ?_ GE138.out) | exact HB.out)) hb); clear BK138; clear HB; have HO145 := n0_; have BK138 := n1_; have HB := n2_; clear n0_ n1_ n2_; (try clear hb); (try clear hb2); (try clear hk); (try clear hi); (try clear ho0)) | ((with_reducible refine gate_dst (N := 6) rfl ?_); refine box_event ?hg (N := 6) ?hd (cs := #[.int .i64 0, .int .i64 0, .slice none 0 0]) (t := 28) ?hr ?_; (case hd => rfl); (case hg => rfl); (case hr => first | (go_simp; done) | (go_simp; rfl)); intro gb146 hg w12 hbox hb; have n0_ := Aside0.mk (Kd.R_below (by (with_reducible repeat (first | apply Kd.R_alloc | apply Kd.R_drewN | apply Kd.R_drew)); exact HO145.out) hb); have n1_ := Aside0.mk (blk_below (g := gb138) (o := .cells #[.int .i64 0, .int .i64 0, .slice none 0 0] 28 (0, 0)) (by (with_reducible repeat (first | refine blk_drewN ?_ _ | refine blk_drew ?_ | refine blk_alloc ?_ _)); exact BK138.out) hb); have n2_ := Aside0.mk (below_step (by repeat (first | (with_reducible first | exact HB.out | apply below_alloc | apply pw_below_drewN | apply below_drew1 | refine below_set ?_ GE138.out) | exact HB.out)) hb); have n3_ := Aside0.mk (hbox); have n4_ := Aside0.mk ((by rw [hg]; exact (below_size (by repeat (first | (with_reducible first | exact HB.out | apply below_alloc | apply pw_below_drewN | apply below_drew1 | refine below_set ?_ GE138.out) | exact HB.out))) : w.heap.size ≤ gb146)); have n5_ := Aside0.mk ((by rw [hg]; exact (below_size (by repeat (first | (with_reducible first | exact HB.out | apply below_alloc | apply pw_below_drewN | apply below_drew1 | refine below_set ?_ GE138.out) | exact HB.out))) : w.heap.size ≤ gb146)); have n6_ := Aside0.mk ((by rw [hg]; exact Nat.ne_of_lt (blk_lt (g := gb138) (o := .cells #[.int .i64 0, .int .i64 0, .slice none 0 0] 28 (0, 0)) (by (with_reducible repeat (first | refine blk_drewN ?_ _ | refine blk_drew ?_ | refine blk_alloc ?_ _)); exact BK138.out)) : gb138 ≠ gb146)); have n7_ := Aside0.mk ((by rw [hg]; exact Nat.ne_of_gt (blk_lt (g := gb138) (o := .cells #[.int .i64 0, .int .i64 0, .slice none 0 0] 28 (0, 0)) (by (with_reducible repeat (first | refine blk_drewN ?_ _ | refine blk_drew ?_ | refine blk_alloc ?_ _)); exact BK138.out)) : gb146 ≠ gb138)); clear HO145; clear BK138; clear HB; have HO145 := n0_; have BK138 := n1_; have HB := n2_; have BK146 := n3_; have GW146 := n4_; have GE146 := n5_; have NB138_146 := n6_; have NB146_138 := n7_; clear n0_ n1_ n2_ n3_ n4_ n5_ n6_ n7_; clear hb hbox hg; have hnb13 := NB146_138.out; have hnc13 := NB138_146.out; have hcz14_0 : w12.cell? ⟨gb146, 0, none⟩ = some (.int .i64 0) := (blk_cell BK146.out 0).trans rfl; have hcz14_1 : w12.cell? ⟨gb146, 1, none⟩ = some (.int .i64 0) := (blk_cell BK146.out 1).trans rfl; have hcz14_2 : w12.cell? ⟨gb146, 2, none⟩ = some (.slice none 0 0) := (blk_cell BK146.out 2).trans rfl; have hfz14_0 := blk_frozen BK146.out 0; have hfz14_1 := blk_frozen BK146.out 1; have hfz14_2 := blk_frozen BK146.out 2; obtain ⟨Ao15, co15, eo15⟩ := Kd.R_slice HO145.out; subst eo15))
        go_loopg [23] kj2 (fun kq v23 w' => ∃ (x23_2 : Int) (x147002_2 : List Int) (u147002 : Value), v23 = .int .i64 x23_2 ∧ Aside0 (impl_FullBoard.l0 kq a1 (t143.length : Int) x23_2 t141 t142 x147002_2 = some (r1, r2, r3, r4)) ∧ Aside0 (kq ≤ kj2) ∧ Aside0 (Kd.R (Kd.int .i64) 3 w' w.heap.size (fun _ => True) u147002 x147002_2) ∧ Aside0 (w'.heap[gb138]? = some (.cells #[.int .i64 0, .int .i64 0, (.slice none 0 0)] 28 (0, 0))) ∧ Aside0 (w'.heap[gb146]? = some (.cells #[.int .i64 t141, .int .i64 t142, u147002] 28 (0, 0))) ∧ Aside0 (Below w.heap.size w w'))
        case atStart => exact ⟨(0), (t143), (.slice Ao15 t143.length co15), (by first | rfl | (simp; done) | (simp [*]; done)), H', ⟨Nat.le_refl _⟩, ⟨by (with_reducible repeat (first | apply Kd.R_alloc | apply Kd.R_drewN | apply Kd.R_drew)); exact Kd.R_mono (Kd.R_far (p := ⟨gb146, 2, none⟩) (Kd.R_far (p := ⟨gb146, 1, none⟩) (Kd.R_far (p := ⟨gb146, 0, none⟩) (Kd.R_types HO145.out BK146.out (by decide)) (fun _ hk => hk.2) (.int .i64 t141)) (fun _ hk => hk.2) (.int .i64 t142)) (fun _ hk => hk.2) (.slice Ao15 t143.length co15)) (fun _ hk => trivial)⟩, ⟨by (with_reducible repeat (first | refine blk_drewN ?_ _ | refine blk_drew ?_ | refine blk_alloc ?_ _)); refine blk_far ?_ NB138_146.out _; (with_reducible repeat (first | refine blk_drewN ?_ _ | refine blk_drew ?_ | refine blk_alloc ?_ _)); refine blk_far ?_ NB138_146.out _; (with_reducible repeat (first | refine blk_drewN ?_ _ | refine blk_drew ?_ | refine blk_alloc ?_ _)); refine blk_far ?_ NB138_146.out _; (with_reducible repeat (first | refine blk_drewN ?_ _ | refine blk_drew ?_ | refine blk_alloc ?_ _)); exact BK138.out⟩, ⟨by (with_reducible repeat (first | refine blk_drewN ?_ _ | refine blk_drew ?_ | refine blk_alloc ?_ _)); refine blk_put (cs := #[.int .i64 t141, .int .i64 t142, .slice none 0 0]) ?_ 2 _ rfl; (with_reducible repeat (first | refine blk_drewN ?_ _ | refine blk_drew ?_ | refine blk_alloc ?_ _)); refine blk_put (cs := #[.int .i64 t141, .int .i64 0, .slice none 0 0]) ?_ 1 _ rfl; (with_reducible repeat (first | refine blk_drewN ?_ _ | refine blk_drew ?_ | refine blk_alloc ?_ _)); refine blk_put (cs := #[.int .i64 0, .int .i64 0, .slice none 0 0]) ?_ 0 _ rfl; (with_reducible repeat (first | refine blk_drewN ?_ _ | refine blk_drew ?_ | refine blk_alloc ?_ _)); exact BK146.out⟩, ⟨by repeat (first | (with_reducible first | exact HB.out | apply below_alloc | apply pw_below_drewN | apply below_drew1 | refine below_set ?_ GE138.out | refine below_set ?_ GE146.out) | exact HB.out)⟩⟩
        case round =>
          clear H'
          try clear c1
          try clear c2
          try clear p2
          try clear c6
          try clear c8
          try clear c10
          try clear c13
          try clear hcz14_0
          try clear hcz14_1
          try clear hcz14_2
          try clear hcz9_0
          try clear hcz9_1
          try clear hcz9_2
          try clear hfz14_0
          try clear hfz14_1
          try clear hfz14_2
          try clear hfz9_0
          try clear hfz9_1
          try clear hfz9_2
          try clear p2
          obtain ⟨x23_2, x147002_2, u147002, rfl, HA, HK2, HO_147002, BK138, BK146, HB⟩ := hrel
          cases gk with
          | zero => exact absurd HA.out (by simp [impl_FullBoard.l0])
          | succ k2 =>
            have H := HA.out
            clear HA
            simp only [impl_FullBoard.l0] at H
            by_cases c16 : x23_2 < (t143.length : Int)
            · rw [if_pos c16] at H
              have c16b0 : decide (x23_2 < (t143.length : Int)) = true := decide_eq_true c16
              clear c16
              by_cases c17 : 0 ≤ a1
              · rw [if_pos c17] at H
                have c17b0 := eq_true c17
                have c17b1 : decide (0 ≤ a1) = true := decide_eq_true c17
                clear c17
                obtain ⟨ji18, hji18⟩ : ∃ j_ : Int, (shl .i64 1 a1) = j_ := ⟨_, rfl⟩
                replace H : (if 0 ≤ x23_2 then (if x23_2 < (x147002_2.length : Int) then (impl_FullBoard.l0 k2 a1 (t143.length : Int) (wrap64 (x23_2 + 1)) t141 t142 (x147002_2.set (x23_2 : Int).toNat (wrap64 ((ji18) - 1)))) else (none)) else (none)) = some (r1, r2, r3, r4) := by first | (rw [hji18] at H; exact H) | (simp only [hji18] at H ⊢; exact H)
                have hji18_ : (IntKind.i64.wrap (1 * 2 ^ min a1.toNat 64)) = ji18 := hji18
                have hji18z : a1 ≤ 64 → (IntKind.i64.wrap (1 * 2 ^ a1.toNat)) = ji18 := shl_small hji18
                have hji18u : (IntKind.i64.wrap (2 ^ min a1.toNat 64)) = ji18 := by have h_ := hji18_; rw [Int.one_mul] at h_; exact h_
                have hji18v : a1 ≤ 64 → (IntKind.i64.wrap (2 ^ a1.toNat)) = ji18 := fun hle_ => by have h_ := hji18z hle_; rw [Int.one_mul] at h_; exact h_
                have hji18y : (wrap64 (1 * 2 ^ min a1.toNat 64)) = ji18 := (i64_w _).symm.trans hji18_
                have hji18x : a1 ≤ 64 → (wrap64 (1 * 2 ^ a1.toNat)) = ji18 := fun h_ => (i64_w _).symm.trans (hji18z h_)
                by_cases c19 : 0 ≤ x23_2
                · rw [if_pos c19] at H
                  have c19b0 : decide (0 ≤ x23_2) = true := decide_eq_true c19
                  clear c19
                  by_cases c20 : x23_2 < (x147002_2.length : Int)
                  · rw [if_pos c20] at H
                    have c20b0 : decide (x23_2 < (x147002_2.length : Int)) = true := decide_eq_true c20
                    clear c20
                    obtain ⟨y147, hy147⟩ : ∃ y_ : List Int, y_ = (x147002_2.set (x23_2 : Int).toNat (wrap64 ((ji18) - 1))) := ⟨_, rfl⟩
                    replace H : (impl_FullBoard.l0 k2 a1 (t143.length : Int) (wrap64 (x23_2 + 1)) t141 t142 y147) = some (r1, r2, r3, r4) := by first | (rw [hy147]; with_reducible exact H) | (have H2_ := (Option.bind_some _ _).symm.trans H; rw [hy147]; with_reducible exact H2_) | (have H2_ := (Option.bind_some _ _).symm.trans H; with_reducible exact H2_) | with_reducible exact H | (rw [hy147]; exact H) | exact H
                    have Ny147 := Aside0.mk hy147
                    clear hy147
                    have H' := Aside0.mk H
                    clear H
                    try go_wp2
                    have n0_ := Aside0.mk (Kd.R_drew HO_147002.out)
                    have n1_ := Aside0.mk (blk_drew BK138.out)
                    have n2_ := Aside0.mk (blk_drew BK146.out)
                    have n3_ := Aside0.mk (below_drew1 HB.out)
                    clear HO_147002
                    clear BK138
                    clear BK146
                    clear HB
                    have HO_147002 := n0_
                    have BK138 := n1_
                    have BK146 := n2_
                    have HB := n3_
                    clear n0_ n1_ n2_ n3_
                    have p21 : 0 ≤ (x23_2 : Int) := of_decide_eq_true (by first | (with_reducible assumption) | assumption)
                    have q21 : (x23_2 : Int) < ((x147002_2.length : Int) : Int) := of_decide_eq_true (by first | (with_reducible assumption) | assumption)
                    obtain ⟨go21, co21, eo21, gb21, gl21, cl21, HG21⟩ := Kd.R_form HO_147002.out (by omega)
                    (first | cases eo21 | (injection eo21 with ea_ en_ ec_; (first | subst ea_ | (injection ea_ with ea_; subst ea_)); subst ec_; clear en_))
                    have GB21 := Aside0.mk gb21
                    have GG21 := Aside0.mk HG21
                    clear gb21 gl21 HG21
                    obtain ⟨hx21_0, hf21_0⟩ := Kd.R_celln 0 HO_147002.out (x23_2 : Int) p21 q21
                    replace p21 := eq_true p21
                    replace q21 := eq_true q21
                    have HP23 := Kd.R_putn HO_147002.out (x23_2 : Int) (wrap64 ((ji18) - 1))
                    rw [← Ny147.out] at HP23
                    have HQ23 := Aside0.mk HP23
                    clear HP23
                    refine start_ (n := 8) (S := fun w' => w'.cell? ⟨gb146, 0, none⟩ = some (.int .i64 t141) ∧ w'.cell? ⟨gb146, 1, none⟩ = some (.int .i64 t142) ∧ w'.cell? ⟨gb146, 2, none⟩ = some (.slice (some ⟨go21, 0, none⟩) x147002_2.length co21)) (ds := [7]) #[false, false, false, false, false, false, false, false] (by kernel_rfl) rfl rfl ⟨(blk_cell BK146.out 0).trans rfl, (blk_cell BK146.out 1).trans rfl, (blk_cell BK146.out 2).trans rfl⟩ (fun hHeld => ?_); refine with_tabW impl_FullBoard.tab7 impl_FullBoard.bits7 (fun HT_ HW_ => ?_)
                    generalize wr.drew = w22 at HO_147002 BK138 BK146 HB GG21 HQ23 hf21_0 hx21_0 hHeld ⊢
                    refine pure_ (i := 0) (N := some 26) (v := ?_) (a' := ?_) #[true, false, false, false, false, false, false, false] rfl rfl (any_of HT_.out (by kernel_rfl)) (fun _ _ _ h => h) (Or.inl ⟨by rfl, ?_⟩) ?_ ?_
                    rotate_left
                    · intro w'
                      go_simp
                      with_reducible rfl
                    rotate_left
                    · simp only [Act.put, List.setIfInBounds_toArray, List.set_cons_zero, List.set_cons_succ, i64_w, i32_w]
                      rfl
                    refine pure_ (i := 2) (N := some 28) (v := ?_) (a' := ?_) #[true, false, true, false, false, false, false, false] rfl rfl (any_of HT_.out (by kernel_rfl)) (fun _ _ _ h => h) (Or.inl ⟨by rfl, ?_⟩) ?_ ?_
                    rotate_left
                    · intro w'
                      go_simp
                      with_reducible rfl
                    rotate_left
                    · simp only [Act.put, List.setIfInBounds_toArray, List.set_cons_zero, List.set_cons_succ, i64_w, i32_w]
                      rfl
                    refine pure_ (i := 3) (N := some 29) (v := ?_) (a' := ?_) #[true, false, true, true, false, false, false, false] rfl rfl (any_of HT_.out (by kernel_rfl)) (fun _ _ _ h => h) (Or.inl ⟨by rfl, ?_⟩) ?_ ?_
                    rotate_left
                    · intro w'
                      go_simp
                      with_reducible rfl
                    rotate_left
                    · simp only [Act.put, List.setIfInBounds_toArray, List.set_cons_zero, List.set_cons_succ, i64_w, i32_w]
                      rfl
                    refine pure_ (i := 4) (N := some 30) (v := ?_) (a' := ?_) #[true, false, true, true, true, false, false, false] rfl rfl (any_of HT_.out (by kernel_rfl)) (fun _ _ _ h => h) (Or.inl ⟨by rfl, ?_⟩) ?_ ?_
                    rotate_left
                    · intro w'
                      go_simp
                      with_reducible rfl
                    rotate_left
                    · simp only [Act.put, List.setIfInBounds_toArray, List.set_cons_zero, List.set_cons_succ, i64_w, i32_w]
                      rfl
                    refine pure_ (i := 5) (N := some 31) (v := ?_) (a' := ?_) #[true, false, true, true, true, true, false, false] rfl rfl (any_of HT_.out (by kernel_rfl)) (fun _ _ _ h => h) (Or.inl ⟨by rfl, ?_⟩) ?_ ?_
                    rotate_left
                    · intro w'
                      go_simp
                      with_reducible rfl
                    rotate_left
                    · simp only [Act.put, List.setIfInBounds_toArray, List.set_cons_zero, List.set_cons_succ, i64_w, i32_w]
                      rfl
                    refine take_ (i := 1) (N := some 27) (v := ?_) (a' := ?_) #[true, true, true, true, true, true, false, false] rfl rfl (take_ofW HT_.out HW_.out (by kernel_rfl)) (fun _ _ _ h => h) (Or.inl ⟨by rfl, ?_⟩) hHeld ?_ ?_
                    rotate_left
                    · rintro w' ⟨s0, s1, s2⟩
                      go_simp
                      with_reducible rfl
                    rotate_left
                    · simp only [Act.put, List.setIfInBounds_toArray, List.set_cons_zero, List.set_cons_succ, i64_w, i32_w]
                      rfl
                    refine pure_ (i := 6) (N := some 32) (v := ?_) (a' := ?_) #[true, true, true, true, true, true, true, false] rfl rfl (any_of HT_.out (by kernel_rfl)) (fun _ _ _ h => h) (Or.inl ⟨by rfl, ?_⟩) ?_ ?_
                    rotate_left
                    · intro w'
                      go_simp
                      with_reducible rfl
                    rotate_left
                    · simp only [Act.put, List.setIfInBounds_toArray, List.set_cons_zero, List.set_cons_succ, i64_w, i32_w]
                      rfl
                    refine last_ (i := 7) (N := none) #[true, true, true, true, true, true, true, true] rfl rfl (one_of HT_.out (by kernel_rfl)) (by decide) (fun K hK => ?_)
                    refine skip_ (w1 := ?_) (by rfl) rfl ?_ ?_
                    rotate_left
                    · go_simp
                      rfl
                    refine hK.out _ _ ?_
                    clear hK K
                    refine done_ (done_of HT_.out (by kernel_rfl)) ?_
                    try go_wp2
                    go_roundg k2
                    case measure => have := HJ2.out; have := HK2.out; omega
                    case rel => exact ⟨(wrap64 (x23_2 + 1)), (y147), (.slice (some ⟨go21, 0, none⟩) x147002_2.length co21), (by first | rfl | (simp; done) | (simp [*]; done)), H', ⟨by have := HJ2.out; have := HK2.out; omega⟩, ⟨by (with_reducible repeat (first | apply Kd.R_alloc | apply Kd.R_drewN | apply Kd.R_drew)); exact HQ23.out⟩, ⟨by (with_reducible repeat (first | refine blk_drewN ?_ _ | refine blk_drew ?_ | refine blk_alloc ?_ _)); refine blk_far ?_ (by have h_ := Kd.R_ne HO_147002.out BK138.out (by decide); intro e_; exact h_ (by rw [e_]; rfl)) _; (with_reducible repeat (first | refine blk_drewN ?_ _ | refine blk_drew ?_ | refine blk_alloc ?_ _)); exact BK138.out⟩, ⟨by (with_reducible repeat (first | refine blk_drewN ?_ _ | refine blk_drew ?_ | refine blk_alloc ?_ _)); refine blk_far ?_ (by have h_ := Kd.R_ne HO_147002.out BK146.out (by decide); intro e_; exact h_ (by rw [e_]; rfl)) _; (with_reducible repeat (first | refine blk_drewN ?_ _ | refine blk_drew ?_ | refine blk_alloc ?_ _)); exact BK146.out⟩, ⟨by repeat (first | (with_reducible first | exact HB.out | apply below_alloc | apply pw_below_drewN | apply below_drew1 | refine below_set ?_ GB21.out | refine below_set ?_ GE138.out | refine below_set ?_ GE146.out) | exact HB.out)⟩⟩
                  · rw [if_neg c20] at H
                    exact absurd H (by simp)
                · rw [if_neg c19] at H
                  exact absurd H (by simp)
              · rw [if_neg c17] at H
                exact absurd H (by simp)
            · rw [if_neg c16] at H
              have c16b0 : decide (x23_2 < (t143.length : Int)) = false := decide_eq_false c16
              clear c16
              simp only [Option.some.injEq, Prod.mk.injEq] at H
              obtain ⟨rfl, rfl, rfl, rfl⟩ := H
              have hnb24 := NB146_138.out
              have hnc24 := NB138_146.out
              have hcz25_0 : wr.cell? ⟨gb146, 0, none⟩ = some (.int .i64 t141) := (blk_cell BK146.out 0).trans rfl
              have hcz25_1 : wr.cell? ⟨gb146, 1, none⟩ = some (.int .i64 t142) := (blk_cell BK146.out 1).trans rfl
              have hcz25_2 : wr.cell? ⟨gb146, 2, none⟩ = some (u147002) := (blk_cell BK146.out 2).trans rfl
              have hfz25_0 := blk_frozen BK146.out 0
              have hfz25_1 := blk_frozen BK146.out 1
              have hfz25_2 := blk_frozen BK146.out 2
              have hcz26_0 : wr.cell? ⟨gb138, 0, none⟩ = some (.int .i64 0) := (blk_cell BK138.out 0).trans rfl
              have hcz26_1 : wr.cell? ⟨gb138, 1, none⟩ = some (.int .i64 0) := (blk_cell BK138.out 1).trans rfl
              have hcz26_2 : wr.cell? ⟨gb138, 2, none⟩ = some (.slice none 0 0) := (blk_cell BK138.out 2).trans rfl
              have hfz26_0 := blk_frozen BK138.out 0
              have hfz26_1 := blk_frozen BK138.out 1
              have hfz26_2 := blk_frozen BK138.out 2
              obtain ⟨Ao27, co27, eo27⟩ := Kd.R_slice HO_147002.out
              subst eo27
              go_wp2
              refine bodyPost_ret (results_ct rfl _ _ gb138 28 #[.int .i64 t141, .int .i64 t142, .slice Ao27 x147002_2.length co27] (0, 0) _ rfl (by (with_reducible repeat (first | refine blk_drewN ?_ _ | refine blk_drew ?_ | refine blk_alloc ?_ _)); refine blk_put (cs := #[.int .i64 t141, .int .i64 t142, .slice none 0 0]) ?_ 2 _ rfl; (with_reducible repeat (first | refine blk_drewN ?_ _ | refine blk_drew ?_ | refine blk_alloc ?_ _)); refine blk_put (cs := #[.int .i64 t141, .int .i64 0, .slice none 0 0]) ?_ 1 _ rfl; (with_reducible repeat (first | refine blk_drewN ?_ _ | refine blk_drew ?_ | refine blk_alloc ?_ _)); refine blk_put (cs := #[.int .i64 0, .int .i64 0, .slice none 0 0]) ?_ 0 _ rfl; (with_reducible repeat (first | refine blk_drewN ?_ _ | refine blk_drew ?_ | refine blk_alloc ?_ _)); exact BK138.out) Try.underlying28 rfl (by kernel_rfl)) rfl ?_
              exact ⟨_, by first | rfl | (simp [errW_none, errW_some] <;> rfl) | (simp [*, errW_none, errW_some] <;> rfl), by (with_reducible repeat (first | apply Kd.R_alloc | apply Kd.R_drewN | apply Kd.R_drew)); exact Kd.R_mono (Kd.R_far (p := ⟨gb138, 2, none⟩) (Kd.R_far (p := ⟨gb138, 1, none⟩) (Kd.R_far (p := ⟨gb138, 0, none⟩) (Kd.R_types HO_147002.out BK138.out (by decide)) (fun _ hk => hk.2) (.int .i64 t141)) (fun _ hk => hk.2) (.int .i64 t142)) (fun _ hk => hk.2) (.slice Ao27 x147002_2.length co27)) (fun _ hk => trivial), by repeat (first | (with_reducible first | exact HB.out | apply below_alloc | apply pw_below_drewN | apply below_drew1 | refine below_set ?_ GE138.out | refine below_set ?_ GE146.out) | exact HB.out)⟩

/-! ### slices_IndexFunc_int_int_210: function 210 -/
theorem rd_L1_get (l : List (List Int)) (k : Nat) (h : k < l.length) : rd_L1 l (k : Int) = l[k] := by simp [rd_L1, List.getD, h]
set_option maxHeartbeats 2000000 in
theorem slices_IndexFunc_int_int_210.any (p : List Int → Bool) (g : Nat) (lb : Array Value) (eg : ∀ args w, (callFunc g args).run Try.prog w = .ok (.enter g args) w) (A : Option Addr) (c : Nat) (l : List (List Int)) (w : World)
    (hr : Kd.C (Kd.slice 3 (Kd.int .i64)) w A l.length l)
    (hp : ∀ (x : List Int) (q : Nat) (B : Option Addr) (d : Nat), x ∈ l → Kd.C (Kd.int .i64) w B x.length x → x.length ≤ d → Calls Try.prog g (#[.slice B x.length d] ++ lb) (w.drewN q) fun e w' => e = .returned (.bool (p x)) ∧ ∃ q', w' = (w.drewN q).drewN q') :
    Calls Try.prog 210 #[.slice A l.length c, .func (.func g) #[] lb] w fun e w' => e = .returned (.int .i64 (fidx p l)) ∧ ∃ q, w' = w.drewN q := by
  have hbig : l.length ≤ 9223372036854775807 := hr.2.1
  have HR := Aside0.mk hr
  have HP := Aside0.mk hp
  clear hr hp
  go_enter Try.func210, Try.ntmps210
  go_wp2
  go_loopg [5, 8] l.length (fun gg _ s8 wr => ∃ kk q : Nat, kk ≤ l.length ∧ l.length - kk ≤ gg ∧ s8 = .int .i64 kk ∧ wr = w.drewN q ∧ Aside0 (∀ j (h : j < l.length), j < kk → p l[j] = false))
  case atStart => exact ⟨0, 0, Nat.zero_le _, by omega, rfl, rfl, ⟨fun j _ hj => absurd hj (Nat.not_lt_zero _)⟩⟩
  case round =>
    obtain ⟨kk, q, hkk, hg, rfl, rfl, A1⟩ := hrel
    by_cases hlt : kk < l.length
    · have hltz : (kk : Int) < (l.length : Int) := by omega
      obtain ⟨ad, B0, d0, e0, hcell, hle, hrow⟩ := at_L1 HR.out (kk : Int) (by omega) (by omega)
      subst e0
      rw [Int.toNat_natCast] at hcell
      have hyl : rd_L1 l (kk : Int) ∈ l := by rw [rd_L1_get l kk hlt]; exact List.getElem_mem hlt
      generalize hy : rd_L1 l (kk : Int) = y at hcell hle hrow hyl
      have B := Aside0.mk hy
      clear hy
      have hcall := fun q => HP.out y q B0 d0 hyl hrow hle
      clear hle hrow hyl
      cases hq : p y with
      | true =>
        rw [hq] at hcall
        have HQ := Aside0.mk hq
        have HCL := Aside0.mk hcall
        clear hcall hq
        go_wp2_with fail
        refine (HCL.out q).mono ?_
        rintro e w' ⟨rfl, q', rfl⟩
        go_wp2
        go_ret
        exact ⟨by rw [fidx_hit p l kk hlt (by rw [← rd_L1_get l kk hlt, B.out]; exact HQ.out) A1.out]; rfl, _, rfl⟩
      | false =>
        rw [hq] at hcall
        have HQ := Aside0.mk hq
        have HCL := Aside0.mk hcall
        clear hcall hq
        go_wp2_with fail
        refine (HCL.out q).mono ?_
        rintro e w' ⟨rfl, q', rfl⟩
        go_wp2
        go_roundg (l.length - (kk + 1))
        case measure => omega
        case rel =>
          refine ⟨kk + 1, _, by omega, by omega, by go_num, rfl, ⟨fun j hjl hj => ?_⟩⟩
          by_cases e : j = kk
          · subst e
            rw [← rd_L1_get l j hjl, B.out]; exact HQ.out
          · exact A1.out j hjl (by omega)
    · have hltz : ¬ (kk : Int) < (l.length : Int) := by omega
      have : kk = l.length := by omega
      subst this
      go_wp2
      go_ret
      exact ⟨by rw [fidx_miss p l (fun j h => A1.out j h h)]; rfl, q, rfl⟩

/-! ### slices_ContainsFunc_int_int_115: function 115 -/
set_option maxHeartbeats 1000000 in
theorem slices_ContainsFunc_int_int_115.any (p : List Int → Bool) (g : Nat) (lb : Array Value) (eg : ∀ args w, (callFunc g args).run Try.prog w = .ok (.enter g args) w) (A : Option Addr) (c : Nat) (l : List (List Int)) (w : World)
    (hr : Kd.C (Kd.slice 3 (Kd.int .i64)) w A l.length l)
    (hp : ∀ (x : List Int) (q : Nat) (B : Option Addr) (d : Nat), x ∈ l → Kd.C (Kd.int .i64) w B x.length x → x.length ≤ d → Calls Try.prog g (#[.slice B x.length d] ++ lb) (w.drewN q) fun e w' => e = .returned (.bool (p x)) ∧ ∃ q', w' = (w.drewN q).drewN q') :
    Calls Try.prog 115 #[.slice A l.length c, .func (.func g) #[] lb] w fun e w' => e = .returned (.bool (l.any p)) ∧ ∃ q, w' = w.drewN q := by
  have H := Aside0.mk (slices_IndexFunc_int_int_210.any p g lb eg A c l w hr hp)
  clear hr hp
  have hd := fidx_any p l
  generalize fidx p l = r at H hd
  generalize l.any p = b at hd
  have HD := Aside0.mk hd
  clear hd
  go_enter Try.func115, Try.ntmps115
  go_wp2_with (go_at_call 210; refine H.out.mono ?_; rintro e w' ⟨rfl, q, rfl⟩)
  go_ret
  exact ⟨by rw [← HD.out]; rfl, q, rfl⟩

/-! ### impl_attacked: function 209 -/
def att (a b c d : Int) : Bool := mx (wrap64 (a - c)) (wrap64 (c - a)) == mx (wrap64 (b - d)) (wrap64 (d - b))
def impl_attacked.f (a0 : Int) (a1 : Int) (a2 : Int) (a3 : Int) : Option (Bool) := some (att a0 a1 a2 a3)
theorem impl_attacked.calls (a0 : Int) (a1 : Int) (a2 : Int) (a3 : Int) (r : Bool) (w : World) (h : impl_attacked.f a0 a1 a2 a3 = some r) :
    Calls Try.prog 209 #[.int .i64 a0, .int .i64 a1, .int .i64 a2, .int .i64 a3] w fun e w' => e = .returned (.bool r) ∧ Drawn0 w w' := by
  obtain rfl := Option.some.inj h
  clear h
  go_enter Try.func209, Try.ntmps209
  go_wp2
  all_goals
    go_ret
    refine ⟨?_, ⟨0, rfl⟩⟩
    simp only [att, mx]
    (repeat' split) <;> first | rfl | (exfalso; omega)

/-! ### impl_watching_1: function 208 -/
/-- Is row r, column c reached from x? -/
def reach (r c : Int) (x : List Int) : Bool := rd x 0 == r || rd x 1 == c || att (rd x 0) (rd x 1) r c
set_option maxHeartbeats 4000000 in
theorem impl_watching_1.any (r c : Int) (B1 B2 : Nat) (x : List Int) (A : Option Addr) (d : Nat) (w : World) (hr : Kd.C (Kd.int .i64) w A x.length x) (h2 : 2 ≤ x.length)
    (h1c : w.cell? ⟨B1, 0, none⟩ = some (.int .i64 r)) (h2c : w.cell? ⟨B2, 0, none⟩ = some (.int .i64 c)) :
    Calls Try.prog 208 #[.slice A x.length d, .pointer (some ⟨B1, 0, none⟩), .pointer (some ⟨B2, 0, none⟩)] w fun e w' => e = .returned (.bool (reach r c x)) ∧ ∃ q, w' = w.drewN q := by
  obtain ⟨ad, e0, hx0⟩ := Kd.at_int hr 0 (by omega) (by omega)
  obtain ⟨ad', e1, hx1⟩ := Kd.at_int hr 1 (by omega) (by omega)
  subst e0
  obtain rfl : ad = ad' := by injection e1
  clear e1 hr
  rw [show ((0 : Int)).toNat = 0 from rfl, Addr.add_zero'] at hx0
  rw [show ((1 : Int)).toNat = 1 from rfl] at hx1
  have hx1b : w.cell? ⟨ad.block, ad.off + 1, none⟩ = some (.int .i64 (rd x 1)) := by simpa [Addr.add] using hx1
  clear hx1
  have hl0 : decide (0 < x.length) = true := decide_eq_true (by omega)
  have hl1 : decide (1 < x.length) = true := decide_eq_true (by omega)
  have hl2 : (0 < x.length) = True := eq_true (by omega)
  have hl3 : (1 < x.length) = True := eq_true (by omega)
  have hl4 : ((1 : Int) < (x.length : Int)) = True := eq_true (by omega)
  have hl5 : ((0 : Int) < (x.length : Int)) = True := eq_true (by omega)
  clear h2
  have ht : reach r c x = (rd x 0 == r || rd x 1 == c || att (rd x 0) (rd x 1) r c) := rfl
  generalize hb : reach r c x = b at ht
  generalize rd x 0 = y0 at ht hx0
  generalize rd x 1 = y1 at ht hx1b
  have HT := Aside0.mk ht
  clear ht hb
  have hatt := fun q => impl_attacked.calls y0 y1 r c (att y0 y1 r c) (w.drewN q) rfl
  generalize ha : att y0 y1 r c = t at hatt
  have HA := Aside0.mk hatt
  have HA2 := Aside0.mk ha
  clear hatt ha
  cases g1 : (y0 == r) <;> cases g2 : (y1 == c)
  all_goals
    have hfin := HT.out
    rw [g1, g2, HA2.out] at hfin
    have HF := Aside0.mk hfin
    clear hfin
    go_enter Try.func208, Try.ntmps208
    go_wp2
    go_quiet ((go_at_call 209; refine (HA.out _).mono ?_; rintro e w' ⟨rfl, ⟨nd, rfl⟩⟩; first | exact ⟨rfl, _, World.drewN_drewN _ _ _⟩ | exact ⟨rfl, _, rfl⟩))
    go_wp2
    go_ret
    exact ⟨by rw [HF.out]; rfl, _, rfl⟩

/-! ### impl_watching: function 111 -/
/-- Is each place of n rows and columns reached? -/
def rowSeen (n : Nat) (l : List (List Int)) (r : Nat) : Bool := (List.range n).all fun c => l.any (reach (r : Int) (c : Int))
def allSeen (n : Nat) (l : List (List Int)) : Bool := (List.range n).all (rowSeen n l)
theorem allSeen_yes {n : Nat} {l : List (List Int)} (h : ∀ j, j < n → rowSeen n l j = true) : allSeen n l = true := by
  unfold allSeen
  rw [List.all_eq_true]
  intro j hj
  exact h j (List.mem_range.1 hj)
theorem allSeen_no {n r : Nat} {l : List (List Int)} (hr : r < n) (h : rowSeen n l r = false) : allSeen n l = false := by
  cases e : allSeen n l
  · rfl
  · unfold allSeen at e
    rw [List.all_eq_true] at e
    rw [e r (List.mem_range.2 hr)] at h
    cases h
theorem rowSeen_yes {n r : Nat} {l : List (List Int)} (h : ∀ j, j < n → l.any (reach (r : Int) (j : Int)) = true) : rowSeen n l r = true := by
  unfold rowSeen
  rw [List.all_eq_true]
  intro j hj
  exact h j (List.mem_range.1 hj)
theorem rowSeen_no {n r c : Nat} {l : List (List Int)} (hc : c < n) (h : l.any (reach (r : Int) (c : Int)) = false) : rowSeen n l r = false := by
  cases e : rowSeen n l r
  · rfl
  · unfold rowSeen at e
    rw [List.all_eq_true] at e
    rw [e c (List.mem_range.2 hc)] at h
    cases h
def impl_watching.f (a0 : Int) (l1 : List (List Int)) : Option (Bool) := if (∀ x ∈ l1, 2 ≤ x.length) ∧ 0 ≤ a0 ∧ a0 ≤ 100 then some (allSeen a0.toNat l1) else none
set_option maxHeartbeats 8000000 in
theorem impl_watching.calls (a0 : Int) (A1 : Option Addr) (c1 : Nat) (l1 : List (List Int)) (r : Bool) (w : World) (hr1 : Kd.C (Kd.slice 3 (Kd.int .i64)) w A1 l1.length l1) (hc1 : l1.length ≤ c1) (h : impl_watching.f a0 l1 = some r) :
    Calls Try.prog 111 #[.int .i64 a0, .slice A1 l1.length c1] w fun e w' => e = .returned (.bool r) ∧ Below w.heap.size w w' := by
  unfold impl_watching.f at h
  split at h
  case isFalse => cases h
  case isTrue hc =>
  obtain rfl := Option.some.inj h
  clear h
  obtain ⟨h2, h0, h8⟩ := hc
  have H2 := Aside0.mk h2
  have HR := Aside0.mk hr1
  clear h2 hr1 hc1
  obtain ⟨n, rfl⟩ : ∃ n : Nat, a0 = n := ⟨a0.toNat, by omega⟩
  rw [Int.toNat_natCast]
  have hn : n ≤ 100 := by omega
  clear h0 h8
  have eg := fun args w => enters_ (args := args) (w := w) Try.func208 (by kernel_rfl) rfl
  go_enter Try.func111, Try.ntmps111
  go_wp2
  go_loopg [8] n (fun gg s8 wr => ∃ r : Nat, r ≤ n ∧ n - r ≤ gg ∧ s8 = .int .i64 r ∧ Aside0 (∀ j, j < r → rowSeen n l1 j = true) ∧ Aside0 (Below w.heap.size w wr))
  case atStart => exact ⟨0, Nat.zero_le _, by omega, rfl, ⟨fun j hj => absurd hj (Nat.not_lt_zero _)⟩, ⟨Below.refl _ _⟩⟩
  case round =>
    obtain ⟨r, hr, hg, rfl, A1, HB⟩ := hrel
    by_cases hlt : r < n
    · have hltz : (r : Int) < (n : Int) := by omega
      obtain ⟨wo, rfl⟩ : ∃ wo : World, wo = wr := ⟨_, rfl⟩
      go_wp2
      go_loopg [12] n (fun g2 s12 w2 => ∃ c : Nat, c ≤ n ∧ n - c ≤ g2 ∧ s12 = .int .i64 c ∧ Aside0 (∀ j : Nat, j < c → l1.any (reach (r : Int) (j : Int)) = true) ∧ Aside0 (w2.cell? ⟨wo.heap.size, 0, none⟩ = some (.int .i64 r)) ∧ Aside0 (Below w.heap.size w w2))
      case atStart => exact ⟨0, Nat.zero_le _, by omega, rfl, ⟨fun j hj => absurd hj (Nat.not_lt_zero _)⟩, ⟨by simp⟩, ⟨below_then HB.out HB.out.size (below_alloc (Below.refl _ _) _)⟩⟩
      case round =>
        obtain ⟨c, hcn, hg2, rfl, A2, HC, HB2⟩ := hrel
        by_cases hlc : c < n
        · have hlcz : (c : Int) < (n : Int) := by omega
          cases hb : l1.any (reach (r : Int) (c : Int)) with
          | false =>
            have HF := Aside0.mk (allSeen_no hlt (rowSeen_no hlc hb))
            have HP := Aside0.mk hb
            clear hb
            go_wp2_with (go_at_call 115; refine (slices_ContainsFunc_int_int_115.any (reach (r : Int) (c : Int)) 208 #[.pointer (some ⟨wo.heap.size, 0, none⟩), .pointer (some ⟨wr.heap.size, 0, none⟩)] eg _ _ l1 _ (Kd.C_below HR.out (below_then HB2.out HB2.out.size (below_alloc (Below.refl _ _) _))) (fun x q B d hx hrow hle => impl_watching_1.any (r : Int) (c : Int) _ _ x B d _ hrow (H2.out x hx) (pw_cell_below (pw_below_drewN (below_alloc (Below.refl _ _) _) _) HC.out) (by simp))).mono ?_; rw [HP.out]; rintro e w' ⟨rfl, ⟨q, rfl⟩⟩)
            go_ret
            exact ⟨by rw [HF.out]; rfl, pw_below_drewN (below_then HB2.out HB2.out.size (below_alloc (Below.refl _ _) _)) _⟩
          | true =>
            have HP := Aside0.mk hb
            clear hb
            go_wp2_with (go_at_call 115; refine (slices_ContainsFunc_int_int_115.any (reach (r : Int) (c : Int)) 208 #[.pointer (some ⟨wo.heap.size, 0, none⟩), .pointer (some ⟨wr.heap.size, 0, none⟩)] eg _ _ l1 _ (Kd.C_below HR.out (below_then HB2.out HB2.out.size (below_alloc (Below.refl _ _) _))) (fun x q B d hx hrow hle => impl_watching_1.any (r : Int) (c : Int) _ _ x B d _ hrow (H2.out x hx) (pw_cell_below (pw_below_drewN (below_alloc (Below.refl _ _) _) _) HC.out) (by simp))).mono ?_; rw [HP.out]; rintro e w' ⟨rfl, ⟨q, rfl⟩⟩)
            go_roundg (n - (c + 1))
            case measure => omega
            case rel =>
              refine ⟨c + 1, by omega, by omega, by go_num, ⟨fun j hj => ?_⟩, ⟨pw_cell_below (pw_below_drewN (below_alloc (Below.refl _ _) _) _) HC.out⟩, ⟨pw_below_drewN (below_then HB2.out HB2.out.size (below_alloc (Below.refl _ _) _)) _⟩⟩
              by_cases e : j = c
              · subst e; exact HP.out
              · exact A2.out j (by omega)
        · have hlcz : ¬ (c : Int) < (n : Int) := by omega
          have : c = n := by omega
          subst this
          have A3 := Aside0.mk (rowSeen_yes A2.out)
          clear A2
          go_wp2
          go_roundg (c - (r + 1))
          case measure => omega
          case rel =>
            refine ⟨r + 1, by omega, by omega, by go_num, ⟨fun j hj => ?_⟩, HB2⟩
            by_cases e : j = r
            · subst e; exact A3.out
            · exact A1.out j (by omega)
    · have hltz : ¬ (r : Int) < (n : Int) := by omega
      have : r = n := by omega
      subst this
      have HF := Aside0.mk (allSeen_yes A1.out)
      clear A1
      go_wp2
      go_ret
      exact ⟨by rw [HF.out]; rfl, HB.out⟩

/-! ### impl_LeastWatch_1: function 110 -/
/-- The first list that goes on a list, with k places, that reaches all. -/
def lwFind (n k : Nat) : List (List Int) → List (List Int) → Option (List (List Int))
  | [], list => if list.length = k then (if allSeen n list then some list else none) else none
  | x :: t, list => if list.length = k then (if allSeen n list then some list else none) else (match lwFind n k t (list ++ [x]) with | some r => some r | none => lwFind n k t list)
theorem lwFind_full {n k : Nat} (rest : List (List Int)) {list : List (List Int)} (h : list.length = k) : lwFind n k rest list = if allSeen n list then some list else none := by
  cases rest <;> simp [lwFind, h]
theorem lwFind_end {n k i : Nat} {all list : List (List Int)} (h : list.length ≠ k) (hi : all.length ≤ i) : lwFind n k (all.drop i) list = none := by
  rw [List.drop_eq_nil_of_le hi, lwFind, if_neg h]
theorem lwFind_step {n k i : Nat} {all list : List (List Int)} (h : list.length ≠ k) (hi : i < all.length) : lwFind n k (all.drop i) list = (match lwFind n k (all.drop (i + 1)) (list ++ [rd_L1 all (i : Int)]) with | some r => some r | none => lwFind n k (all.drop (i + 1)) list) := by
  have e : all.drop i = rd_L1 all (i : Int) :: all.drop (i + 1) := by
    rw [List.drop_eq_getElem_cons hi]
    simp [rd_L1, List.getD, hi]
  rw [e, lwFind, if_neg h]
/-- What the search reads alone. -/
def lwFixed (n k lo B0 Kb Nb Ab : Nat) (AA : Option Addr) (CA : Nat) (all : List (List Int)) (w : World) : Prop :=
  B0 ≤ w.heap.size ∧ w.cell? ⟨Kb, 0, none⟩ = some (.int .i64 (k : Int)) ∧ w.cell? ⟨Nb, 0, none⟩ = some (.int .i64 (n : Int)) ∧ w.cell? ⟨Ab, 0, none⟩ = some (.slice AA all.length CA) ∧ Kd.F (Kd.slice 3 (Kd.int .i64)) w (fun k => lo ≤ k ∧ k < B0) AA all.length all
theorem lwFixed_below {n k lo B0 Kb Nb Ab : Nat} {AA : Option Addr} {CA : Nat} {all : List (List Int)} {w w' : World} (hK : Kb < B0) (hN : Nb < B0) (hA : Ab < B0) (h : lwFixed n k lo B0 Kb Nb Ab AA CA all w) (hb : Below B0 w w') : lwFixed n k lo B0 Kb Nb Ab AA CA all w' := by
  obtain ⟨h0, h1, h2, h3, h4⟩ := h
  exact ⟨Nat.le_trans h0 hb.size, (hb.cell hK).trans h1, (hb.cell hN).trans h2, (hb.cell hA).trans h3, Kd.F_step h4 (fun k hk _ => hb.block k hk.2)⟩
set_option maxHeartbeats 8000000 in
theorem impl_LeastWatch_1.walk (n k lo B0 L F Kb Nb Ab : Nat) (AA : Option Addr) (CA : Nat) (all : List (List Int)) (hn : n ≤ 100) (hk : k ≤ 100) (h2 : ∀ x ∈ all, 2 ≤ x.length) (hal : all.length ≤ 1000)
    (hlo : lo ≤ B0) (hL : B0 ≤ L) (hF : B0 ≤ F) (hLF : L ≠ F) (hKb : Kb < B0) (hNb : Nb < B0) (hAb : Ab < B0) :
    ∀ m from_, all.length - from_ < m → from_ ≤ all.length → ∀ (w : World) (v : Value) (xs : List (List Int)), xs.length ≤ k → (∀ x ∈ xs, 2 ≤ x.length) → lwFixed n k lo B0 Kb Nb Ab AA CA all w →
      w.heap[L]? = some (.cells #[v] 40 (0, 0)) → w.heap[F]? = some (.cells #[.func (.func 110) #[] #[.pointer (some ⟨L, 0, none⟩), .pointer (some ⟨Kb, 0, none⟩), .pointer (some ⟨Nb, 0, none⟩), .pointer (some ⟨Ab, 0, none⟩), .pointer (some ⟨F, 0, none⟩)]] 99 (0, 0)) →
      Kd.N (Kd.slice 3 (Kd.int .i64)) 22 w B0 (fun q => lo ≤ q ∧ q ≠ L ∧ q ≠ F) v xs →
      Calls Try.prog 110 #[.int .i64 (from_ : Int), .pointer (some ⟨L, 0, none⟩), .pointer (some ⟨Kb, 0, none⟩), .pointer (some ⟨Nb, 0, none⟩), .pointer (some ⟨Ab, 0, none⟩), .pointer (some ⟨F, 0, none⟩)] w fun e w' =>
        e = .returned (.bool (lwFind n k (all.drop from_) xs).isSome) ∧ Below B0 w w' ∧ w'.heap[F]? = w.heap[F]? ∧ ∃ v', w'.heap[L]? = some (.cells #[v'] 40 (0, 0)) ∧ Kd.N (Kd.slice 3 (Kd.int .i64)) 22 w' B0 (fun q => lo ≤ q ∧ q ≠ L ∧ q ≠ F) v' ((lwFind n k (all.drop from_) xs).getD xs) := by
  intro m
  induction m with
  | zero => exact fun from_ hm => absurd hm (Nat.not_lt_zero _)
  | succ m ih =>
  intro from_ hm hfr w v xs hxk hx2 hfx hcL hcF hO
  have IH := Aside0.mk ih
  have H2 := Aside0.mk h2
  have X2 := Aside0.mk hx2
  clear ih h2 hx2
  have FX := Aside0.mk hfx
  obtain ⟨hB0, hcK, hcN, hcA, hAll⟩ := hfx
  have HALL := Aside0.mk hAll
  clear hAll
  obtain ⟨A, c, rfl⟩ := Kd.N_slice hO
  have hlL : w.cell? ⟨L, 0, none⟩ = some (.slice A xs.length c) := (blk_cell hcL 0).trans rfl
  by_cases hkk : xs.length = k
  · have hkb : ((xs.length : Int) == (k : Int)) = true := beq_iff_eq.2 (by omega)
    have HR := Aside0.mk (Kd.N_reads' hO)
    have HFL := Aside0.mk (lwFind_full (n := n) (all.drop from_) hkk)
    have HO := Aside0.mk hO
    have HCL := Aside0.mk hcL
    have HCF := Aside0.mk hcF
    clear hO hcL hcF
    generalize hs : allSeen n xs = s at HFL
    have HS : Aside0 (impl_watching.f (n : Int) xs = some s) := ⟨by unfold impl_watching.f; rw [if_pos ⟨X2.out, by omega, by omega⟩, Int.toNat_natCast, hs]⟩
    have HKK := Aside0.mk hkk
    clear hs hkk hm hfr hxk hal
    go_enter Try.func110, Try.ntmps110
    go_wp2_with (go_at_call 111; refine (impl_watching.calls (n : Int) _ _ xs s _ HR.out.2.2 HR.out.2.1 HS.out).mono ?_; rintro e w' ⟨rfl, hbel⟩)
    go_ret
    refine ⟨by rw [HFL.out]; cases s <;> rfl, hbel.mono hB0, hbel.block _ (blk_lt HCF.out), _, blk_below HCL.out hbel, ?_⟩
    rw [HFL.out]
    have := Kd.N_below HO.out hbel
    cases s <;> exact this
  · have hkb : ((xs.length : Int) == (k : Int)) = false := beq_eq_false_iff_ne.2 (by omega)
    have HKK := Aside0.mk hkk
    have HXK := Aside0.mk hxk
    have HAL := Aside0.mk hal
    have HFR := Aside0.mk hfr
    have HM := Aside0.mk hm
    have HO := Aside0.mk hO
    have HCL := Aside0.mk hcL
    have HCF := Aside0.mk hcF
    clear hkk hxk hal hm hO hcL hcF
    go_enter Try.func110, Try.ntmps110
    go_wp2
    go_loopg [8] all.length (fun gg s8 wr => ∃ i : Nat, from_ ≤ i ∧ i ≤ all.length ∧ all.length - i ≤ gg ∧ s8 = .int .i64 (i : Int) ∧ Aside0 (lwFind n k (all.drop from_) xs = lwFind n k (all.drop i) xs) ∧ Aside0 (Below B0 w wr) ∧ Aside0 (wr.heap[F]? = w.heap[F]?) ∧ ∃ A' c', Aside0 (wr.heap[L]? = some (.cells #[.slice A' xs.length c'] 40 (0, 0))) ∧ Aside0 (Kd.N (Kd.slice 3 (Kd.int .i64)) 22 wr B0 (fun q => lo ≤ q ∧ q ≠ L ∧ q ≠ F) (.slice A' xs.length c') xs))
    case atStart => exact ⟨from_, Nat.le_refl _, HFR.out, by omega, rfl, ⟨rfl⟩, ⟨Below.refl _ _⟩, ⟨rfl⟩, A, c, HCL, HO⟩
    case round =>
      obtain ⟨i, hfi, hil, hgg, rfl, A1, HB, HEF, A', c', HCL', HO'⟩ := hrel
      obtain ⟨hB0', hcK', hcN', hcA', hAll'⟩ := lwFixed_below hKb hNb hAb FX.out HB.out
      have hlL' : wr.cell? ⟨L, 0, none⟩ = some (.slice A' xs.length c') := (blk_cell HCL'.out 0).trans rfl
      by_cases hlt : i < all.length
      · have hltz : (i : Int) < (all.length : Int) := by omega
        have hi0 : (0 : Int) ≤ (i : Int) := by omega
        obtain ⟨ad, c1, e0, hcl1, hFK, hcc, hokad⟩ := Kd.F_get hAll' [] (i : Int) (by omega) (by omega)
        subst e0
        obtain ⟨ua, uc, rfl, hul, hge⟩ := Kd.FK_slice_open hFK
        have hrow : wr.cell? (ad.add i) = some (.slice ua (rd_L1 all (i : Int)).length uc) := by
          have := hcc 0 _ rfl
          simpa [Kd.slice, rd_L1] using this
        have hFK' : Kd.FK (Kd.slice 3 (Kd.int .i64)) wr (fun k => lo ≤ k ∧ k < B0) (rd_L1 all (i : Int)) [.slice ua (rd_L1 all (i : Int)).length uc] := hFK
        have hneL := Kd.N_away HO'.out (g := L) (fun _ h => h.2.1)
        have hneF := Kd.N_away HO'.out (g := F) (fun _ h => h.2.2)
        have hltL := blk_lt HCL'.out
        have hltF : F < wr.heap.size := blk_lt (HEF.out.trans HCF.out)
        have hbaseO := Kd.N_base HO'.out
        have hadL : ad.block < B0 := (hokad (by decide)).2
        have hxs1 : ∀ z ∈ xs ++ [rd_L1 all (i : Int)], 2 ≤ z.length := by
          intro z hz
          rcases List.mem_append.1 hz with hz | hz
          · exact X2.out z hz
          · obtain rfl : z = rd_L1 all (i : Int) := by simpa using hz
            have hi : i < all.length := hlt
            rw [show rd_L1 all (i : Int) = all[i] by simp [rd_L1, List.getD, hi]]
            exact H2.out _ (List.getElem_mem hi)
        have HX1 := Aside0.mk hxs1
        have HST := Aside0.mk (lwFind_step (n := n) (k := k) (all := all) HKK.out hlt)
        clear hcl1 hFK hcc hokad hul hge hxs1
        generalize hx : rd_L1 all (i : Int) = x at hrow HX1 HST hFK'
        have HP := Aside0.mk hFK'
        have HownP : Aside0 (∀ q, q < B0 → some q ≠ (Value.slice A' xs.length c').ownBlock) := ⟨fun q hq e => by have := hbaseO q e.symm; omega⟩
        have HokP : Aside0 (∀ q, lo ≤ q ∧ q < B0 → (lo ≤ q ∧ q ≠ L ∧ q ≠ F) ∧ some q ≠ (Value.slice A' xs.length c').ownBlock) := ⟨fun q hq => ⟨⟨hq.1, by omega, by omega⟩, HownP.out q hq.2⟩⟩
        have HLEN : Aside0 ((xs.length + 1) * 24 ≤ 140737488355328) := ⟨by have := HXK.out; omega⟩
        have HLF : Aside0 (∀ q, wr.heap.size ≤ q → lo ≤ q ∧ q ≠ L ∧ q ≠ F) := ⟨fun q hq => ⟨by omega, by omega, by omega⟩⟩
        have HnL := Aside0.mk hneL
        have HnF := Aside0.mk hneF
        clear hFK' hneL hneF hbaseO
        have HX := Aside0.mk hx
        clear hx
        have HLT := Aside0.mk hlt
        clear hlt
        cases hr : lwFind n k (all.drop (i + 1)) (xs ++ [x]) with
        | some r =>
          have HRR := Aside0.mk hr
          clear hr
          go_wp2
          go_region_law ((refine Kd.N_append_step (Kd.slice 3 (Kd.int .i64)) (w0 := w) B0 (by rfl) (.tmp 23) (.tmp 28) 40 22 (.slice none 0 0) 24 rfl Try.underlying40 info22 rfl (by decide) (by omega) (.slice A' xs.length c') xs x [.slice ua x.length uc] (fun q => lo ≤ q ∧ q ≠ L ∧ q ≠ F) (fun q => lo ≤ q ∧ q < B0) (by rfl) (by rfl) (Kd.FK_below HP.out (below_drew1 (Below.refl _ _))) HokP.out HLF.out (Kd.N_drew HO'.out) (below_drew1 HB.out) hB0' HLEN.out ?_; intro v1 w1 ho hb hg hat; obtain ⟨A1', c1', rfl⟩ := Kd.N_slice ho; have HW1 := Aside0.mk (blk_grown (blk_drew HCL'.out) hg HnL.out); have kf := blk_frozen HW1.out 0; have k1 := (blk_cell (blk_grown (blk_drew HCL'.out) hg HnL.out) 0).trans rfl; have k2 := cell_grown hg (a := ⟨Ab, 0, none⟩) hcA' (HownP.out Ab hAb); have k3 := cell_grown hg (a := ad.add i) hrow (by rw [add_block]; exact (HownP.out ad.block hadL))))
          all_goals
            have hF1 := blk_grown (blk_drew (HEF.out.trans HCF.out)) hg HnF.out
            have ho' : Kd.N (Kd.slice 3 (Kd.int .i64)) 22 w1 B0 (fun q => lo ≤ q ∧ q ≠ L ∧ q ≠ F) (.slice A1' (xs.length + 1) c1') (xs ++ [x]) := by simpa using ho
            have HL2 := Aside0.mk (blk_put (cs' := #[.slice A1' (xs.length + 1) c1']) HW1.out 0 (.slice A1' (xs.length + 1) c1') rfl)
            have HF2 := Aside0.mk (blk_far hF1 (p := ⟨L, 0, none⟩) (Ne.symm hLF) (.slice A1' (xs.length + 1) c1'))
            have HO2 := Aside0.mk (Kd.N_far ho' (p := ⟨L, 0, none⟩) (fun q h => h.2.1) (.slice A1' (xs.length + 1) c1'))
            have HB2 := Aside0.mk (hb.setCell hL (p := ⟨L, 0, none⟩) (.slice A1' (xs.length + 1) c1'))
            clear hg hb ho hat HW1 kf k1 k2 k3 hF1 ho'
            generalize w1.setCell ⟨L, 0, none⟩ (.slice A1' (xs.length + 1) c1') = w2 at HL2 HF2 HO2 HB2 ⊢
            have hF2c := (blk_cell HF2.out 0).trans rfl
            go_wp2_with fail
            rw [show wrap64 ((i : Int) + 1) = ((i + 1 : Nat) : Int) by (have := HAL.out; have := HLT.out; unfold wrap64; omega)]
            refine (IH.out (i + 1) (by have := HM.out; omega) (by have := HLT.out; omega) w2 _ (xs ++ [x]) (by have := HXK.out; have := HKK.out; simp; omega) HX1.out (lwFixed_below hKb hNb hAb FX.out HB2.out) HL2.out HF2.out HO2.out).mono ?_
            rw [HRR.out]
            rintro e w3 ⟨rfl, hb3, hf3, v3, hl3, hn3⟩
            go_wp2
            go_ret
            exact ⟨by rw [A1.out, HST.out, HRR.out]; rfl, HB2.out.trans hb3, hf3.trans (HF2.out.trans HCF.out.symm), v3, hl3, by rw [A1.out, HST.out, HRR.out]; exact hn3⟩
        | none =>
          have HRR := Aside0.mk hr
          clear hr
          go_wp2
          go_region_law ((refine Kd.N_append_step (Kd.slice 3 (Kd.int .i64)) (w0 := w) B0 (by rfl) (.tmp 23) (.tmp 28) 40 22 (.slice none 0 0) 24 rfl Try.underlying40 info22 rfl (by decide) (by omega) (.slice A' xs.length c') xs x [.slice ua x.length uc] (fun q => lo ≤ q ∧ q ≠ L ∧ q ≠ F) (fun q => lo ≤ q ∧ q < B0) (by rfl) (by rfl) (Kd.FK_below HP.out (below_drew1 (Below.refl _ _))) HokP.out HLF.out (Kd.N_drew HO'.out) (below_drew1 HB.out) hB0' HLEN.out ?_; intro v1 w1 ho hb hg hat; obtain ⟨A1', c1', rfl⟩ := Kd.N_slice ho; have HW1 := Aside0.mk (blk_grown (blk_drew HCL'.out) hg HnL.out); have kf := blk_frozen HW1.out 0; have k1 := (blk_cell (blk_grown (blk_drew HCL'.out) hg HnL.out) 0).trans rfl; have k2 := cell_grown hg (a := ⟨Ab, 0, none⟩) hcA' (HownP.out Ab hAb); have k3 := cell_grown hg (a := ad.add i) hrow (by rw [add_block]; exact (HownP.out ad.block hadL))))
          all_goals
            have hF1 := blk_grown (blk_drew (HEF.out.trans HCF.out)) hg HnF.out
            have ho' : Kd.N (Kd.slice 3 (Kd.int .i64)) 22 w1 B0 (fun q => lo ≤ q ∧ q ≠ L ∧ q ≠ F) (.slice A1' (xs.length + 1) c1') (xs ++ [x]) := by simpa using ho
            have HL2 := Aside0.mk (blk_put (cs' := #[.slice A1' (xs.length + 1) c1']) HW1.out 0 (.slice A1' (xs.length + 1) c1') rfl)
            have HF2 := Aside0.mk (blk_far hF1 (p := ⟨L, 0, none⟩) (Ne.symm hLF) (.slice A1' (xs.length + 1) c1'))
            have HO2 := Aside0.mk (Kd.N_far ho' (p := ⟨L, 0, none⟩) (fun q h => h.2.1) (.slice A1' (xs.length + 1) c1'))
            have HB2 := Aside0.mk (hb.setCell hL (p := ⟨L, 0, none⟩) (.slice A1' (xs.length + 1) c1'))
            clear hg hb ho hat HW1 kf k1 k2 k3 hF1 ho'
            generalize w1.setCell ⟨L, 0, none⟩ (.slice A1' (xs.length + 1) c1') = w2 at HL2 HF2 HO2 HB2 ⊢
            have hF2c := (blk_cell HF2.out 0).trans rfl
            go_wp2_with fail
            rw [show wrap64 ((i : Int) + 1) = ((i + 1 : Nat) : Int) by (have := HAL.out; have := HLT.out; unfold wrap64; omega)]
            refine (IH.out (i + 1) (by have := HM.out; omega) (by have := HLT.out; omega) w2 _ (xs ++ [x]) (by have := HXK.out; have := HKK.out; simp; omega) HX1.out (lwFixed_below hKb hNb hAb FX.out HB2.out) HL2.out HF2.out HO2.out).mono ?_
            rw [HRR.out]
            rintro e w3 ⟨rfl, hb3, hf3, v3, hl3, hn3⟩
            obtain ⟨A3, c3, rfl⟩ := Kd.N_slice hn3
            rw [show (Option.getD none (xs ++ [x])).length = xs.length + 1 by simp] at hl3 hn3
            have hl3c := (blk_cell hl3 0).trans rfl
            have hl3f := blk_frozen hl3 0
            have hwx : wrap64 (xs.length : Int) = (xs.length : Int) := by have := HXK.out; unfold wrap64; omega
            obtain ⟨i0, hi0', _, hsz, _⟩ := info_parts info22
            have hcut := cut_to (P := Try.prog) 40 22 .i64 Try.underlying40 hi0' A3 (xs.length + 1) c3 (xs.length : Int) (by omega) (by omega) (Kd.N_reads' hn3).2.1
            rw [Int.toNat_natCast] at hcut
            have hr3 := Kd.N_take (m := xs.length) hn3 (by simp)
            clear hi0' hsz
            have HN3 := Aside0.mk hr3
            clear hr3 hn3
            go_wp2
            go_roundg (all.length - (i + 1))
            case measure => have := HLT.out; omega
            case rel =>
              refine ⟨i + 1, by omega, HLT.out, Nat.le_refl _, by (rw [show wrap64 ((i : Int) + 1) = ((i + 1 : Nat) : Int) by (have := HAL.out; have := HLT.out; unfold wrap64; omega)]), ⟨by rw [A1.out, HST.out, HRR.out]⟩, ⟨(HB2.out.trans hb3).setCell hL (p := ⟨L, 0, none⟩) _⟩, ⟨(Below.heap_setCell w3 ⟨L, 0, none⟩ _ F (Ne.symm hLF)).trans (hf3.trans (HF2.out.trans HCF.out.symm))⟩, A3, c3, ⟨blk_put hl3 0 _ rfl⟩, ⟨?_⟩⟩
              have := Kd.N_far HN3.out (p := ⟨L, 0, none⟩) (fun q h => h.2.1) (.slice A3 xs.length c3)
              simpa using this
      · have hltz : ¬ (i : Int) < (all.length : Int) := by omega
        have HE := Aside0.mk (lwFind_end (n := n) (k := k) (i := i) (all := all) HKK.out (by omega))
        have HNL := Aside0.mk hlt
        clear hlt
        go_wp2
        go_ret
        refine ⟨by rw [A1.out, HE.out]; rfl, HB.out, HEF.out, _, HCL'.out, ?_⟩
        rw [A1.out, HE.out]
        exact HO'.out

end Go.Proofs.Ytgdaenffcldfnaa.QW
