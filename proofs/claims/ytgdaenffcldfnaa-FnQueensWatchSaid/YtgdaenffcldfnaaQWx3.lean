-- PRINTED by print.py (a twelfth state) out of the translation. Not trusted: Lean checks it.
import Derived.Test.YtgdaenffcldfnaaQWx0
import Derived.Test.YtgdaenffcldfnaaQWx1
import Derived.Test.YtgdaenffcldfnaaQWx2
namespace Go.Proofs.Ytgdaenffcldfnaa.QW
open Go.RowKit Go.Proofs.YtgdaenffcldfnaaW.PrintWords Go.Proofs.YtgdaenffcldfnaaW.PrintLast Go.Proofs.YtgdaenffcldfnaaW.PrintMore
attribute [local go_sem] max2_int min2_int max_two min_two max_three min_three max_four min_four   -- for this text's walks alone
set_option linter.unusedVariables false
set_option linter.unusedSimpArgs false

/-! ### impl_LeastWatch: function 27 -/
/-- All cells of n rows and columns. -/
def lwAll (n : Nat) : List (List Int) := (List.range n).flatMap fun (r : Nat) => (List.range n).map fun (c : Nat) => ([(r : Int), (c : Int)] : List Int)
/-- With k places, or k + 1, .. -/
def lwLoop (n : Nat) : Nat → Nat → Option (List (List Int))
  | 0, _ => none
  | d + 1, k => match lwFind n k (lwAll n) [] with | some r => some r | none => lwLoop n d (k + 1)
def impl_LeastWatch.f (a0 : Int) : Option ((List (List Int)) × Bool) := if 1 ≤ a0 ∧ a0 ≤ 6 then (lwLoop a0.toNat 40 1).map fun r => (r, true) else some ([], false)
theorem lwBoard (n : Nat) (h1 : 1 ≤ n) (h6 : n ≤ 6) : impl_FullBoard.f 20 (n : Int) (n : Int) = some ((n : Int), (n : Int), List.replicate n (2 ^ n - 1), true) := by
  obtain rfl | rfl | rfl | rfl | rfl | rfl : n = 1 ∨ n = 2 ∨ n = 3 ∨ n = 4 ∨ n = 5 ∨ n = 6 := by omega
  all_goals (clear h1 h6; kernel_rfl)
theorem lwCells (n : Nat) (h1 : 1 ≤ n) (h6 : n ≤ 6) : impl_CellsOf.f 100 (n : Int) (n : Int) (List.replicate n (2 ^ n - 1)) = some (lwAll n, true) := by
  obtain rfl | rfl | rfl | rfl | rfl | rfl : n = 1 ∨ n = 2 ∨ n = 3 ∨ n = 4 ∨ n = 5 ∨ n = 6 := by omega
  all_goals (clear h1 h6; kernel_rfl)
theorem lwAll_two (n : Nat) : ∀ x ∈ lwAll n, 2 ≤ x.length := by
  intro x hx
  unfold lwAll at hx
  rw [List.mem_flatMap] at hx
  obtain ⟨r, _, hx⟩ := hx
  rw [List.mem_map] at hx
  obtain ⟨c, _, rfl⟩ := hx
  exact Nat.le_refl _
theorem lwAll_len (n : Nat) (h6 : n ≤ 6) : (lwAll n).length ≤ 1000 := by
  obtain rfl | rfl | rfl | rfl | rfl | rfl | rfl : n = 0 ∨ n = 1 ∨ n = 2 ∨ n = 3 ∨ n = 4 ∨ n = 5 ∨ n = 6 := by omega
  all_goals decide
set_option maxHeartbeats 8000000 in
theorem impl_LeastWatch.calls (a0 : Int) (r1 : List (List Int)) (r2 : Bool) (w : World) (h : impl_LeastWatch.f a0 = some (r1, r2)) :
    Calls Try.prog 27 #[.int .i64 a0] w fun e w' => ∃ v0_ : Value, e = .returned (.tuple #[v0_, .bool r2]) ∧ Kd.N (Kd.slice 3 (Kd.int .i64)) 22 w' w.heap.size (fun k_ => (w.heap.size ≤ k_)) v0_ r1 ∧ Below w.heap.size w w' := by
  unfold impl_LeastWatch.f at h
  by_cases hc : 1 ≤ a0 ∧ a0 ≤ 6
  · rw [if_pos hc] at h
    have hwi : impl_within.f a0 1 6 = some true := by rw [within_f]; simp [hc.1, hc.2]
    have HW := Aside0.mk hwi
    obtain ⟨n, rfl⟩ : ∃ n : Nat, a0 = n := ⟨a0.toNat, by omega⟩
    rw [Int.toNat_natCast] at h
    have hn1 : 1 ≤ n := by omega
    have hn6 : n ≤ 6 := by omega
    have FB := Aside0.mk (lwBoard n hn1 hn6)
    have CL := Aside0.mk (lwCells n hn1 hn6)
    obtain ⟨r, hr, e⟩ := Option.map_eq_some_iff.1 h
    simp only [Prod.mk.injEq] at e
    obtain ⟨rfl, rfl⟩ := e
    have HRR := Aside0.mk hr
    clear h hr hwi hc
    generalize List.replicate n ((2 : Int) ^ n - 1) = cells at FB CL
    have hu28 := Try.underlying28
    go_enter Try.func27, Try.ntmps27
    go_wp2_with (first
      | (go_at_call 108; refine (impl_within.calls _ _ _ true _ HW.out).mono ?_; rintro e w' ⟨rfl, ⟨q, rfl⟩⟩)
      | (go_at_call 109; refine (impl_FullBoard.calls 20 _ _ _ _ _ _ _ FB.out).mono ?_; rintro e w1 ⟨v1, rfl, hb1, hbel1⟩; obtain ⟨A1, c1, rfl⟩ := Kd.R_slice hb1; have HB1 := Aside0.mk hb1; have HBel1 := Aside0.mk hbel1; clear hb1 hbel1)
      | (go_at_call 84; refine (impl_CellsOf.calls 100 _ _ _ _ _ _ _ _ (Kd.C_below (Kd.R_reads' HB1.out).2.2 (by repeat (first | exact Below.refl _ _ | apply below_alloc | apply pw_below_drewN))) (Kd.R_reads' HB1.out).2.1 CL.out).mono ?_; rintro e w2 ⟨v2, rfl, hb2, hbel2⟩; obtain ⟨A2, c2, rfl⟩ := Kd.S_slice hb2; have HS2 := Aside0.mk hb2; have HBel2 := Aside0.mk hbel2; clear hb2 hbel2))
    have hn1c : w1.cell? ⟨w.heap.size, 0, none⟩ = some (.int .i64 (n : Int)) := pw_cell_below HBel1.out (by simp)
    have hn2c : w2.cell? ⟨w.heap.size, 0, none⟩ = some (.int .i64 (n : Int)) := pw_cell_below HBel2.out (pw_cell_below (below_alloc (Below.refl _ _) _) hn1c)
    have HBo : Aside0 (Below w.heap.size w w2) := ⟨below_then (below_alloc (below_then (pw_below_drewN (below_alloc (Below.refl _ _) _) _) (by simp) HBel1.out) _) (by have := HBel1.out.size; simp at this ⊢; omega) HBel2.out⟩
    have hsz1 : w.heap.size < w1.heap.size := by have := HBel1.out.size; simp at this; omega
    have hsz2 : w1.heap.size < w2.heap.size := by have := HBel2.out.size; simp at this; omega
    have HF2 : Aside0 (Kd.F (Kd.slice 3 (Kd.int .i64)) w2 (fun k => w.heap.size ≤ k ∧ k < w2.heap.size) A2 (lwAll n).length (lwAll n)) := ⟨Kd.F_mono (Kd.R_F (Kd.S_R (Kd.S_bound HS2.out))) (fun k hk => ⟨by have := hk.2.1; simp at this; omega, hk.2.2.1⟩)⟩
    clear HB1 HBel1 HBel2 HS2 hn1c FB CL HW
    have hno := pw_cell_below (below_alloc (Below.refl w2.heap.size w2) (.cells #[.slice A2 (lwAll n).length c2] 40)) hn2c
    have hao : (w2.alloc (.cells #[.slice A2 (lwAll n).length c2] 40)).cell? ⟨w2.heap.size, 0, none⟩ = some (.slice A2 (lwAll n).length c2) := by simp
    have hfo := Kd.F_mono (Kd.F_below HF2.out (below_alloc (Below.refl w2.heap.size w2) (.cells #[.slice A2 (lwAll n).length c2] 40))) (ok' := fun k => w.heap.size ≤ k ∧ k < (w2.alloc (.cells #[.slice A2 (lwAll n).length c2] 40)).heap.size) (fun k hk => ⟨hk.1, by have := hk.2; simp; omega⟩)
    have hbo := below_then HBo.out (by omega) (below_alloc (Below.refl w2.heap.size w2) (.cells #[.slice A2 (lwAll n).length c2] 40))
    have hso : (w2.alloc (.cells #[.slice A2 (lwAll n).length c2] 40)).heap.size = w2.heap.size + 1 := by simp
    generalize w2.alloc (.cells #[.slice A2 (lwAll n).length c2] 40) = wo at hno hao hfo hbo hso ⊢
    generalize w2.heap.size = sa at hao hso hsz2 ⊢
    have HFO := Aside0.mk hfo
    have HBO := Aside0.mk hbo
    have HNO := Aside0.mk hno
    have HAO := Aside0.mk hao
    clear hfo hbo hn2c HBo HF2 hno hao
    go_loopg [8] 40 (fun gg s8 wr => ∃ kk d Kb : Nat, d ≤ gg ∧ kk + d = 41 ∧ s8 = .pointer (some ⟨Kb, 0, none⟩) ∧ wo.heap.size ≤ Kb ∧ Aside0 (wr.heap[Kb]? = some (.cells #[.int .i64 (kk : Int)] 3 (0, 0))) ∧ Aside0 (lwLoop n d kk = some r) ∧ Aside0 (Below wo.heap.size wo wr))
    case atStart => exact ⟨1, 40, sa + 1, Nat.le_refl _, rfl, rfl, by omega, ⟨by rw [← hso]; exact blk_new _ _⟩, HRR, ⟨below_alloc (Below.refl _ _) _⟩⟩
    case round =>
      obtain ⟨kk, d, Kb, hdg, hkd, rfl, hKb, HK, HL, HB⟩ := hrel
      cases d with
      | zero => exact absurd HL.out (by simp [lwLoop])
      | succ d =>
        have hl := HL.out
        rw [lwLoop] at hl
        have hkc := (blk_cell HK.out 0).trans rfl
        cases hfd : lwFind n kk (lwAll n) [] with
        | some r' =>
          rw [hfd] at hl
          obtain rfl := Option.some.inj hl
          have HFD := Aside0.mk hfd
          clear hfd hl HL
          go_wp2_with (first | ((with_reducible refine gate_dst (N := 28) rfl ?_); have hF9 := hF1; clear hF1; have hFc := (blk_cell hF9 0).trans rfl; have hFf := blk_frozen hF9 0; generalize (w3.alloc (.cells #[.slice A3 0 c3] 40)).alloc (.cells #[.nilFunc] 99) = W4 at hL1 hF9 hFc hFf HB4 ⊢) | ((with_reducible refine gate_dst (N := 27) rfl ?_); refine Kd.N_lit (Kd.slice 3 (Kd.int .i64)) _ 22 ?hg (N' := 27) ?hd (xs := ([] : List (List Int))) (inner := []) (ok := fun q => wr.heap.size ≤ q) (okp := fun _ => False) ?hr ?hp (fun _ hk => hk.elim) (Nat.le_refl _) (Below.refl _ _) (Nat.le_refl _) (by simp) ?_; (case hd => rfl); (case hg => rfl); (case hr => first | (go_simp; done) | (go_simp; rfl)); (case hp => exact (Reps.none _ _)); intro v3 w3 ho hb hg_ hnew_; clear hg_ hnew_; obtain ⟨A3, c3, rfl⟩ := Kd.N_slice ho; have HO := Aside0.mk ho; have HB3 := Aside0.mk hb; clear ho hb; have hL1 : ((w3.alloc (.cells #[.slice A3 0 c3] 40)).alloc (.cells #[.nilFunc] 99)).heap[w3.heap.size]? = some (.cells #[.slice A3 0 c3] 40 (0, 0)) := blk_alloc (blk_new w3 _) _; have hF1 : ((w3.alloc (.cells #[.slice A3 0 c3] 40)).alloc (.cells #[.nilFunc] 99)).heap[w3.heap.size + 1]? = some (.cells #[.nilFunc] 99 (0, 0)) := (by have h_ := blk_new (w3.alloc (.cells #[.slice A3 0 c3] 40)) (.cells #[.nilFunc] 99); simpa using h_); have HB4 := Aside0.mk (below_alloc (below_alloc (Below.refl w3.heap.size w3) (.cells #[.slice A3 0 c3] 40)) (.cells #[.nilFunc] 99))))
          have hszr := HB.out.size
          have hszk := blk_lt HK.out
          have hsz3 := HB3.out.size
          have hsz4 := blk_lt hF9
          have hb0 : Below wr.heap.size wr W4 := below_then HB3.out hsz3 HB4.out
          have hbw := hb0.setCell (p := ⟨w3.heap.size + 1, 0, none⟩) (by show wr.heap.size ≤ w3.heap.size + 1; omega) (.func (.func 110) #[] #[.pointer (some ⟨w3.heap.size, 0, none⟩), .pointer (some ⟨Kb, 0, none⟩), .pointer (some ⟨w.heap.size, 0, none⟩), .pointer (some ⟨sa, 0, none⟩), .pointer (some ⟨w3.heap.size + 1, 0, none⟩)])
          have hfx : lwFixed n kk w.heap.size wr.heap.size Kb w.heap.size sa A2 c2 (lwAll n) wr := ⟨Nat.le_refl _, hkc, (HB.out.cell (p := ⟨w.heap.size, 0, none⟩) (by show w.heap.size < wo.heap.size; omega)).trans HNO.out, (HB.out.cell (p := ⟨sa, 0, none⟩) (by show sa < wo.heap.size; omega)).trans HAO.out, Kd.F_mono (Kd.F_step HFO.out (fun k hk _ => HB.out.block k hk.2)) (fun k hk => ⟨hk.1, by have := hk.2; omega⟩)⟩
          have hfx2 := lwFixed_below hszk (by omega) (by omega) hfx hbw
          have hO2 := Kd.N_mono (Kd.N_far (Kd.N_below (Kd.N_bound HO.out) HB4.out) (p := ⟨w3.heap.size + 1, 0, none⟩) (fun q h => by have := h.2; show q ≠ w3.heap.size + 1; omega) (.func (.func 110) #[] #[.pointer (some ⟨w3.heap.size, 0, none⟩), .pointer (some ⟨Kb, 0, none⟩), .pointer (some ⟨w.heap.size, 0, none⟩), .pointer (some ⟨sa, 0, none⟩), .pointer (some ⟨w3.heap.size + 1, 0, none⟩)])) (ok' := fun q => w.heap.size ≤ q ∧ q ≠ w3.heap.size ∧ q ≠ w3.heap.size + 1) (fun q h => by have h1 := h.1; have h2 := h.2; exact ⟨by omega, by omega, by omega⟩)
          have hcall := impl_LeastWatch_1.walk n kk w.heap.size wr.heap.size w3.heap.size (w3.heap.size + 1) Kb w.heap.size sa A2 c2 (lwAll n) (by omega) (by omega) (lwAll_two n) (lwAll_len n hn6) (by omega) (by omega) (by omega) (by omega) hszk (by omega) (by omega) ((lwAll n).length + 1) 0 (by omega) (Nat.zero_le _) _ _ [] (Nat.zero_le _) (fun x hx => by cases hx) hfx2 (blk_far hL1 (p := ⟨w3.heap.size + 1, 0, none⟩) (by show w3.heap.size ≠ w3.heap.size + 1; omega) _) (blk_put hF9 0 _ rfl) hO2
          simp only [show ((0 : Nat) : Int) = 0 from rfl, List.drop_zero] at hcall
          rw [HFD.out] at hcall
          have HCA := Aside0.mk hcall
          clear hcall hfx hfx2 hO2 hbw hb0
          refine HCA.out.mono ?_
          rintro e w5 ⟨rfl, hb5, _, v5, hl5, hn5⟩
          have HB5 := Aside0.mk (((below_then HB3.out hsz3 HB4.out).setCell (p := ⟨w3.heap.size + 1, 0, none⟩) (by show wr.heap.size ≤ w3.heap.size + 1; omega) _).trans hb5)
          obtain ⟨A5, c5, rfl⟩ := Kd.N_slice hn5
          have hl5c := (blk_cell hl5 0).trans rfl
          have HN5 := Aside0.mk hn5
          clear hn5 hb5
          go_wp2
          go_ret2
          exact ⟨_, rfl, Kd.N_lower (Kd.N_mono HN5.out (fun k h => h.1)) (by omega), below_then HBO.out (by omega) ((HB.out.trans (HB5.out.mono hszr)))⟩
        | none =>
          rw [hfd] at hl
          have HFD := Aside0.mk hfd
          have HL2 := Aside0.mk hl
          clear hfd hl HL
          go_wp2_with (first | ((with_reducible refine gate_dst (N := 28) rfl ?_); have hF9 := hF1; clear hF1; have hFc := (blk_cell hF9 0).trans rfl; have hFf := blk_frozen hF9 0; generalize (w3.alloc (.cells #[.slice A3 0 c3] 40)).alloc (.cells #[.nilFunc] 99) = W4 at hL1 hF9 hFc hFf HB4 ⊢) | ((with_reducible refine gate_dst (N := 27) rfl ?_); refine Kd.N_lit (Kd.slice 3 (Kd.int .i64)) _ 22 ?hg (N' := 27) ?hd (xs := ([] : List (List Int))) (inner := []) (ok := fun q => wr.heap.size ≤ q) (okp := fun _ => False) ?hr ?hp (fun _ hk => hk.elim) (Nat.le_refl _) (Below.refl _ _) (Nat.le_refl _) (by simp) ?_; (case hd => rfl); (case hg => rfl); (case hr => first | (go_simp; done) | (go_simp; rfl)); (case hp => exact (Reps.none _ _)); intro v3 w3 ho hb hg_ hnew_; clear hg_ hnew_; obtain ⟨A3, c3, rfl⟩ := Kd.N_slice ho; have HO := Aside0.mk ho; have HB3 := Aside0.mk hb; clear ho hb; have hL1 : ((w3.alloc (.cells #[.slice A3 0 c3] 40)).alloc (.cells #[.nilFunc] 99)).heap[w3.heap.size]? = some (.cells #[.slice A3 0 c3] 40 (0, 0)) := blk_alloc (blk_new w3 _) _; have hF1 : ((w3.alloc (.cells #[.slice A3 0 c3] 40)).alloc (.cells #[.nilFunc] 99)).heap[w3.heap.size + 1]? = some (.cells #[.nilFunc] 99 (0, 0)) := (by have h_ := blk_new (w3.alloc (.cells #[.slice A3 0 c3] 40)) (.cells #[.nilFunc] 99); simpa using h_); have HB4 := Aside0.mk (below_alloc (below_alloc (Below.refl w3.heap.size w3) (.cells #[.slice A3 0 c3] 40)) (.cells #[.nilFunc] 99))))
          have hszr := HB.out.size
          have hszk := blk_lt HK.out
          have hsz3 := HB3.out.size
          have hsz4 := blk_lt hF9
          have hb0 : Below wr.heap.size wr W4 := below_then HB3.out hsz3 HB4.out
          have hbw := hb0.setCell (p := ⟨w3.heap.size + 1, 0, none⟩) (by show wr.heap.size ≤ w3.heap.size + 1; omega) (.func (.func 110) #[] #[.pointer (some ⟨w3.heap.size, 0, none⟩), .pointer (some ⟨Kb, 0, none⟩), .pointer (some ⟨w.heap.size, 0, none⟩), .pointer (some ⟨sa, 0, none⟩), .pointer (some ⟨w3.heap.size + 1, 0, none⟩)])
          have hfx : lwFixed n kk w.heap.size wr.heap.size Kb w.heap.size sa A2 c2 (lwAll n) wr := ⟨Nat.le_refl _, hkc, (HB.out.cell (p := ⟨w.heap.size, 0, none⟩) (by show w.heap.size < wo.heap.size; omega)).trans HNO.out, (HB.out.cell (p := ⟨sa, 0, none⟩) (by show sa < wo.heap.size; omega)).trans HAO.out, Kd.F_mono (Kd.F_step HFO.out (fun k hk _ => HB.out.block k hk.2)) (fun k hk => ⟨hk.1, by have := hk.2; omega⟩)⟩
          have hfx2 := lwFixed_below hszk (by omega) (by omega) hfx hbw
          have hO2 := Kd.N_mono (Kd.N_far (Kd.N_below (Kd.N_bound HO.out) HB4.out) (p := ⟨w3.heap.size + 1, 0, none⟩) (fun q h => by have := h.2; show q ≠ w3.heap.size + 1; omega) (.func (.func 110) #[] #[.pointer (some ⟨w3.heap.size, 0, none⟩), .pointer (some ⟨Kb, 0, none⟩), .pointer (some ⟨w.heap.size, 0, none⟩), .pointer (some ⟨sa, 0, none⟩), .pointer (some ⟨w3.heap.size + 1, 0, none⟩)])) (ok' := fun q => w.heap.size ≤ q ∧ q ≠ w3.heap.size ∧ q ≠ w3.heap.size + 1) (fun q h => by have h1 := h.1; have h2 := h.2; exact ⟨by omega, by omega, by omega⟩)
          have hcall := impl_LeastWatch_1.walk n kk w.heap.size wr.heap.size w3.heap.size (w3.heap.size + 1) Kb w.heap.size sa A2 c2 (lwAll n) (by omega) (by omega) (lwAll_two n) (lwAll_len n hn6) (by omega) (by omega) (by omega) (by omega) hszk (by omega) (by omega) ((lwAll n).length + 1) 0 (by omega) (Nat.zero_le _) _ _ [] (Nat.zero_le _) (fun x hx => by cases hx) hfx2 (blk_far hL1 (p := ⟨w3.heap.size + 1, 0, none⟩) (by show w3.heap.size ≠ w3.heap.size + 1; omega) _) (blk_put hF9 0 _ rfl) hO2
          simp only [show ((0 : Nat) : Int) = 0 from rfl, List.drop_zero] at hcall
          rw [HFD.out] at hcall
          have HCA := Aside0.mk hcall
          clear hcall hfx hfx2 hO2 hbw hb0
          refine HCA.out.mono ?_
          rintro e w5 ⟨rfl, hb5, _, v5, hl5, hn5⟩
          have HB5 := Aside0.mk (((below_then HB3.out hsz3 HB4.out).setCell (p := ⟨w3.heap.size + 1, 0, none⟩) (by show wr.heap.size ≤ w3.heap.size + 1; omega) _).trans hb5)
          have hk5 : w5.cell? ⟨Kb, 0, none⟩ = some (.int .i64 (kk : Int)) := (HB5.out.cell (p := ⟨Kb, 0, none⟩) hszk).trans hkc
          have HS := Aside0.mk hszr
          have HKD := Aside0.mk hkd
          have HDG := Aside0.mk hdg
          clear hn5 hb5 hl5 hszr hszk hsz3 hsz4 hL1 hF9 hFc hFf hkc hKb hdg hkd hn1 hn6 hsz1 hsz2 hso hu28
          go_wp2
          go_roundg d
          case measure => have := HDG.out; omega
          case rel =>
            refine ⟨kk + 1, d, w5.heap.size, Nat.le_refl _, by have := HKD.out; omega, rfl, Nat.le_trans HS.out HB5.out.size, ⟨?_⟩, HL2, ⟨(below_then HB.out HS.out ((HB5.out.mono (Nat.le_refl _)))).trans ((below_alloc (Below.refl w5.heap.size w5) _).mono (Nat.le_trans HS.out HB5.out.size))⟩⟩
            rw [show wrap64 ((kk : Int) + 1) = ((kk + 1 : Nat) : Int) by (have := HKD.out; unfold wrap64; omega)]
            exact blk_new _ _
  · rw [if_neg hc] at h
    have hwi : impl_within.f a0 1 6 = some false := by
      rw [within_f]
      by_cases h1 : 1 ≤ a0
      · have : ¬ a0 ≤ 6 := fun h6 => hc ⟨h1, h6⟩
        simp [this]
      · simp [h1]
    have HW := Aside0.mk hwi
    simp only [Option.some.injEq, Prod.mk.injEq] at h
    obtain ⟨rfl, rfl⟩ := h
    clear hwi hc
    go_enter Try.func27, Try.ntmps27
    go_wp2_with (go_at_call 108; refine (impl_within.calls _ _ _ false _ HW.out).mono ?_; rintro e w' ⟨rfl, ⟨q, rfl⟩⟩)
    go_ret2
    exact ⟨_, rfl, Kd.N_nil _ _ _ _ _, by repeat (first | exact Below.refl _ _ | apply below_alloc | apply pw_below_drewN)⟩

/-! ### spec_l1In: function 112 -/
def spec_l1In.f (a0 : Int) (a1 : Int) (a2 : Int) : Option (Bool) := if a0 ≥ a1 then (some (decide (a0 ≤ a2))) else (some false)
set_option maxHeartbeats 8000000 in
set_option maxRecDepth 100000 in
theorem spec_l1In.calls (a0 : Int) (a1 : Int) (a2 : Int) (r : Bool) (w : World) (h : spec_l1In.f a0 a1 a2 = some r) :
    Calls Try.prog 112 #[.int .i64 a0, .int .i64 a1, .int .i64 a2] w fun e w' => e = .returned (.bool r) ∧ Drawn0 w w' := by
  have H : (if a0 ≥ a1 then (some (decide (a0 ≤ a2))) else (some false)) = some r := h
  clear h
  by_cases c4 : a0 ≥ a1
  · rw [if_pos c4] at H
    have c4b0 : decide (a1 ≤ a0) = true := decide_eq_true c4
    clear c4
    obtain rfl := Option.some.inj H
    go_enter Try.func112, Try.ntmps112
    go_wp2
    go_ret
    exact ⟨by first | rfl | (simp; done) | (simp [*]; done), by repeat (first | exact Drawn0.refl _ | apply Drawn0.step)⟩
  · rw [if_neg c4] at H
    have c4b0 : decide (a1 ≤ a0) = false := decide_eq_false c4
    clear c4
    obtain rfl := Option.some.inj H
    go_enter Try.func112, Try.ntmps112
    go_wp2
    go_ret
    exact ⟨by first | rfl | (simp; done) | (simp [*]; done), by repeat (first | exact Drawn0.refl _ | apply Drawn0.step)⟩

/-! ### spec_l1Most: function 216 -/
def spec_l1Most.f (a0 : Int) (a1 : Int) : Option (Int) := if a0 > a1 then (some a0) else (some a1)
set_option maxHeartbeats 8000000 in
set_option maxRecDepth 100000 in
theorem spec_l1Most.calls (a0 : Int) (a1 : Int) (r : Int) (w : World) (h : spec_l1Most.f a0 a1 = some r) :
    Calls Try.prog 216 #[.int .i64 a0, .int .i64 a1] w fun e w' => e = .returned (.int .i64 r) ∧ Drawn0 w w' := by
  have H : (if a0 > a1 then (some a0) else (some a1)) = some r := h
  clear h
  by_cases c3 : a0 > a1
  · rw [if_pos c3] at H
    have c3b0 : decide (a1 < a0) = true := decide_eq_true c3
    clear c3
    obtain rfl := Option.some.inj H
    go_enter Try.func216, Try.ntmps216
    go_wp2
    go_ret
    exact ⟨by first | rfl | (simp; done) | (simp [*]; done), by repeat (first | exact Drawn0.refl _ | apply Drawn0.step)⟩
  · rw [if_neg c3] at H
    have c3b0 : decide (a1 < a0) = false := decide_eq_false c3
    clear c3
    obtain rfl := Option.some.inj H
    go_enter Try.func216, Try.ntmps216
    go_wp2
    go_ret
    exact ⟨by first | rfl | (simp; done) | (simp [*]; done), by repeat (first | exact Drawn0.refl _ | apply Drawn0.step)⟩

/-! ### spec_l1Abs: function 212 -/
def spec_l1Abs.f (a0 : Int) : Option (Int) := (spec_l1Most.f a0 (wrap64 (-a0))).bind fun t148 => (some t148)
set_option maxHeartbeats 8000000 in
set_option maxRecDepth 100000 in
theorem spec_l1Abs.calls (a0 : Int) (r : Int) (w : World) (h : spec_l1Abs.f a0 = some r) :
    Calls Try.prog 212 #[.int .i64 a0] w fun e w' => e = .returned (.int .i64 r) ∧ Drawn0 w w' := by
  have H : ((spec_l1Most.f a0 (wrap64 (-a0))).bind fun t148 => (some t148)) = some r := h
  clear h
  replace H := Option.bind_eq_some_iff.mp H
  obtain ⟨t148, A20, H⟩ := H
  try dsimp only at H
  have A2 := Aside0.mk A20
  clear A20
  obtain rfl := Option.some.inj H
  go_enter Try.func212, Try.ntmps212
  go_wp2_with (first | ((with_reducible refine gate_callee (f := 216) rfl ?_); refine goesL_ (some 6) rfl rfl Try.func216 (by kernel_rfl) rfl #[.int .i64 a0, .int .i64 (wrap64 (-a0))] rfl (by (try simp only [List.map_toArray, List.map_cons, List.map_nil]); first | done | rfl | (simp only [List.length_drop, List.length_take]; rfl)) ?_; (with_reducible refine (spec_l1Most.calls a0 (wrap64 (-a0)) t148 _ A2.out).mono ?_); rintro e w' ⟨rfl, ⟨nd, rfl⟩⟩; refine ⟨_, rfl, ?_⟩))
  go_ret
  exact ⟨by first | rfl | (simp; done) | (simp [*]; done), by repeat (first | exact Drawn0.refl _ | apply Drawn0.step)⟩

/-! ### spec_quWatched: function 122 -/
mutual
def spec_quWatched.l0 : Nat → Int → List (List Int) → Int → Option (Bool)
  | 0, _, _, _ => none
  | k + 1, x0, x1, x5 => if x5 < x0 then (spec_quWatched.l1 k x0 x1 x5 0) else (some true)
def spec_quWatched.l1 : Nat → Int → List (List Int) → Int → Int → Option (Bool)
  | 0, _, _, _, _ => none
  | k + 1, x0, x1, x5, x6 => if x6 < x0 then (spec_quWatched.l2 k x0 x1 x5 x6 false x1 (x1.length : Int) 0) else (spec_quWatched.l0 k x0 x1 (wrap64 (x5 + 1)))
def spec_quWatched.l2 : Nat → Int → List (List Int) → Int → Int → Bool → List (List Int) → Int → Int → Option (Bool)
  | 0, _, _, _, _, _, _, _, _ => none
  | k + 1, x0, x1, x5, x6, x7, x22, x23, x24 => if x24 < x23 then (if 0 ≤ x24 then (if x24 < (x22.length : Int) then (if 0 < ((rd_L1 x22 x24).length : Int) then ((spec_l1Abs.f (wrap64 ((rd (rd_L1 x22 x24) 0) - x5))).bind fun t151 => (if 1 < ((rd_L1 x22 x24).length : Int) then ((spec_l1Abs.f (wrap64 ((rd (rd_L1 x22 x24) 1) - x6))).bind fun t153 => (if x7 = true then (spec_quWatched.l2 k x0 x1 x5 x6 true x22 x23 (wrap64 (x24 + 1))) else (if t151 = 0 then (spec_quWatched.l2 k x0 x1 x5 x6 true x22 x23 (wrap64 (x24 + 1))) else (if t153 = 0 then (spec_quWatched.l2 k x0 x1 x5 x6 true x22 x23 (wrap64 (x24 + 1))) else (spec_quWatched.l2 k x0 x1 x5 x6 (t151 == t153) x22 x23 (wrap64 (x24 + 1))))))) else (none))) else (none)) else (none)) else (none)) else (if x7 = true then (spec_quWatched.l1 k x0 x1 x5 (wrap64 (x6 + 1))) else (some false))
end
def spec_quWatched.f (k : Nat) (a0 : Int) (l1 : List (List Int)) : Option (Bool) := spec_quWatched.l0 k a0 l1 0
theorem spec_quWatched.mono_l : ∀ k, (∀ y0 y1 y2, LeO (spec_quWatched.l0 k y0 y1 y2) (spec_quWatched.l0 (k + 1) y0 y1 y2)) ∧ (∀ y0 y1 y2 y3, LeO (spec_quWatched.l1 k y0 y1 y2 y3) (spec_quWatched.l1 (k + 1) y0 y1 y2 y3)) ∧ (∀ y0 y1 y2 y3 y4 y5 y6 y7, LeO (spec_quWatched.l2 k y0 y1 y2 y3 y4 y5 y6 y7) (spec_quWatched.l2 (k + 1) y0 y1 y2 y3 y4 y5 y6 y7))
  | 0 => ⟨fun _ _ _ r h => by simp [spec_quWatched.l0] at h, fun _ _ _ _ r h => by simp [spec_quWatched.l1] at h, fun _ _ _ _ _ _ _ _ r h => by simp [spec_quWatched.l2] at h⟩
  | k + 1 => by
    obtain ⟨ih0, ih1, ih2⟩ := spec_quWatched.mono_l k
    refine ⟨?_, ?_, ?_⟩
    · intro y0 y1 y2
      unfold spec_quWatched.l0
      repeat' first
      | (with_reducible exact ih0 _ _ _)
      | (with_reducible exact ih1 _ _ _ _)
      | (with_reducible exact ih2 _ _ _ _ _ _ _ _)
      | (with_reducible exact LeO.refl _)
      | (with_reducible exact LeO.none _)
      | (with_reducible refine LeO.ite ?_ ?_)
      | (with_reducible refine LeO.bind ?_ (fun _ => ?_))
      | exact ih0 _ _ _
      | exact ih1 _ _ _ _
      | exact ih2 _ _ _ _ _ _ _ _
      | exact LeO.none _
      | refine LeO.ite ?_ ?_
      | refine LeO.bind ?_ (fun _ => ?_)
    · intro y0 y1 y2 y3
      unfold spec_quWatched.l1
      repeat' first
      | (with_reducible exact ih0 _ _ _)
      | (with_reducible exact ih1 _ _ _ _)
      | (with_reducible exact ih2 _ _ _ _ _ _ _ _)
      | (with_reducible exact LeO.refl _)
      | (with_reducible exact LeO.none _)
      | (with_reducible refine LeO.ite ?_ ?_)
      | (with_reducible refine LeO.bind ?_ (fun _ => ?_))
      | exact ih0 _ _ _
      | exact ih1 _ _ _ _
      | exact ih2 _ _ _ _ _ _ _ _
      | exact LeO.none _
      | refine LeO.ite ?_ ?_
      | refine LeO.bind ?_ (fun _ => ?_)
    · intro y0 y1 y2 y3 y4 y5 y6 y7
      unfold spec_quWatched.l2
      repeat' first
      | (with_reducible exact ih0 _ _ _)
      | (with_reducible exact ih1 _ _ _ _)
      | (with_reducible exact ih2 _ _ _ _ _ _ _ _)
      | (with_reducible exact LeO.refl _)
      | (with_reducible exact LeO.none _)
      | (with_reducible refine LeO.ite ?_ ?_)
      | (with_reducible refine LeO.bind ?_ (fun _ => ?_))
      | exact ih0 _ _ _
      | exact ih1 _ _ _ _
      | exact ih2 _ _ _ _ _ _ _ _
      | exact LeO.none _
      | refine LeO.ite ?_ ?_
      | refine LeO.bind ?_ (fun _ => ?_)
theorem spec_quWatched.mono : ∀ a0 a1 k, LeO (spec_quWatched.f k a0 a1) (spec_quWatched.f (k + 1) a0 a1) := by
  intro a0 a1 k
  obtain ⟨ih0, ih1, ih2⟩ := spec_quWatched.mono_l k
  unfold spec_quWatched.f
  repeat' first
      | (with_reducible exact ih0 _ _ _)
      | (with_reducible exact ih1 _ _ _ _)
      | (with_reducible exact ih2 _ _ _ _ _ _ _ _)
      | (with_reducible exact LeO.refl _)
      | (with_reducible exact LeO.none _)
      | (with_reducible refine LeO.ite ?_ ?_)
      | (with_reducible refine LeO.bind ?_ (fun _ => ?_))
      | exact ih0 _ _ _
      | exact ih1 _ _ _ _
      | exact ih2 _ _ _ _ _ _ _ _
      | exact LeO.none _
      | refine LeO.ite ?_ ?_
      | refine LeO.bind ?_ (fun _ => ?_)
set_option maxHeartbeats 8000000 in
set_option maxRecDepth 100000 in
theorem spec_quWatched.calls (k : Nat) (a0 : Int) (A1 : Option Addr) (c1 : Nat) (l1 : List (List Int)) (r : Bool) (w : World) (hr1 : Kd.C (Kd.slice 3 (Kd.int .i64)) w A1 l1.length l1) (hc1 : l1.length ≤ c1) (h : spec_quWatched.f k a0 l1 = some r) :
    Calls Try.prog 122 #[.int .i64 a0, .slice A1 l1.length c1] w fun e w' => e = .returned (.bool r) ∧ Drawn0 w w' := by
  have HR1 := Aside0.mk hr1
  have HC1 := Aside0.mk hc1
  clear hr1 hc1
  have H : (spec_quWatched.l0 k a0 l1 0) = some r := h
  clear h
  have H' := Aside0.mk H
  clear H
  go_enter Try.func122, Try.ntmps122
  go_wp2
  repeat (go_quiet (fail); try go_wp2)
  go_loopg [5] k (fun kq v5 w' => ∃ (x5_1 : Int), v5 = .int .i64 x5_1 ∧ Aside0 (spec_quWatched.l0 kq a0 l1 x5_1 = some r) ∧ Aside0 (kq ≤ k) ∧ Drawn0 w w')
  case atStart => exact ⟨(0), (by first | rfl | (simp; done) | (simp [*]; done)), H', ⟨Nat.le_refl _⟩, by repeat (first | exact Drawn0.refl _ | apply Drawn0.step)⟩
  case round =>
    clear H'
    try clear c1
    try clear p2
    obtain ⟨x5_1, rfl, HA, HK1, ⟨m1, rfl⟩⟩ := hrel
    cases gk with
    | zero => exact absurd HA.out (by simp [spec_quWatched.l0])
    | succ k1 =>
      have H := HA.out
      clear HA
      simp only [spec_quWatched.l0] at H
      by_cases c3 : x5_1 < a0
      · rw [if_pos c3] at H
        have c3b0 : decide (x5_1 < a0) = true := decide_eq_true c3
        clear c3
        have H' := Aside0.mk H
        clear H
        go_wp2
        repeat (go_quiet (fail); try go_wp2)
        go_loopg [6] k1 (fun kq v6 w' => ∃ (x6_2 : Int), v6 = .int .i64 x6_2 ∧ Aside0 (spec_quWatched.l1 kq a0 l1 x5_1 x6_2 = some r) ∧ Aside0 (kq ≤ k1) ∧ Drawn0 w w')
        case atStart => exact ⟨(0), (by first | rfl | (simp; done) | (simp [*]; done)), H', ⟨Nat.le_refl _⟩, by repeat (first | exact Drawn0.refl _ | apply Drawn0.step)⟩
        case round =>
          clear H'
          try clear c1
          try clear p2
          try clear c3
          try clear c3b0
          try clear p2
          obtain ⟨x6_2, rfl, HA, HK2, ⟨m2, rfl⟩⟩ := hrel
          cases gk with
          | zero => exact absurd HA.out (by simp [spec_quWatched.l1])
          | succ k2 =>
            have H := HA.out
            clear HA
            simp only [spec_quWatched.l1] at H
            by_cases c4 : x6_2 < a0
            · rw [if_pos c4] at H
              have c4b0 : decide (x6_2 < a0) = true := decide_eq_true c4
              clear c4
              have H' := Aside0.mk H
              clear H
              go_wp2
              repeat (go_quiet (fail); try go_wp2)
              go_loopg [7, 24] k2 (fun kq v7 v24 w' => ∃ (x7_3 : Bool) (x24_3 : Int), v7 = .bool x7_3 ∧ v24 = .int .i64 x24_3 ∧ Aside0 (spec_quWatched.l2 kq a0 l1 x5_1 x6_2 x7_3 l1 (l1.length : Int) x24_3 = some r) ∧ Aside0 (kq ≤ k2) ∧ Drawn0 w w')
              case atStart => exact ⟨(false), (0), (by first | rfl | (simp; done) | (simp [*]; done)), (by first | rfl | (simp; done) | (simp [*]; done)), H', ⟨Nat.le_refl _⟩, by repeat (first | exact Drawn0.refl _ | apply Drawn0.step)⟩
              case round =>
                clear H'
                try clear c1
                try clear p2
                try clear c3
                try clear c3b0
                try clear c4
                try clear c4b0
                try clear p2
                obtain ⟨x7_3, x24_3, rfl, rfl, HA, HK3, ⟨m3, rfl⟩⟩ := hrel
                cases gk with
                | zero => exact absurd HA.out (by simp [spec_quWatched.l2])
                | succ k3 =>
                  have H := HA.out
                  clear HA
                  simp only [spec_quWatched.l2] at H
                  by_cases c5 : x24_3 < (l1.length : Int)
                  · rw [if_pos c5] at H
                    have c5b0 : decide (x24_3 < (l1.length : Int)) = true := decide_eq_true c5
                    clear c5
                    by_cases c6 : 0 ≤ x24_3
                    · rw [if_pos c6] at H
                      have c6b0 : decide (0 ≤ x24_3) = true := decide_eq_true c6
                      clear c6
                      by_cases c7 : x24_3 < (l1.length : Int)
                      · rw [if_pos c7] at H
                        have c7b0 : decide (x24_3 < (l1.length : Int)) = true := decide_eq_true c7
                        clear c7
                        by_cases c8 : 0 < ((rd_L1 l1 x24_3).length : Int)
                        · rw [if_pos c8] at H
                          have c8b0 : decide (0 < ((rd_L1 l1 x24_3).length : Int)) = true := decide_eq_true c8
                          have c8b1 : decide (0 < (rd_L1 l1 x24_3).length) = true := decide_eq_true (by omega)
                          clear c8
                          replace H := Option.bind_eq_some_iff.mp H
                          obtain ⟨t151, A90, H⟩ := H
                          try dsimp only at H
                          have A9 := Aside0.mk A90
                          clear A90
                          by_cases c10 : 1 < ((rd_L1 l1 x24_3).length : Int)
                          · rw [if_pos c10] at H
                            have c10b0 : decide (1 < ((rd_L1 l1 x24_3).length : Int)) = true := decide_eq_true c10
                            have c10b1 : decide (1 < (rd_L1 l1 x24_3).length) = true := decide_eq_true (by omega)
                            clear c10
                            replace H := Option.bind_eq_some_iff.mp H
                            obtain ⟨t153, A110, H⟩ := H
                            try dsimp only at H
                            have A11 := Aside0.mk A110
                            clear A110
                            by_cases c12 : x7_3 = true
                            · subst c12
                              rw [if_pos rfl] at H
                              have H' := Aside0.mk H
                              clear H
                              have p149 : 0 ≤ (x24_3 : Int) := of_decide_eq_true (by first | (with_reducible assumption) | assumption)
                              have q149 : x24_3 < (l1.length : Int) := of_decide_eq_true (by first | (with_reducible assumption) | assumption)
                              obtain ⟨ad149, A149_0, c149_0, e149, hx149_0, hl149_0, hi149_0⟩ := at_L1 HR1.out x24_3 p149 q149
                              cases e149
                              have HR149_0 := Aside0.mk hi149_0
                              have HC149_0 := Aside0.mk hl149_0
                              clear hi149_0 hl149_0
                              replace p149 := eq_true p149
                              replace q149 := eq_true q149
                              have p150 : 0 ≤ (0 : Int) := (by omega)
                              have q150 : 0 < ((rd_L1 l1 x24_3).length : Int) := of_decide_eq_true (by first | (with_reducible assumption) | assumption)
                              obtain ⟨ad150, e150, hx150_0⟩ := Kd.at_int HR149_0.out 0 p150 q150
                              cases e150
                              have qi150 : (0 < (rd_L1 l1 x24_3).length) = True := eq_true (by omega)
                              (try rw [show ((0 : Int)).toNat = 0 from rfl] at hx150_0)
                              (try rw [Addr.add_zero'] at hx150_0)
                              replace p150 := eq_true p150
                              replace q150 := eq_true q150
                              have p152 : 0 ≤ (1 : Int) := (by omega)
                              have q152 : 1 < ((rd_L1 l1 x24_3).length : Int) := of_decide_eq_true (by first | (with_reducible assumption) | assumption)
                              obtain ⟨ad152, e152, hx152_0⟩ := Kd.at_int HR149_0.out 1 p152 q152
                              obtain rfl : ad150 = ad152 := (by injection e152)
                              (try simp only [show (1 : Int).toNat = 1 from rfl, Nat.reduceMul, Nat.reduceEqDiff, Go.Addr.add, ↓reduceIte] at hx152_0)
                              have qi152 : (1 < (rd_L1 l1 x24_3).length) = True := eq_true (by omega)
                              (try rw [show ((1 : Int)).toNat = 1 from rfl] at hx152_0)
                              replace p152 := eq_true p152
                              replace q152 := eq_true q152
                              go_wp2_with (first | (go_at_call 212; (with_reducible refine (spec_l1Abs.calls (wrap64 ((rd (rd_L1 l1 x24_3) 0) - x5_1)) t151 _ A9.out).mono ?_); rintro e w' ⟨rfl, ⟨nd, rfl⟩⟩; (try first | exact ⟨rfl, _, World.drewN_drewN _ _ _⟩ | exact ⟨rfl, _, Eq.trans (World.drewN_drewN _ _ _) (congrArg (World.drewN _) (Nat.add_assoc _ _ _))⟩)) | (go_at_call 212; (with_reducible refine (spec_l1Abs.calls (wrap64 ((rd (rd_L1 l1 x24_3) 1) - x6_2)) t153 _ A11.out).mono ?_); rintro e w' ⟨rfl, ⟨nd, rfl⟩⟩; (try first | exact ⟨rfl, _, World.drewN_drewN _ _ _⟩ | exact ⟨rfl, _, Eq.trans (World.drewN_drewN _ _ _) (congrArg (World.drewN _) (Nat.add_assoc _ _ _))⟩)))
                              repeat (go_quiet (first | (go_at_call 212; (with_reducible refine (spec_l1Abs.calls (wrap64 ((rd (rd_L1 l1 x24_3) 0) - x5_1)) t151 _ A9.out).mono ?_); rintro e w' ⟨rfl, ⟨nd, rfl⟩⟩; (try first | exact ⟨rfl, _, World.drewN_drewN _ _ _⟩ | exact ⟨rfl, _, Eq.trans (World.drewN_drewN _ _ _) (congrArg (World.drewN _) (Nat.add_assoc _ _ _))⟩)) | (go_at_call 212; (with_reducible refine (spec_l1Abs.calls (wrap64 ((rd (rd_L1 l1 x24_3) 1) - x6_2)) t153 _ A11.out).mono ?_); rintro e w' ⟨rfl, ⟨nd, rfl⟩⟩; (try first | exact ⟨rfl, _, World.drewN_drewN _ _ _⟩ | exact ⟨rfl, _, Eq.trans (World.drewN_drewN _ _ _) (congrArg (World.drewN _) (Nat.add_assoc _ _ _))⟩))); try go_wp2_with (first | (go_at_call 212; (with_reducible refine (spec_l1Abs.calls (wrap64 ((rd (rd_L1 l1 x24_3) 0) - x5_1)) t151 _ A9.out).mono ?_); rintro e w' ⟨rfl, ⟨nd, rfl⟩⟩; (try first | exact ⟨rfl, _, World.drewN_drewN _ _ _⟩ | exact ⟨rfl, _, Eq.trans (World.drewN_drewN _ _ _) (congrArg (World.drewN _) (Nat.add_assoc _ _ _))⟩)) | (go_at_call 212; (with_reducible refine (spec_l1Abs.calls (wrap64 ((rd (rd_L1 l1 x24_3) 1) - x6_2)) t153 _ A11.out).mono ?_); rintro e w' ⟨rfl, ⟨nd, rfl⟩⟩; (try first | exact ⟨rfl, _, World.drewN_drewN _ _ _⟩ | exact ⟨rfl, _, Eq.trans (World.drewN_drewN _ _ _) (congrArg (World.drewN _) (Nat.add_assoc _ _ _))⟩))))
                              go_roundg k3
                              case measure => have := HK1.out; have := HK2.out; have := HK3.out; omega
                              case rel => exact ⟨(true), (wrap64 (x24_3 + 1)), (by first | rfl | (simp; done) | (simp [*]; done)), (by first | rfl | (simp; done) | (simp [*]; done)), H', ⟨by have := HK1.out; have := HK2.out; have := HK3.out; omega⟩, by repeat (first | exact Drawn0.refl _ | apply Drawn0.step)⟩
                            · replace c12 := Bool.eq_false_iff.mpr c12
                              subst c12
                              rw [if_neg (show ¬ (false = true) by decide)] at H
                              by_cases c13 : t151 = 0
                              · rw [if_pos c13] at H
                                have c13b0 : (t151 == 0) = true := beq_iff_eq.mpr c13
                                have c13b1 : (t151 != 0) = false := bne_eq_false_iff_eq.mpr c13
                                clear c13
                                have H' := Aside0.mk H
                                clear H
                                have p149 : 0 ≤ (x24_3 : Int) := of_decide_eq_true (by first | (with_reducible assumption) | assumption)
                                have q149 : x24_3 < (l1.length : Int) := of_decide_eq_true (by first | (with_reducible assumption) | assumption)
                                obtain ⟨ad149, A149_0, c149_0, e149, hx149_0, hl149_0, hi149_0⟩ := at_L1 HR1.out x24_3 p149 q149
                                cases e149
                                have HR149_0 := Aside0.mk hi149_0
                                have HC149_0 := Aside0.mk hl149_0
                                clear hi149_0 hl149_0
                                replace p149 := eq_true p149
                                replace q149 := eq_true q149
                                have p150 : 0 ≤ (0 : Int) := (by omega)
                                have q150 : 0 < ((rd_L1 l1 x24_3).length : Int) := of_decide_eq_true (by first | (with_reducible assumption) | assumption)
                                obtain ⟨ad150, e150, hx150_0⟩ := Kd.at_int HR149_0.out 0 p150 q150
                                cases e150
                                have qi150 : (0 < (rd_L1 l1 x24_3).length) = True := eq_true (by omega)
                                (try rw [show ((0 : Int)).toNat = 0 from rfl] at hx150_0)
                                (try rw [Addr.add_zero'] at hx150_0)
                                replace p150 := eq_true p150
                                replace q150 := eq_true q150
                                have p152 : 0 ≤ (1 : Int) := (by omega)
                                have q152 : 1 < ((rd_L1 l1 x24_3).length : Int) := of_decide_eq_true (by first | (with_reducible assumption) | assumption)
                                obtain ⟨ad152, e152, hx152_0⟩ := Kd.at_int HR149_0.out 1 p152 q152
                                obtain rfl : ad150 = ad152 := (by injection e152)
                                (try simp only [show (1 : Int).toNat = 1 from rfl, Nat.reduceMul, Nat.reduceEqDiff, Go.Addr.add, ↓reduceIte] at hx152_0)
                                have qi152 : (1 < (rd_L1 l1 x24_3).length) = True := eq_true (by omega)
                                (try rw [show ((1 : Int)).toNat = 1 from rfl] at hx152_0)
                                replace p152 := eq_true p152
                                replace q152 := eq_true q152
                                go_wp2_with (first | (go_at_call 212; (with_reducible refine (spec_l1Abs.calls (wrap64 ((rd (rd_L1 l1 x24_3) 0) - x5_1)) t151 _ A9.out).mono ?_); rintro e w' ⟨rfl, ⟨nd, rfl⟩⟩; (try first | exact ⟨rfl, _, World.drewN_drewN _ _ _⟩ | exact ⟨rfl, _, Eq.trans (World.drewN_drewN _ _ _) (congrArg (World.drewN _) (Nat.add_assoc _ _ _))⟩)) | (go_at_call 212; (with_reducible refine (spec_l1Abs.calls (wrap64 ((rd (rd_L1 l1 x24_3) 1) - x6_2)) t153 _ A11.out).mono ?_); rintro e w' ⟨rfl, ⟨nd, rfl⟩⟩; (try first | exact ⟨rfl, _, World.drewN_drewN _ _ _⟩ | exact ⟨rfl, _, Eq.trans (World.drewN_drewN _ _ _) (congrArg (World.drewN _) (Nat.add_assoc _ _ _))⟩)))
                                repeat (go_quiet (first | (go_at_call 212; (with_reducible refine (spec_l1Abs.calls (wrap64 ((rd (rd_L1 l1 x24_3) 0) - x5_1)) t151 _ A9.out).mono ?_); rintro e w' ⟨rfl, ⟨nd, rfl⟩⟩; (try first | exact ⟨rfl, _, World.drewN_drewN _ _ _⟩ | exact ⟨rfl, _, Eq.trans (World.drewN_drewN _ _ _) (congrArg (World.drewN _) (Nat.add_assoc _ _ _))⟩)) | (go_at_call 212; (with_reducible refine (spec_l1Abs.calls (wrap64 ((rd (rd_L1 l1 x24_3) 1) - x6_2)) t153 _ A11.out).mono ?_); rintro e w' ⟨rfl, ⟨nd, rfl⟩⟩; (try first | exact ⟨rfl, _, World.drewN_drewN _ _ _⟩ | exact ⟨rfl, _, Eq.trans (World.drewN_drewN _ _ _) (congrArg (World.drewN _) (Nat.add_assoc _ _ _))⟩))); try go_wp2_with (first | (go_at_call 212; (with_reducible refine (spec_l1Abs.calls (wrap64 ((rd (rd_L1 l1 x24_3) 0) - x5_1)) t151 _ A9.out).mono ?_); rintro e w' ⟨rfl, ⟨nd, rfl⟩⟩; (try first | exact ⟨rfl, _, World.drewN_drewN _ _ _⟩ | exact ⟨rfl, _, Eq.trans (World.drewN_drewN _ _ _) (congrArg (World.drewN _) (Nat.add_assoc _ _ _))⟩)) | (go_at_call 212; (with_reducible refine (spec_l1Abs.calls (wrap64 ((rd (rd_L1 l1 x24_3) 1) - x6_2)) t153 _ A11.out).mono ?_); rintro e w' ⟨rfl, ⟨nd, rfl⟩⟩; (try first | exact ⟨rfl, _, World.drewN_drewN _ _ _⟩ | exact ⟨rfl, _, Eq.trans (World.drewN_drewN _ _ _) (congrArg (World.drewN _) (Nat.add_assoc _ _ _))⟩))))
                                go_roundg k3
                                case measure => have := HK1.out; have := HK2.out; have := HK3.out; omega
                                case rel => exact ⟨(true), (wrap64 (x24_3 + 1)), (by first | rfl | (simp; done) | (simp [*]; done)), (by first | rfl | (simp; done) | (simp [*]; done)), H', ⟨by have := HK1.out; have := HK2.out; have := HK3.out; omega⟩, by repeat (first | exact Drawn0.refl _ | apply Drawn0.step)⟩
                              · rw [if_neg c13] at H
                                have c13b0 : (t151 == 0) = false := beq_eq_false_iff_ne.mpr c13
                                have c13b1 : (t151 != 0) = true := bne_iff_ne.mpr c13
                                by_cases c14 : t153 = 0
                                · rw [if_pos c14] at H
                                  have c14b0 : (t153 == 0) = true := beq_iff_eq.mpr c14
                                  have c14b1 : (t153 != 0) = false := bne_eq_false_iff_eq.mpr c14
                                  clear c14
                                  have H' := Aside0.mk H
                                  clear H
                                  have p149 : 0 ≤ (x24_3 : Int) := of_decide_eq_true (by first | (with_reducible assumption) | assumption)
                                  have q149 : x24_3 < (l1.length : Int) := of_decide_eq_true (by first | (with_reducible assumption) | assumption)
                                  obtain ⟨ad149, A149_0, c149_0, e149, hx149_0, hl149_0, hi149_0⟩ := at_L1 HR1.out x24_3 p149 q149
                                  cases e149
                                  have HR149_0 := Aside0.mk hi149_0
                                  have HC149_0 := Aside0.mk hl149_0
                                  clear hi149_0 hl149_0
                                  replace p149 := eq_true p149
                                  replace q149 := eq_true q149
                                  have p150 : 0 ≤ (0 : Int) := (by omega)
                                  have q150 : 0 < ((rd_L1 l1 x24_3).length : Int) := of_decide_eq_true (by first | (with_reducible assumption) | assumption)
                                  obtain ⟨ad150, e150, hx150_0⟩ := Kd.at_int HR149_0.out 0 p150 q150
                                  cases e150
                                  have qi150 : (0 < (rd_L1 l1 x24_3).length) = True := eq_true (by omega)
                                  (try rw [show ((0 : Int)).toNat = 0 from rfl] at hx150_0)
                                  (try rw [Addr.add_zero'] at hx150_0)
                                  replace p150 := eq_true p150
                                  replace q150 := eq_true q150
                                  have p152 : 0 ≤ (1 : Int) := (by omega)
                                  have q152 : 1 < ((rd_L1 l1 x24_3).length : Int) := of_decide_eq_true (by first | (with_reducible assumption) | assumption)
                                  obtain ⟨ad152, e152, hx152_0⟩ := Kd.at_int HR149_0.out 1 p152 q152
                                  obtain rfl : ad150 = ad152 := (by injection e152)
                                  (try simp only [show (1 : Int).toNat = 1 from rfl, Nat.reduceMul, Nat.reduceEqDiff, Go.Addr.add, ↓reduceIte] at hx152_0)
                                  have qi152 : (1 < (rd_L1 l1 x24_3).length) = True := eq_true (by omega)
                                  (try rw [show ((1 : Int)).toNat = 1 from rfl] at hx152_0)
                                  replace p152 := eq_true p152
                                  replace q152 := eq_true q152
                                  go_wp2_with (first | (go_at_call 212; (with_reducible refine (spec_l1Abs.calls (wrap64 ((rd (rd_L1 l1 x24_3) 0) - x5_1)) t151 _ A9.out).mono ?_); rintro e w' ⟨rfl, ⟨nd, rfl⟩⟩; (try first | exact ⟨rfl, _, World.drewN_drewN _ _ _⟩ | exact ⟨rfl, _, Eq.trans (World.drewN_drewN _ _ _) (congrArg (World.drewN _) (Nat.add_assoc _ _ _))⟩)) | (go_at_call 212; (with_reducible refine (spec_l1Abs.calls (wrap64 ((rd (rd_L1 l1 x24_3) 1) - x6_2)) t153 _ A11.out).mono ?_); rintro e w' ⟨rfl, ⟨nd, rfl⟩⟩; (try first | exact ⟨rfl, _, World.drewN_drewN _ _ _⟩ | exact ⟨rfl, _, Eq.trans (World.drewN_drewN _ _ _) (congrArg (World.drewN _) (Nat.add_assoc _ _ _))⟩)))
                                  repeat (go_quiet (first | (go_at_call 212; (with_reducible refine (spec_l1Abs.calls (wrap64 ((rd (rd_L1 l1 x24_3) 0) - x5_1)) t151 _ A9.out).mono ?_); rintro e w' ⟨rfl, ⟨nd, rfl⟩⟩; (try first | exact ⟨rfl, _, World.drewN_drewN _ _ _⟩ | exact ⟨rfl, _, Eq.trans (World.drewN_drewN _ _ _) (congrArg (World.drewN _) (Nat.add_assoc _ _ _))⟩)) | (go_at_call 212; (with_reducible refine (spec_l1Abs.calls (wrap64 ((rd (rd_L1 l1 x24_3) 1) - x6_2)) t153 _ A11.out).mono ?_); rintro e w' ⟨rfl, ⟨nd, rfl⟩⟩; (try first | exact ⟨rfl, _, World.drewN_drewN _ _ _⟩ | exact ⟨rfl, _, Eq.trans (World.drewN_drewN _ _ _) (congrArg (World.drewN _) (Nat.add_assoc _ _ _))⟩))); try go_wp2_with (first | (go_at_call 212; (with_reducible refine (spec_l1Abs.calls (wrap64 ((rd (rd_L1 l1 x24_3) 0) - x5_1)) t151 _ A9.out).mono ?_); rintro e w' ⟨rfl, ⟨nd, rfl⟩⟩; (try first | exact ⟨rfl, _, World.drewN_drewN _ _ _⟩ | exact ⟨rfl, _, Eq.trans (World.drewN_drewN _ _ _) (congrArg (World.drewN _) (Nat.add_assoc _ _ _))⟩)) | (go_at_call 212; (with_reducible refine (spec_l1Abs.calls (wrap64 ((rd (rd_L1 l1 x24_3) 1) - x6_2)) t153 _ A11.out).mono ?_); rintro e w' ⟨rfl, ⟨nd, rfl⟩⟩; (try first | exact ⟨rfl, _, World.drewN_drewN _ _ _⟩ | exact ⟨rfl, _, Eq.trans (World.drewN_drewN _ _ _) (congrArg (World.drewN _) (Nat.add_assoc _ _ _))⟩))))
                                  go_roundg k3
                                  case measure => have := HK1.out; have := HK2.out; have := HK3.out; omega
                                  case rel => exact ⟨(true), (wrap64 (x24_3 + 1)), (by first | rfl | (simp; done) | (simp [*]; done)), (by first | rfl | (simp; done) | (simp [*]; done)), H', ⟨by have := HK1.out; have := HK2.out; have := HK3.out; omega⟩, by repeat (first | exact Drawn0.refl _ | apply Drawn0.step)⟩
                                · rw [if_neg c14] at H
                                  have c14b0 : (t153 == 0) = false := beq_eq_false_iff_ne.mpr c14
                                  have c14b1 : (t153 != 0) = true := bne_iff_ne.mpr c14
                                  have H' := Aside0.mk H
                                  clear H
                                  have p149 : 0 ≤ (x24_3 : Int) := of_decide_eq_true (by first | (with_reducible assumption) | assumption)
                                  have q149 : x24_3 < (l1.length : Int) := of_decide_eq_true (by first | (with_reducible assumption) | assumption)
                                  obtain ⟨ad149, A149_0, c149_0, e149, hx149_0, hl149_0, hi149_0⟩ := at_L1 HR1.out x24_3 p149 q149
                                  cases e149
                                  have HR149_0 := Aside0.mk hi149_0
                                  have HC149_0 := Aside0.mk hl149_0
                                  clear hi149_0 hl149_0
                                  replace p149 := eq_true p149
                                  replace q149 := eq_true q149
                                  have p150 : 0 ≤ (0 : Int) := (by omega)
                                  have q150 : 0 < ((rd_L1 l1 x24_3).length : Int) := of_decide_eq_true (by first | (with_reducible assumption) | assumption)
                                  obtain ⟨ad150, e150, hx150_0⟩ := Kd.at_int HR149_0.out 0 p150 q150
                                  cases e150
                                  have qi150 : (0 < (rd_L1 l1 x24_3).length) = True := eq_true (by omega)
                                  (try rw [show ((0 : Int)).toNat = 0 from rfl] at hx150_0)
                                  (try rw [Addr.add_zero'] at hx150_0)
                                  replace p150 := eq_true p150
                                  replace q150 := eq_true q150
                                  have p152 : 0 ≤ (1 : Int) := (by omega)
                                  have q152 : 1 < ((rd_L1 l1 x24_3).length : Int) := of_decide_eq_true (by first | (with_reducible assumption) | assumption)
                                  obtain ⟨ad152, e152, hx152_0⟩ := Kd.at_int HR149_0.out 1 p152 q152
                                  obtain rfl : ad150 = ad152 := (by injection e152)
                                  (try simp only [show (1 : Int).toNat = 1 from rfl, Nat.reduceMul, Nat.reduceEqDiff, Go.Addr.add, ↓reduceIte] at hx152_0)
                                  have qi152 : (1 < (rd_L1 l1 x24_3).length) = True := eq_true (by omega)
                                  (try rw [show ((1 : Int)).toNat = 1 from rfl] at hx152_0)
                                  replace p152 := eq_true p152
                                  replace q152 := eq_true q152
                                  go_wp2_with (first | (go_at_call 212; (with_reducible refine (spec_l1Abs.calls (wrap64 ((rd (rd_L1 l1 x24_3) 0) - x5_1)) t151 _ A9.out).mono ?_); rintro e w' ⟨rfl, ⟨nd, rfl⟩⟩; (try first | exact ⟨rfl, _, World.drewN_drewN _ _ _⟩ | exact ⟨rfl, _, Eq.trans (World.drewN_drewN _ _ _) (congrArg (World.drewN _) (Nat.add_assoc _ _ _))⟩)) | (go_at_call 212; (with_reducible refine (spec_l1Abs.calls (wrap64 ((rd (rd_L1 l1 x24_3) 1) - x6_2)) t153 _ A11.out).mono ?_); rintro e w' ⟨rfl, ⟨nd, rfl⟩⟩; (try first | exact ⟨rfl, _, World.drewN_drewN _ _ _⟩ | exact ⟨rfl, _, Eq.trans (World.drewN_drewN _ _ _) (congrArg (World.drewN _) (Nat.add_assoc _ _ _))⟩)))
                                  repeat (go_quiet (first | (go_at_call 212; (with_reducible refine (spec_l1Abs.calls (wrap64 ((rd (rd_L1 l1 x24_3) 0) - x5_1)) t151 _ A9.out).mono ?_); rintro e w' ⟨rfl, ⟨nd, rfl⟩⟩; (try first | exact ⟨rfl, _, World.drewN_drewN _ _ _⟩ | exact ⟨rfl, _, Eq.trans (World.drewN_drewN _ _ _) (congrArg (World.drewN _) (Nat.add_assoc _ _ _))⟩)) | (go_at_call 212; (with_reducible refine (spec_l1Abs.calls (wrap64 ((rd (rd_L1 l1 x24_3) 1) - x6_2)) t153 _ A11.out).mono ?_); rintro e w' ⟨rfl, ⟨nd, rfl⟩⟩; (try first | exact ⟨rfl, _, World.drewN_drewN _ _ _⟩ | exact ⟨rfl, _, Eq.trans (World.drewN_drewN _ _ _) (congrArg (World.drewN _) (Nat.add_assoc _ _ _))⟩))); try go_wp2_with (first | (go_at_call 212; (with_reducible refine (spec_l1Abs.calls (wrap64 ((rd (rd_L1 l1 x24_3) 0) - x5_1)) t151 _ A9.out).mono ?_); rintro e w' ⟨rfl, ⟨nd, rfl⟩⟩; (try first | exact ⟨rfl, _, World.drewN_drewN _ _ _⟩ | exact ⟨rfl, _, Eq.trans (World.drewN_drewN _ _ _) (congrArg (World.drewN _) (Nat.add_assoc _ _ _))⟩)) | (go_at_call 212; (with_reducible refine (spec_l1Abs.calls (wrap64 ((rd (rd_L1 l1 x24_3) 1) - x6_2)) t153 _ A11.out).mono ?_); rintro e w' ⟨rfl, ⟨nd, rfl⟩⟩; (try first | exact ⟨rfl, _, World.drewN_drewN _ _ _⟩ | exact ⟨rfl, _, Eq.trans (World.drewN_drewN _ _ _) (congrArg (World.drewN _) (Nat.add_assoc _ _ _))⟩))))
                                  go_roundg k3
                                  case measure => have := HK1.out; have := HK2.out; have := HK3.out; omega
                                  case rel => exact ⟨((t151 == t153)), (wrap64 (x24_3 + 1)), (by first | rfl | (simp; done) | (simp [*]; done)), (by first | rfl | (simp; done) | (simp [*]; done)), H', ⟨by have := HK1.out; have := HK2.out; have := HK3.out; omega⟩, by repeat (first | exact Drawn0.refl _ | apply Drawn0.step)⟩
                          · rw [if_neg c10] at H
                            exact absurd H (by simp)
                        · rw [if_neg c8] at H
                          exact absurd H (by simp)
                      · rw [if_neg c7] at H
                        exact absurd H (by simp)
                    · rw [if_neg c6] at H
                      exact absurd H (by simp)
                  · rw [if_neg c5] at H
                    have c5b0 : decide (x24_3 < (l1.length : Int)) = false := decide_eq_false c5
                    clear c5
                    by_cases c15 : x7_3 = true
                    · subst c15
                      rw [if_pos rfl] at H
                      have H' := Aside0.mk H
                      clear H
                      go_wp2
                      repeat (go_quiet (fail); try go_wp2)
                      go_roundg k3
                      case measure => have := HK1.out; have := HK2.out; have := HK3.out; omega
                      case rel => exact ⟨(wrap64 (x6_2 + 1)), (by first | rfl | (simp; done) | (simp [*]; done)), H', ⟨by have := HK1.out; have := HK2.out; have := HK3.out; omega⟩, by repeat (first | exact Drawn0.refl _ | apply Drawn0.step)⟩
                    · replace c15 := Bool.eq_false_iff.mpr c15
                      subst c15
                      rw [if_neg (show ¬ (false = true) by decide)] at H
                      obtain rfl := Option.some.inj H
                      go_wp2
                      repeat (go_quiet (fail); try go_wp2)
                      go_ret
                      exact ⟨by first | rfl | (simp; done) | (simp [*]; done), by repeat (first | exact Drawn0.refl _ | apply Drawn0.step)⟩
            · rw [if_neg c4] at H
              have c4b0 : decide (x6_2 < a0) = false := decide_eq_false c4
              clear c4
              have H' := Aside0.mk H
              clear H
              go_wp2
              repeat (go_quiet (fail); try go_wp2)
              go_roundg k2
              case measure => have := HK1.out; have := HK2.out; omega
              case rel => exact ⟨(wrap64 (x5_1 + 1)), (by first | rfl | (simp; done) | (simp [*]; done)), H', ⟨by have := HK1.out; have := HK2.out; omega⟩, by repeat (first | exact Drawn0.refl _ | apply Drawn0.step)⟩
      · rw [if_neg c3] at H
        have c3b0 : decide (x5_1 < a0) = false := decide_eq_false c3
        clear c3
        obtain rfl := Option.some.inj H
        go_wp2
        repeat (go_quiet (fail); try go_wp2)
        go_ret
        exact ⟨by first | rfl | (simp; done) | (simp [*]; done), by repeat (first | exact Drawn0.refl _ | apply Drawn0.step)⟩

end Go.Proofs.Ytgdaenffcldfnaa.QW
