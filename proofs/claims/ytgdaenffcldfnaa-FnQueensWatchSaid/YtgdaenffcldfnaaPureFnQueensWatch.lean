/- As few queens as can be reach all places, and one of them less does not; and what the program tells of places that reach all is what the reference tells: for all draws. -/
import Derived.Test.YtgdaenffcldfnaaQWx
namespace Go.Proofs.Ytgdaenffcldfnaa.Pure
open Go.RowKit Go.Proofs.Ytgdaenffcldfnaa.QW Go.Proofs.YtgdaenffcldfnaaW.PrintWords Go.Proofs.YtgdaenffcldfnaaW.PrintLast
set_option linter.unusedVariables false
set_option linter.unusedSimpArgs false
theorem wr64 (x : Int) (h0 : -9223372036854775808 ≤ x) (h1 : x ≤ 9223372036854775807) : wrap64 x = x := by
  unfold wrap64
  omega
theorem u64_range (x : Int) : 0 ≤ IntKind.u64.wrap x ∧ IntKind.u64.wrap x < 2 ^ 64 := by
  rw [show IntKind.u64.wrap x = x % 18446744073709551616 by simp [IntKind.wrap, IntKind.bits, IntKind.signed]]
  omega
theorem and255 (x : Int) : 0 ≤ wrap64 (Go.bits .and .u64 (IntKind.u64.wrap x / 1099511627776) 255) ∧ wrap64 (Go.bits .and .u64 (IntKind.u64.wrap x / 1099511627776) 255) ≤ 255 := by
  have h := u64_range x
  have e := bits_mask .u64 64 (by decide) (fun n h0 h1 => by rw [show IntKind.u64.wrap n = n % 18446744073709551616 by simp [IntKind.wrap, IntKind.bits, IntKind.signed]]; omega) 8 (by decide) (IntKind.u64.wrap x / 1099511627776) (by omega) (by omega)
  have e2 : Go.bits .and .u64 (IntKind.u64.wrap x / 1099511627776) 255 = (IntKind.u64.wrap x / 1099511627776) % 2 ^ 8 := e
  rw [e2, wr64 _ (by omega) (by omega)]
  omega
/-- Bytes. -/
def Bytes (l : List Int) : Prop := l.length ≤ 1000000000000000 ∧ ∀ x ∈ l, 0 ≤ x ∧ x ≤ 255
theorem rd_byte {l : List Int} (h : Bytes l) (i : Int) : 0 ≤ rd l i ∧ rd l i ≤ 255 := by
  unfold rd
  rw [List.getD_eq_getElem?_getD]
  cases e : l[i.toNat]? with
  | none => simp
  | some x => exact h.2 x (List.mem_of_getElem? e)
theorem next_ok {l : List Int} (h : Bytes l) (s1 s2 : Int) (h0 : 0 ≤ s1) (h1 : s1 ≤ 1000000000000000) :
    ∃ v t2, spec_l1Cur_next.f l s1 s2 = some (v, s1 + 1, t2) ∧ 0 ≤ v ∧ v ≤ 255 := by
  have hw : wrap64 (s1 + 1) = s1 + 1 := wr64 _ (by omega) (by omega)
  have hr := rd_byte h s1
  unfold spec_l1Cur_next.f
  rw [hw]
  by_cases c : s1 < (l.length : Int)
  · rw [if_pos c, if_pos h0, if_pos (by omega)]
    refine ⟨_, _, rfl, ?_⟩
    rw [wr64 _ (by omega) (by omega)]
    exact hr
  · rw [if_neg c, if_neg (by omega)]
    exact ⟨_, _, rfl, and255 _⟩
theorem pick_ok {l : List Int} (h : Bytes l) (s1 s2 n : Int) (h0 : 0 ≤ s1) (h1 : s1 ≤ 100000000000000) :
    ∃ v t1 t2, spec_l1Cur_pick.f l s1 s2 n = some (v, t1, t2) ∧ 0 ≤ v ∧ (1 ≤ n → v < n) ∧ 0 ≤ t1 ∧ t1 ≤ s1 + 2 := by
  unfold spec_l1Cur_pick.f
  by_cases c : n ≤ 1
  · rw [if_pos c]
    exact ⟨_, _, _, rfl, Int.le_refl _, fun _ => by omega, h0, by omega⟩
  · rw [if_neg c]
    obtain ⟨v, t2, e, v0, v1⟩ := next_ok h s1 s2 h0 (by omega)
    rw [e]
    simp only [Option.bind_some]
    by_cases d : n > 200
    · rw [if_pos d]
      obtain ⟨u, u2, e, u0, u1⟩ := next_ok h (s1 + 1) t2 (by omega) (by omega)
      rw [e]
      simp only [Option.bind_some]
      rw [if_neg (by omega)]
      refine ⟨_, _, _, rfl, ?_, fun _ => ?_, by omega, by omega⟩
      · rw [wr64 (v * 256) (by omega) (by omega), wr64 _ (by omega) (by omega)]
        exact Int.tmod_nonneg _ (by omega)
      · exact Int.tmod_lt_of_pos _ (by omega)
    · rw [if_neg d, if_neg (by omega)]
      exact ⟨_, _, _, rfl, Int.tmod_nonneg _ v0, fun _ => Int.tmod_lt_of_pos _ (by omega), by omega, by omega⟩
theorem among_ok {l : List Int} (h : Bytes l) (s1 s2 : Int) (xs : List Int) (hx : xs ≠ []) (h0 : 0 ≤ s1) (h1 : s1 ≤ 100000000000000) :
    ∃ v t1 t2, spec_l1Cur_among.f l s1 s2 xs = some (v, t1, t2) ∧ v ∈ xs ∧ 0 ≤ t1 ∧ t1 ≤ s1 + 2 := by
  obtain ⟨i, t1, t2, e, i0, i1, ht⟩ := pick_ok h s1 s2 (xs.length : Int) h0 h1
  have hl : 0 < xs.length := List.length_pos_iff.2 hx
  have hi := i1 (by omega)
  unfold spec_l1Cur_among.f
  rw [e]
  simp only [Option.bind_some]
  rw [if_pos i0, if_pos hi]
  refine ⟨_, _, _, rfl, ?_, ht⟩
  have : i.toNat < xs.length := by omega
  unfold rd
  rw [List.getD_eq_getElem?_getD, List.getElem?_eq_getElem this]
  exact List.getElem_mem this
theorem one_ok {l : List Int} (h : Bytes l) (s1 s2 n : Int) (h0 : 0 ≤ s1) (h1 : s1 ≤ 100000000000000) :
    ∃ b t1 t2, spec_l1Cur_one.f l s1 s2 n = some (b, t1, t2) ∧ 0 ≤ t1 ∧ t1 ≤ s1 + 2 := by
  obtain ⟨i, t1, t2, e, i0, i1, ht⟩ := pick_ok h s1 s2 n h0 h1
  unfold spec_l1Cur_one.f
  rw [e]
  exact ⟨_, _, _, rfl, ht⟩
theorem big_ok (l0 l1 : List Int) : ∃ b, laws_big.f l0 l1 = some b ∧ (b = false → l0.length ≤ 1048576 ∧ l1.length ≤ 1048576) := by
  unfold laws_big.f
  by_cases c : (l0.length : Int) > 1048576
  · rw [if_pos c]
    exact ⟨_, rfl, fun h => by cases h⟩
  · rw [if_neg c, wr64 _ (by omega) (by omega)]
    refine ⟨_, rfl, fun h => ?_⟩
    have := of_decide_eq_false h
    omega
theorem bytes_of {l : List Int} (hl : l.length ≤ 1048576) (h : ∀ x ∈ l, (Lit.int .u8 x).wf = true) : Bytes l := by
  refine ⟨by omega, fun x hx => ?_⟩
  have h1 := h x hx
  simp [Lit.wf, IntKind.min, IntKind.max, IntKind.signed, IntKind.bits] at h1
  omega
/-- A place of n rows and columns. -/
def Pl (n : Nat) (x : List Int) : Prop := x.length = 2 ∧ 0 ≤ rd x 0 ∧ rd x 0 < n ∧ 0 ≤ rd x 1 ∧ rd x 1 < n
theorem badPlace_iff (n : Nat) (x : List Int) : badPlace (n : Int) x = false ↔ Pl n x := by
  unfold badPlace Pl
  simp only [Bool.or_eq_false_iff, bne_eq_false_iff_eq, Bool.not_eq_false', Bool.and_eq_true, decide_eq_true_eq]
  omega
theorem places_iff (n : Nat) (l : List (List Int)) : l.any (badPlace (n : Int)) = false ↔ ∀ x ∈ l, Pl n x := by
  rw [List.any_eq_false]
  constructor
  · intro h x hx
    exact (badPlace_iff n x).1 (by simpa using h x hx)
  · intro h x hx
    rw [(badPlace_iff n x).2 (h x hx)]
    simp
def allFrom (p : Nat → Bool) : Nat → Nat → Bool
  | 0, _ => true
  | d + 1, c => p c && allFrom p d (c + 1)
theorem allFrom_iff (p : Nat → Bool) (d c : Nat) : allFrom p d c = true ↔ ∀ j, c ≤ j → j < c + d → p j = true := by
  induction d generalizing c with
  | zero => simp [allFrom]; intro j h1 h2; omega
  | succ d ih =>
    rw [allFrom, Bool.and_eq_true, ih]
    constructor
    · rintro ⟨h0, h⟩ j h1 h2
      by_cases e : j = c
      · rw [e]; exact h0
      · exact h j (by omega) (by omega)
    · intro h
      exact ⟨h c (Nat.le_refl _) (by omega), fun j h1 h2 => h j (by omega) (by omega)⟩
theorem allFrom_range (p : Nat → Bool) (n : Nat) : allFrom p n 0 = (List.range n).all p := by
  rw [Bool.eq_iff_iff, allFrom_iff, List.all_eq_true]
  constructor
  · intro h x hx
    exact h x (Nat.zero_le _) (by have := List.mem_range.1 hx; omega)
  · intro h j _ hj
    exact h j (List.mem_range.2 (by omega))
theorem abs_ok (a : Int) (h0 : -1000000 ≤ a) (h1 : a ≤ 1000000) : spec_l1Abs.f a = some (if a > -a then a else -a) := by
  unfold spec_l1Abs.f spec_l1Most.f
  rw [wr64 (-a) (by omega) (by omega)]
  split <;> rfl
/-- What one place reaches, in the reference's words. -/
theorem reach_eq {n : Nat} (hn : n ≤ 100) {x : List Int} (hx : Pl n x) {r c : Nat} (hr : r < n) (hc : c < n) (dr dc : Int) (er : dr = if rd x 0 - r > -(rd x 0 - r) then rd x 0 - r else -(rd x 0 - r)) (ec : dc = if rd x 1 - c > -(rd x 1 - c) then rd x 1 - c else -(rd x 1 - c)) :
    reach (r : Int) (c : Int) x = (decide (dr = 0) || decide (dc = 0) || dr == dc) := by
  obtain ⟨_, h0, h1, h2, h3⟩ := hx
  unfold reach att mx
  rw [wr64 _ (by omega) (by omega), wr64 _ (by omega) (by omega), wr64 _ (by omega) (by omega), wr64 _ (by omega) (by omega)]
  rw [Bool.eq_iff_iff]
  simp only [Bool.or_eq_true, beq_iff_eq, decide_eq_true_eq]
  split at er <;> split at ec <;> (repeat' split) <;> omega
theorem l2_ev {n : Nat} (hn : n ≤ 100) {l : List (List Int)} (hl : ∀ x ∈ l, Pl n x) (hlen : l.length ≤ 1000) {r c : Nat} (hr : r < n) (hc : c < n) {R : Bool} (hk : Ev (fun k => spec_quWatched.l1 k (n : Int) l (r : Int) ((c + 1 : Nat) : Int)) R) :
    ∀ d i b, l.length - i = d → i ≤ l.length → Ev (fun k => spec_quWatched.l2 k (n : Int) l (r : Int) (c : Int) b l (l.length : Int) (i : Int)) (if b || (l.drop i).any (reach (r : Int) (c : Int)) then R else false) := by
  intro d
  induction d with
  | zero =>
    intro i b hd hi
    obtain rfl : i = l.length := by omega
    rw [List.drop_length, List.any_nil, Bool.or_false]
    refine Ev.step (f := fun k => if b = true then spec_quWatched.l1 k (n : Int) l (r : Int) (wrap64 ((c : Int) + 1)) else some false) (fun k => by simp only [spec_quWatched.l2]; rw [if_neg (Int.lt_irrefl _)]) ?_
    cases b with
    | true => simpa [wr64 ((c : Int) + 1) (by omega) (by omega)] using hk
    | false => simpa using Ev.now false
  | succ d ih =>
    intro i b hd hi
    have hlt : i < l.length := by omega
    have hx : Pl n (rd_L1 l (i : Int)) := by
      rw [rd_L1_get l i hlt]
      exact hl _ (List.getElem_mem hlt)
    have hx' := hx
    obtain ⟨e2, h0, h1, h2, h3⟩ := hx'
    rw [List.drop_eq_getElem_cons hlt, List.any_cons, ← rd_L1_get l i hlt]
    have hre := reach_eq hn hx hr hc _ _ rfl rfl
    generalize hdr : (if rd (rd_L1 l (i : Int)) 0 - (r : Int) > -(rd (rd_L1 l (i : Int)) 0 - (r : Int)) then rd (rd_L1 l (i : Int)) 0 - (r : Int) else -(rd (rd_L1 l (i : Int)) 0 - (r : Int))) = dr at hre
    generalize hdc : (if rd (rd_L1 l (i : Int)) 1 - (c : Int) > -(rd (rd_L1 l (i : Int)) 1 - (c : Int)) then rd (rd_L1 l (i : Int)) 1 - (c : Int) else -(rd (rd_L1 l (i : Int)) 1 - (c : Int))) = dc at hre
    have a0 := abs_ok (rd (rd_L1 l (i : Int)) 0 - (r : Int)) (by omega) (by omega)
    have a1 := abs_ok (rd (rd_L1 l (i : Int)) 1 - (c : Int)) (by omega) (by omega)
    rw [hdr] at a0
    rw [hdc] at a1
    refine Ev.step (f := fun k => spec_quWatched.l2 k (n : Int) l (r : Int) (c : Int) (b || reach (r : Int) (c : Int) (rd_L1 l (i : Int))) l (l.length : Int) ((i + 1 : Nat) : Int)) (fun k => ?_) ?_
    · simp only [spec_quWatched.l2]
      rw [if_pos (by omega), if_pos (by omega), if_pos (by omega), if_pos (by omega), wr64 (rd (rd_L1 l (i : Int)) 0 - (r : Int)) (by omega) (by omega), a0]
      simp only [Option.bind_some]
      rw [if_pos (by omega), wr64 (rd (rd_L1 l (i : Int)) 1 - (c : Int)) (by omega) (by omega), a1]
      simp only [Option.bind_some]
      rw [wr64 ((i : Int) + 1) (by omega) (by omega), hre, show ((i : Int) + 1) = ((i + 1 : Nat) : Int) from rfl]
      cases b
      · by_cases z0 : dr = 0
        · simp [z0]
        · by_cases z1 : dc = 0
          · simp [z0, z1]
          · simp [z0, z1]
      · simp
    · have := ih (i + 1) (b || reach (r : Int) (c : Int) (rd_L1 l (i : Int))) (by omega) (by omega)
      rwa [Bool.or_assoc] at this
theorem l1_ev {n : Nat} (hn : n ≤ 100) {l : List (List Int)} (hl : ∀ x ∈ l, Pl n x) (hlen : l.length ≤ 1000) {r : Nat} (hr : r < n) {R : Bool} (hk : Ev (fun k => spec_quWatched.l0 k (n : Int) l ((r + 1 : Nat) : Int)) R) :
    ∀ d c, n - c = d → c ≤ n → Ev (fun k => spec_quWatched.l1 k (n : Int) l (r : Int) (c : Int)) (if allFrom (fun c => l.any (reach (r : Int) (c : Int))) d c then R else false) := by
  intro d
  induction d with
  | zero =>
    intro c hd hc
    obtain rfl : c = n := by omega
    refine Ev.step (f := fun k => spec_quWatched.l0 k (c : Int) l ((r + 1 : Nat) : Int)) (fun k => by simp only [spec_quWatched.l1]; rw [if_neg (Int.lt_irrefl _), wr64 ((r : Int) + 1) (by omega) (by omega)]; rfl) ?_
    simpa [allFrom] using hk
  | succ d ih =>
    intro c hd hc
    have := l2_ev hn hl hlen hr (by omega : c < n) (ih (c + 1) (by omega) (by omega)) l.length 0 false (by omega) (by omega)
    refine Ev.step (f := fun k => spec_quWatched.l2 k (n : Int) l (r : Int) (c : Int) false l (l.length : Int) ((0 : Nat) : Int)) (fun k => by simp only [spec_quWatched.l1]; rw [if_pos (by omega)]; rfl) ?_
    rw [allFrom]
    simp only [List.drop_zero, Bool.false_or] at this
    cases e : l.any (reach (r : Int) (c : Int))
    · rw [e] at this; simpa using this
    · rw [e] at this; simpa using this
theorem l0_ev {n : Nat} (hn : n ≤ 100) {l : List (List Int)} (hl : ∀ x ∈ l, Pl n x) (hlen : l.length ≤ 1000) :
    ∀ d r, n - r = d → r ≤ n → Ev (fun k => spec_quWatched.l0 k (n : Int) l (r : Int)) (allFrom (rowSeen n l) d r) := by
  intro d
  induction d with
  | zero =>
    intro r hd hr
    obtain rfl : r = n := by omega
    exact Ev.step (f := fun k => some true) (fun k => by simp only [spec_quWatched.l0]; rw [if_neg (Int.lt_irrefl _)]) (Ev.now true)
  | succ d ih =>
    intro r hd hr
    have := l1_ev hn hl hlen (by omega : r < n) (ih (r + 1) (by omega) (by omega)) n 0 (by omega) (by omega)
    refine Ev.step (f := fun k => spec_quWatched.l1 k (n : Int) l (r : Int) ((0 : Nat) : Int)) (fun k => by simp only [spec_quWatched.l0]; rw [if_pos (by omega)]; rfl) ?_
    rw [allFrom_range] at this
    have hrs : rowSeen n l r = (List.range n).all fun c => l.any (reach (r : Int) (c : Int)) := rfl
    rw [← hrs] at this
    rw [allFrom]
    cases e : rowSeen n l r
    · rw [e] at this; simpa using this
    · rw [e] at this; simpa using this
theorem watched_ev {n : Nat} (hn : n ≤ 100) {l : List (List Int)} (hl : ∀ x ∈ l, Pl n x) (hlen : l.length ≤ 1000) : Ev (fun k => spec_quWatched.f k (n : Int) l) (allSeen n l) := by
  have := l0_ev hn hl hlen n 0 (by omega) (by omega)
  rw [allFrom_range] at this
  exact this
theorem in_f (a b c : Int) : spec_l1In.f a b c = some (decide (b ≤ a) && decide (a ≤ c)) := by
  unfold spec_l1In.f
  by_cases h : a ≥ b
  · rw [if_pos h]
    have : b ≤ a := h
    simp [this]
  · rw [if_neg h]
    have : ¬ b ≤ a := h
    simp [this]
theorem all_ev (x : List Int) (hx : x.length ≤ 1000) (lo hi : Int) : ∀ d i, x.length - i = d → i ≤ x.length → Ev (fun k => spec_l1All.l0 k lo hi x (x.length : Int) (i : Int)) ((x.drop i).all fun v => decide (lo ≤ v) && decide (v ≤ hi)) := by
  intro d
  induction d with
  | zero =>
    intro i hd hi'
    obtain rfl : i = x.length := by omega
    rw [List.drop_length, List.all_nil]
    exact Ev.step (f := fun k => some true) (fun k => by simp only [spec_l1All.l0]; rw [if_neg (Int.lt_irrefl _)]) (Ev.now true)
  | succ d ih =>
    intro i hd hi'
    have hlt : i < x.length := by omega
    rw [List.drop_eq_getElem_cons hlt, List.all_cons, ← rd_get x i hlt]
    cases e : (decide (lo ≤ rd x (i : Int)) && decide (rd x (i : Int) ≤ hi))
    · refine Ev.step (f := fun k => some false) (fun k => ?_) (Ev.now false)
      simp only [spec_l1All.l0]
      rw [if_pos (by omega), if_pos (by omega), if_pos (by omega), in_f, e]
      rfl
    · refine Ev.step (f := fun k => spec_l1All.l0 k lo hi x (x.length : Int) ((i + 1 : Nat) : Int)) (fun k => ?_) (by simpa using ih (i + 1) (by omega) (by omega))
      simp only [spec_l1All.l0]
      rw [if_pos (by omega), if_pos (by omega), if_pos (by omega), in_f, e, wr64 ((i : Int) + 1) (by omega) (by omega)]
      rfl
theorem badPlace_eq (m : Int) (x : List Int) (h : x.length = 2) : badPlace m x = !(x.all fun v => decide (0 ≤ v) && decide (v ≤ m - 1)) := by
  obtain ⟨a, b, rfl⟩ : ∃ a b, x = [a, b] := by
    match x, h with
    | [a, b], _ => exact ⟨a, b, rfl⟩
  simp [badPlace, rd]
/-- What the program's AreWatching tells. -/
def areW (m : Nat) (l : List (List Int)) : Bool × Bool := if 1 ≤ (m : Int) ∧ (m : Int) ≤ 8 ∧ (l.length : Int) ≤ m ∧ l.any (badPlace (m : Int)) = false then (allSeen m l, true) else (false, false)
theorem areW_impl (m : Nat) (l : List (List Int)) : impl_AreWatching.f (m : Int) l = some (areW m l) := by
  unfold impl_AreWatching.f areW
  rw [Int.toNat_natCast]
theorem areWl_ev {m : Nat} (hm1 : 1 ≤ m) (hm8 : m ≤ 8) {l : List (List Int)} (hl : l.length ≤ m) (hx : ∀ x ∈ l, x.length ≤ 1000) : ∀ d i, l.length - i = d → i ≤ l.length → (∀ x ∈ l.take i, Pl m x) →
    Ev (fun k => spec_AreWatching.l0 k (m : Int) l l (l.length : Int) (i : Int)) (if (l.drop i).any (badPlace (m : Int)) = false then (allSeen m l, true) else (false, false)) := by
  intro d
  induction d with
  | zero =>
    intro i hd hi hp
    obtain rfl : i = l.length := by omega
    rw [List.take_length] at hp
    rw [List.drop_length, List.any_nil, if_pos rfl]
    exact Ev.step (f := fun k => (spec_quWatched.f k (m : Int) l).bind fun t => some (t, true)) (fun k => by simp only [spec_AreWatching.l0]; rw [if_neg (Int.lt_irrefl _)]) (Ev.bind (watched_ev (by omega) hp (by omega)) (Ev.now _))
  | succ d ih =>
    intro i hd hi hp
    have hlt : i < l.length := by omega
    have hw : wrap64 ((i : Int) + 1) = ((i + 1 : Nat) : Int) := wr64 _ (by omega) (by omega)
    have hm : wrap64 ((m : Int) - 1) = (m : Int) - 1 := wr64 _ (by omega) (by omega)
    have hmem : rd_L1 l (i : Int) ∈ l := by rw [rd_L1_get l i hlt]; exact List.getElem_mem hlt
    have hxl := hx _ hmem
    rw [List.drop_eq_getElem_cons hlt, List.any_cons, ← rd_L1_get l i hlt]
    by_cases h2 : (rd_L1 l (i : Int)).length = 2
    · have hb := badPlace_eq (m : Int) (rd_L1 l (i : Int)) h2
      have ha := all_ev (rd_L1 l (i : Int)) hxl 0 ((m : Int) - 1) _ 0 rfl (Nat.zero_le _)
      rw [List.drop_zero] at ha
      cases e : (rd_L1 l (i : Int)).all fun v => decide (0 ≤ v) && decide (v ≤ (m : Int) - 1)
      · rw [e] at ha hb
        rw [hb, if_neg (by simp)]
        refine Ev.step (f := fun k => (spec_l1All.l0 k 0 ((m : Int) - 1) (rd_L1 l (i : Int)) ((rd_L1 l (i : Int)).length : Int) ((0 : Nat) : Int)).bind fun t => if t = true then spec_AreWatching.l0 k (m : Int) l l (l.length : Int) ((i + 1 : Nat) : Int) else some (false, false)) (fun k => ?_) (Ev.bind ha (by simpa using Ev.now _))
        simp only [spec_AreWatching.l0, spec_l1All.f]
        rw [if_pos (by omega), if_pos (by omega), if_pos (by omega), if_pos (by omega), hw, hm]
        rfl
      · rw [e] at ha hb
        have hpl : Pl m (rd_L1 l (i : Int)) := (badPlace_iff m _).1 hb
        have hp' : ∀ x ∈ l.take (i + 1), Pl m x := by
          intro x hx'
          rw [List.take_add_one, List.mem_append] at hx'
          rcases hx' with h | h
          · exact hp x h
          · rw [List.getElem?_eq_getElem hlt] at h
            simp at h
            rw [h, ← rd_L1_get l i hlt]
            exact hpl
        have hih := ih (i + 1) (by omega) (by omega) hp'
        rw [hb, Bool.not_true, Bool.false_or]
        refine Ev.step (f := fun k => (spec_l1All.l0 k 0 ((m : Int) - 1) (rd_L1 l (i : Int)) ((rd_L1 l (i : Int)).length : Int) ((0 : Nat) : Int)).bind fun t => if t = true then spec_AreWatching.l0 k (m : Int) l l (l.length : Int) ((i + 1 : Nat) : Int) else some (false, false)) (fun k => ?_) (Ev.bind ha (by simpa using hih))
        simp only [spec_AreWatching.l0, spec_l1All.f]
        rw [if_pos (by omega), if_pos (by omega), if_pos (by omega), if_pos (by omega), hw, hm]
        rfl
    · have hb : badPlace (m : Int) (rd_L1 l (i : Int)) = true := by
        cases hb : badPlace (m : Int) (rd_L1 l (i : Int))
        · exact absurd ((badPlace_iff m _).1 hb).1 h2
        · rfl
      rw [hb, if_neg (by simp)]
      refine Ev.step (f := fun k => some (false, false)) (fun k => ?_) (Ev.now _)
      simp only [spec_AreWatching.l0]
      rw [if_pos (by omega), if_pos (by omega), if_pos (by omega), if_neg (by omega)]
theorem areW_ev (m : Nat) (hm : m ≤ 100) (l : List (List Int)) (hl : l.length ≤ 1000) (hx : ∀ x ∈ l, x.length ≤ 1000) : Ev (fun k => spec_AreWatching.f k (m : Int) l) (areW m l) := by
  unfold areW
  by_cases h1 : 1 ≤ (m : Int) ∧ (m : Int) ≤ 8
  · have e : spec_quSide.f (m : Int) = some true := by unfold spec_quSide.f; rw [in_f]; simp [h1.1, h1.2]
    by_cases h2 : (l.length : Int) ≤ m
    · have h := areWl_ev (m := m) (by omega) (by omega) (l := l) (by omega) hx _ 0 rfl (Nat.zero_le _) (fun x hx => by simp at hx)
      rw [List.drop_zero] at h
      refine Ev.congr (f := fun k => spec_AreWatching.j0 k (m : Int) l (decide ((l.length : Int) > m))) (fun k => by unfold spec_AreWatching.f; rw [e]; simp) ?_
      refine Ev.step (f := fun k => spec_AreWatching.l0 k (m : Int) l l (l.length : Int) ((0 : Nat) : Int)) (fun k => by simp only [spec_AreWatching.j0]; rw [if_neg (by simp; omega)]; rfl) ?_
      by_cases h3 : l.any (badPlace (m : Int)) = false
      · rw [if_pos h3] at h
        rw [if_pos ⟨h1.1, h1.2, h2, h3⟩]
        exact h
      · rw [if_neg h3] at h
        rw [if_neg (fun hh => h3 hh.2.2.2)]
        exact h
    · rw [if_neg (fun hh => h2 hh.2.2.1)]
      refine Ev.congr (f := fun k => spec_AreWatching.j0 k (m : Int) l (decide ((l.length : Int) > m))) (fun k => by unfold spec_AreWatching.f; rw [e]; simp) ?_
      exact Ev.step (f := fun k => some (false, false)) (fun k => by simp only [spec_AreWatching.j0]; rw [if_pos (by simp; omega)]) (Ev.now _)
  · have e : spec_quSide.f (m : Int) = some false := by
      unfold spec_quSide.f
      rw [in_f]
      by_cases a : 1 ≤ (m : Int)
      · have : ¬ (m : Int) ≤ 8 := fun b => h1 ⟨a, b⟩
        simp [this]
      · simp [a]
    rw [if_neg (fun hh => h1 ⟨hh.1, hh.2.1⟩)]
    refine Ev.congr (f := fun k => spec_AreWatching.j0 k (m : Int) l true) (fun k => by unfold spec_AreWatching.f; rw [e]; simp) ?_
    exact Ev.step (f := fun k => some (false, false)) (fun k => by simp only [spec_AreWatching.j0]; rw [if_pos trivial]) (Ev.now _)
theorem lwAll_at (n : Nat) (h1 : 1 ≤ n) (h6 : n ≤ 6) : lwAll n = (List.range (n * n)).map fun i => [((i / n : Nat) : Int), ((i % n : Nat) : Int)] := by
  obtain rfl | rfl | rfl | rfl | rfl | rfl : n = 1 ∨ n = 2 ∨ n = 3 ∨ n = 4 ∨ n = 5 ∨ n = 6 := by omega
  all_goals rfl
theorem lwAll_length (n : Nat) (h1 : 1 ≤ n) (h6 : n ≤ 6) : (lwAll n).length = n * n := by
  rw [lwAll_at n h1 h6, List.length_map, List.length_range]
theorem lwAll_rd (n : Nat) (h1 : 1 ≤ n) (h6 : n ≤ 6) (i : Nat) (hi : i < n * n) : rd_L1 (lwAll n) (i : Int) = [((i / n : Nat) : Int), ((i % n : Nat) : Int)] := by
  rw [rd_L1_get _ _ (by rw [lwAll_length n h1 h6]; exact hi)]
  simp [lwAll_at n h1 h6]
theorem lwAll_pl (n : Nat) : ∀ x ∈ lwAll n, Pl n x := by
  intro x hx
  unfold lwAll at hx
  rw [List.mem_flatMap] at hx
  obtain ⟨r, hr, hx⟩ := hx
  rw [List.mem_map] at hx
  obtain ⟨c, hc, rfl⟩ := hx
  rw [List.mem_range] at hr hc
  refine ⟨rfl, ?_, ?_, ?_, ?_⟩ <;> simp [rd] <;> omega
theorem pl_lwAll (n : Nat) (x : List Int) (h : Pl n x) : x ∈ lwAll n := by
  obtain ⟨h2, h0, h1, h3, h4⟩ := h
  obtain ⟨a, b, rfl⟩ : ∃ a b, x = [a, b] := by
    match x, h2 with
    | [a, b], _ => exact ⟨a, b, rfl⟩
  simp only [rd, List.getD_cons_zero, Int.toNat_zero, show (1 : Int).toNat = 1 from rfl, List.getD_cons_succ] at h0 h1 h3 h4
  unfold lwAll
  rw [List.mem_flatMap]
  refine ⟨a.toNat, List.mem_range.2 (by omega), ?_⟩
  rw [List.mem_map]
  refine ⟨b.toNat, List.mem_range.2 (by omega), ?_⟩
  rw [Int.toNat_of_nonneg h0, Int.toNat_of_nonneg h3]
/-- Where the reference goes on behind a list. -/
def fromOf (n : Nat) (list : List (List Int)) : Nat := if list = [] then 0 else ((rd (rd_L1 list ((list.length : Int) - 1)) 0).toNat * n + (rd (rd_L1 list ((list.length : Int) - 1)) 1).toNat + 1)
/-- The answer of the reference's search. -/
def quR (list : List (List Int)) (o : Option (List (List Int))) : List (List Int) × Bool := match o with | some r => (r, true) | none => (list, false)
theorem last_snoc (list : List (List Int)) (x : List Int) : rd_L1 (list ++ [x]) (((list ++ [x]).length : Int) - 1) = x := by
  rw [show (((list ++ [x]).length : Int) - 1) = ((list.length : Nat) : Int) by simp, rd_L1_get _ _ (by simp)]
  simp
theorem fromOf_snoc (n : Nat) (list : List (List Int)) (i : Nat) (hn : 1 ≤ n) : fromOf n (list ++ [[((i / n : Nat) : Int), ((i % n : Nat) : Int)]]) = i + 1 := by
  unfold fromOf
  rw [if_neg (by simp), last_snoc]
  simp only [rd, List.getD_cons_zero, Int.toNat_zero, show (1 : Int).toNat = 1 from rfl, List.getD_cons_succ, Int.toNat_natCast]
  have := Nat.div_add_mod i n
  rw [Nat.mul_comm] at this
  omega
/-- The reference's search tells what the program's does. -/
theorem quWatch_ev (n : Nat) (h1 : 1 ≤ n) (h6 : n ≤ 6) : ∀ (missing : Nat) (list : List (List Int)), missing + list.length ≤ 100 → (∀ x ∈ list, Pl n x) →
    Ev (fun k => spec_quWatch.f k (n : Int) (missing : Int) list) (quR (if missing = 0 then list else []) (lwFind n (missing + list.length) ((lwAll n).drop (fromOf n list)) list)) := by
  intro missing
  induction missing with
  | zero =>
    intro list hlen hp
    rw [lwFind_full _ (by omega), if_pos rfl]
    refine Ev.step (f := fun k => (spec_quWatched.f k (n : Int) list).bind fun t => some (list, t)) (fun k => by simp only [spec_quWatch.f]; rw [if_pos (by rfl)]) ?_
    refine Ev.bind (watched_ev (by omega) hp (by omega)) ?_
    cases e : allSeen n list
    · exact Ev.now _
    · exact Ev.now _
  | succ ms ih =>
    intro list hlen hp
    have hne : list.length ≠ ms + 1 + list.length := by omega
    have hsq : n * n ≤ 36 := Nat.mul_le_mul h6 h6
    have hall := lwAll_length n h1 h6
    have hws : wrap64 ((n : Int) * n) = ((n * n : Nat) : Int) := by rw [wr64 _ (by have : ((n * n : Nat) : Int) = (n : Int) * n := by simp
                                                                                   omega) (by have : ((n * n : Nat) : Int) = (n : Int) * n := by simp
                                                                                              omega)]; simp
    have hwm : wrap64 (((ms + 1 : Nat) : Int) - 1) = (ms : Int) := by rw [wr64 _ (by omega) (by omega)]; omega
    have loop : ∀ d i, n * n - i = d → i ≤ n * n → Ev (fun k => spec_quWatch.l0 k (n : Int) ((ms + 1 : Nat) : Int) list (i : Int)) (quR [] (lwFind n (ms + 1 + list.length) ((lwAll n).drop i) list)) := by
      intro d
      induction d with
      | zero =>
        intro i hd hi
        obtain rfl : i = n * n := by omega
        rw [lwFind_end hne (by omega)]
        refine Ev.step (f := fun k => some ([], false)) (fun k => ?_) (Ev.now _)
        simp only [spec_quWatch.l0]
        rw [hws, if_neg (Int.lt_irrefl _)]
      | succ d ihd =>
        intro i hd hi
        have hlt : i < n * n := by omega
        have hstep := lwFind_step (n := n) (k := ms + 1 + list.length) (all := lwAll n) (list := list) hne (by omega : i < (lwAll n).length)
        rw [lwAll_rd n h1 h6 i hlt] at hstep
        have hpl : ∀ x ∈ list ++ [[((i / n : Nat) : Int), ((i % n : Nat) : Int)]], Pl n x := by
          intro x hx
          rw [List.mem_append] at hx
          rcases hx with hx | hx
          · exact hp x hx
          · rw [List.mem_singleton.1 hx, ← lwAll_rd n h1 h6 i hlt, rd_L1_get _ _ (by omega)]
            exact lwAll_pl n _ (List.getElem_mem _)
        have hrec := ih (list ++ [[((i / n : Nat) : Int), ((i % n : Nat) : Int)]]) (by simp; omega) hpl
        rw [fromOf_snoc n list i h1, show ms + (list ++ [[((i / n : Nat) : Int), ((i % n : Nat) : Int)]]).length = ms + 1 + list.length by simp; omega] at hrec
        rw [hstep]
        have hunf : ∀ k, spec_quWatch.l0 (k + 1) (n : Int) ((ms + 1 : Nat) : Int) list (i : Int) = (spec_quWatch.f k (n : Int) (ms : Int) (list ++ [[((i / n : Nat) : Int), ((i % n : Nat) : Int)]])).bind fun t => if t.2 = true then some (t.1, true) else spec_quWatch.l0 k (n : Int) ((ms + 1 : Nat) : Int) list ((i + 1 : Nat) : Int) := by
          intro k
          simp only [spec_quWatch.l0]
          rw [hws, if_pos (by omega)]
          simp only [Option.bind_some, List.nil_append, List.length_nil]
          rw [if_pos (by omega), if_neg (by omega), if_pos (by simp; omega), hwm, wr64 ((i : Int) + 1) (by omega) (by omega)]
          rw [show Int.tdiv (i : Int) (n : Int) = ((i / n : Nat) : Int) from rfl, show Int.tmod (i : Int) (n : Int) = ((i % n : Nat) : Int) from rfl, wr64 ((i / n : Nat) : Int) (by have := Int.natCast_nonneg (i / n); omega) (by have := Nat.div_le_self i n; omega)]
          rfl
        cases e : lwFind n (ms + 1 + list.length) ((lwAll n).drop (i + 1)) (list ++ [[((i / n : Nat) : Int), ((i % n : Nat) : Int)]]) with
        | some r =>
          rw [e] at hrec
          exact Ev.step hunf (Ev.bind hrec (by simpa [quR] using Ev.now _))
        | none =>
          rw [e] at hrec
          refine Ev.step hunf (Ev.bind hrec ?_)
          simpa [quR] using ihd (i + 1) (by omega) (by omega)
    rw [if_neg (by omega)]
    by_cases hnil : list = []
    · subst hnil
      have := loop (n * n) 0 rfl (Nat.zero_le _)
      refine Ev.step (f := fun k => spec_quWatch.j0 k (n : Int) ((ms + 1 : Nat) : Int) [] ((0 : Nat) : Int)) (fun k => ?_) (Ev.step (fun k => by simp only [spec_quWatch.j0]) this)
      simp only [spec_quWatch.f]
      rw [if_neg (by omega), if_neg (by simp)]
      rfl
    · have hpos : 0 < list.length := List.length_pos_iff.2 hnil
      have hwl : wrap64 ((list.length : Int) - 1) = (list.length : Int) - 1 := wr64 _ (by omega) (by omega)
      have hlast : rd_L1 list ((list.length : Int) - 1) ∈ list := by
        rw [show ((list.length : Int) - 1) = ((list.length - 1 : Nat) : Int) by omega, rd_L1_get _ _ (by omega)]
        exact List.getElem_mem _
      obtain ⟨g2, g0, g1, g3, g4⟩ := hp _ hlast
      have hfr : fromOf n list = (rd (rd_L1 list ((list.length : Int) - 1)) 0).toNat * n + (rd (rd_L1 list ((list.length : Int) - 1)) 1).toNat + 1 := by
        unfold fromOf; rw [if_neg hnil]
      generalize hx : rd_L1 list ((list.length : Int) - 1) = x at g2 g0 g1 g3 g4 hfr
      obtain ⟨a, ha⟩ : ∃ a : Nat, rd x 0 = a := ⟨(rd x 0).toNat, by omega⟩
      obtain ⟨b, hb⟩ : ∃ b : Nat, rd x 1 = b := ⟨(rd x 1).toNat, by omega⟩
      rw [ha] at g0 g1
      rw [hb] at g3 g4
      rw [ha, hb, Int.toNat_natCast, Int.toNat_natCast] at hfr
      have hle : a * n + b + 1 ≤ n * n := by
        have h1 : a * n ≤ (n - 1) * n := Nat.mul_le_mul_right n (by omega)
        have h2 : (n - 1) * n + n = n * n := by
          have := Nat.sub_add_cancel h1
          rw [Nat.sub_one_mul]
          have : n ≤ n * n := Nat.le_mul_of_pos_left n (by omega)
          omega
        omega
      have := loop (n * n - (a * n + b + 1)) (a * n + b + 1) rfl hle
      rw [hfr]
      refine Ev.step (f := fun k => spec_quWatch.j0 k (n : Int) ((ms + 1 : Nat) : Int) list ((a * n + b + 1 : Nat) : Int)) (fun k => ?_) (Ev.step (fun k => by simp only [spec_quWatch.j0]) this)
      simp only [spec_quWatch.f]
      have hmul : (a : Int) * (n : Int) = ((a * n : Nat) : Int) := by simp
      rw [if_neg (by omega), if_pos (by omega), hwl, if_pos (by omega), if_pos (by omega), hx, if_pos (by omega), if_pos (by omega), ha, hb, hmul, wr64 ((a * n : Nat) : Int) (by omega) (by omega), wr64 (((a * n : Nat) : Int) + b) (by omega) (by omega), wr64 _ (by omega) (by omega)]
      rfl
theorem lwFind_sound {n k : Nat} : ∀ (rest list r : List (List Int)), lwFind n k rest list = some r → r.length = k ∧ allSeen n r = true ∧ ∃ ys, ys.Sublist rest ∧ r = list ++ ys := by
  intro rest
  induction rest with
  | nil =>
    intro list r h
    rw [lwFind] at h
    by_cases c : list.length = k
    · rw [if_pos c] at h
      by_cases d : allSeen n list = true
      · rw [if_pos d] at h
        obtain rfl := Option.some.inj h
        exact ⟨c, d, [], List.Sublist.refl _, by simp⟩
      · rw [if_neg d] at h; cases h
    · rw [if_neg c] at h; cases h
  | cons x t ih =>
    intro list r h
    rw [lwFind] at h
    by_cases c : list.length = k
    · rw [if_pos c] at h
      by_cases d : allSeen n list = true
      · rw [if_pos d] at h
        obtain rfl := Option.some.inj h
        exact ⟨c, d, [], List.nil_sublist _, by simp⟩
      · rw [if_neg d] at h; cases h
    · rw [if_neg c] at h
      cases e : lwFind n k t (list ++ [x]) with
      | some r' =>
        rw [e] at h
        obtain rfl := Option.some.inj h
        obtain ⟨h1, h2, ys, h3, h4⟩ := ih _ _ e
        exact ⟨h1, h2, x :: ys, h3.cons_cons x, by rw [h4]; simp⟩
      | none =>
        rw [e] at h
        obtain ⟨h1, h2, ys, h3, h4⟩ := ih _ _ h
        exact ⟨h1, h2, ys, h3.cons x, h4⟩
theorem lwFind_finds {n k : Nat} : ∀ (rest list ys : List (List Int)), ys.Sublist rest → (list ++ ys).length = k → allSeen n (list ++ ys) = true → (lwFind n k rest list).isSome = true := by
  intro rest
  induction rest with
  | nil =>
    intro list ys hs hk ha
    obtain rfl := List.sublist_nil.1 hs
    rw [List.append_nil] at hk ha
    rw [lwFind, if_pos hk, if_pos ha]
    rfl
  | cons x t ih =>
    intro list ys hs hk ha
    rw [lwFind]
    by_cases c : list.length = k
    · have : ys = [] := by
        rw [List.length_append] at hk
        exact List.length_eq_zero_iff.1 (by omega)
      subst this
      rw [List.append_nil] at ha
      rw [if_pos c, if_pos ha]
      rfl
    · rw [if_neg c]
      cases hs with
      | cons _ hs =>
        cases e : lwFind n k t (list ++ [x]) with
        | some r => rfl
        | none => exact ih list ys hs hk ha
      | cons_cons _ hs =>
        rename_i zs
        have := ih (list ++ [x]) zs hs (by simpa using hk) (by simpa using ha)
        cases e : lwFind n k t (list ++ [x]) with
        | some r => rfl
        | none => rw [e] at this; cases this
/-- The least number of places, and the first list of so many. -/
structure Least (n kk : Nat) (r : List (List Int)) : Prop where
  pos : 1 ≤ kk
  found : lwFind n kk (lwAll n) [] = some r
  least : ∀ j, 1 ≤ j → j < kk → lwFind n j (lwAll n) [] = none
theorem lwLoop_least {n : Nat} : ∀ (d k : Nat), 1 ≤ k → (∀ j, 1 ≤ j → j < k → lwFind n j (lwAll n) [] = none) → (∃ j, k ≤ j ∧ j < k + d ∧ (lwFind n j (lwAll n) []).isSome = true) → ∃ r kk, lwLoop n d k = some r ∧ Least n kk r ∧ kk < k + d := by
  intro d
  induction d with
  | zero =>
    intro k _ _ h
    obtain ⟨j, h1, h2, _⟩ := h
    omega
  | succ d ih =>
    intro k hk hl h
    rw [lwLoop]
    cases e : lwFind n k (lwAll n) [] with
    | some r => exact ⟨r, k, rfl, ⟨hk, e, hl⟩, by omega⟩
    | none =>
      obtain ⟨j, h1, h2, h3⟩ := h
      obtain ⟨r, kk, h4, h5, h6⟩ := ih (k + 1) (by omega) (fun i hi1 hi2 => by
        by_cases e' : i = k
        · rw [e']; exact e
        · exact hl i hi1 (by omega)) ⟨j, by
          by_cases e' : j = k
          · rw [e', e] at h3; cases h3
          · omega, by omega, h3⟩
      exact ⟨r, kk, h4, h5, by omega⟩
/-- Few places that reach all. -/
def few : Nat → List (List Int)
  | 1 => [[0, 0]]
  | 2 => [[0, 0]]
  | 3 => [[1, 1]]
  | 4 => [[0, 0], [2, 2]]
  | 5 => [[0, 0], [0, 2], [3, 2]]
  | _ => [[0, 0], [2, 4], [4, 2]]
theorem few_ok (n : Nat) (h1 : 1 ≤ n) (h6 : n ≤ 6) : (few n).Sublist (lwAll n) ∧ allSeen n (few n) = true ∧ 1 ≤ (few n).length ∧ (few n).length ≤ (n + 2) / 2 ∧ (few n).length ≤ n := by
  obtain rfl | rfl | rfl | rfl | rfl | rfl : n = 1 ∨ n = 2 ∨ n = 3 ∨ n = 4 ∨ n = 5 ∨ n = 6 := by omega
  all_goals (clear h1 h6; decide +kernel)
theorem least_ok (n : Nat) (h1 : 1 ≤ n) (h6 : n ≤ 6) : ∃ r kk, lwLoop n 40 1 = some r ∧ Least n kk r ∧ kk ≤ (n + 2) / 2 ∧ kk ≤ n := by
  obtain ⟨f1, f2, f3, f4, f5⟩ := few_ok n h1 h6
  have hf := lwFind_finds (n := n) (lwAll n) [] (few n) f1 rfl (by simpa using f2)
  obtain ⟨r, kk, e, hL, _⟩ := lwLoop_least (n := n) 40 1 (Nat.le_refl _) (fun j h1 h2 => by omega) ⟨(few n).length, f3, by omega, hf⟩
  have : kk ≤ (few n).length := by
    rcases Nat.lt_or_ge (few n).length kk with h | h
    · have := hL.least _ f3 h
      rw [List.nil_append] at hf
      rw [this] at hf; cases hf
    · exact h
  exact ⟨r, kk, e, hL, by omega, by omega⟩
theorem Least.length {n kk : Nat} {r : List (List Int)} (h : Least n kk r) : r.length = kk := (lwFind_sound _ _ _ h.found).1
theorem Least.seen {n kk : Nat} {r : List (List Int)} (h : Least n kk r) : allSeen n r = true := (lwFind_sound _ _ _ h.found).2.1
theorem Least.sub {n kk : Nat} {r : List (List Int)} (h : Least n kk r) : r.Sublist (lwAll n) := by
  obtain ⟨_, _, ys, h1, h2⟩ := lwFind_sound _ _ _ h.found
  rw [h2]; exact h1
theorem Least.pl {n kk : Nat} {r : List (List Int)} (h : Least n kk r) : ∀ x ∈ r, Pl n x := fun x hx => lwAll_pl n x (h.sub.subset hx)
theorem allSeen_nil (n : Nat) (h : 1 ≤ n) : allSeen n [] = false := by
  cases e : allSeen n []
  · rfl
  · unfold allSeen rowSeen at e
    rw [List.all_eq_true] at e
    have := e 0 (List.mem_range.2 (by omega))
    rw [List.all_eq_true] at this
    have := this 0 (List.mem_range.2 (by omega))
    simp at this
/-- Fewer places of the board's do not reach all. -/
theorem Least.fewer {n kk : Nat} {r ys : List (List Int)} (hn : 1 ≤ n) (h : Least n kk r) (hs : ys.Sublist (lwAll n)) (hl : ys.length < kk) : allSeen n ys = false := by
  cases e : allSeen n ys
  · rfl
  · by_cases h0 : ys.length = 0
    · rw [List.length_eq_zero_iff.1 h0, allSeen_nil n hn] at e; cases e
    · have hf := lwFind_finds (n := n) (lwAll n) [] ys hs rfl (by simpa using e)
      rw [List.nil_append, h.least _ (by omega) hl] at hf
      cases hf
theorem nodup_len : ∀ (ys l : List (List Int)), ys.Nodup → (∀ x ∈ ys, x ∈ l) → ys.length ≤ l.length := by
  intro ys
  induction ys with
  | nil => intro l _ _; exact Nat.zero_le _
  | cons y t ih =>
    intro l hn hs
    rw [List.nodup_cons] at hn
    have hy : y ∈ l := hs y (List.mem_cons_self ..)
    have := ih (l.erase y) hn.2 (fun x hx => (List.mem_erase_of_ne (fun e : x = y => hn.1 (by rw [← e]; exact hx))).2 (hs x (List.mem_cons_of_mem _ hx)))
    rw [List.length_erase_of_mem hy] at this
    have : 0 < l.length := List.length_pos_of_mem hy
    simp only [List.length_cons]
    omega
theorem lwAll_nodup (n : Nat) (h1 : 1 ≤ n) (h6 : n ≤ 6) : (lwAll n).Nodup := by
  obtain rfl | rfl | rfl | rfl | rfl | rfl : n = 1 ∨ n = 2 ∨ n = 3 ∨ n = 4 ∨ n = 5 ∨ n = 6 := by omega
  all_goals (clear h1 h6; decide +kernel)
theorem any_sub {n : Nat} {l : List (List Int)} (hl : ∀ x ∈ l, Pl n x) (p : List Int → Bool) : ((lwAll n).filter fun x => decide (x ∈ l)).any p = l.any p := by
  rw [Bool.eq_iff_iff, List.any_eq_true, List.any_eq_true]
  constructor
  · rintro ⟨x, hx, hp⟩
    rw [List.mem_filter] at hx
    exact ⟨x, by simpa using hx.2, hp⟩
  · rintro ⟨x, hx, hp⟩
    exact ⟨x, List.mem_filter.2 ⟨pl_lwAll n x (hl x hx), by simpa using hx⟩, hp⟩
/-- No list of places that reach all is shorter than the least. -/
theorem Least.any {n kk : Nat} {r l : List (List Int)} (h1 : 1 ≤ n) (h6 : n ≤ 6) (h : Least n kk r) (hl : ∀ x ∈ l, Pl n x) (ha : allSeen n l = true) : kk ≤ l.length := by
  rcases Nat.lt_or_ge l.length kk with hlt | hge
  · have hle := nodup_len ((lwAll n).filter fun x => decide (x ∈ l)) l ((lwAll_nodup n h1 h6).sublist List.filter_sublist) (fun x hx => by simpa using (List.mem_filter.1 hx).2)
    have hf := h.fewer h1 (List.filter_sublist (l := lwAll n) (p := fun x => decide (x ∈ l))) (by omega)
    unfold allSeen rowSeen at hf ha
    simp only [any_sub hl] at hf
    rw [hf] at ha
    cases ha
  · exact hge
theorem sleast_ev {n kk : Nat} {r : List (List Int)} (h1 : 1 ≤ n) (h6 : n ≤ 6) (h : Least n kk r) (hk : kk ≤ n) : ∀ d j, kk - j = d → 1 ≤ j → j ≤ kk → Ev (fun k => spec_LeastWatch.l0 k (n : Int) (j : Int)) (r, true) := by
  intro d
  induction d with
  | zero =>
    intro j hd h1j hj
    obtain rfl : j = kk := by omega
    have hq := quWatch_ev n h1 h6 j [] (by simp; omega) (fun x hx => by cases hx)
    rw [show j + ([] : List (List Int)).length = j by simp, show (lwAll n).drop (fromOf n []) = lwAll n by simp [fromOf], h.found] at hq
    by_cases c : j < n
    · refine Ev.step (f := fun k => (spec_quWatch.f k (n : Int) (j : Int) []).bind fun t => if t.2 = true then some (t.1, true) else spec_LeastWatch.l0 k (n : Int) (wrap64 ((j : Int) + 1))) (fun k => by simp only [spec_LeastWatch.l0]; rw [if_pos (by omega)]) (Ev.bind hq (by simpa [quR] using Ev.now _))
    · obtain rfl : j = n := by omega
      exact Ev.step (f := fun k => (spec_quWatch.f k (j : Int) (j : Int) []).bind fun t => some (t.1, t.2)) (fun k => by simp only [spec_LeastWatch.l0]; rw [if_neg (Int.lt_irrefl _)]) (Ev.bind hq (by simpa [quR] using Ev.now _))
  | succ d ih =>
    intro j hd h1j hj
    have hq := quWatch_ev n h1 h6 j [] (by simp; omega) (fun x hx => by cases hx)
    rw [show j + ([] : List (List Int)).length = j by simp, show (lwAll n).drop (fromOf n []) = lwAll n by simp [fromOf], h.least j h1j (by omega)] at hq
    have hn := ih (j + 1) (by omega) (by omega) (by omega)
    refine Ev.step (f := fun k => (spec_quWatch.f k (n : Int) (j : Int) []).bind fun t => if t.2 = true then some (t.1, true) else spec_LeastWatch.l0 k (n : Int) ((j + 1 : Nat) : Int)) (fun k => by simp only [spec_LeastWatch.l0]; rw [if_pos (by omega), wr64 ((j : Int) + 1) (by omega) (by omega)]; rfl) (Ev.bind hq (by simpa [quR] using hn))
theorem sleast_in (n : Nat) (h1 : 1 ≤ n) (h6 : n ≤ 6) {kk : Nat} {r : List (List Int)} (h : Least n kk r) (hk : kk ≤ n) : Ev (fun k => spec_LeastWatch.f k (n : Int)) (r, true) := by
  refine Ev.congr (f := fun k => spec_LeastWatch.l0 k (n : Int) ((1 : Nat) : Int)) (fun k => ?_) (sleast_ev h1 h6 h hk _ 1 rfl (Nat.le_refl _) h.pos)
  unfold spec_LeastWatch.f
  rw [in_f]
  have a : (1 : Int) ≤ (n : Int) := by omega
  have b : (n : Int) ≤ 6 := by omega
  simp [a, b]
theorem sleast_out (n : Nat) (h : ¬ (1 ≤ n ∧ n ≤ 6)) : Ev (fun k => spec_LeastWatch.f k (n : Int)) (([] : List (List Int)), false) := by
  refine Ev.congr (f := fun k => some (([] : List (List Int)), false)) (fun k => ?_) (Ev.now _)
  unfold spec_LeastWatch.f
  rw [in_f]
  by_cases a : (1 : Int) ≤ (n : Int)
  · have b : ¬ (n : Int) ≤ 6 := by omega
    simp [a, b]
  · simp [a]
theorem ileast_in (n : Nat) (h1 : 1 ≤ n) (h6 : n ≤ 6) {r : List (List Int)} (h : lwLoop n 40 1 = some r) : impl_LeastWatch.f (n : Int) = some (r, true) := by
  unfold impl_LeastWatch.f
  rw [if_pos (by omega), Int.toNat_natCast, h]
  rfl
theorem ileast_out (n : Nat) (h : ¬ (1 ≤ n ∧ n ≤ 6)) : impl_LeastWatch.f (n : Int) = some ([], false) := by
  unfold impl_LeastWatch.f
  rw [if_neg (by omega)]
theorem same_ev (x : List Int) (hx : x.length ≤ 1000) : ∀ d i, x.length - i = d → i ≤ x.length → Ev (fun k => laws_kSame.l0 k x x (x.length : Int) (i : Int)) true := by
  intro d
  induction d with
  | zero =>
    intro i hd hi
    obtain rfl : i = x.length := by omega
    exact Ev.step (f := fun k => some true) (fun k => by simp only [laws_kSame.l0]; rw [if_neg (Int.lt_irrefl _)]) (Ev.now _)
  | succ d ih =>
    intro i hd hi
    exact Ev.step (f := fun k => laws_kSame.l0 k x x (x.length : Int) ((i + 1 : Nat) : Int)) (fun k => by simp only [laws_kSame.l0]; rw [if_pos (by omega), if_pos (by omega), if_pos (by omega), if_pos (by omega), if_pos trivial, wr64 ((i : Int) + 1) (by omega) (by omega)]; rfl) (ih (i + 1) (by omega) (by omega))
theorem same_f (x : List Int) (hx : x.length ≤ 1000) : Ev (fun k => laws_kSame.f k x x) true := by
  refine Ev.congr (fun k => ?_) (same_ev x hx _ 0 rfl (Nat.zero_le _))
  unfold laws_kSame.f
  rw [if_pos rfl]
  rfl
theorem rows_ev (l : List (List Int)) (hl : l.length ≤ 1000) (hx : ∀ x ∈ l, x.length ≤ 1000) : ∀ d i, l.length - i = d → i ≤ l.length → Ev (fun k => laws_kRows.l0 k l l (l.length : Int) (i : Int)) true := by
  intro d
  induction d with
  | zero =>
    intro i hd hi
    obtain rfl : i = l.length := by omega
    exact Ev.step (f := fun k => some true) (fun k => by simp only [laws_kRows.l0]; rw [if_neg (Int.lt_irrefl _)]) (Ev.now _)
  | succ d ih =>
    intro i hd hi
    have hmem : rd_L1 l (i : Int) ∈ l := by rw [rd_L1_get l i (by omega)]; exact List.getElem_mem _
    refine Ev.step (f := fun k => (laws_kSame.f k (rd_L1 l (i : Int)) (rd_L1 l (i : Int))).bind fun t => if t = true then laws_kRows.l0 k l l (l.length : Int) ((i + 1 : Nat) : Int) else some false) (fun k => by simp only [laws_kRows.l0]; rw [if_pos (by omega), if_pos (by omega), if_pos (by omega), if_pos (by omega), wr64 ((i : Int) + 1) (by omega) (by omega)]; rfl) (Ev.bind (same_f _ (hx _ hmem)) ?_)
    simpa using ih (i + 1) (by omega) (by omega)
theorem rows_f (l : List (List Int)) (hl : l.length ≤ 1000) (hx : ∀ x ∈ l, x.length ≤ 1000) : Ev (fun k => laws_kRows.f k l l) true := by
  refine Ev.congr (fun k => ?_) (rows_ev l hl hx _ 0 rfl (Nat.zero_le _))
  unfold laws_kRows.f
  rw [if_pos rfl]
  rfl
/-- Short lists of short lists. -/
def Short (l : List (List Int)) : Prop := l.length ≤ 20 ∧ ∀ x ∈ l, x.length ≤ 2
theorem draw2_ev {c : List Int} (hc : Bytes c) (m : Nat) (l : List (List Int)) (hl : l.length ≤ 15) (hx : ∀ x ∈ l, x.length ≤ 2) (s1 s2 : Int) (h0 : 0 ≤ s1) (h1 : s1 ≤ 1000000000) : ∃ l', Ev (fun k => spec_DrawAreWatching.j2 k (m : Int) l c s1 s2) ((m : Int), l') ∧ Short l' := by
  obtain ⟨v, t1, t2, e, v0, _, t0, t3⟩ := pick_ok hc s1 s2 14 h0 (by omega)
  have hsnoc : ∀ y : List Int, y.length ≤ 2 → Short (l ++ [y]) := fun y hy => ⟨by simp; omega, fun x h => by
    rw [List.mem_append] at h
    rcases h with h | h
    · exact hx x h
    · rw [List.mem_singleton.1 h]; exact hy⟩
  by_cases c0 : v = 0
  · refine ⟨l ++ [[0]], Ev.step (f := fun k => some ((m : Int), l ++ [[0]])) (fun k => ?_) (Ev.now _), hsnoc _ (by simp)⟩
    simp only [spec_DrawAreWatching.j2]
    rw [e]
    simp only [Option.bind_some]
    rw [if_pos c0, if_pos (by omega)]
  · by_cases c1 : v = 1
    · obtain ⟨u, u1, u2, e2, _, _, _⟩ := among_ok hc t1 t2 [-1, (m : Int), 4611686018427387904] (by simp) t0 (by omega)
      refine ⟨l ++ [[u, 0]], Ev.step (f := fun k => some ((m : Int), l ++ [[u, 0]])) (fun k => ?_) (Ev.now _), hsnoc _ (by simp)⟩
      simp only [spec_DrawAreWatching.j2]
      rw [e]
      simp only [Option.bind_some]
      rw [if_neg c0, if_pos c1, e2]
      simp only [Option.bind_some]
      rw [if_pos (by omega)]
    · refine ⟨l, Ev.step (f := fun k => some ((m : Int), l)) (fun k => ?_) (Ev.now _), ⟨by omega, hx⟩⟩
      simp only [spec_DrawAreWatching.j2]
      rw [e]
      simp only [Option.bind_some]
      rw [if_neg c0, if_neg c1]
theorem draw1_ev {c : List Int} (hc : Bytes c) (m : Nat) (l p : List (List Int)) (b : Bool) (hl : l.length ≤ 15) (hx : ∀ x ∈ l, x.length ≤ 2) (hp : p.length ≤ 15) (hpx : ∀ x ∈ p, x.length ≤ 2) (s1 s2 : Int) (h0 : 0 ≤ s1) (h1 : s1 ≤ 1000000000) : ∃ l', Ev (fun k => spec_DrawAreWatching.j1 k (m : Int) l p b c s1 s2) ((m : Int), l') ∧ Short l' := by
  cases b
  · obtain ⟨l', h, hs⟩ := draw2_ev hc m l hl hx s1 s2 h0 h1
    exact ⟨l', Ev.step (fun k => by simp only [spec_DrawAreWatching.j1]; rw [if_neg (by simp)]) h, hs⟩
  · obtain ⟨l', h, hs⟩ := draw2_ev hc m p hp hpx s1 s2 h0 h1
    exact ⟨l', Ev.step (fun k => by simp only [spec_DrawAreWatching.j1]; rw [if_pos trivial]) h, hs⟩
theorem draw0_ev {c : List Int} (hc : Bytes c) (m : Nat) : ∀ (cnt : Nat) (l : List (List Int)) (s1 s2 : Int), l.length + cnt ≤ 10 → (∀ x ∈ l, x.length ≤ 2) → 0 ≤ s1 → s1 + 4 * cnt ≤ 900000000 → ∃ l', Ev (fun k => spec_DrawAreWatching.l0 k (m : Int) l (cnt : Int) c s1 s2) ((m : Int), l') ∧ Short l' := by
  intro cnt
  induction cnt with
  | zero =>
    intro l s1 s2 hl hx h0 h1
    by_cases hm : 1 ≤ m ∧ m ≤ 6
    · obtain ⟨r, kk, _, hL, _, hk⟩ := least_ok m hm.1 hm.2
      obtain ⟨b, t1, t2, e, t0, t3⟩ := one_ok hc s1 s2 3 h0 (by omega)
      obtain ⟨l', h, hs⟩ := draw1_ev hc m l r b (by omega) hx (by rw [hL.length]; omega) (fun x hx => by rw [(hL.pl x hx).1]; exact Nat.le_refl _) t1 t2 t0 (by omega)
      refine ⟨l', Ev.step (f := fun k => (spec_LeastWatch.f k (m : Int)).bind fun t => if t.2 = true then (spec_l1Cur_one.f c s1 s2 3).bind fun o => spec_DrawAreWatching.j1 k (m : Int) l t.1 o.1 c o.2.1 o.2.2 else spec_DrawAreWatching.j1 k (m : Int) l t.1 false c s1 s2) (fun k => by simp only [spec_DrawAreWatching.l0]; rw [if_neg (by simp)]) (Ev.bind (sleast_in m hm.1 hm.2 hL hk) ?_), hs⟩
      simpa [e] using h
    · obtain ⟨l', h, hs⟩ := draw1_ev hc m l [] false (by omega) hx (by simp) (fun x hx => by cases hx) s1 s2 h0 (by omega)
      refine ⟨l', Ev.step (f := fun k => (spec_LeastWatch.f k (m : Int)).bind fun t => if t.2 = true then (spec_l1Cur_one.f c s1 s2 3).bind fun o => spec_DrawAreWatching.j1 k (m : Int) l t.1 o.1 c o.2.1 o.2.2 else spec_DrawAreWatching.j1 k (m : Int) l t.1 false c s1 s2) (fun k => by simp only [spec_DrawAreWatching.l0]; rw [if_neg (by simp)]) (Ev.bind (sleast_out m hm) ?_), hs⟩
      simpa using h
  | succ cnt ih =>
    intro l s1 s2 hl hx h0 h1
    obtain ⟨a, t1, t2, e, _, _, t0, t3⟩ := pick_ok hc s1 s2 (m : Int) h0 (by omega)
    obtain ⟨b, u1, u2, e2, _, _, u0, u3⟩ := pick_ok hc t1 t2 (m : Int) t0 (by omega)
    obtain ⟨l', h, hs⟩ := ih (l ++ [[a, b]]) u1 u2 (by simp; omega) (fun x h => by
      rw [List.mem_append] at h
      rcases h with h | h
      · exact hx x h
      · rw [List.mem_singleton.1 h]; simp) u0 (by omega)
    refine ⟨l', Ev.step (fun k => ?_) h, hs⟩
    simp only [spec_DrawAreWatching.l0]
    rw [if_pos (by omega), e]
    simp only [Option.bind_some]
    rw [e2]
    simp only [Option.bind_some]
    rw [if_pos (by omega), wr64 (((cnt + 1 : Nat) : Int) - 1) (by omega) (by omega), show ((cnt + 1 : Nat) : Int) - 1 = (cnt : Int) by omega]
theorem draw_ev {c : List Int} (hc : Bytes c) : ∃ (m : Nat) (l' : List (List Int)), m ≤ 9 ∧ Ev (fun k => spec_DrawAreWatching.f k c) ((m : Int), l') ∧ Short l' := by
  obtain ⟨m', t1, t2, e, hm, t0, t3⟩ := among_ok hc 0 0 [1, 2, 3, 4, 5, 6, 8, 9] (by simp) (Int.le_refl _) (by omega)
  have hm9 : 1 ≤ m' ∧ m' ≤ 9 := by
    simp only [List.mem_cons, List.not_mem_nil, or_false] at hm
    omega
  obtain ⟨m, rfl⟩ : ∃ m : Nat, m' = m := ⟨m'.toNat, by omega⟩
  obtain ⟨t, et, ht0, ht5⟩ : ∃ t : Int, spec_l1Least.f (m : Int) 5 = some t ∧ 0 ≤ t ∧ t ≤ 5 := by
    unfold spec_l1Least.f
    by_cases h : (m : Int) < 5
    · exact ⟨m, if_pos h, by omega, by omega⟩
    · exact ⟨5, if_neg h, by omega, by omega⟩
  obtain ⟨v, u1, u2, e2, v0, v1, u0, u3⟩ := pick_ok hc t1 t2 (t + 1) t0 (by omega)
  have hv := v1 (by omega)
  obtain ⟨cnt, rfl⟩ : ∃ n : Nat, v = n := ⟨v.toNat, by omega⟩
  obtain ⟨l', h, hs⟩ := draw0_ev hc m cnt [] u1 u2 (by simp; omega) (fun x hx => by cases hx) u0 (by omega)
  refine ⟨m, l', by omega, Ev.congr (fun k => ?_) h, hs⟩
  unfold spec_DrawAreWatching.f
  rw [e]
  simp only [Option.bind_some]
  rw [et]
  simp only [Option.bind_some]
  rw [wr64 (t + 1) (by omega) (by omega), e2]
  rfl
theorem j4_ev (m : Nat) (l : List (List Int)) (hl : l.length ≤ 20) : Ev (fun k => laws_FnQueensWatch.j4 k (m : Int) l (areW m l).1 false) true := by
  cases e : (areW m l).1
  · exact Ev.step (f := fun k => some true) (fun k => by simp only [laws_FnQueensWatch.j4]; rw [if_neg (by simp), if_neg (by simp)]) (Ev.now _)
  · by_cases h6 : m ≤ 6
    · have hcond : 1 ≤ (m : Int) ∧ (m : Int) ≤ 8 ∧ (l.length : Int) ≤ m ∧ l.any (badPlace (m : Int)) = false := by
        unfold areW at e
        by_cases h : 1 ≤ (m : Int) ∧ (m : Int) ≤ 8 ∧ (l.length : Int) ≤ m ∧ l.any (badPlace (m : Int)) = false
        · exact h
        · rw [if_neg h] at e; cases e
      have hs : allSeen m l = true := by
        unfold areW at e
        rw [if_pos hcond] at e
        exact e
      obtain ⟨r, kk, hlp, hL, _, _⟩ := least_ok m (by omega) h6
      have hle := hL.any (by omega) h6 ((places_iff m l).1 hcond.2.2.2) hs
      refine Ev.step (f := fun k => some true) (fun k => ?_) (Ev.now _)
      simp only [laws_FnQueensWatch.j4]
      rw [if_neg (by simp), if_pos trivial, if_pos (by omega), ileast_in m (by omega) h6 hlp]
      simp only [Option.bind_some]
      rw [if_pos trivial]
      have : decide ((l.length : Int) ≥ (r.length : Int)) = true := decide_eq_true (by rw [hL.length]; omega)
      rw [this]
    · exact Ev.step (f := fun k => some true) (fun k => by simp only [laws_FnQueensWatch.j4]; rw [if_neg (by simp), if_pos trivial, if_neg (by omega)]) (Ev.now _)
theorem j3_ev {c : List Int} (hc : Bytes c) : Ev (fun k => laws_FnQueensWatch.j3 k c) true := by
  obtain ⟨m, l, hm, hd, hs⟩ := draw_ev hc
  have hw := areW_ev m (by omega) l (by have := hs.1; omega) (fun x hx => by have := hs.2 x hx; omega)
  refine Ev.step (f := fun k => (spec_DrawAreWatching.f k c).bind fun t => (impl_AreWatching.f t.1 t.2).bind fun u => (spec_AreWatching.f k t.1 t.2).bind fun v => if (u.2 != v.2) = true then laws_FnQueensWatch.j4 k t.1 t.2 u.1 true else laws_FnQueensWatch.j4 k t.1 t.2 u.1 (u.1 != v.1)) (fun k => by simp only [laws_FnQueensWatch.j3]) (Ev.bind hd ?_)
  refine Ev.congr (f := fun k => (spec_AreWatching.f k (m : Int) l).bind fun v => if ((areW m l).2 != v.2) = true then laws_FnQueensWatch.j4 k (m : Int) l (areW m l).1 true else laws_FnQueensWatch.j4 k (m : Int) l (areW m l).1 ((areW m l).1 != v.1)) (fun k => by simp only [areW_impl, Option.bind_some]) (Ev.bind hw ?_)
  simp only [bne_self_eq_false, Bool.false_eq_true, if_false]
  exact j4_ev m l hs.1
theorem l0_law {c : List Int} (hc : Bytes c) {n kk : Nat} {r : List (List Int)} (h1 : 1 ≤ n) (h6 : n ≤ 6) (hL : Least n kk r) (hk : kk ≤ n) : ∀ d i, r.length - i = d → i ≤ r.length → Ev (fun k => laws_FnQueensWatch.l0 k c (n : Int) r (r.length : Int) (i : Int)) true := by
  have hlen := hL.length
  intro d
  induction d with
  | zero =>
    intro i hd hi
    obtain rfl : i = r.length := by omega
    exact Ev.step (fun k => by simp only [laws_FnQueensWatch.l0]; rw [if_neg (Int.lt_irrefl _)]) (j3_ev hc)
  | succ d ih =>
    intro i hd hi
    have hlt : i < r.length := by omega
    have hsub : (r.take i ++ r.drop (i + 1)).Sublist r := by
      have h1 : (r.take i ++ r.drop (i + 1)).Sublist (r.take i ++ r.drop i) := (List.Sublist.refl _).append (by rw [← List.tail_drop]; exact List.tail_sublist _)
      rwa [List.take_append_drop] at h1
    have hl2 : (r.take i ++ r.drop (i + 1)).length = r.length - 1 := by
      rw [List.length_append, List.length_take, List.length_drop]
      omega
    have hf := hL.fewer h1 (hsub.trans hL.sub) (by omega)
    have hw : areW n (r.take i ++ r.drop (i + 1)) = (false, true) := by
      unfold areW
      rw [if_pos ⟨by omega, by omega, by omega, (places_iff n _).2 (fun x hx => hL.pl x (hsub.subset hx))⟩, hf]
    have ha : (r.take i).length ≤ 6 := by rw [List.length_take]; omega
    have hb : (r.drop (i + 1)).length ≤ 6 := by rw [List.length_drop]; omega
    have hw1 : wrap64 ((i : Int) + 1) = ((i + 1 : Nat) : Int) := wr64 _ (by omega) (by omega)
    have hai := areW_impl n (r.take i ++ r.drop (i + 1))
    rw [hw] at hai
    clear hf hw hsub hl2
    refine Ev.step (fun k => ?_) (ih (i + 1) (by omega) (by omega))
    clear ih
    rw [laws_FnQueensWatch.l0]
    rw [hw1, Int.toNat_natCast, Int.toNat_natCast]
    generalize r.take i = u at ha hai
    generalize r.drop (i + 1) = v at hb hai
    simp only [Option.bind_some, List.nil_append, List.length_nil]
    rw [if_pos (by omega), if_pos (by omega), if_pos (by omega), if_pos (by omega), if_pos (by omega), if_pos (by omega), if_pos (by omega), hai]
    rfl
theorem FnQueensWatch : laws_FnQueensWatch.Pure := by
  intro l0 l1 _ _ hw0 _ _ hw1
  apply Ev.rounds
  obtain ⟨b, hb, hbig⟩ := big_ok l0 l1
  cases b with
  | true =>
    refine Ev.congr (f := fun _ => some true) (fun k => ?_) (Ev.now _)
    unfold laws_FnQueensWatch.f
    rw [hb]
    rfl
  | false =>
    obtain ⟨hl0, hl1⟩ := hbig rfl
    have c0 := bytes_of hl0 hw0
    have c1 := bytes_of hl1 hw1
    obtain ⟨n', t1, t2, e, hn, _, _⟩ := among_ok c0 0 0 [1, 2, 3, 4, 5, 6, 7, 0] (by simp) (Int.le_refl _) (by omega)
    have hn7 : 0 ≤ n' ∧ n' ≤ 7 := by
      simp only [List.mem_cons, List.not_mem_nil, or_false] at hn
      omega
    obtain ⟨n, rfl⟩ : ∃ n : Nat, n' = n := ⟨n'.toNat, by omega⟩
    have hdr : spec_DrawLeastWatch.f l0 = some (n : Int) := by
      unfold spec_DrawLeastWatch.f
      rw [e]
      rfl
    by_cases hin : 1 ≤ n ∧ n ≤ 6
    · obtain ⟨r, kk, hlp, hL, hk2, hk⟩ := least_ok n hin.1 hin.2
      have hlen := hL.length
      refine Ev.congr (f := fun k => (spec_LeastWatch.f k (n : Int)).bind fun t => if (true != t.2) = true then laws_FnQueensWatch.j0 k l1 (n : Int) r true true else (laws_kRows.f k r t.1).bind fun t => laws_FnQueensWatch.j0 k l1 (n : Int) r true (!t)) (fun k => ?_) (Ev.bind (sleast_in n hin.1 hin.2 hL hk) ?_)
      · unfold laws_FnQueensWatch.f
        rw [hb]
        simp only [Option.bind_some, Bool.false_eq_true, if_false]
        rw [hdr]
        simp only [Option.bind_some]
        rw [ileast_in n hin.1 hin.2 hlp]
        simp only [Option.bind_some]
      · simp only [bne_self_eq_false, Bool.false_eq_true, if_false]
        refine Ev.bind (rows_f r (by omega) (fun x hx => by rw [(hL.pl x hx).1]; omega)) ?_
        have hw : areW n r = (true, true) := by
          unfold areW
          rw [if_pos ⟨by omega, by omega, by omega, (places_iff n _).2 hL.pl⟩, hL.seen]
        have hq : wrap64 (Int.tdiv (wrap64 ((n : Int) + 2)) 2) = (((n + 2) / 2 : Nat) : Int) := by
          rw [wr64 ((n : Int) + 2) (by omega) (by omega), show ((n : Int) + 2) = ((n + 2 : Nat) : Int) from rfl, show Int.tdiv ((n + 2 : Nat) : Int) 2 = (((n + 2) / 2 : Nat) : Int) from rfl, wr64 _ (by omega) (by omega)]
        refine Ev.step (f := fun k => laws_FnQueensWatch.j1 k l1 (n : Int) r false) (fun k => ?_) (Ev.step (f := fun k => laws_FnQueensWatch.l0 k l1 (n : Int) r (r.length : Int) ((0 : Nat) : Int)) (fun k => ?_) (l0_law c1 hin.1 hin.2 hL hk _ 0 rfl (Nat.zero_le _)))
        · simp only [laws_FnQueensWatch.j0, Bool.not_true, Bool.false_eq_true, if_false, if_true]
          rw [areW_impl, hw, hq]
          simp only [Option.bind_some, if_true]
          rw [decide_eq_false (by omega)]
        · simp only [laws_FnQueensWatch.j1, Bool.false_eq_true, if_false]
          rfl
    · refine Ev.congr (f := fun k => (spec_LeastWatch.f k (n : Int)).bind fun t => if (false != t.2) = true then laws_FnQueensWatch.j0 k l1 (n : Int) [] false true else (laws_kRows.f k [] t.1).bind fun t => laws_FnQueensWatch.j0 k l1 (n : Int) [] false (!t)) (fun k => ?_) (Ev.bind (sleast_out n hin) ?_)
      · unfold laws_FnQueensWatch.f
        rw [hb]
        simp only [Option.bind_some, Bool.false_eq_true, if_false]
        rw [hdr]
        simp only [Option.bind_some]
        rw [ileast_out n hin]
        simp only [Option.bind_some]
      · simp only [bne_self_eq_false, Bool.false_eq_true, if_false]
        refine Ev.bind (rows_f [] (by simp) (fun x hx => by cases hx)) ?_
        exact Ev.step (fun k => by simp only [laws_FnQueensWatch.j0, Bool.not_true, Bool.false_eq_true, if_false]) (j3_ev c1)
end Go.Proofs.Ytgdaenffcldfnaa.Pure
