/- Contracts of the pivot, the patterns, pdqsort and SortFunc over rows of pairs. Conditions: as each theorem says. -/
import Derived.Test.YtbaoelfpmdmhjaaWalkB
import Derived.Test.YtbaoelfpmdmhjaaEngineD
import Derived.Sort.LotD3
import Derived.Sort.AssemblyPlain
set_option maxRecDepth 100000
set_option maxHeartbeats 2000000
namespace Go.Proofs.Ytbaoelfpmdmhjaa
open Go.Ai
/-! ### choosePivot: some place in the range, some hint -/
theorem choose_ok (d : Array PP) (a b : Nat) (hab : a + 12 < b) (hb : b ≤ d.size) (hn : d.size < 1000000000) :
    ∃ u g, a ≤ u ∧ u < b ∧ g ≤ 2 ∧ CallOk Try.prog C 52 [sl d.size, I a, I b, cmpF] (hOne (flatA d) 34 0) (.ret (.tuple #[I u, I g]) (hOne (flatA d) 34 0)) := by
  obtain ⟨n, hsz⟩ : ∃ n, d.size = n := ⟨_, rfl⟩
  by_cases h50 : 50 ≤ b - a
  · obtain ⟨u1, k1, hk1, hu1, hu1', c1⟩ := adjacent_ok d (a + (b - a) / 4 * 1) 0 (by omega) (by omega) hn (by omega)
    obtain ⟨u2, k2, hk2, hu2, hu2', c2⟩ := adjacent_ok d (a + (b - a) / 4 * 2) k1 (by omega) (by omega) hn (by omega)
    obtain ⟨u3, k3, hk3, hu3, hu3', c3⟩ := adjacent_ok d (a + (b - a) / 4 * 3) k2 (by omega) (by omega) hn (by omega)
    obtain ⟨u, k, hk, hu, cm⟩ := median_ok d u1 u2 u3 k3 (by omega) (by omega) (by omega) hn (by omega)
    refine ⟨u, if k = 0 then 1 else if k = 12 then 2 else 0, by omega, by omega, by split <;> (try split) <;> omega, ?_⟩
    refine drop1 rfl (low := 0) (h' := hCnt d k) (fam' := 0) ?_ rfl rfl (flatA_flat d) (flatA_flat d) rfl
    rw [hsz] at cm c1 c2 c3
    rw [hsz]
    rw [hsz] at hb hn
    have hq : IntKind.wrap .i64 (Int.tdiv ((b : Int) - a) 4) = (((b - a) / 4 : Nat) : Int) := wquo (b - a) 4 (by omega) rfl (by omega)
    refine fn_tb CF (n := 63) (res := [.tmp 8, .tmp 9]) (c := (codeOf Try.f52)) rfl ?_
    refine TB.seq (tb_wp CF.tt rfl ?_)
    refine TB.seq (tb_wp CF.tt rfl ?_)
    refine Or.inl (And.intro (inK_i64 (by first | omega | (simp only <;> omega) | (simp only [Array.size_setIfInBounds, Go.Ai.swp_size] <;> omega))) ?_)
    refine TB.seq (tb_wp CF.tt rfl ?_)
    refine TB.seq (tb_wp CF.tt rfl ?_)
    refine Or.inl (And.intro (inK_i64 (by rw [hq]; omega)) ?_)
    refine Or.inl (And.intro (inK_i64 (by rw [hq]; omega)) ?_)
    refine TB.seq (tb_wp CF.tt rfl ?_)
    refine Or.inl (And.intro (inK_i64 (by rw [hq]; omega)) ?_)
    refine Or.inl (And.intro (inK_i64 (by rw [hq]; omega)) ?_)
    refine cut_at (fun _ : Unit => ⟨tmOf 7 [(0, sl n), (3, cmpF), (10, I (b - a)), (11, cnt), (12, I (a + (b - a) / 4 * 1)), (13, I (a + (b - a) / 4 * 2)), (14, I (a + (b - a) / 4 * 3))], [], none, hCnt d 0⟩) (fun _ => True) (tb_wp CF.tt rfl ?_) ?_
    · refine Or.inl (And.intro (inK_i64 (by rw [hq]; omega)) ?_)
      refine Or.inl (And.intro (inK_i64 (by rw [hq]; omega)) ?_)
      refine ⟨(), trivial, weak_live ⟨rfl, rfl, (iv (by first | omega | (simp only <;> omega) | (simp only [Array.size_setIfInBounds, Go.Ai.swp_size] <;> omega))), rfl, iv ?_, iv ?_, iv ?_, trivial⟩ rfl rfl rfl⟩
      · rw [hq]; omega
      · rw [hq]; omega
      · rw [hq]; omega
    rintro ⟨⟩ -
    refine cut_at (fun _ : Unit => ⟨tmOf 7 [(13, I u), (11, cnt)], [], none, hCnt d k⟩) (fun _ => True) ?_ ?_
    rotate_left
    · rintro ⟨⟩ -
      refine tb_wp CF.tt rfl ?_
      refine And.intro (fun h3 => ?_) (fun h3 => ?_)
      · have h3 := of_decide_eq_true h3
        rw [if_pos (by omega)]
        exact ⟨rfl, rfl⟩
      · have h3 := of_decide_eq_false h3
        rw [if_neg (by omega)]
        refine And.intro (fun h4 => ?_) (fun h4 => ?_)
        · have h4 := of_decide_eq_true h4
          rw [if_pos (by omega)]
          exact ⟨rfl, rfl⟩
        · have h4 := of_decide_eq_false h4
          have h5 : ¬ k = 12 := by omega
          rw [if_neg h5]
          exact ⟨rfl, rfl⟩
    refine tb_wp CF.tt rfl ?_
    refine And.intro (fun h1 => ?_) (fun h1 => ?_)
    · refine And.intro (fun h2 => ?_) (fun h2 => ?_)
      · refine CallW.of c1 ?_
        refine CallW.of c2 ?_
        refine CallW.of c3 ?_
        refine CallW.of cm ?_
        exact ⟨(), trivial, weak_live ⟨rfl, rfl, trivial⟩ rfl rfl rfl⟩
      · have h2 := of_decide_eq_false h2
        omega
    · have h1 := of_decide_eq_false h1
      omega
  · obtain ⟨u, k, hk, hu, cm⟩ := median_ok d (a + (b - a) / 4 * 1) (a + (b - a) / 4 * 2) (a + (b - a) / 4 * 3) 0 (by omega) (by omega) (by omega) hn (by omega)
    refine ⟨u, if k = 0 then 1 else if k = 12 then 2 else 0, by omega, by omega, by split <;> (try split) <;> omega, ?_⟩
    refine drop1 rfl (low := 0) (h' := hCnt d k) (fam' := 0) ?_ rfl rfl (flatA_flat d) (flatA_flat d) rfl
    rw [hsz] at cm
    rw [hsz]
    rw [hsz] at hb hn
    have hq : IntKind.wrap .i64 (Int.tdiv ((b : Int) - a) 4) = (((b - a) / 4 : Nat) : Int) := wquo (b - a) 4 (by omega) rfl (by omega)
    refine fn_tb CF (n := 63) (res := [.tmp 8, .tmp 9]) (c := (codeOf Try.f52)) rfl ?_
    refine TB.seq (tb_wp CF.tt rfl ?_)
    refine TB.seq (tb_wp CF.tt rfl ?_)
    refine Or.inl (And.intro (inK_i64 (by first | omega | (simp only <;> omega) | (simp only [Array.size_setIfInBounds, Go.Ai.swp_size] <;> omega))) ?_)
    refine TB.seq (tb_wp CF.tt rfl ?_)
    refine TB.seq (tb_wp CF.tt rfl ?_)
    refine Or.inl (And.intro (inK_i64 (by rw [hq]; omega)) ?_)
    refine Or.inl (And.intro (inK_i64 (by rw [hq]; omega)) ?_)
    refine TB.seq (tb_wp CF.tt rfl ?_)
    refine Or.inl (And.intro (inK_i64 (by rw [hq]; omega)) ?_)
    refine Or.inl (And.intro (inK_i64 (by rw [hq]; omega)) ?_)
    refine cut_at (fun _ : Unit => ⟨tmOf 7 [(0, sl n), (3, cmpF), (10, I (b - a)), (11, cnt), (12, I (a + (b - a) / 4 * 1)), (13, I (a + (b - a) / 4 * 2)), (14, I (a + (b - a) / 4 * 3))], [], none, hCnt d 0⟩) (fun _ => True) (tb_wp CF.tt rfl ?_) ?_
    · refine Or.inl (And.intro (inK_i64 (by rw [hq]; omega)) ?_)
      refine Or.inl (And.intro (inK_i64 (by rw [hq]; omega)) ?_)
      refine ⟨(), trivial, weak_live ⟨rfl, rfl, (iv (by first | omega | (simp only <;> omega) | (simp only [Array.size_setIfInBounds, Go.Ai.swp_size] <;> omega))), rfl, iv ?_, iv ?_, iv ?_, trivial⟩ rfl rfl rfl⟩
      · rw [hq]; omega
      · rw [hq]; omega
      · rw [hq]; omega
    rintro ⟨⟩ -
    refine cut_at (fun _ : Unit => ⟨tmOf 7 [(13, I u), (11, cnt)], [], none, hCnt d k⟩) (fun _ => True) ?_ ?_
    rotate_left
    · rintro ⟨⟩ -
      refine tb_wp CF.tt rfl ?_
      refine And.intro (fun h3 => ?_) (fun h3 => ?_)
      · have h3 := of_decide_eq_true h3
        rw [if_pos (by omega)]
        exact ⟨rfl, rfl⟩
      · have h3 := of_decide_eq_false h3
        rw [if_neg (by omega)]
        refine And.intro (fun h4 => ?_) (fun h4 => ?_)
        · have h4 := of_decide_eq_true h4
          rw [if_pos (by omega)]
          exact ⟨rfl, rfl⟩
        · have h4 := of_decide_eq_false h4
          have h5 : ¬ k = 12 := by omega
          rw [if_neg h5]
          exact ⟨rfl, rfl⟩
    refine tb_wp CF.tt rfl ?_
    refine And.intro (fun h1 => ?_) (fun h1 => ?_)
    · refine And.intro (fun h2 => ?_) (fun h2 => ?_)
      · have h2 := of_decide_eq_true h2
        omega
      · refine CallW.of cm ?_
        exact ⟨(), trivial, weak_live ⟨rfl, rfl, trivial⟩ rfl rfl rfl⟩
    · have h1 := of_decide_eq_false h1
      omega
end Go.Proofs.Ytbaoelfpmdmhjaa
set_option maxRecDepth 100000
set_option maxHeartbeats 2000000
namespace Go.Proofs.Ytbaoelfpmdmhjaa
open Go.Ai
/-! ### bits.Len, nextPowerOfTwo, at small numbers -/
noncomputable def okPow (n : Nat) : Bool := match numOf (go C 400 (.call 67 [I n] (h00 4))) with
  | some (.u64, m) => decide (m = (m.toNat : Int)) && (Nat.ble 1 m.toNat && Nat.ble m.toNat (2 * n + (1 - n)))
  | _ => false
noncomputable def okLen (n : Nat) : Bool := match numOf (go C 400 (.call 37 [.int .u64 n] (h00 4))) with
  | some (.i64, m) => decide (m = (m.toNat : Int)) && Nat.ble m.toNat 64
  | _ => false
theorem pow_tab : allTo okPow 256 = true := by kernel_rfl
theorem len_tab : allTo okLen 256 = true := by kernel_rfl
theorem pow_ok (n : Nat) (hn : n < 256) : ∃ m, 1 ≤ m ∧ m ≤ 2 * n + (1 - n) ∧ ∀ h, CallOk Try.prog C 67 [I n] h (.ret (.int .u64 (m : Nat)) h) := by
  have h := allTo_ok pow_tab n hn
  unfold okPow at h
  split at h
  · rename_i m hm
    simp only [Bool.and_eq_true] at h
    obtain ⟨h', hgo⟩ := numOf_ok hm
    have e := of_decide_eq_true h.1
    refine ⟨m.toNat, Nat.le_of_ble_eq_true h.2.1, Nat.le_of_ble_eq_true h.2.2, ?_⟩
    rw [← e]
    exact pure_go CF rfl (k := 3) hgo rfl rfl
  · cases h
theorem len_ok (n : Nat) (hn : n < 256) : ∃ m, m ≤ 64 ∧ ∀ h, CallOk Try.prog C 37 [.int .u64 n] h (.ret (I m) h) := by
  have h := allTo_ok len_tab n hn
  unfold okLen at h
  split at h
  · rename_i m hm
    simp only [Bool.and_eq_true] at h
    obtain ⟨h', hgo⟩ := numOf_ok hm
    have e := of_decide_eq_true h.1
    refine ⟨m.toNat, Nat.le_of_ble_eq_true h.2, ?_⟩
    unfold I
    rw [← e]
    exact pure_go CF rfl (k := 3) hgo rfl rfl
  · cases h
end Go.Proofs.Ytbaoelfpmdmhjaa
set_option maxRecDepth 100000
set_option maxHeartbeats 2000000
namespace Go.Proofs.Ytbaoelfpmdmhjaa
open Go.Ai
open Go.Sort (swp PermIn)
/-! ### breakPatterns: it permutes what lies in the range -/
def hRnd (d : Array PP) (s : Int) : H := ⟨tree8 none (some (.cells (flatA d) 34 0 0)) (some (.cells [.int .u64 s] 84 2 0)) none none none none none, 3, 0⟩
def rnd : Value := .pointer (some ⟨2, 0, none⟩)
theorem next_ex (s : Int) : ∃ t, CallOk Try.prog C 68 [.pointer (some ⟨1, 0, none⟩)] (hOne [.int .u64 s] 84 0) (.ret (.int .u64 t) (hOne [.int .u64 t] 84 0)) := by
  apply Exists.intro
  refine fn_wp CF rfl (n := 33) (res := [.tmp 2]) (c := codeOf Try.f68) rfl ?_
  refine And.intro ?_ ?_
  · exact rfl
  · exact hp_of rfl rfl rfl
noncomputable def nx (s : Int) : Int := (next_ex s).choose
theorem next_ok (d : Array PP) (s : Int) : CallOk Try.prog C 68 [rnd] (hRnd d s) (.ret (.int .u64 (nx s)) (hRnd d (nx s))) :=
  frame1 rfl (next_ex s).choose_spec rfl (by simp [flat]) (by simp [flat]) (h := hRnd d s) (B := 2) (fam := 2) rfl rfl
noncomputable def nxs : Nat → Int → Int
  | 0, s => s
  | k + 1, s => nxs k (nx s)
theorem hp_ofR {h : H} {d : Array PP} {s : Int} (h1 : h.bl = tree8 none (some (.cells (flatA d) 34 0 0)) (some (.cells [.int .u64 s] 84 2 0)) none none none none none) (h2 : h.ctr = 3) (h3 : h.low = 0) : h = hRnd d s := by cases h; simp only at h1 h2 h3; subst h1; subst h2; subst h3; rfl
/-- where the other place lies -/
noncomputable def oth (L m : Nat) (s : Int) : Nat := if L ≤ (BitVec.ofInt 64 s &&& BitVec.ofInt 64 ((m : Int) - 1)).toNat then (BitVec.ofInt 64 s &&& BitVec.ofInt 64 ((m : Int) - 1)).toNat - L else (BitVec.ofInt 64 s &&& BitVec.ofInt 64 ((m : Int) - 1)).toNat
theorem oth_lt {L m : Nat} (s : Int) (hL : 1 ≤ L) (h1 : 1 ≤ m) (h2 : m ≤ 2 * L) (h3 : m < 100000) : oth L m s < L := by
  have := and_le s ((m : Int) - 1) (m - 1) (by omega) (by omega)
  unfold oth
  split <;> omega
noncomputable def brk (a L m : Nat) : Nat → Nat → Array PP → Int → Array PP
  | 0, _, d, _ => d
  | k + 1, i, d, s => brk a L m k (i + 1) (swp d i (a + oth L m (nx s))) (nx s)
theorem brk_perm {a L m : Nat} (hL : 1 ≤ L) (h1 : 1 ≤ m) (h2 : m ≤ 2 * L) (h3 : m < 100000) : ∀ (k i : Nat) (d : Array PP) (s : Int), a ≤ i → i + k ≤ a + L → a + L ≤ d.size → PermIn a (a + L) d (brk a L m k i d s)
  | 0, i, d, s, _, _, _ => Go.Sort.permIn_refl d a (a + L)
  | k + 1, i, d, s, hi, hk, hd => by
    have ho := oth_lt (nx s) hL h1 h2 h3
    refine Go.Sort.permIn_trans _ _ _ a (a + L) (Go.Sort.swp_permIn d a (a + L) i (a + oth L m (nx s)) (by omega) (by omega) (by omega) (by omega) hd) ?_
    exact brk_perm hL h1 h2 h3 k (i + 1) _ _ (by omega) (by omega) (by rw [swp_size]; exact hd)
theorem break_ok (d : Array PP) (a b : Nat) (hab : a + 12 < b) (hb : b ≤ d.size) (hn : d.size < 256) :
    ∃ d', PermIn a b d d' ∧ CallOk Try.prog C 51 [sl d.size, I a, I b, cmpF] (hOne (flatA d) 34 0) (.ret (.tuple #[]) (hOne (flatA d') 34 0)) := by
  obtain ⟨n, hsz⟩ : ∃ n, d.size = n := ⟨_, rfl⟩
  obtain ⟨L, rfl⟩ : ∃ L, b = a + L := ⟨b - a, by omega⟩
  obtain ⟨m, hm1, hm2, hpow⟩ := pow_ok L (by omega)
  have hq : IntKind.wrap .i64 (Int.tdiv (L : Int) 4) = ((L / 4 : Nat) : Int) := wquo L 4 (by omega) rfl (by omega)
  refine ⟨brk a L m 3 (a + L / 4 * 2 - 1) d (IntKind.wrap .u64 L), brk_perm (by omega) hm1 (by omega) (by omega) 3 _ d _ (by omega) (by omega) (by omega), ?_⟩
  refine drop1 rfl (low := 0) (h' := hRnd (brk a L m 3 (a + L / 4 * 2 - 1) d (IntKind.wrap .u64 L)) (nxs 3 (IntKind.wrap .u64 L))) (fam' := 0) ?_ rfl rfl (flatA_flat _) (flatA_flat _) rfl
  rw [hsz]
  rw [hsz] at hb hn
  refine fn_tb CF (n := 67) (res := []) (c := (codeOf Try.f51)) rfl ?_
  refine cut_at (fun _ : Unit => ⟨tmOf 8 [(0, sl n), (1, I a), (8, I L)], [], none, hOne (flatA d) 34 0⟩) (fun _ => True) (tb_wp CF.tt rfl ?_) ?_
  · refine Or.inl (And.intro (inK_i64 (by first | omega | (simp only <;> omega) | (simp only [Array.size_setIfInBounds, Go.Ai.swp_size] <;> omega))) ?_)
    exact ⟨(), trivial, weak_live ⟨rfl, rfl, (iv (by first | omega | (simp only <;> omega) | (simp only [Array.size_setIfInBounds, Go.Ai.swp_size] <;> omega))), trivial⟩ rfl rfl rfl⟩
  rintro ⟨⟩ -
  refine tb_wp CF.tt rfl ?_
  refine And.intro (fun h1 => ?_) (fun h1 => ?_)
  · refine CallW.of (hpow _) ?_
    refine Or.inl (And.intro (inK_i64 (by rw [hq]; omega)) ?_)
    refine Or.inl (And.intro (inK_i64 (by rw [hq]; omega)) ?_)
    refine Or.inl (And.intro (inK_i64 (by rw [hq]; omega)) ?_)
    refine loopT (fun x : Nat × Nat × Array PP × Int => ⟨tmOf 8 [(0, sl n), (1, I a), (8, I L), (9, rnd), (10, .int .u64 (m : Nat)), (11, I x.2.1)], [], none, hRnd x.2.2.1 x.2.2.2⟩) (3, a + L / 4 * 2 - 1, d, IntKind.wrap .u64 L)
      (weak_live ⟨rfl, rfl, rfl, rfl, rfl, iv ?_, trivial⟩ rfl rfl (hp_ofR rfl rfl rfl)) (fun x => x.1) (fun x => x.2.2.1.size = n ∧ x.1 + x.2.1 = a + L / 4 * 2 + 2 ∧ a ≤ x.2.1 ∧ x.1 ≤ 3 ∧ nxs x.1 x.2.2.2 = nxs 3 (IntKind.wrap .u64 L) ∧ brk a L m x.1 x.2.1 x.2.2.1 x.2.2.2 = brk a L m 3 (a + L / 4 * 2 - 1) d (IntKind.wrap .u64 L)) ?_ ?_
    · rw [hq]; simp only; omega
    · exact ⟨hsz, by simp only; omega, by simp only; omega, Nat.le_refl _, rfl, rfl⟩
    · rintro ⟨k, i, e, s⟩ ⟨he, hk, hai, hk3, hs, heq⟩
      simp only at he hk hai hk3 hs heq
      clear hsz
      refine TB.seq (tb_wp CF.tt rfl ?_)
      refine Or.inl (And.intro (inK_i64 (by rw [hq]; omega)) ?_)
      refine Or.inl (And.intro (inK_i64 (by rw [hq]; omega)) ?_)
      refine Or.inl (And.intro (inK_i64 (by rw [hq]; omega)) ?_)
      refine And.intro (fun h2 => ?_) (fun h2 => ?_)
      · have h2 := of_decide_eq_true h2
        rw [hq] at h2
        simp only at h2
        obtain ⟨k, rfl⟩ : ∃ j, k = j + 1 := ⟨k - 1, by omega⟩
        refine TB.seq (TB.block ?_)
        obtain ⟨r, hr⟩ : ∃ r, (BitVec.ofInt 64 (nx s) &&& BitVec.ofInt 64 ((m : Int) - 1)).toNat = r := ⟨_, rfl⟩
        have hrm : r ≤ m - 1 := by rw [← hr]; exact and_le _ _ (m - 1) (by omega) (by omega)
        have ho : oth L m (nx s) = if L ≤ r then r - L else r := by unfold oth; rw [hr]
        refine cut_at (fun _ : Unit => ⟨tmOf 8 [(0, sl n), (1, I a), (8, I L), (9, rnd), (10, .int .u64 (m : Nat)), (11, I i), (12, I r)], [], none, hRnd e (nx s)⟩) (fun _ => True) (tb_wp CF.tt rfl ?_) ?_
        · refine CallW.of (next_ok e s) ?_
          refine Or.inl (And.intro (inK_u64 (by omega)) ?_)
          refine ⟨(), trivial, weak_live ⟨rfl, rfl, rfl, rfl, rfl, rfl, iv ?_, trivial⟩ rfl rfl rfl⟩
          show IntKind.wrap .i64 (IntKind.wrap .u64 ((BitVec.ofInt 64 (nx s) &&& BitVec.ofInt 64 ((m : Int) - 1)).toNat : Int)) = _
          rw [hr, inK_u64 (by omega), inK_i64 (by omega)]
        rintro ⟨⟩ -
        refine cut_at (fun _ : Unit => ⟨tmOf 8 [(0, sl n), (1, I a), (8, I L), (9, rnd), (10, .int .u64 (m : Nat)), (11, I i), (12, I (oth L m (nx s)))], [], none, hRnd e (nx s)⟩) (fun _ => True) (tb_wp CF.tt rfl ?_) ?_
        · rw [ho]
          refine And.intro (fun h3 => ?_) (fun h3 => ?_)
          · have h3 := of_decide_eq_true h3
            refine Or.inl (And.intro (inK_i64 (by first | omega | (simp only <;> omega) | (simp only [Array.size_setIfInBounds, Go.Ai.swp_size] <;> omega))) ?_)
            rw [if_pos (by omega)]
            exact ⟨(), trivial, weak_live ⟨rfl, rfl, rfl, rfl, rfl, rfl, (iv (by first | omega | (simp only <;> omega) | (simp only [Array.size_setIfInBounds, Go.Ai.swp_size] <;> omega))), trivial⟩ rfl rfl rfl⟩
          · have h3 := of_decide_eq_false h3
            rw [if_neg (by omega)]
            exact ⟨(), trivial, weak_live ⟨rfl, rfl, rfl, rfl, rfl, rfl, rfl, trivial⟩ rfl rfl rfl⟩
        rintro ⟨⟩ -
        have hol := oth_lt (nx s) (L := L) (by omega) hm1 (by omega) (by omega)
        obtain ⟨o, hoo⟩ : ∃ o, oth L m (nx s) = o := ⟨_, rfl⟩
        rw [hoo] at hol
        rw [hoo]
        refine tb_wp CF.tt rfl ?_
        refine Or.inl (And.intro (inK_i64 (by first | omega | (simp only <;> omega) | (simp only [Array.size_setIfInBounds, Go.Ai.swp_size] <;> omega))) ?_)
        refine Or.inl (And.intro (inK_i64 (by first | omega | (simp only <;> omega) | (simp only [Array.size_setIfInBounds, Go.Ai.swp_size] <;> omega))) ?_)
        apply nxW_of
        · exact idx_pair (a + o) rfl rfl rfl rfl rfl rfl (by first | omega | (simp only <;> omega) | (simp only [Array.size_setIfInBounds, Go.Ai.swp_size] <;> omega)) (by first | omega | (simp only <;> omega) | (simp only [Array.size_setIfInBounds, Go.Ai.swp_size] <;> omega))
        apply nxW_of
        · exact load_pair (e) (a + o) rfl rfl rfl rfl rfl (by first | omega | (simp only <;> omega) | (simp only [Array.size_setIfInBounds, Go.Ai.swp_size] <;> omega))
        apply nxW_of
        · exact idx_pair (i) rfl rfl rfl rfl rfl rfl (by first | omega | (simp only <;> omega) | (simp only [Array.size_setIfInBounds, Go.Ai.swp_size] <;> omega)) (by first | omega | (simp only <;> omega) | (simp only [Array.size_setIfInBounds, Go.Ai.swp_size] <;> omega))
        apply nxW_of
        · exact load_pair (e) (i) rfl rfl rfl rfl rfl (by first | omega | (simp only <;> omega) | (simp only [Array.size_setIfInBounds, Go.Ai.swp_size] <;> omega))
        apply nxW_of
        · exact idx_pair (i) rfl rfl rfl rfl rfl rfl (by first | omega | (simp only <;> omega) | (simp only [Array.size_setIfInBounds, Go.Ai.swp_size] <;> omega)) (by first | omega | (simp only <;> omega) | (simp only [Array.size_setIfInBounds, Go.Ai.swp_size] <;> omega))
        apply nxW_of
        · exact store_pair (e) (i) (e[a + o]!) rfl rfl rfl rfl rfl (by first | omega | (simp only <;> omega) | (simp only [Array.size_setIfInBounds, Go.Ai.swp_size] <;> omega))
        apply nxW_of
        · exact idx_pair (a + o) rfl rfl rfl rfl rfl rfl (by first | omega | (simp only <;> omega) | (simp only [Array.size_setIfInBounds, Go.Ai.swp_size] <;> omega)) (by first | omega | (simp only <;> omega) | (simp only [Array.size_setIfInBounds, Go.Ai.swp_size] <;> omega))
        apply nxW_of
        · exact store_pair (e.setIfInBounds i e[a + o]!) (a + o) (e[i]!) rfl rfl rfl rfl rfl (by first | omega | (simp only <;> omega) | (simp only [Array.size_setIfInBounds, Go.Ai.swp_size] <;> omega))
        refine tb_wp CF.tt rfl ?_
        refine Or.inl (And.intro (inK_i64 (by first | omega | (simp only <;> omega) | (simp only [Array.size_setIfInBounds, Go.Ai.swp_size] <;> omega))) ?_)
        refine ⟨(k, i + 1, swp e i (a + o), nx s), ⟨by simp only [swp_size]; exact he, by simp only; omega, by simp only; omega, by simp only; omega, by simp only; rw [← hs]; rfl, ?_⟩, weak_live ⟨rfl, rfl, rfl, rfl, rfl, (iv (by first | omega | (simp only <;> omega) | (simp only [Array.size_setIfInBounds, Go.Ai.swp_size] <;> omega))), trivial⟩ rfl rfl (hp_ofR rfl rfl rfl), by simp only; omega⟩
        simp only
        rw [← heq, ← hoo]
        rfl
      · have h2 := of_decide_eq_false h2
        rw [hq] at h2
        have hk0 : k = 0 := by simp only at h2; omega
        subst hk0
        have e1 : s = nxs 3 (IntKind.wrap .u64 L) := hs
        have e2 : e = brk a L m 3 (a + L / 4 * 2 - 1) d (IntKind.wrap .u64 L) := heq
        rw [← e1, ← e2]
        exact ⟨rfl, rfl⟩
  · have h1 := of_decide_eq_false h1
    omega
end Go.Proofs.Ytbaoelfpmdmhjaa
set_option maxRecDepth 100000
set_option maxHeartbeats 2000000
namespace Go.Proofs.Ytbaoelfpmdmhjaa
open Go.Ai
open Go.Sort (swp PermIn SortedIn Below insertionSort heapSort partialInsertionSort reverseRange SWO)
/-! ### pdqsort: a sorted permutation -/
theorem swoP : SWO ltP where
  irrefl x := by simp [ltP]
  trans x y z h1 h2 := by simp only [ltP, decide_eq_true_eq] at *; omega
  ntrans x y z h1 h2 := by simp only [ltP, decide_eq_false_iff_not] at *; omega
noncomputable def pdqB : Code := loopBd (codeOf Try.f36)
noncomputable def pdqS (n : Nat) (d : Array PP) (a b l : Nat) (wb wp : Bool) : St := ⟨tmOf 9 [(0, sl n), (1, I a), (2, I b), (3, I l), (4, cmpF), (10, .bool wb), (11, .bool wp)], [], none, hOne (flatA d) 34 0⟩
theorem pdq_fn {n : Nat} {d d' : Array PP} {a b l : Nat} (h : LB Try.prog C (hOne (flatA d) 34 0) none pdqB (pdqS n d a b l true true) (endQ C (hOne (flatA d') 34 0))) :
    CallOk Try.prog C 36 [sl n, I a, I b, I l, cmpF] (hOne (flatA d) 34 0) (.ret (.tuple #[]) (hOne (flatA d') 34 0)) := by
  refine fn_tb CF (n := 148) (res := []) (c := (codeOf Try.f36)) rfl ?_
  refine TB.seq (tb_wp CF.tt rfl ?_)
  refine TB.seq (tb_wp CF.tt rfl ?_)
  refine TB.block ?_
  refine TB.ofLB ?_
  refine LB.weak (s1 := pdqS n d a b l true true) (weak_live ⟨rfl, rfl, rfl, rfl, rfl, rfl, rfl, trivial⟩ rfl rfl rfl) ?_
  refine LB.mono h ?_
  intro e s q
  cases e with
  | ret => exact q
  | normal => exact q.elim
  | exit i => exact q.elim
  | panic c => exact q.elim
theorem pdq_loop (n : Nat) (hn : n < 256) : ∀ (m : Nat) (d : Array PP) (a b l : Nat) (wb wp : Bool), b - a = m → a ≤ b → b ≤ n → d.size = n → l ≤ 64 → Below ltP a b d →
    ∃ d', PermIn a b d d' ∧ SortedIn ltP a b d' ∧ ∀ h0, LB Try.prog C h0 none pdqB (pdqS n d a b l wb wp) (endQ C (hOne (flatA d') 34 0)) := by
  intro m
  induction m using Nat.strongRecOn with
  | _ m ih =>
  intro d a b l wb wp hm hab hbn hd hl hB
  have hrec : ∀ (d : Array PP) (a b l : Nat), b - a < m → a ≤ b → b ≤ n → d.size = n → l ≤ 64 → Below ltP a b d → ∃ d', PermIn a b d d' ∧ SortedIn ltP a b d' ∧
      CallOk Try.prog C 36 [sl n, I a, I b, I l, cmpF] (hOne (flatA d) 34 0) (.ret (.tuple #[]) (hOne (flatA d') 34 0)) := by
    intro d a b l h1 h2 h3 h4 h5 h6
    obtain ⟨d', p1, p2, p3⟩ := ih _ h1 d a b l true true rfl h2 h3 h4 h5 h6
    exact ⟨d', p1, p2, pdq_fn (p3 _)⟩
  by_cases h12 : b - a ≤ 12
  · obtain ⟨p1, p2⟩ := Go.Sort.insertionSort_holds swoP d a b hab (by omega)
    refine ⟨insertionSort ltP d a b, p1, p2, fun h0 => ?_⟩
    have hc := insertion_ok d a b hab (by omega) (by omega)
    rw [hd] at hc
    refine LB.next ?_
    refine TB.block ?_
    refine cut_at (fun _ : Unit => ⟨tmOf 9 [(0, sl n), (1, I a), (2, I b), (3, I l), (4, cmpF), (10, .bool wb), (11, .bool wp), (12, I (b - a))], [], none, hOne (flatA d) 34 0⟩) (fun _ => True) (tb_wp CF.tt rfl ?_) ?_
    · refine Or.inl (And.intro (inK_i64 (by first | omega | (simp only <;> omega) | (simp only [Array.size_setIfInBounds, Go.Ai.swp_size] <;> omega))) ?_)
      exact ⟨(), trivial, weak_live ⟨rfl, rfl, rfl, rfl, rfl, rfl, rfl, (iv (by first | omega | (simp only <;> omega) | (simp only [Array.size_setIfInBounds, Go.Ai.swp_size] <;> omega))), trivial⟩ rfl rfl rfl⟩
    rintro ⟨⟩ -
    refine TB.seq (tb_wp CF.tt rfl ?_)
    refine And.intro (fun _ => ?_) (fun h => absurd (of_decide_eq_false h) (by first | omega | (simp only <;> omega) | (simp only [Array.size_setIfInBounds, Go.Ai.swp_size] <;> omega)))
    refine CallW.of hc ?_
    exact ⟨rfl, rfl⟩
  by_cases hl0 : l = 0
  · obtain ⟨p1, p2⟩ := Go.Sort.heapSort_holds swoP d a b hab (by omega)
    refine ⟨heapSort ltP d a b, p1, p2, fun h0 => ?_⟩
    have hc := heap_ok d a b (by omega) (by omega) (by omega)
    rw [hd] at hc
    refine LB.next ?_
    refine TB.block ?_
    refine cut_at (fun _ : Unit => ⟨tmOf 9 [(0, sl n), (1, I a), (2, I b), (3, I l), (4, cmpF), (10, .bool wb), (11, .bool wp), (12, I (b - a))], [], none, hOne (flatA d) 34 0⟩) (fun _ => True) (tb_wp CF.tt rfl ?_) ?_
    · refine Or.inl (And.intro (inK_i64 (by first | omega | (simp only <;> omega) | (simp only [Array.size_setIfInBounds, Go.Ai.swp_size] <;> omega))) ?_)
      exact ⟨(), trivial, weak_live ⟨rfl, rfl, rfl, rfl, rfl, rfl, rfl, (iv (by first | omega | (simp only <;> omega) | (simp only [Array.size_setIfInBounds, Go.Ai.swp_size] <;> omega))), trivial⟩ rfl rfl rfl⟩
    rintro ⟨⟩ -
    refine TB.seq (tb_wp CF.tt rfl ?_)
    refine And.intro (fun h => absurd (of_decide_eq_true h) (by first | omega | (simp only <;> omega) | (simp only [Array.size_setIfInBounds, Go.Ai.swp_size] <;> omega))) (fun _ => ?_)
    refine TB.seq (tb_wp CF.tt rfl ?_)
    refine And.intro (fun _ => ?_) (fun h => absurd (of_decide_eq_false h) (by first | omega | (simp only <;> omega) | (simp only [Array.size_setIfInBounds, Go.Ai.swp_size] <;> omega)))
    refine CallW.of hc ?_
    exact ⟨rfl, rfl⟩
  -- the patterns
  obtain ⟨d1, l1, hp1, hl1, hb1, hb2⟩ : ∃ d1 l1, PermIn a b d d1 ∧ l1 ≤ 64 ∧ (wb = true → d1 = d ∧ l1 = l) ∧ (wb = false → l1 + 1 = l ∧ CallOk Try.prog C 51 [sl n, I a, I b, cmpF] (hOne (flatA d) 34 0) (.ret (.tuple #[]) (hOne (flatA d1) 34 0))) := by
    cases wb with
    | true => exact ⟨d, l, Go.Sort.permIn_refl d a b, hl, fun _ => ⟨rfl, rfl⟩, fun h => (nomatch h)⟩
    | false =>
      obtain ⟨d1, h1, h2⟩ := break_ok d a b (by omega) (by omega) (by omega)
      rw [hd] at h2
      exact ⟨d1, l - 1, h1, by omega, fun h => (nomatch h), fun _ => ⟨by omega, h2⟩⟩
  have hd1 : d1.size = n := hp1.1.trans hd
  obtain ⟨u, g, hu1, hu2, hg, hcp⟩ := choose_ok d1 a b (by omega) (by omega) (by omega)
  rw [hd1] at hcp
  have hB1 := hB.perm (by omega) hp1
  -- the reversal
  obtain ⟨d2, p, g2, hp2, hpa, hpb, hg2, hr1, hr2⟩ : ∃ d2 p g2, PermIn a b d1 d2 ∧ a ≤ p ∧ p < b ∧ g2 ≤ 2 ∧ (g = 2 → g2 = 1 ∧ p + u + 1 = a + b ∧ CallOk Try.prog C 53 [sl n, I a, I b, cmpF] (hOne (flatA d1) 34 0) (.ret (.tuple #[]) (hOne (flatA d2) 34 0))) ∧ (g ≠ 2 → g2 = g ∧ p = u ∧ d2 = d1) := by
    by_cases h2 : g = 2
    · have hc := reverse_ok d1 a b (by omega) (by omega) (by omega) (by omega)
      rw [hd1] at hc
      exact ⟨reverseRange d1 a b, a + b - 1 - u, 1, Go.Sort.reverseRange_holds d1 a b hab (by omega), by omega, by omega, by omega, fun _ => ⟨rfl, by omega, hc⟩, fun h => absurd h2 h⟩
    · exact ⟨d1, u, g, Go.Sort.permIn_refl _ _ _, hu1, hu2, hg, fun h => absurd h h2, fun _ => ⟨rfl, rfl, rfl⟩⟩
  have hd2 : d2.size = n := hp2.1.trans hd1
  have hB2 := hB1.perm (by omega) hp2
  -- the try
  obtain ⟨d3, done, hp3, hd3s, ht1, ht2⟩ : ∃ d3 done, PermIn a b d2 d3 ∧ (done = true → SortedIn ltP a b d3) ∧ ((wb && wp && decide (g2 = 1)) = true → CallOk Try.prog C 54 [sl n, I a, I b, cmpF] (hOne (flatA d2) 34 0) (.ret (.bool done) (hOne (flatA d3) 34 0))) ∧ ((wb && wp && decide (g2 = 1)) = false → d3 = d2 ∧ done = false) := by
    cases hc : (wb && wp && decide (g2 = 1)) with
    | true =>
      have hq := partial_ok d2 a b (by omega) (by omega) (by omega)
      rw [hd2] at hq
      obtain ⟨q1, q2⟩ := Go.Sort.partialInsertionSort_holds swoP d2 a b (by omega) (by omega) hB2
      exact ⟨_, _, q1, q2, fun _ => hq, fun h => (nomatch h)⟩
    | false => exact ⟨d2, false, Go.Sort.permIn_refl _ _ _, fun h => (nomatch h), fun h => (nomatch h), fun _ => ⟨rfl, rfl⟩⟩
  have hd3 : d3.size = n := hp3.1.trans hd2
  have hB3 := hB2.perm (by omega) hp3
  have hp123 := Go.Sort.permIn_trans _ _ _ a b hp1 (Go.Sort.permIn_trans _ _ _ a b hp2 hp3)
  cases done with
  | true =>
    refine ⟨d3, hp123, hd3s rfl, fun h0 => ?_⟩
    refine LB.next ?_
    refine TB.block ?_
    refine cut_at (fun _ : Unit => ⟨tmOf 9 [(0, sl n), (1, I a), (2, I b), (3, I l), (4, cmpF), (10, .bool wb), (11, .bool wp), (12, I (b - a))], [], none, hOne (flatA d) 34 0⟩) (fun _ => True) (tb_wp CF.tt rfl ?_) ?_
    · refine Or.inl (And.intro (inK_i64 (by first | omega | (simp only <;> omega) | (simp only [Array.size_setIfInBounds, Go.Ai.swp_size] <;> omega))) ?_)
      exact ⟨(), trivial, weak_live ⟨rfl, rfl, rfl, rfl, rfl, rfl, rfl, (iv (by first | omega | (simp only <;> omega) | (simp only [Array.size_setIfInBounds, Go.Ai.swp_size] <;> omega))), trivial⟩ rfl rfl rfl⟩
    rintro ⟨⟩ -
    refine TB.seq (tb_wp CF.tt rfl ?_)
    refine And.intro (fun h => absurd (of_decide_eq_true h) (by first | omega | (simp only <;> omega) | (simp only [Array.size_setIfInBounds, Go.Ai.swp_size] <;> omega))) (fun _ => ?_)
    refine TB.seq (tb_wp CF.tt rfl ?_)
    refine And.intro (fun h => absurd (of_decide_eq_true h) (by first | omega | (simp only <;> omega) | (simp only [Array.size_setIfInBounds, Go.Ai.swp_size] <;> omega))) (fun _ => ?_)
    refine cut_at (fun _ : Unit => ⟨tmOf 9 [(0, sl n), (1, I a), (2, I b), (3, I l1), (4, cmpF), (10, .bool wb), (11, .bool wp), (12, I (b - a))], [], none, hOne (flatA d1) 34 0⟩) (fun _ => True) (tb_wp CF.tt rfl ?_) ?_
    · cases wb with
      | true =>
        obtain ⟨e1, e2⟩ := hb1 rfl
        rw [e1, e2]
        repeat (first | (refine And.intro (fun _ => ?_) (fun h => Go.Ai.tf h)) | (refine And.intro (fun _ => ?_) (fun h => Go.Ai.ft h)) | (refine And.intro (fun h => Go.Ai.ft h) (fun _ => ?_)) | (refine And.intro (fun h => Go.Ai.tf h) (fun _ => ?_)))
        exact ⟨(), trivial, weak_live ⟨rfl, rfl, rfl, rfl, rfl, rfl, rfl, rfl, trivial⟩ rfl rfl rfl⟩
      | false =>
        obtain ⟨e1, hc⟩ := hb2 rfl
        repeat (first | (refine And.intro (fun _ => ?_) (fun h => Go.Ai.tf h)) | (refine And.intro (fun _ => ?_) (fun h => Go.Ai.ft h)) | (refine And.intro (fun h => Go.Ai.ft h) (fun _ => ?_)) | (refine And.intro (fun h => Go.Ai.tf h) (fun _ => ?_)))
        refine CallW.of hc ?_
        refine Or.inl (And.intro (inK_i64 (by first | omega | (simp only <;> omega) | (simp only [Array.size_setIfInBounds, Go.Ai.swp_size] <;> omega))) ?_)
        exact ⟨(), trivial, weak_live ⟨rfl, rfl, rfl, (iv (by first | omega | (simp only <;> omega) | (simp only [Array.size_setIfInBounds, Go.Ai.swp_size] <;> omega))), rfl, rfl, rfl, rfl, trivial⟩ rfl rfl rfl⟩
    rintro ⟨⟩ -
    refine cut_at (fun _ : Unit => ⟨tmOf 9 [(0, sl n), (1, I a), (2, I b), (3, I l1), (4, cmpF), (10, .bool wb), (11, .bool wp), (12, I (b - a)), (13, I u), (14, I g)], [], none, hOne (flatA d1) 34 0⟩) (fun _ => True) (tb_wp CF.tt rfl ?_) ?_
    · refine CallW.of hcp ?_
      exact ⟨(), trivial, weak_live ⟨rfl, rfl, rfl, rfl, rfl, rfl, rfl, rfl, rfl, rfl, trivial⟩ rfl rfl rfl⟩
    rintro ⟨⟩ -
    refine cut_at (fun _ : Unit => ⟨tmOf 9 [(0, sl n), (1, I a), (2, I b), (3, I l1), (4, cmpF), (10, .bool wb), (11, .bool wp), (12, I (b - a)), (13, I p), (14, I g2)], [], none, hOne (flatA d2) 34 0⟩) (fun _ => True) (tb_wp CF.tt rfl ?_) ?_
    · refine And.intro (fun hx => ?_) (fun hx => ?_)
      · have hx := of_decide_eq_true hx
        obtain ⟨e1, e2, hc⟩ := hr1 (by first | omega | (simp only <;> omega) | (simp only [Array.size_setIfInBounds, Go.Ai.swp_size] <;> omega))
        rw [e1]
        refine CallW.of hc ?_
        refine Or.inl (And.intro (inK_i64 (by first | omega | (simp only <;> omega) | (simp only [Array.size_setIfInBounds, Go.Ai.swp_size] <;> omega))) ?_)
        refine Or.inl (And.intro (inK_i64 (by first | omega | (simp only <;> omega) | (simp only [Array.size_setIfInBounds, Go.Ai.swp_size] <;> omega))) ?_)
        refine Or.inl (And.intro (inK_i64 (by first | omega | (simp only <;> omega) | (simp only [Array.size_setIfInBounds, Go.Ai.swp_size] <;> omega))) ?_)
        exact ⟨(), trivial, weak_live ⟨rfl, rfl, rfl, rfl, rfl, rfl, rfl, rfl, (iv (by first | omega | (simp only <;> omega) | (simp only [Array.size_setIfInBounds, Go.Ai.swp_size] <;> omega))), rfl, trivial⟩ rfl rfl rfl⟩
      · have hx := of_decide_eq_false hx
        obtain ⟨e1, e2, e3⟩ := hr2 (by first | omega | (simp only <;> omega) | (simp only [Array.size_setIfInBounds, Go.Ai.swp_size] <;> omega))
        rw [e1, e2, e3]
        exact ⟨(), trivial, weak_live ⟨rfl, rfl, rfl, rfl, rfl, rfl, rfl, rfl, rfl, rfl, trivial⟩ rfl rfl rfl⟩
    rintro ⟨⟩ -
    refine cut_at (fun _ : Unit => ⟨tmOf 9 [(0, sl n), (1, I a), (2, I b), (3, I l1), (4, cmpF), (10, .bool wb), (11, .bool wp), (12, I (b - a)), (13, I p)], [], none, hOne (flatA d3) 34 0⟩) (fun _ => False) (tb_wp CF.tt rfl ?_) ?_
    · by_cases hg1 : g2 = 1
      · cases wb <;> cases wp
        case true.true =>
          repeat (first | (refine And.intro (fun _ => ?_) (fun h => Go.Ai.tf h)) | (refine And.intro (fun _ => ?_) (fun h => Go.Ai.ft h)) | (refine And.intro (fun h => Go.Ai.ft h) (fun _ => ?_)) | (refine And.intro (fun h => Go.Ai.tf h) (fun _ => ?_)))
          refine And.intro (fun hx => ?_) (fun hx => ?_)
          · have hc := ht1 (by simp [hg1])
            refine CallW.of hc ?_
            repeat (first | (refine And.intro (fun _ => ?_) (fun h => Go.Ai.tf h)) | (refine And.intro (fun _ => ?_) (fun h => Go.Ai.ft h)) | (refine And.intro (fun h => Go.Ai.ft h) (fun _ => ?_)) | (refine And.intro (fun h => Go.Ai.tf h) (fun _ => ?_)))
            exact ⟨rfl, rfl⟩
          · have hx := of_decide_eq_false hx
            exfalso; omega
        all_goals
          have hc := ht2 (by simp)
          have hd23 := hc.1
          subst hd23
          repeat (first | (refine And.intro (fun _ => ?_) (fun h => Go.Ai.tf h)) | (refine And.intro (fun _ => ?_) (fun h => Go.Ai.ft h)) | (refine And.intro (fun h => Go.Ai.ft h) (fun _ => ?_)) | (refine And.intro (fun h => Go.Ai.tf h) (fun _ => ?_)))
          cases hc.2
      · have hc := ht2 (by simp [hg1])
        have hd23 := hc.1
        subst hd23
        cases wb <;> cases wp
        case true.true =>
          repeat (first | (refine And.intro (fun _ => ?_) (fun h => Go.Ai.tf h)) | (refine And.intro (fun _ => ?_) (fun h => Go.Ai.ft h)) | (refine And.intro (fun h => Go.Ai.ft h) (fun _ => ?_)) | (refine And.intro (fun h => Go.Ai.tf h) (fun _ => ?_)))
          refine And.intro (fun hx => ?_) (fun hx => ?_)
          · have hx := of_decide_eq_true hx
            exfalso; omega
          · cases hc.2
        all_goals
          repeat (first | (refine And.intro (fun _ => ?_) (fun h => Go.Ai.tf h)) | (refine And.intro (fun _ => ?_) (fun h => Go.Ai.ft h)) | (refine And.intro (fun h => Go.Ai.ft h) (fun _ => ?_)) | (refine And.intro (fun h => Go.Ai.tf h) (fun _ => ?_)))
          cases hc.2
    rintro ⟨⟩ hpost
    exact hpost.elim
  | false =>
    by_cases hE : 0 < a ∧ ltP d3[a - 1]! d3[p]! = false
    · obtain ⟨hE1, hE2⟩ := hE
      obtain ⟨mid, d4, hpe⟩ : ∃ mid d4, Go.Sort.partitionEqual ltP d3 a b p = (mid, d4) := ⟨_, _, rfl⟩
      obtain ⟨r1, r2, r3, r4, r5⟩ := Go.Sort.round_eq swoP (Go.Sort.partitionEqual_holds _) hE1 hpa hpb (by omega) hB3 hE2 hpe
      obtain ⟨R, q1, q2, q3⟩ := ih (b - mid) (by omega) d4 mid b l1 wb wp rfl r2 hbn (by omega) hl1 r4
      obtain ⟨s1, s2⟩ := r5 R q1 q2
      refine ⟨R, Go.Sort.permIn_trans _ _ _ a b hp123 s1, s2, fun h0 => ?_⟩
      have hcall := partitionEqual_ok d3 a b p hpa hpb (by omega) (by omega)
      rw [hpe, hd3] at hcall
      refine LB.next ?_
      refine TB.block ?_
      refine cut_at (fun _ : Unit => ⟨tmOf 9 [(0, sl n), (1, I a), (2, I b), (3, I l), (4, cmpF), (10, .bool wb), (11, .bool wp), (12, I (b - a))], [], none, hOne (flatA d) 34 0⟩) (fun _ => True) (tb_wp CF.tt rfl ?_) ?_
      · refine Or.inl (And.intro (inK_i64 (by first | omega | (simp only <;> omega) | (simp only [Array.size_setIfInBounds, Go.Ai.swp_size] <;> omega))) ?_)
        exact ⟨(), trivial, weak_live ⟨rfl, rfl, rfl, rfl, rfl, rfl, rfl, (iv (by first | omega | (simp only <;> omega) | (simp only [Array.size_setIfInBounds, Go.Ai.swp_size] <;> omega))), trivial⟩ rfl rfl rfl⟩
      rintro ⟨⟩ -
      refine TB.seq (tb_wp CF.tt rfl ?_)
      refine And.intro (fun h => absurd (of_decide_eq_true h) (by first | omega | (simp only <;> omega) | (simp only [Array.size_setIfInBounds, Go.Ai.swp_size] <;> omega))) (fun _ => ?_)
      refine TB.seq (tb_wp CF.tt rfl ?_)
      refine And.intro (fun h => absurd (of_decide_eq_true h) (by first | omega | (simp only <;> omega) | (simp only [Array.size_setIfInBounds, Go.Ai.swp_size] <;> omega))) (fun _ => ?_)
      refine cut_at (fun _ : Unit => ⟨tmOf 9 [(0, sl n), (1, I a), (2, I b), (3, I l1), (4, cmpF), (10, .bool wb), (11, .bool wp), (12, I (b - a))], [], none, hOne (flatA d1) 34 0⟩) (fun _ => True) (tb_wp CF.tt rfl ?_) ?_
      · cases wb with
        | true =>
          obtain ⟨e1, e2⟩ := hb1 rfl
          rw [e1, e2]
          repeat (first | (refine And.intro (fun _ => ?_) (fun h => Go.Ai.tf h)) | (refine And.intro (fun _ => ?_) (fun h => Go.Ai.ft h)) | (refine And.intro (fun h => Go.Ai.ft h) (fun _ => ?_)) | (refine And.intro (fun h => Go.Ai.tf h) (fun _ => ?_)))
          exact ⟨(), trivial, weak_live ⟨rfl, rfl, rfl, rfl, rfl, rfl, rfl, rfl, trivial⟩ rfl rfl rfl⟩
        | false =>
          obtain ⟨e1, hc⟩ := hb2 rfl
          repeat (first | (refine And.intro (fun _ => ?_) (fun h => Go.Ai.tf h)) | (refine And.intro (fun _ => ?_) (fun h => Go.Ai.ft h)) | (refine And.intro (fun h => Go.Ai.ft h) (fun _ => ?_)) | (refine And.intro (fun h => Go.Ai.tf h) (fun _ => ?_)))
          refine CallW.of hc ?_
          refine Or.inl (And.intro (inK_i64 (by first | omega | (simp only <;> omega) | (simp only [Array.size_setIfInBounds, Go.Ai.swp_size] <;> omega))) ?_)
          exact ⟨(), trivial, weak_live ⟨rfl, rfl, rfl, (iv (by first | omega | (simp only <;> omega) | (simp only [Array.size_setIfInBounds, Go.Ai.swp_size] <;> omega))), rfl, rfl, rfl, rfl, trivial⟩ rfl rfl rfl⟩
      rintro ⟨⟩ -
      refine cut_at (fun _ : Unit => ⟨tmOf 9 [(0, sl n), (1, I a), (2, I b), (3, I l1), (4, cmpF), (10, .bool wb), (11, .bool wp), (12, I (b - a)), (13, I u), (14, I g)], [], none, hOne (flatA d1) 34 0⟩) (fun _ => True) (tb_wp CF.tt rfl ?_) ?_
      · refine CallW.of hcp ?_
        exact ⟨(), trivial, weak_live ⟨rfl, rfl, rfl, rfl, rfl, rfl, rfl, rfl, rfl, rfl, trivial⟩ rfl rfl rfl⟩
      rintro ⟨⟩ -
      refine cut_at (fun _ : Unit => ⟨tmOf 9 [(0, sl n), (1, I a), (2, I b), (3, I l1), (4, cmpF), (10, .bool wb), (11, .bool wp), (12, I (b - a)), (13, I p), (14, I g2)], [], none, hOne (flatA d2) 34 0⟩) (fun _ => True) (tb_wp CF.tt rfl ?_) ?_
      · refine And.intro (fun hx => ?_) (fun hx => ?_)
        · have hx := of_decide_eq_true hx
          obtain ⟨e1, e2, hc⟩ := hr1 (by first | omega | (simp only <;> omega) | (simp only [Array.size_setIfInBounds, Go.Ai.swp_size] <;> omega))
          rw [e1]
          refine CallW.of hc ?_
          refine Or.inl (And.intro (inK_i64 (by first | omega | (simp only <;> omega) | (simp only [Array.size_setIfInBounds, Go.Ai.swp_size] <;> omega))) ?_)
          refine Or.inl (And.intro (inK_i64 (by first | omega | (simp only <;> omega) | (simp only [Array.size_setIfInBounds, Go.Ai.swp_size] <;> omega))) ?_)
          refine Or.inl (And.intro (inK_i64 (by first | omega | (simp only <;> omega) | (simp only [Array.size_setIfInBounds, Go.Ai.swp_size] <;> omega))) ?_)
          exact ⟨(), trivial, weak_live ⟨rfl, rfl, rfl, rfl, rfl, rfl, rfl, rfl, (iv (by first | omega | (simp only <;> omega) | (simp only [Array.size_setIfInBounds, Go.Ai.swp_size] <;> omega))), rfl, trivial⟩ rfl rfl rfl⟩
        · have hx := of_decide_eq_false hx
          obtain ⟨e1, e2, e3⟩ := hr2 (by first | omega | (simp only <;> omega) | (simp only [Array.size_setIfInBounds, Go.Ai.swp_size] <;> omega))
          rw [e1, e2, e3]
          exact ⟨(), trivial, weak_live ⟨rfl, rfl, rfl, rfl, rfl, rfl, rfl, rfl, rfl, rfl, trivial⟩ rfl rfl rfl⟩
      rintro ⟨⟩ -
      refine cut_at (fun _ : Unit => ⟨tmOf 9 [(0, sl n), (1, I a), (2, I b), (3, I l1), (4, cmpF), (10, .bool wb), (11, .bool wp), (12, I (b - a)), (13, I p)], [], none, hOne (flatA d3) 34 0⟩) (fun _ => True) (tb_wp CF.tt rfl ?_) ?_
      · by_cases hg1 : g2 = 1
        · cases wb <;> cases wp
          case true.true =>
            repeat (first | (refine And.intro (fun _ => ?_) (fun h => Go.Ai.tf h)) | (refine And.intro (fun _ => ?_) (fun h => Go.Ai.ft h)) | (refine And.intro (fun h => Go.Ai.ft h) (fun _ => ?_)) | (refine And.intro (fun h => Go.Ai.tf h) (fun _ => ?_)))
            refine And.intro (fun hx => ?_) (fun hx => ?_)
            · have hc := ht1 (by simp [hg1])
              refine CallW.of hc ?_
              repeat (first | (refine And.intro (fun _ => ?_) (fun h => Go.Ai.tf h)) | (refine And.intro (fun _ => ?_) (fun h => Go.Ai.ft h)) | (refine And.intro (fun h => Go.Ai.ft h) (fun _ => ?_)) | (refine And.intro (fun h => Go.Ai.tf h) (fun _ => ?_)))
              exact ⟨(), trivial, weak_live ⟨rfl, rfl, rfl, rfl, rfl, rfl, rfl, rfl, rfl, trivial⟩ rfl rfl rfl⟩
            · have hx := of_decide_eq_false hx
              exfalso; omega
          all_goals
            have hc := ht2 (by simp)
            have hd23 := hc.1
            subst hd23
            repeat (first | (refine And.intro (fun _ => ?_) (fun h => Go.Ai.tf h)) | (refine And.intro (fun _ => ?_) (fun h => Go.Ai.ft h)) | (refine And.intro (fun h => Go.Ai.ft h) (fun _ => ?_)) | (refine And.intro (fun h => Go.Ai.tf h) (fun _ => ?_)))
            exact ⟨(), trivial, weak_live ⟨rfl, rfl, rfl, rfl, rfl, rfl, rfl, rfl, rfl, trivial⟩ rfl rfl rfl⟩
        · have hc := ht2 (by simp [hg1])
          have hd23 := hc.1
          subst hd23
          cases wb <;> cases wp
          case true.true =>
            repeat (first | (refine And.intro (fun _ => ?_) (fun h => Go.Ai.tf h)) | (refine And.intro (fun _ => ?_) (fun h => Go.Ai.ft h)) | (refine And.intro (fun h => Go.Ai.ft h) (fun _ => ?_)) | (refine And.intro (fun h => Go.Ai.tf h) (fun _ => ?_)))
            refine And.intro (fun hx => ?_) (fun hx => ?_)
            · have hx := of_decide_eq_true hx
              exfalso; omega
            · exact ⟨(), trivial, weak_live ⟨rfl, rfl, rfl, rfl, rfl, rfl, rfl, rfl, rfl, trivial⟩ rfl rfl rfl⟩
          all_goals
            repeat (first | (refine And.intro (fun _ => ?_) (fun h => Go.Ai.tf h)) | (refine And.intro (fun _ => ?_) (fun h => Go.Ai.ft h)) | (refine And.intro (fun h => Go.Ai.ft h) (fun _ => ?_)) | (refine And.intro (fun h => Go.Ai.tf h) (fun _ => ?_)))
            exact ⟨(), trivial, weak_live ⟨rfl, rfl, rfl, rfl, rfl, rfl, rfl, rfl, rfl, trivial⟩ rfl rfl rfl⟩
      rintro ⟨⟩ hpost
      refine TB.seq (tb_wp CF.tt rfl ?_)
      refine And.intro (fun ha => ?_) (fun ha => ?_)
      · repeat (first | (refine And.intro (fun _ => ?_) (fun h => Go.Ai.tf h)) | (refine And.intro (fun _ => ?_) (fun h => Go.Ai.ft h)) | (refine And.intro (fun h => Go.Ai.ft h) (fun _ => ?_)) | (refine And.intro (fun h => Go.Ai.tf h) (fun _ => ?_)))
        refine Or.inl (And.intro (inK_i64 (by first | omega | (simp only <;> omega) | (simp only [Array.size_setIfInBounds, Go.Ai.swp_size] <;> omega))) ?_)
        repeat (first | (refine And.intro (fun _ => ?_) (fun h => Go.Ai.tf h)) | (refine And.intro (fun _ => ?_) (fun h => Go.Ai.ft h)) | (refine And.intro (fun h => Go.Ai.ft h) (fun _ => ?_)) | (refine And.intro (fun h => Go.Ai.tf h) (fun _ => ?_)))
        apply nxW_of
        · exact idx_pair (a - 1) rfl rfl rfl rfl rfl rfl (by first | omega | (simp only <;> omega) | (simp only [Array.size_setIfInBounds, Go.Ai.swp_size] <;> omega)) (by first | omega | (simp only <;> omega) | (simp only [Array.size_setIfInBounds, Go.Ai.swp_size] <;> omega))
        repeat (first | (refine And.intro (fun _ => ?_) (fun h => Go.Ai.tf h)) | (refine And.intro (fun _ => ?_) (fun h => Go.Ai.ft h)) | (refine And.intro (fun h => Go.Ai.ft h) (fun _ => ?_)) | (refine And.intro (fun h => Go.Ai.tf h) (fun _ => ?_)))
        apply nxW_of
        · exact load_pair (d3) (a - 1) rfl rfl rfl rfl rfl (by first | omega | (simp only <;> omega) | (simp only [Array.size_setIfInBounds, Go.Ai.swp_size] <;> omega))
        repeat (first | (refine And.intro (fun _ => ?_) (fun h => Go.Ai.tf h)) | (refine And.intro (fun _ => ?_) (fun h => Go.Ai.ft h)) | (refine And.intro (fun h => Go.Ai.ft h) (fun _ => ?_)) | (refine And.intro (fun h => Go.Ai.tf h) (fun _ => ?_)))
        apply nxW_of
        · exact idx_pair (p) rfl rfl rfl rfl rfl rfl (by first | omega | (simp only <;> omega) | (simp only [Array.size_setIfInBounds, Go.Ai.swp_size] <;> omega)) (by first | omega | (simp only <;> omega) | (simp only [Array.size_setIfInBounds, Go.Ai.swp_size] <;> omega))
        repeat (first | (refine And.intro (fun _ => ?_) (fun h => Go.Ai.tf h)) | (refine And.intro (fun _ => ?_) (fun h => Go.Ai.ft h)) | (refine And.intro (fun h => Go.Ai.ft h) (fun _ => ?_)) | (refine And.intro (fun h => Go.Ai.tf h) (fun _ => ?_)))
        apply nxW_of
        · exact load_pair (d3) (p) rfl rfl rfl rfl rfl (by first | omega | (simp only <;> omega) | (simp only [Array.size_setIfInBounds, Go.Ai.swp_size] <;> omega))
        repeat (first | (refine And.intro (fun _ => ?_) (fun h => Go.Ai.tf h)) | (refine And.intro (fun _ => ?_) (fun h => Go.Ai.ft h)) | (refine And.intro (fun h => Go.Ai.ft h) (fun _ => ?_)) | (refine And.intro (fun h => Go.Ai.tf h) (fun _ => ?_)))
        refine CallW.of (cmp_ok _ _ _) ?_
        repeat (first | (refine And.intro (fun _ => ?_) (fun h => Go.Ai.tf h)) | (refine And.intro (fun _ => ?_) (fun h => Go.Ai.ft h)) | (refine And.intro (fun h => Go.Ai.ft h) (fun _ => ?_)) | (refine And.intro (fun h => Go.Ai.tf h) (fun _ => ?_)))
        refine And.intro (fun hz => ?_) (fun hz => ?_)
        · refine CallW.of hcall ?_
          refine LB.weak (s1 := pdqS n d4 mid b l1 wb wp) (weak_live ⟨rfl, rfl, rfl, rfl, rfl, rfl, rfl, trivial⟩ rfl rfl rfl) (q3 h0)
        · have hz := nlt_false hz
          rw [hE2] at hz
          cases hz
      · have ha := of_decide_eq_false ha
        exfalso; omega
    · obtain ⟨mid, ap, d4, hpe⟩ : ∃ mid ap d4, Go.Sort.partition ltP d3 a b p = (mid, ap, d4) := ⟨_, _, _, rfl⟩
      obtain ⟨r1, r2, r3, r4, r5, r6, r7⟩ := Go.Sort.round_part swoP (Go.Sort.partition_holds _) hpa hpb (by omega) hB3 hpe
      have hcall := partition_ok d3 a b p hpa hpb (by omega) (by omega)
      rw [hpe, hd3] at hcall
      simp only at hcall
      by_cases hlr : mid - a < b - mid
      · obtain ⟨d5, v1, v2, v3⟩ := hrec d4 a mid l1 (by omega) r1 (by omega) (by omega) hl1 r4
        obtain ⟨w1, w2⟩ := r6 d5 v1 v2
        obtain ⟨R, q1, q2, q3⟩ := ih (b - (mid + 1)) (by omega) d5 (mid + 1) b l1 (decide (IntKind.wrap .i64 (Int.tdiv ((b - a : Nat) : Int) 8) ≤ (mid : Int) - a)) ap rfl (by omega) hbn (v1.1.trans (by omega)) hl1 w1
        obtain ⟨s1, s2⟩ := w2 R q1 q2
        refine ⟨R, Go.Sort.permIn_trans _ _ _ a b hp123 s1, s2, fun h0 => ?_⟩
        refine LB.next ?_
        refine TB.block ?_
        refine cut_at (fun _ : Unit => ⟨tmOf 9 [(0, sl n), (1, I a), (2, I b), (3, I l), (4, cmpF), (10, .bool wb), (11, .bool wp), (12, I (b - a))], [], none, hOne (flatA d) 34 0⟩) (fun _ => True) (tb_wp CF.tt rfl ?_) ?_
        · refine Or.inl (And.intro (inK_i64 (by first | omega | (simp only <;> omega) | (simp only [Array.size_setIfInBounds, Go.Ai.swp_size] <;> omega))) ?_)
          exact ⟨(), trivial, weak_live ⟨rfl, rfl, rfl, rfl, rfl, rfl, rfl, (iv (by first | omega | (simp only <;> omega) | (simp only [Array.size_setIfInBounds, Go.Ai.swp_size] <;> omega))), trivial⟩ rfl rfl rfl⟩
        rintro ⟨⟩ -
        refine TB.seq (tb_wp CF.tt rfl ?_)
        refine And.intro (fun h => absurd (of_decide_eq_true h) (by first | omega | (simp only <;> omega) | (simp only [Array.size_setIfInBounds, Go.Ai.swp_size] <;> omega))) (fun _ => ?_)
        refine TB.seq (tb_wp CF.tt rfl ?_)
        refine And.intro (fun h => absurd (of_decide_eq_true h) (by first | omega | (simp only <;> omega) | (simp only [Array.size_setIfInBounds, Go.Ai.swp_size] <;> omega))) (fun _ => ?_)
        refine cut_at (fun _ : Unit => ⟨tmOf 9 [(0, sl n), (1, I a), (2, I b), (3, I l1), (4, cmpF), (10, .bool wb), (11, .bool wp), (12, I (b - a))], [], none, hOne (flatA d1) 34 0⟩) (fun _ => True) (tb_wp CF.tt rfl ?_) ?_
        · cases wb with
          | true =>
            obtain ⟨e1, e2⟩ := hb1 rfl
            rw [e1, e2]
            repeat (first | (refine And.intro (fun _ => ?_) (fun h => Go.Ai.tf h)) | (refine And.intro (fun _ => ?_) (fun h => Go.Ai.ft h)) | (refine And.intro (fun h => Go.Ai.ft h) (fun _ => ?_)) | (refine And.intro (fun h => Go.Ai.tf h) (fun _ => ?_)))
            exact ⟨(), trivial, weak_live ⟨rfl, rfl, rfl, rfl, rfl, rfl, rfl, rfl, trivial⟩ rfl rfl rfl⟩
          | false =>
            obtain ⟨e1, hc⟩ := hb2 rfl
            repeat (first | (refine And.intro (fun _ => ?_) (fun h => Go.Ai.tf h)) | (refine And.intro (fun _ => ?_) (fun h => Go.Ai.ft h)) | (refine And.intro (fun h => Go.Ai.ft h) (fun _ => ?_)) | (refine And.intro (fun h => Go.Ai.tf h) (fun _ => ?_)))
            refine CallW.of hc ?_
            refine Or.inl (And.intro (inK_i64 (by first | omega | (simp only <;> omega) | (simp only [Array.size_setIfInBounds, Go.Ai.swp_size] <;> omega))) ?_)
            exact ⟨(), trivial, weak_live ⟨rfl, rfl, rfl, (iv (by first | omega | (simp only <;> omega) | (simp only [Array.size_setIfInBounds, Go.Ai.swp_size] <;> omega))), rfl, rfl, rfl, rfl, trivial⟩ rfl rfl rfl⟩
        rintro ⟨⟩ -
        refine cut_at (fun _ : Unit => ⟨tmOf 9 [(0, sl n), (1, I a), (2, I b), (3, I l1), (4, cmpF), (10, .bool wb), (11, .bool wp), (12, I (b - a)), (13, I u), (14, I g)], [], none, hOne (flatA d1) 34 0⟩) (fun _ => True) (tb_wp CF.tt rfl ?_) ?_
        · refine CallW.of hcp ?_
          exact ⟨(), trivial, weak_live ⟨rfl, rfl, rfl, rfl, rfl, rfl, rfl, rfl, rfl, rfl, trivial⟩ rfl rfl rfl⟩
        rintro ⟨⟩ -
        refine cut_at (fun _ : Unit => ⟨tmOf 9 [(0, sl n), (1, I a), (2, I b), (3, I l1), (4, cmpF), (10, .bool wb), (11, .bool wp), (12, I (b - a)), (13, I p), (14, I g2)], [], none, hOne (flatA d2) 34 0⟩) (fun _ => True) (tb_wp CF.tt rfl ?_) ?_
        · refine And.intro (fun hx => ?_) (fun hx => ?_)
          · have hx := of_decide_eq_true hx
            obtain ⟨e1, e2, hc⟩ := hr1 (by first | omega | (simp only <;> omega) | (simp only [Array.size_setIfInBounds, Go.Ai.swp_size] <;> omega))
            rw [e1]
            refine CallW.of hc ?_
            refine Or.inl (And.intro (inK_i64 (by first | omega | (simp only <;> omega) | (simp only [Array.size_setIfInBounds, Go.Ai.swp_size] <;> omega))) ?_)
            refine Or.inl (And.intro (inK_i64 (by first | omega | (simp only <;> omega) | (simp only [Array.size_setIfInBounds, Go.Ai.swp_size] <;> omega))) ?_)
            refine Or.inl (And.intro (inK_i64 (by first | omega | (simp only <;> omega) | (simp only [Array.size_setIfInBounds, Go.Ai.swp_size] <;> omega))) ?_)
            exact ⟨(), trivial, weak_live ⟨rfl, rfl, rfl, rfl, rfl, rfl, rfl, rfl, (iv (by first | omega | (simp only <;> omega) | (simp only [Array.size_setIfInBounds, Go.Ai.swp_size] <;> omega))), rfl, trivial⟩ rfl rfl rfl⟩
          · have hx := of_decide_eq_false hx
            obtain ⟨e1, e2, e3⟩ := hr2 (by first | omega | (simp only <;> omega) | (simp only [Array.size_setIfInBounds, Go.Ai.swp_size] <;> omega))
            rw [e1, e2, e3]
            exact ⟨(), trivial, weak_live ⟨rfl, rfl, rfl, rfl, rfl, rfl, rfl, rfl, rfl, rfl, trivial⟩ rfl rfl rfl⟩
        rintro ⟨⟩ -
        refine cut_at (fun _ : Unit => ⟨tmOf 9 [(0, sl n), (1, I a), (2, I b), (3, I l1), (4, cmpF), (10, .bool wb), (11, .bool wp), (12, I (b - a)), (13, I p)], [], none, hOne (flatA d3) 34 0⟩) (fun _ => True) (tb_wp CF.tt rfl ?_) ?_
        · by_cases hg1 : g2 = 1
          · cases wb <;> cases wp
            case true.true =>
              repeat (first | (refine And.intro (fun _ => ?_) (fun h => Go.Ai.tf h)) | (refine And.intro (fun _ => ?_) (fun h => Go.Ai.ft h)) | (refine And.intro (fun h => Go.Ai.ft h) (fun _ => ?_)) | (refine And.intro (fun h => Go.Ai.tf h) (fun _ => ?_)))
              refine And.intro (fun hx => ?_) (fun hx => ?_)
              · have hc := ht1 (by simp [hg1])
                refine CallW.of hc ?_
                repeat (first | (refine And.intro (fun _ => ?_) (fun h => Go.Ai.tf h)) | (refine And.intro (fun _ => ?_) (fun h => Go.Ai.ft h)) | (refine And.intro (fun h => Go.Ai.ft h) (fun _ => ?_)) | (refine And.intro (fun h => Go.Ai.tf h) (fun _ => ?_)))
                exact ⟨(), trivial, weak_live ⟨rfl, rfl, rfl, rfl, rfl, rfl, rfl, rfl, rfl, trivial⟩ rfl rfl rfl⟩
              · have hx := of_decide_eq_false hx
                exfalso; omega
            all_goals
              have hc := ht2 (by simp)
              have hd23 := hc.1
              subst hd23
              repeat (first | (refine And.intro (fun _ => ?_) (fun h => Go.Ai.tf h)) | (refine And.intro (fun _ => ?_) (fun h => Go.Ai.ft h)) | (refine And.intro (fun h => Go.Ai.ft h) (fun _ => ?_)) | (refine And.intro (fun h => Go.Ai.tf h) (fun _ => ?_)))
              exact ⟨(), trivial, weak_live ⟨rfl, rfl, rfl, rfl, rfl, rfl, rfl, rfl, rfl, trivial⟩ rfl rfl rfl⟩
          · have hc := ht2 (by simp [hg1])
            have hd23 := hc.1
            subst hd23
            cases wb <;> cases wp
            case true.true =>
              repeat (first | (refine And.intro (fun _ => ?_) (fun h => Go.Ai.tf h)) | (refine And.intro (fun _ => ?_) (fun h => Go.Ai.ft h)) | (refine And.intro (fun h => Go.Ai.ft h) (fun _ => ?_)) | (refine And.intro (fun h => Go.Ai.tf h) (fun _ => ?_)))
              refine And.intro (fun hx => ?_) (fun hx => ?_)
              · have hx := of_decide_eq_true hx
                exfalso; omega
              · exact ⟨(), trivial, weak_live ⟨rfl, rfl, rfl, rfl, rfl, rfl, rfl, rfl, rfl, trivial⟩ rfl rfl rfl⟩
            all_goals
              repeat (first | (refine And.intro (fun _ => ?_) (fun h => Go.Ai.tf h)) | (refine And.intro (fun _ => ?_) (fun h => Go.Ai.ft h)) | (refine And.intro (fun h => Go.Ai.ft h) (fun _ => ?_)) | (refine And.intro (fun h => Go.Ai.tf h) (fun _ => ?_)))
              exact ⟨(), trivial, weak_live ⟨rfl, rfl, rfl, rfl, rfl, rfl, rfl, rfl, rfl, trivial⟩ rfl rfl rfl⟩
        rintro ⟨⟩ hpost
        refine cut_at (fun _ : Unit => ⟨tmOf 9 [(0, sl n), (1, I a), (2, I b), (3, I l1), (4, cmpF), (10, .bool wb), (11, .bool wp), (12, I (b - a)), (13, I p)], [], none, hOne (flatA d3) 34 0⟩) (fun _ => True) (tb_wp CF.tt rfl ?_) ?_
        · refine And.intro (fun ha => ?_) (fun ha => ?_)
          · have ha := of_decide_eq_true ha
            repeat (first | (refine And.intro (fun _ => ?_) (fun h => Go.Ai.tf h)) | (refine And.intro (fun _ => ?_) (fun h => Go.Ai.ft h)) | (refine And.intro (fun h => Go.Ai.ft h) (fun _ => ?_)) | (refine And.intro (fun h => Go.Ai.tf h) (fun _ => ?_)))
            refine Or.inl (And.intro (inK_i64 (by first | omega | (simp only <;> omega) | (simp only [Array.size_setIfInBounds, Go.Ai.swp_size] <;> omega))) ?_)
            repeat (first | (refine And.intro (fun _ => ?_) (fun h => Go.Ai.tf h)) | (refine And.intro (fun _ => ?_) (fun h => Go.Ai.ft h)) | (refine And.intro (fun h => Go.Ai.ft h) (fun _ => ?_)) | (refine And.intro (fun h => Go.Ai.tf h) (fun _ => ?_)))
            apply nxW_of
            · exact idx_pair (a - 1) rfl rfl rfl rfl rfl rfl (by first | omega | (simp only <;> omega) | (simp only [Array.size_setIfInBounds, Go.Ai.swp_size] <;> omega)) (by first | omega | (simp only <;> omega) | (simp only [Array.size_setIfInBounds, Go.Ai.swp_size] <;> omega))
            repeat (first | (refine And.intro (fun _ => ?_) (fun h => Go.Ai.tf h)) | (refine And.intro (fun _ => ?_) (fun h => Go.Ai.ft h)) | (refine And.intro (fun h => Go.Ai.ft h) (fun _ => ?_)) | (refine And.intro (fun h => Go.Ai.tf h) (fun _ => ?_)))
            apply nxW_of
            · exact load_pair (d3) (a - 1) rfl rfl rfl rfl rfl (by first | omega | (simp only <;> omega) | (simp only [Array.size_setIfInBounds, Go.Ai.swp_size] <;> omega))
            repeat (first | (refine And.intro (fun _ => ?_) (fun h => Go.Ai.tf h)) | (refine And.intro (fun _ => ?_) (fun h => Go.Ai.ft h)) | (refine And.intro (fun h => Go.Ai.ft h) (fun _ => ?_)) | (refine And.intro (fun h => Go.Ai.tf h) (fun _ => ?_)))
            apply nxW_of
            · exact idx_pair (p) rfl rfl rfl rfl rfl rfl (by first | omega | (simp only <;> omega) | (simp only [Array.size_setIfInBounds, Go.Ai.swp_size] <;> omega)) (by first | omega | (simp only <;> omega) | (simp only [Array.size_setIfInBounds, Go.Ai.swp_size] <;> omega))
            repeat (first | (refine And.intro (fun _ => ?_) (fun h => Go.Ai.tf h)) | (refine And.intro (fun _ => ?_) (fun h => Go.Ai.ft h)) | (refine And.intro (fun h => Go.Ai.ft h) (fun _ => ?_)) | (refine And.intro (fun h => Go.Ai.tf h) (fun _ => ?_)))
            apply nxW_of
            · exact load_pair (d3) (p) rfl rfl rfl rfl rfl (by first | omega | (simp only <;> omega) | (simp only [Array.size_setIfInBounds, Go.Ai.swp_size] <;> omega))
            repeat (first | (refine And.intro (fun _ => ?_) (fun h => Go.Ai.tf h)) | (refine And.intro (fun _ => ?_) (fun h => Go.Ai.ft h)) | (refine And.intro (fun h => Go.Ai.ft h) (fun _ => ?_)) | (refine And.intro (fun h => Go.Ai.tf h) (fun _ => ?_)))
            refine CallW.of (cmp_ok _ _ _) ?_
            repeat (first | (refine And.intro (fun _ => ?_) (fun h => Go.Ai.tf h)) | (refine And.intro (fun _ => ?_) (fun h => Go.Ai.ft h)) | (refine And.intro (fun h => Go.Ai.ft h) (fun _ => ?_)) | (refine And.intro (fun h => Go.Ai.tf h) (fun _ => ?_)))
            refine And.intro (fun hz => ?_) (fun hz => ?_)
            · have hz := nlt_true hz
              exact absurd ⟨by omega, hz⟩ hE
            · exact ⟨(), trivial, weak_live ⟨rfl, rfl, rfl, rfl, rfl, rfl, rfl, rfl, rfl, trivial⟩ rfl rfl rfl⟩
          · repeat (first | (refine And.intro (fun _ => ?_) (fun h => Go.Ai.tf h)) | (refine And.intro (fun _ => ?_) (fun h => Go.Ai.ft h)) | (refine And.intro (fun h => Go.Ai.ft h) (fun _ => ?_)) | (refine And.intro (fun h => Go.Ai.tf h) (fun _ => ?_)))
            exact ⟨(), trivial, weak_live ⟨rfl, rfl, rfl, rfl, rfl, rfl, rfl, rfl, rfl, trivial⟩ rfl rfl rfl⟩
        rintro ⟨⟩ -
        refine tb_wp CF.tt rfl ?_
        refine CallW.of hcall ?_
        refine Or.inl (And.intro (inK_i64 (by first | omega | (simp only <;> omega) | (simp only [Array.size_setIfInBounds, Go.Ai.swp_size] <;> omega))) ?_)
        refine Or.inl (And.intro (inK_i64 (by first | omega | (simp only <;> omega) | (simp only [Array.size_setIfInBounds, Go.Ai.swp_size] <;> omega))) ?_)
        refine And.intro (fun hlt => ?_) (fun hlt => ?_)
        · refine CallW.of v3 ?_
          refine Or.inl (And.intro (inK_i64 (by first | omega | (simp only <;> omega) | (simp only [Array.size_setIfInBounds, Go.Ai.swp_size] <;> omega))) ?_)
          exact LB.weak (s1 := pdqS n d5 (mid + 1) b l1 _ ap) (weak_live ⟨rfl, (iv (by first | omega | (simp only <;> omega) | (simp only [Array.size_setIfInBounds, Go.Ai.swp_size] <;> omega))), rfl, rfl, rfl, rfl, rfl, trivial⟩ rfl rfl rfl) (q3 h0)
        · have hlt := of_decide_eq_false hlt
          exfalso; omega
      · obtain ⟨d5, v1, v2, v3⟩ := hrec d4 (mid + 1) b l1 (by omega) (by omega) (by omega) (by omega) hl1 r5
        obtain ⟨w1, w2⟩ := r7 d5 v1 v2
        obtain ⟨R, q1, q2, q3⟩ := ih (mid - a) (by omega) d5 a mid l1 (decide (IntKind.wrap .i64 (Int.tdiv ((b - a : Nat) : Int) 8) ≤ (b : Int) - mid)) ap rfl (by omega) (by omega) (v1.1.trans (by omega)) hl1 w1
        obtain ⟨s1, s2⟩ := w2 R q1 q2
        refine ⟨R, Go.Sort.permIn_trans _ _ _ a b hp123 s1, s2, fun h0 => ?_⟩
        refine LB.next ?_
        refine TB.block ?_
        refine cut_at (fun _ : Unit => ⟨tmOf 9 [(0, sl n), (1, I a), (2, I b), (3, I l), (4, cmpF), (10, .bool wb), (11, .bool wp), (12, I (b - a))], [], none, hOne (flatA d) 34 0⟩) (fun _ => True) (tb_wp CF.tt rfl ?_) ?_
        · refine Or.inl (And.intro (inK_i64 (by first | omega | (simp only <;> omega) | (simp only [Array.size_setIfInBounds, Go.Ai.swp_size] <;> omega))) ?_)
          exact ⟨(), trivial, weak_live ⟨rfl, rfl, rfl, rfl, rfl, rfl, rfl, (iv (by first | omega | (simp only <;> omega) | (simp only [Array.size_setIfInBounds, Go.Ai.swp_size] <;> omega))), trivial⟩ rfl rfl rfl⟩
        rintro ⟨⟩ -
        refine TB.seq (tb_wp CF.tt rfl ?_)
        refine And.intro (fun h => absurd (of_decide_eq_true h) (by first | omega | (simp only <;> omega) | (simp only [Array.size_setIfInBounds, Go.Ai.swp_size] <;> omega))) (fun _ => ?_)
        refine TB.seq (tb_wp CF.tt rfl ?_)
        refine And.intro (fun h => absurd (of_decide_eq_true h) (by first | omega | (simp only <;> omega) | (simp only [Array.size_setIfInBounds, Go.Ai.swp_size] <;> omega))) (fun _ => ?_)
        refine cut_at (fun _ : Unit => ⟨tmOf 9 [(0, sl n), (1, I a), (2, I b), (3, I l1), (4, cmpF), (10, .bool wb), (11, .bool wp), (12, I (b - a))], [], none, hOne (flatA d1) 34 0⟩) (fun _ => True) (tb_wp CF.tt rfl ?_) ?_
        · cases wb with
          | true =>
            obtain ⟨e1, e2⟩ := hb1 rfl
            rw [e1, e2]
            repeat (first | (refine And.intro (fun _ => ?_) (fun h => Go.Ai.tf h)) | (refine And.intro (fun _ => ?_) (fun h => Go.Ai.ft h)) | (refine And.intro (fun h => Go.Ai.ft h) (fun _ => ?_)) | (refine And.intro (fun h => Go.Ai.tf h) (fun _ => ?_)))
            exact ⟨(), trivial, weak_live ⟨rfl, rfl, rfl, rfl, rfl, rfl, rfl, rfl, trivial⟩ rfl rfl rfl⟩
          | false =>
            obtain ⟨e1, hc⟩ := hb2 rfl
            repeat (first | (refine And.intro (fun _ => ?_) (fun h => Go.Ai.tf h)) | (refine And.intro (fun _ => ?_) (fun h => Go.Ai.ft h)) | (refine And.intro (fun h => Go.Ai.ft h) (fun _ => ?_)) | (refine And.intro (fun h => Go.Ai.tf h) (fun _ => ?_)))
            refine CallW.of hc ?_
            refine Or.inl (And.intro (inK_i64 (by first | omega | (simp only <;> omega) | (simp only [Array.size_setIfInBounds, Go.Ai.swp_size] <;> omega))) ?_)
            exact ⟨(), trivial, weak_live ⟨rfl, rfl, rfl, (iv (by first | omega | (simp only <;> omega) | (simp only [Array.size_setIfInBounds, Go.Ai.swp_size] <;> omega))), rfl, rfl, rfl, rfl, trivial⟩ rfl rfl rfl⟩
        rintro ⟨⟩ -
        refine cut_at (fun _ : Unit => ⟨tmOf 9 [(0, sl n), (1, I a), (2, I b), (3, I l1), (4, cmpF), (10, .bool wb), (11, .bool wp), (12, I (b - a)), (13, I u), (14, I g)], [], none, hOne (flatA d1) 34 0⟩) (fun _ => True) (tb_wp CF.tt rfl ?_) ?_
        · refine CallW.of hcp ?_
          exact ⟨(), trivial, weak_live ⟨rfl, rfl, rfl, rfl, rfl, rfl, rfl, rfl, rfl, rfl, trivial⟩ rfl rfl rfl⟩
        rintro ⟨⟩ -
        refine cut_at (fun _ : Unit => ⟨tmOf 9 [(0, sl n), (1, I a), (2, I b), (3, I l1), (4, cmpF), (10, .bool wb), (11, .bool wp), (12, I (b - a)), (13, I p), (14, I g2)], [], none, hOne (flatA d2) 34 0⟩) (fun _ => True) (tb_wp CF.tt rfl ?_) ?_
        · refine And.intro (fun hx => ?_) (fun hx => ?_)
          · have hx := of_decide_eq_true hx
            obtain ⟨e1, e2, hc⟩ := hr1 (by first | omega | (simp only <;> omega) | (simp only [Array.size_setIfInBounds, Go.Ai.swp_size] <;> omega))
            rw [e1]
            refine CallW.of hc ?_
            refine Or.inl (And.intro (inK_i64 (by first | omega | (simp only <;> omega) | (simp only [Array.size_setIfInBounds, Go.Ai.swp_size] <;> omega))) ?_)
            refine Or.inl (And.intro (inK_i64 (by first | omega | (simp only <;> omega) | (simp only [Array.size_setIfInBounds, Go.Ai.swp_size] <;> omega))) ?_)
            refine Or.inl (And.intro (inK_i64 (by first | omega | (simp only <;> omega) | (simp only [Array.size_setIfInBounds, Go.Ai.swp_size] <;> omega))) ?_)
            exact ⟨(), trivial, weak_live ⟨rfl, rfl, rfl, rfl, rfl, rfl, rfl, rfl, (iv (by first | omega | (simp only <;> omega) | (simp only [Array.size_setIfInBounds, Go.Ai.swp_size] <;> omega))), rfl, trivial⟩ rfl rfl rfl⟩
          · have hx := of_decide_eq_false hx
            obtain ⟨e1, e2, e3⟩ := hr2 (by first | omega | (simp only <;> omega) | (simp only [Array.size_setIfInBounds, Go.Ai.swp_size] <;> omega))
            rw [e1, e2, e3]
            exact ⟨(), trivial, weak_live ⟨rfl, rfl, rfl, rfl, rfl, rfl, rfl, rfl, rfl, rfl, trivial⟩ rfl rfl rfl⟩
        rintro ⟨⟩ -
        refine cut_at (fun _ : Unit => ⟨tmOf 9 [(0, sl n), (1, I a), (2, I b), (3, I l1), (4, cmpF), (10, .bool wb), (11, .bool wp), (12, I (b - a)), (13, I p)], [], none, hOne (flatA d3) 34 0⟩) (fun _ => True) (tb_wp CF.tt rfl ?_) ?_
        · by_cases hg1 : g2 = 1
          · cases wb <;> cases wp
            case true.true =>
              repeat (first | (refine And.intro (fun _ => ?_) (fun h => Go.Ai.tf h)) | (refine And.intro (fun _ => ?_) (fun h => Go.Ai.ft h)) | (refine And.intro (fun h => Go.Ai.ft h) (fun _ => ?_)) | (refine And.intro (fun h => Go.Ai.tf h) (fun _ => ?_)))
              refine And.intro (fun hx => ?_) (fun hx => ?_)
              · have hc := ht1 (by simp [hg1])
                refine CallW.of hc ?_
                repeat (first | (refine And.intro (fun _ => ?_) (fun h => Go.Ai.tf h)) | (refine And.intro (fun _ => ?_) (fun h => Go.Ai.ft h)) | (refine And.intro (fun h => Go.Ai.ft h) (fun _ => ?_)) | (refine And.intro (fun h => Go.Ai.tf h) (fun _ => ?_)))
                exact ⟨(), trivial, weak_live ⟨rfl, rfl, rfl, rfl, rfl, rfl, rfl, rfl, rfl, trivial⟩ rfl rfl rfl⟩
              · have hx := of_decide_eq_false hx
                exfalso; omega
            all_goals
              have hc := ht2 (by simp)
              have hd23 := hc.1
              subst hd23
              repeat (first | (refine And.intro (fun _ => ?_) (fun h => Go.Ai.tf h)) | (refine And.intro (fun _ => ?_) (fun h => Go.Ai.ft h)) | (refine And.intro (fun h => Go.Ai.ft h) (fun _ => ?_)) | (refine And.intro (fun h => Go.Ai.tf h) (fun _ => ?_)))
              exact ⟨(), trivial, weak_live ⟨rfl, rfl, rfl, rfl, rfl, rfl, rfl, rfl, rfl, trivial⟩ rfl rfl rfl⟩
          · have hc := ht2 (by simp [hg1])
            have hd23 := hc.1
            subst hd23
            cases wb <;> cases wp
            case true.true =>
              repeat (first | (refine And.intro (fun _ => ?_) (fun h => Go.Ai.tf h)) | (refine And.intro (fun _ => ?_) (fun h => Go.Ai.ft h)) | (refine And.intro (fun h => Go.Ai.ft h) (fun _ => ?_)) | (refine And.intro (fun h => Go.Ai.tf h) (fun _ => ?_)))
              refine And.intro (fun hx => ?_) (fun hx => ?_)
              · have hx := of_decide_eq_true hx
                exfalso; omega
              · exact ⟨(), trivial, weak_live ⟨rfl, rfl, rfl, rfl, rfl, rfl, rfl, rfl, rfl, trivial⟩ rfl rfl rfl⟩
            all_goals
              repeat (first | (refine And.intro (fun _ => ?_) (fun h => Go.Ai.tf h)) | (refine And.intro (fun _ => ?_) (fun h => Go.Ai.ft h)) | (refine And.intro (fun h => Go.Ai.ft h) (fun _ => ?_)) | (refine And.intro (fun h => Go.Ai.tf h) (fun _ => ?_)))
              exact ⟨(), trivial, weak_live ⟨rfl, rfl, rfl, rfl, rfl, rfl, rfl, rfl, rfl, trivial⟩ rfl rfl rfl⟩
        rintro ⟨⟩ hpost
        refine cut_at (fun _ : Unit => ⟨tmOf 9 [(0, sl n), (1, I a), (2, I b), (3, I l1), (4, cmpF), (10, .bool wb), (11, .bool wp), (12, I (b - a)), (13, I p)], [], none, hOne (flatA d3) 34 0⟩) (fun _ => True) (tb_wp CF.tt rfl ?_) ?_
        · refine And.intro (fun ha => ?_) (fun ha => ?_)
          · have ha := of_decide_eq_true ha
            repeat (first | (refine And.intro (fun _ => ?_) (fun h => Go.Ai.tf h)) | (refine And.intro (fun _ => ?_) (fun h => Go.Ai.ft h)) | (refine And.intro (fun h => Go.Ai.ft h) (fun _ => ?_)) | (refine And.intro (fun h => Go.Ai.tf h) (fun _ => ?_)))
            refine Or.inl (And.intro (inK_i64 (by first | omega | (simp only <;> omega) | (simp only [Array.size_setIfInBounds, Go.Ai.swp_size] <;> omega))) ?_)
            repeat (first | (refine And.intro (fun _ => ?_) (fun h => Go.Ai.tf h)) | (refine And.intro (fun _ => ?_) (fun h => Go.Ai.ft h)) | (refine And.intro (fun h => Go.Ai.ft h) (fun _ => ?_)) | (refine And.intro (fun h => Go.Ai.tf h) (fun _ => ?_)))
            apply nxW_of
            · exact idx_pair (a - 1) rfl rfl rfl rfl rfl rfl (by first | omega | (simp only <;> omega) | (simp only [Array.size_setIfInBounds, Go.Ai.swp_size] <;> omega)) (by first | omega | (simp only <;> omega) | (simp only [Array.size_setIfInBounds, Go.Ai.swp_size] <;> omega))
            repeat (first | (refine And.intro (fun _ => ?_) (fun h => Go.Ai.tf h)) | (refine And.intro (fun _ => ?_) (fun h => Go.Ai.ft h)) | (refine And.intro (fun h => Go.Ai.ft h) (fun _ => ?_)) | (refine And.intro (fun h => Go.Ai.tf h) (fun _ => ?_)))
            apply nxW_of
            · exact load_pair (d3) (a - 1) rfl rfl rfl rfl rfl (by first | omega | (simp only <;> omega) | (simp only [Array.size_setIfInBounds, Go.Ai.swp_size] <;> omega))
            repeat (first | (refine And.intro (fun _ => ?_) (fun h => Go.Ai.tf h)) | (refine And.intro (fun _ => ?_) (fun h => Go.Ai.ft h)) | (refine And.intro (fun h => Go.Ai.ft h) (fun _ => ?_)) | (refine And.intro (fun h => Go.Ai.tf h) (fun _ => ?_)))
            apply nxW_of
            · exact idx_pair (p) rfl rfl rfl rfl rfl rfl (by first | omega | (simp only <;> omega) | (simp only [Array.size_setIfInBounds, Go.Ai.swp_size] <;> omega)) (by first | omega | (simp only <;> omega) | (simp only [Array.size_setIfInBounds, Go.Ai.swp_size] <;> omega))
            repeat (first | (refine And.intro (fun _ => ?_) (fun h => Go.Ai.tf h)) | (refine And.intro (fun _ => ?_) (fun h => Go.Ai.ft h)) | (refine And.intro (fun h => Go.Ai.ft h) (fun _ => ?_)) | (refine And.intro (fun h => Go.Ai.tf h) (fun _ => ?_)))
            apply nxW_of
            · exact load_pair (d3) (p) rfl rfl rfl rfl rfl (by first | omega | (simp only <;> omega) | (simp only [Array.size_setIfInBounds, Go.Ai.swp_size] <;> omega))
            repeat (first | (refine And.intro (fun _ => ?_) (fun h => Go.Ai.tf h)) | (refine And.intro (fun _ => ?_) (fun h => Go.Ai.ft h)) | (refine And.intro (fun h => Go.Ai.ft h) (fun _ => ?_)) | (refine And.intro (fun h => Go.Ai.tf h) (fun _ => ?_)))
            refine CallW.of (cmp_ok _ _ _) ?_
            repeat (first | (refine And.intro (fun _ => ?_) (fun h => Go.Ai.tf h)) | (refine And.intro (fun _ => ?_) (fun h => Go.Ai.ft h)) | (refine And.intro (fun h => Go.Ai.ft h) (fun _ => ?_)) | (refine And.intro (fun h => Go.Ai.tf h) (fun _ => ?_)))
            refine And.intro (fun hz => ?_) (fun hz => ?_)
            · have hz := nlt_true hz
              exact absurd ⟨by omega, hz⟩ hE
            · exact ⟨(), trivial, weak_live ⟨rfl, rfl, rfl, rfl, rfl, rfl, rfl, rfl, rfl, trivial⟩ rfl rfl rfl⟩
          · repeat (first | (refine And.intro (fun _ => ?_) (fun h => Go.Ai.tf h)) | (refine And.intro (fun _ => ?_) (fun h => Go.Ai.ft h)) | (refine And.intro (fun h => Go.Ai.ft h) (fun _ => ?_)) | (refine And.intro (fun h => Go.Ai.tf h) (fun _ => ?_)))
            exact ⟨(), trivial, weak_live ⟨rfl, rfl, rfl, rfl, rfl, rfl, rfl, rfl, rfl, trivial⟩ rfl rfl rfl⟩
        rintro ⟨⟩ -
        refine tb_wp CF.tt rfl ?_
        refine CallW.of hcall ?_
        refine Or.inl (And.intro (inK_i64 (by first | omega | (simp only <;> omega) | (simp only [Array.size_setIfInBounds, Go.Ai.swp_size] <;> omega))) ?_)
        refine Or.inl (And.intro (inK_i64 (by first | omega | (simp only <;> omega) | (simp only [Array.size_setIfInBounds, Go.Ai.swp_size] <;> omega))) ?_)
        refine And.intro (fun hlt => ?_) (fun hlt => ?_)
        · have hlt := of_decide_eq_true hlt
          exfalso; omega
        · refine Or.inl (And.intro (inK_i64 (by first | omega | (simp only <;> omega) | (simp only [Array.size_setIfInBounds, Go.Ai.swp_size] <;> omega))) ?_)
          refine CallW.of v3 ?_
          exact LB.weak (s1 := pdqS n d5 a mid l1 _ ap) (weak_live ⟨rfl, rfl, rfl, rfl, rfl, rfl, rfl, trivial⟩ rfl rfl rfl) (q3 h0)
end Go.Proofs.Ytbaoelfpmdmhjaa
set_option maxRecDepth 100000
set_option maxHeartbeats 2000000
namespace Go.Proofs.Ytbaoelfpmdmhjaa
open Go.Ai
open Go.Sort (PermIn SortedIn)
/-! ### SortFunc -/
theorem sort_ok (d : Array PP) (hn : d.size < 256) : ∃ d', PermIn 0 d.size d d' ∧ SortedIn ltP 0 d.size d' ∧
    CallOk Try.prog C 20 [sl d.size, cmpF] (hOne (flatA d) 34 0) (.ret (.tuple #[]) (hOne (flatA d') 34 0)) := by
  obtain ⟨n, hsz⟩ : ∃ n, d.size = n := ⟨_, rfl⟩
  rw [hsz] at hn
  obtain ⟨l, hl, hlen⟩ := len_ok n hn
  have hw : IntKind.wrap .u64 (n : Int) = n := inK_u64 (by omega)
  rw [← hw] at hlen
  obtain ⟨d', p1, p2, p3⟩ := pdq_loop n hn n d 0 n l true true rfl (Nat.zero_le _) (Nat.le_refl _) hsz hl (Or.inl rfl)
  rw [hsz]
  refine ⟨d', p1, p2, ?_⟩
  have hc := pdq_fn (p3 _)
  refine fn_wp CF rfl (n := 14) (res := []) (c := codeOf Try.f20) rfl ?_
  refine CallW.of (hlen _) ?_
  refine CallW.of hc ?_
  exact ⟨rfl, rfl⟩
end Go.Proofs.Ytbaoelfpmdmhjaa
