/- Contracts of the parts of the sort over rows of pairs. Conditions: as each theorem says. -/
import Derived.Test.YtbaoelfpmdmhjaaWalkA
import Derived.Test.YtbaoelfpmdmhjaaEngineD
set_option maxRecDepth 100000
set_option maxHeartbeats 2000000
namespace Go.Proofs.Ytbaoelfpmdmhjaa
open Go.Ai
open Go.Sort (swp insInner insOuter insertionSort)
/-! ### slices.SortFunc's own parts -/
theorem cmp_ok (x y : PP) : ∀ h, CallOk Try.prog C 21 [V2P x, V2P y] h (.ret (.int .i64 ((x.a : Int) - y.a)) h) := by
  refine pure_wp CF rfl 4 3 (n := 10) (res := [.tmp 4]) (c := codeOf Try.f21) rfl rfl rfl ?_
  have := x.h
  have := y.h
  refine Or.inl (And.intro (inK_i64 (by first | omega | (simp only <;> omega) | (simp only [Array.size_setIfInBounds, Go.Ai.swp_size] <;> omega))) ?_)
  rfl
theorem lt_true {x y : PP} (h : decide ((x.a : Int) - y.a < 0) = true) : ltP x y = true := by
  have := of_decide_eq_true h
  simp only [ltP, decide_eq_true_eq]; omega
theorem lt_false {x y : PP} (h : decide ((x.a : Int) - y.a < 0) = false) : ltP x y = false := by
  have := of_decide_eq_false h
  simp only [ltP, decide_eq_false_iff_not]; omega
theorem hp_of {h : H} {cs : List Value} {e : TypeId} {low : Nat} (h1 : h.bl = tree8 none (some (.cells cs e 0 0)) none none none none none none) (h2 : h.ctr = 2) (h3 : h.low = low) : h = hOne cs e low := by cases h; simp only at h1 h2 h3; subst h1; subst h2; subst h3; rfl
def sl (n : Nat) : Value := .slice (some ⟨1, 0, none⟩) n 4
def cmpF : Value := .func (.func 21) #[] #[]
theorem insInner_size (a : Nat) : ∀ (j : Nat) (d : Array PP), (insInner ltP a j d).size = d.size
  | 0, d => rfl
  | j + 1, d => by
    unfold insInner
    split
    · rw [insInner_size a j]; exact swp_size _ _ _
    · rfl
theorem insertion_ok (d : Array PP) (a b : Nat) (hab : a ≤ b) (hb : b ≤ d.size) (hn : d.size < 1000000000) :
    CallOk Try.prog C 49 [sl d.size, I a, I b, cmpF] (hOne (flatA d) 34 0) (.ret (.tuple #[]) (hOne (flatA (insertionSort ltP d a b)) 34 0)) := by
  obtain ⟨n, hsz⟩ : ∃ n, d.size = n := ⟨_, rfl⟩
  rw [hsz]
  rw [hsz] at hb hn
  refine fn_wp CF rfl (n := 53) (res := []) (c := codeOf Try.f49) rfl ?_
  refine Or.inl (And.intro (inK_i64 (by first | omega | (simp only <;> omega) | (simp only [Array.size_setIfInBounds, Go.Ai.swp_size] <;> omega))) ?_)
  refine loopV CF.tt rfl (fun x : Nat × Array PP => ⟨tmOf 6 [(0, sl n), (1, I a), (2, I b), (3, cmpF), (8, I x.1)], [], none, hOne (flatA x.2) 34 0⟩) (a + 1, d)
    (weak_live ⟨rfl, rfl, rfl, rfl, rfl, trivial⟩ rfl rfl rfl) (fun x => b - x.1) (fun x => x.2.size = n ∧ a + 1 ≤ x.1 ∧ (x.1 ≤ b ∨ x.1 = a + 1) ∧ insOuter ltP a b x.1 x.2 = insertionSort ltP d a b) ⟨hsz, Nat.le_refl _, .inr rfl, rfl⟩ ?_
  rintro ⟨i, e⟩ ⟨he, hai, hib, heq⟩
  simp only at he hai hib heq
  refine And.intro (fun h1 => ?_) (fun h1 => ?_)
  · have h1 : (i : Int) < b := of_decide_eq_true h1
    refine loopV CF.tt rfl (fun x : Nat × Array PP => ⟨tmOf 6 [(0, sl n), (1, I a), (2, I b), (3, cmpF), (8, I i), (9, I x.1)], [], none, hOne (flatA x.2) 34 0⟩) (i, e)
      (weak_live ⟨rfl, rfl, rfl, rfl, rfl, rfl, trivial⟩ rfl rfl rfl) (fun x => x.1) (fun x => x.2.size = n ∧ a ≤ x.1 ∧ x.1 ≤ i ∧ insInner ltP a x.1 x.2 = insInner ltP a i e) ⟨he, by omega, Nat.le_refl _, rfl⟩ ?_
    rintro ⟨j, f⟩ ⟨hf, haj, hji, hin⟩
    simp only at hf haj hji hin
    -- the way out of the inner loop
    have out : insInner ltP a j f = f → ∃ x' : Nat × Array PP, (x'.2.size = n ∧ a + 1 ≤ x'.1 ∧ (x'.1 ≤ b ∨ x'.1 = a + 1) ∧ insOuter ltP a b x'.1 x'.2 = insertionSort ltP d a b) ∧ x' = (i + 1, f) := by
      intro hf2
      refine ⟨(i + 1, f), ⟨hf, by simp only; omega, by simp only; omega, ?_⟩, rfl⟩
      have h2 : insOuter ltP a b i e = insOuter ltP a b (i + 1) (insInner ltP a i e) := by
        rw [insOuter, if_pos (by omega)]
      simp only
      rw [← heq, h2, ← hin, hf2]
    refine And.intro (fun h2 => ?_) (fun h2 => ?_)
    · have h2 : (a : Int) < j := of_decide_eq_true h2
      obtain ⟨k, rfl⟩ : ∃ k, j = k + 1 := ⟨j - 1, by omega⟩
      repeat (first | (refine And.intro (fun _ => ?_) (fun h => Go.Ai.tf h)) | (refine And.intro (fun _ => ?_) (fun h => Go.Ai.ft h)) | (refine And.intro (fun h => Go.Ai.ft h) (fun _ => ?_)) | (refine And.intro (fun h => Go.Ai.tf h) (fun _ => ?_)))
      apply nxW_of
      · exact idx_pair (k+1) rfl rfl rfl rfl rfl rfl (by first | omega | (simp only <;> omega) | (simp only [Array.size_setIfInBounds, Go.Ai.swp_size] <;> omega)) (by first | omega | (simp only <;> omega) | (simp only [Array.size_setIfInBounds, Go.Ai.swp_size] <;> omega))
      repeat (first | (refine And.intro (fun _ => ?_) (fun h => Go.Ai.tf h)) | (refine And.intro (fun _ => ?_) (fun h => Go.Ai.ft h)) | (refine And.intro (fun h => Go.Ai.ft h) (fun _ => ?_)) | (refine And.intro (fun h => Go.Ai.tf h) (fun _ => ?_)))
      apply nxW_of
      · exact load_pair (f) (k+1) rfl rfl rfl rfl rfl (by first | omega | (simp only <;> omega) | (simp only [Array.size_setIfInBounds, Go.Ai.swp_size] <;> omega))
      repeat (first | (refine And.intro (fun _ => ?_) (fun h => Go.Ai.tf h)) | (refine And.intro (fun _ => ?_) (fun h => Go.Ai.ft h)) | (refine And.intro (fun h => Go.Ai.ft h) (fun _ => ?_)) | (refine And.intro (fun h => Go.Ai.tf h) (fun _ => ?_)))
      refine Or.inl (And.intro (inK_i64 (by first | omega | (simp only <;> omega) | (simp only [Array.size_setIfInBounds, Go.Ai.swp_size] <;> omega))) ?_)
      repeat (first | (refine And.intro (fun _ => ?_) (fun h => Go.Ai.tf h)) | (refine And.intro (fun _ => ?_) (fun h => Go.Ai.ft h)) | (refine And.intro (fun h => Go.Ai.ft h) (fun _ => ?_)) | (refine And.intro (fun h => Go.Ai.tf h) (fun _ => ?_)))
      apply nxW_of
      · exact idx_pair (k) rfl rfl rfl rfl rfl rfl (by first | omega | (simp only <;> omega) | (simp only [Array.size_setIfInBounds, Go.Ai.swp_size] <;> omega)) (by first | omega | (simp only <;> omega) | (simp only [Array.size_setIfInBounds, Go.Ai.swp_size] <;> omega))
      repeat (first | (refine And.intro (fun _ => ?_) (fun h => Go.Ai.tf h)) | (refine And.intro (fun _ => ?_) (fun h => Go.Ai.ft h)) | (refine And.intro (fun h => Go.Ai.ft h) (fun _ => ?_)) | (refine And.intro (fun h => Go.Ai.tf h) (fun _ => ?_)))
      apply nxW_of
      · exact load_pair (f) (k) rfl rfl rfl rfl rfl (by first | omega | (simp only <;> omega) | (simp only [Array.size_setIfInBounds, Go.Ai.swp_size] <;> omega))
      repeat (first | (refine And.intro (fun _ => ?_) (fun h => Go.Ai.tf h)) | (refine And.intro (fun _ => ?_) (fun h => Go.Ai.ft h)) | (refine And.intro (fun h => Go.Ai.ft h) (fun _ => ?_)) | (refine And.intro (fun h => Go.Ai.tf h) (fun _ => ?_)))
      refine CallW.of (cmp_ok _ _ _) ?_
      repeat (first | (refine And.intro (fun _ => ?_) (fun h => Go.Ai.tf h)) | (refine And.intro (fun _ => ?_) (fun h => Go.Ai.ft h)) | (refine And.intro (fun h => Go.Ai.ft h) (fun _ => ?_)) | (refine And.intro (fun h => Go.Ai.tf h) (fun _ => ?_)))
      refine And.intro (fun h3 => ?_) (fun h3 => ?_)
      · have h3 := lt_true h3
        refine Or.inl (And.intro (inK_i64 (by first | omega | (simp only <;> omega) | (simp only [Array.size_setIfInBounds, Go.Ai.swp_size] <;> omega))) ?_)
        refine Or.inl (And.intro (inK_i64 (by first | omega | (simp only <;> omega) | (simp only [Array.size_setIfInBounds, Go.Ai.swp_size] <;> omega))) ?_)
        apply nxW_of
        · exact idx_pair (k) rfl rfl rfl rfl rfl rfl (by first | omega | (simp only <;> omega) | (simp only [Array.size_setIfInBounds, Go.Ai.swp_size] <;> omega)) (by first | omega | (simp only <;> omega) | (simp only [Array.size_setIfInBounds, Go.Ai.swp_size] <;> omega))
        apply nxW_of
        · exact load_pair (f) (k) rfl rfl rfl rfl rfl (by first | omega | (simp only <;> omega) | (simp only [Array.size_setIfInBounds, Go.Ai.swp_size] <;> omega))
        apply nxW_of
        · exact idx_pair (k+1) rfl rfl rfl rfl rfl rfl (by first | omega | (simp only <;> omega) | (simp only [Array.size_setIfInBounds, Go.Ai.swp_size] <;> omega)) (by first | omega | (simp only <;> omega) | (simp only [Array.size_setIfInBounds, Go.Ai.swp_size] <;> omega))
        apply nxW_of
        · exact load_pair (f) (k+1) rfl rfl rfl rfl rfl (by first | omega | (simp only <;> omega) | (simp only [Array.size_setIfInBounds, Go.Ai.swp_size] <;> omega))
        apply nxW_of
        · exact idx_pair (k+1) rfl rfl rfl rfl rfl rfl (by first | omega | (simp only <;> omega) | (simp only [Array.size_setIfInBounds, Go.Ai.swp_size] <;> omega)) (by first | omega | (simp only <;> omega) | (simp only [Array.size_setIfInBounds, Go.Ai.swp_size] <;> omega))
        apply nxW_of
        · exact store_pair (f) (k+1) (f[k]!) rfl rfl rfl rfl rfl (by first | omega | (simp only <;> omega) | (simp only [Array.size_setIfInBounds, Go.Ai.swp_size] <;> omega))
        apply nxW_of
        · exact idx_pair (k) rfl rfl rfl rfl rfl rfl (by first | omega | (simp only <;> omega) | (simp only [Array.size_setIfInBounds, Go.Ai.swp_size] <;> omega)) (by first | omega | (simp only <;> omega) | (simp only [Array.size_setIfInBounds, Go.Ai.swp_size] <;> omega))
        apply nxW_of
        · exact store_pair (f.setIfInBounds (k + 1) f[k]!) (k) (f[k + 1]!) rfl rfl rfl rfl rfl (by first | omega | (simp only <;> omega) | (simp only [Array.size_setIfInBounds, Go.Ai.swp_size] <;> omega))
        refine Or.inl (And.intro (inK_i64 (by first | omega | (simp only <;> omega) | (simp only [Array.size_setIfInBounds, Go.Ai.swp_size] <;> omega))) ?_)
        have hin2 : insInner ltP a (k + 1) f = insInner ltP a k (swp f (k + 1) k) := by
          rw [insInner, h3]
          rw [if_pos (by simp; omega)]
        refine ⟨(k, swp f (k + 1) k), ⟨by simp only [swp_size]; exact hf, by simp only; omega, by simp only; omega, by simp only; rw [← hin2]; exact hin⟩, weak_live ⟨rfl, rfl, rfl, rfl, rfl, ?_, trivial⟩ rfl rfl (hp_of ?_ ?_ ?_), by simp only; omega⟩
        rotate_left
        · rfl
        · rfl
        · rfl
        refine congrArg (fun z => some (Value.int .i64 z)) ?_
        show ((k + 1 : Nat) : Int) - 1 = (k : Nat)
        omega
      · have h3 := lt_false h3
        obtain ⟨x', hx', rfl⟩ := out (by rw [insInner, h3]; simp)
        refine Or.inl (And.intro (inK_i64 (by first | omega | (simp only <;> omega) | (simp only [Array.size_setIfInBounds, Go.Ai.swp_size] <;> omega))) ?_)
        exact ⟨(i + 1, f), hx', weak_live ⟨rfl, rfl, rfl, rfl, rfl, trivial⟩ rfl rfl rfl, by simp only; omega⟩
    · have h2 : ¬ (a : Int) < j := of_decide_eq_false h2
      obtain ⟨x', hx', rfl⟩ := out (by
        cases j with
        | zero => rfl
        | succ k => rw [insInner, if_neg (by simp; omega)])
      repeat (first | (refine And.intro (fun _ => ?_) (fun h => Go.Ai.tf h)) | (refine And.intro (fun _ => ?_) (fun h => Go.Ai.ft h)) | (refine And.intro (fun h => Go.Ai.ft h) (fun _ => ?_)) | (refine And.intro (fun h => Go.Ai.tf h) (fun _ => ?_)))
      refine Or.inl (And.intro (inK_i64 (by first | omega | (simp only <;> omega) | (simp only [Array.size_setIfInBounds, Go.Ai.swp_size] <;> omega))) ?_)
      exact ⟨(i + 1, f), hx', weak_live ⟨rfl, rfl, rfl, rfl, rfl, trivial⟩ rfl rfl rfl, by simp only; omega⟩
  · have h1 : ¬ (i : Int) < b := of_decide_eq_false h1
    have h2 : insOuter ltP a b i e = e := by rw [insOuter, if_neg (by omega)]
    rw [← heq, h2]
    exact ⟨rfl, rfl⟩
end Go.Proofs.Ytbaoelfpmdmhjaa
set_option maxRecDepth 100000
set_option maxHeartbeats 2000000
namespace Go.Proofs.Ytbaoelfpmdmhjaa
open Go.Ai
open Go.Sort (swp reverseLoop reverseRange siftDown)
/-! ### reverseRange, siftDown -/
theorem iv {z : Int} {k : Nat} (h : z = k) : some (Value.int .i64 z) = some (I k) := by rw [h]; rfl
theorem nlt_true {x y : PP} (h : (!decide ((x.a : Int) - y.a < 0)) = true) : ltP x y = false := by
  refine lt_false ?_
  simpa using h
theorem nlt_false {x y : PP} (h : (!decide ((x.a : Int) - y.a < 0)) = false) : ltP x y = true := by
  refine lt_true ?_
  simpa using h
theorem reverse_ok (d : Array PP) (a b : Nat) (hb1 : 1 ≤ b) (ha : a ≤ d.size) (hb : b ≤ d.size) (hn : d.size < 1000000000) :
    CallOk Try.prog C 53 [sl d.size, I a, I b, cmpF] (hOne (flatA d) 34 0) (.ret (.tuple #[]) (hOne (flatA (reverseRange d a b)) 34 0)) := by
  obtain ⟨n, hsz⟩ : ∃ n, d.size = n := ⟨_, rfl⟩
  rw [hsz]
  rw [hsz] at hb hn ha
  refine fn_wp CF rfl (n := 34) (res := []) (c := codeOf Try.f53) rfl ?_
  refine Or.inl (And.intro (inK_i64 (by first | omega | (simp only <;> omega) | (simp only [Array.size_setIfInBounds, Go.Ai.swp_size] <;> omega))) ?_)
  refine loopV CF.tt rfl (fun x : Nat × Nat × Array PP => ⟨tmOf 6 [(0, sl n), (8, I x.1), (9, I x.2.1)], [], none, hOne (flatA x.2.2) 34 0⟩) (a, b - 1, d)
    (weak_live ⟨rfl, rfl, (iv (by first | omega | (simp only <;> omega) | (simp only [Array.size_setIfInBounds, Go.Ai.swp_size] <;> omega))), trivial⟩ rfl rfl rfl) (fun x => x.2.1 - x.1) (fun x => x.2.2.size = n ∧ x.1 ≤ n ∧ x.2.1 < n ∧ reverseLoop x.1 x.2.1 x.2.2 = reverseRange d a b) ⟨hsz, ha, by show b - 1 < n; omega, rfl⟩ ?_
  rintro ⟨i, j, e⟩ ⟨he, hi, hj, heq⟩
  simp only at he hi hj heq
  refine And.intro (fun h1 => ?_) (fun h1 => ?_)
  · have h1 : (i : Int) < j := of_decide_eq_true h1
    apply nxW_of
    · exact idx_pair (j) rfl rfl rfl rfl rfl rfl (by first | omega | (simp only <;> omega) | (simp only [Array.size_setIfInBounds, Go.Ai.swp_size] <;> omega)) (by first | omega | (simp only <;> omega) | (simp only [Array.size_setIfInBounds, Go.Ai.swp_size] <;> omega))
    apply nxW_of
    · exact load_pair (e) (j) rfl rfl rfl rfl rfl (by first | omega | (simp only <;> omega) | (simp only [Array.size_setIfInBounds, Go.Ai.swp_size] <;> omega))
    apply nxW_of
    · exact idx_pair (i) rfl rfl rfl rfl rfl rfl (by first | omega | (simp only <;> omega) | (simp only [Array.size_setIfInBounds, Go.Ai.swp_size] <;> omega)) (by first | omega | (simp only <;> omega) | (simp only [Array.size_setIfInBounds, Go.Ai.swp_size] <;> omega))
    apply nxW_of
    · exact load_pair (e) (i) rfl rfl rfl rfl rfl (by first | omega | (simp only <;> omega) | (simp only [Array.size_setIfInBounds, Go.Ai.swp_size] <;> omega))
    apply nxW_of
    · exact idx_pair (i) rfl rfl rfl rfl rfl rfl (by first | omega | (simp only <;> omega) | (simp only [Array.size_setIfInBounds, Go.Ai.swp_size] <;> omega)) (by first | omega | (simp only <;> omega) | (simp only [Array.size_setIfInBounds, Go.Ai.swp_size] <;> omega))
    apply nxW_of
    · exact store_pair (e) (i) (e[j]!) rfl rfl rfl rfl rfl (by first | omega | (simp only <;> omega) | (simp only [Array.size_setIfInBounds, Go.Ai.swp_size] <;> omega))
    apply nxW_of
    · exact idx_pair (j) rfl rfl rfl rfl rfl rfl (by first | omega | (simp only <;> omega) | (simp only [Array.size_setIfInBounds, Go.Ai.swp_size] <;> omega)) (by first | omega | (simp only <;> omega) | (simp only [Array.size_setIfInBounds, Go.Ai.swp_size] <;> omega))
    apply nxW_of
    · exact store_pair (e.setIfInBounds i e[j]!) (j) (e[i]!) rfl rfl rfl rfl rfl (by first | omega | (simp only <;> omega) | (simp only [Array.size_setIfInBounds, Go.Ai.swp_size] <;> omega))
    refine Or.inl (And.intro (inK_i64 (by first | omega | (simp only <;> omega) | (simp only [Array.size_setIfInBounds, Go.Ai.swp_size] <;> omega))) ?_)
    refine Or.inl (And.intro (inK_i64 (by first | omega | (simp only <;> omega) | (simp only [Array.size_setIfInBounds, Go.Ai.swp_size] <;> omega))) ?_)
    refine ⟨(i + 1, j - 1, swp e i j), ⟨by simp only [swp_size]; exact he, by simp only; omega, by simp only; omega, ?_⟩, weak_live ⟨rfl, (iv (by first | omega | (simp only <;> omega) | (simp only [Array.size_setIfInBounds, Go.Ai.swp_size] <;> omega))), (iv (by first | omega | (simp only <;> omega) | (simp only [Array.size_setIfInBounds, Go.Ai.swp_size] <;> omega))), trivial⟩ rfl rfl (hp_of rfl rfl rfl), by simp only; omega⟩
    have h2 : reverseLoop i j e = reverseLoop (i + 1) (j - 1) (swp e i j) := by rw [reverseLoop, if_pos (by omega)]
    rw [← heq, h2]
  · have h1 : ¬ (i : Int) < j := of_decide_eq_false h1
    have h2 : reverseLoop i j e = e := by rw [reverseLoop, if_neg (by omega)]
    rw [← heq, h2]
    exact ⟨rfl, rfl⟩
theorem sift_ok (d : Array PP) (lo hi first : Nat) (hlo : lo ≤ hi) (hf : first + hi ≤ d.size) (hn : d.size < 1000000000) :
    CallOk Try.prog C 66 [sl d.size, I lo, I hi, I first, cmpF] (hOne (flatA d) 34 0) (.ret (.tuple #[]) (hOne (flatA (siftDown ltP hi first lo d)) 34 0)) := by
  obtain ⟨n, hsz⟩ : ∃ n, d.size = n := ⟨_, rfl⟩
  rw [hsz]
  rw [hsz] at hf hn
  refine fn_wp CF rfl (n := 82) (res := []) (c := codeOf Try.f66) rfl ?_
  refine loopV CF.tt rfl (fun x : Nat × Array PP => ⟨tmOf 7 [(0, sl n), (2, I hi), (3, I first), (4, cmpF), (10, I x.1)], [], none, hOne (flatA x.2) 34 0⟩) (lo, d)
    (weak_live ⟨rfl, rfl, rfl, rfl, rfl, trivial⟩ rfl rfl rfl) (fun x => hi - x.1) (fun x => x.2.size = n ∧ x.1 ≤ hi ∧ siftDown ltP hi first x.1 x.2 = siftDown ltP hi first lo d) ⟨hsz, hlo, rfl⟩ ?_
  rintro ⟨r, e⟩ ⟨he, hr, heq⟩
  simp only at he hr heq
  refine Or.inl (And.intro (inK_i64 (by first | omega | (simp only <;> omega) | (simp only [Array.size_setIfInBounds, Go.Ai.swp_size] <;> omega))) ?_)
  refine Or.inl (And.intro (inK_i64 (by first | omega | (simp only <;> omega) | (simp only [Array.size_setIfInBounds, Go.Ai.swp_size] <;> omega))) ?_)
  refine And.intro (fun h1 => ?_) (fun h1 => ?_)
  · have h1 : ¬ (2 * (r : Int) + 1 < hi) := by have := of_decide_eq_true h1; simp only at this; omega
    have h2 : siftDown ltP hi first r e = e := by rw [siftDown, dif_pos (by omega)]
    rw [← heq, h2]
    exact ⟨rfl, rfl⟩
  · have h1 : 2 * (r : Int) + 1 < hi := by have := of_decide_eq_false h1; simp only at this; omega
    refine Or.inl (And.intro (inK_i64 (by first | omega | (simp only <;> omega) | (simp only [Array.size_setIfInBounds, Go.Ai.swp_size] <;> omega))) ?_)
    refine And.intro (fun h2 => ?_) (fun h2 => ?_)
    · have h2 : 2 * (r : Int) + 1 + 1 < hi := by have := of_decide_eq_true h2; simp only at this; omega
      repeat (first | (refine And.intro (fun _ => ?_) (fun h => Go.Ai.tf h)) | (refine And.intro (fun _ => ?_) (fun h => Go.Ai.ft h)) | (refine And.intro (fun h => Go.Ai.ft h) (fun _ => ?_)) | (refine And.intro (fun h => Go.Ai.tf h) (fun _ => ?_)))
      refine Or.inl (And.intro (inK_i64 (by first | omega | (simp only <;> omega) | (simp only [Array.size_setIfInBounds, Go.Ai.swp_size] <;> omega))) ?_)
      repeat (first | (refine And.intro (fun _ => ?_) (fun h => Go.Ai.tf h)) | (refine And.intro (fun _ => ?_) (fun h => Go.Ai.ft h)) | (refine And.intro (fun h => Go.Ai.ft h) (fun _ => ?_)) | (refine And.intro (fun h => Go.Ai.tf h) (fun _ => ?_)))
      apply nxW_of
      · exact idx_pair (first + (2 * r + 1)) rfl rfl rfl rfl rfl rfl (by first | omega | (simp only <;> omega) | (simp only [Array.size_setIfInBounds, Go.Ai.swp_size] <;> omega)) (by first | omega | (simp only <;> omega) | (simp only [Array.size_setIfInBounds, Go.Ai.swp_size] <;> omega))
      repeat (first | (refine And.intro (fun _ => ?_) (fun h => Go.Ai.tf h)) | (refine And.intro (fun _ => ?_) (fun h => Go.Ai.ft h)) | (refine And.intro (fun h => Go.Ai.ft h) (fun _ => ?_)) | (refine And.intro (fun h => Go.Ai.tf h) (fun _ => ?_)))
      apply nxW_of
      · exact load_pair (e) (first + (2 * r + 1)) rfl rfl rfl rfl rfl (by first | omega | (simp only <;> omega) | (simp only [Array.size_setIfInBounds, Go.Ai.swp_size] <;> omega))
      repeat (first | (refine And.intro (fun _ => ?_) (fun h => Go.Ai.tf h)) | (refine And.intro (fun _ => ?_) (fun h => Go.Ai.ft h)) | (refine And.intro (fun h => Go.Ai.ft h) (fun _ => ?_)) | (refine And.intro (fun h => Go.Ai.tf h) (fun _ => ?_)))
      refine Or.inl (And.intro (inK_i64 (by first | omega | (simp only <;> omega) | (simp only [Array.size_setIfInBounds, Go.Ai.swp_size] <;> omega))) ?_)
      repeat (first | (refine And.intro (fun _ => ?_) (fun h => Go.Ai.tf h)) | (refine And.intro (fun _ => ?_) (fun h => Go.Ai.ft h)) | (refine And.intro (fun h => Go.Ai.ft h) (fun _ => ?_)) | (refine And.intro (fun h => Go.Ai.tf h) (fun _ => ?_)))
      refine Or.inl (And.intro (inK_i64 (by first | omega | (simp only <;> omega) | (simp only [Array.size_setIfInBounds, Go.Ai.swp_size] <;> omega))) ?_)
      repeat (first | (refine And.intro (fun _ => ?_) (fun h => Go.Ai.tf h)) | (refine And.intro (fun _ => ?_) (fun h => Go.Ai.ft h)) | (refine And.intro (fun h => Go.Ai.ft h) (fun _ => ?_)) | (refine And.intro (fun h => Go.Ai.tf h) (fun _ => ?_)))
      apply nxW_of
      · exact idx_pair (first + (2 * r + 1) + 1) rfl rfl rfl rfl rfl rfl (by first | omega | (simp only <;> omega) | (simp only [Array.size_setIfInBounds, Go.Ai.swp_size] <;> omega)) (by first | omega | (simp only <;> omega) | (simp only [Array.size_setIfInBounds, Go.Ai.swp_size] <;> omega))
      repeat (first | (refine And.intro (fun _ => ?_) (fun h => Go.Ai.tf h)) | (refine And.intro (fun _ => ?_) (fun h => Go.Ai.ft h)) | (refine And.intro (fun h => Go.Ai.ft h) (fun _ => ?_)) | (refine And.intro (fun h => Go.Ai.tf h) (fun _ => ?_)))
      apply nxW_of
      · exact load_pair (e) (first + (2 * r + 1) + 1) rfl rfl rfl rfl rfl (by first | omega | (simp only <;> omega) | (simp only [Array.size_setIfInBounds, Go.Ai.swp_size] <;> omega))
      repeat (first | (refine And.intro (fun _ => ?_) (fun h => Go.Ai.tf h)) | (refine And.intro (fun _ => ?_) (fun h => Go.Ai.ft h)) | (refine And.intro (fun h => Go.Ai.ft h) (fun _ => ?_)) | (refine And.intro (fun h => Go.Ai.tf h) (fun _ => ?_)))
      refine CallW.of (cmp_ok _ _ _) ?_
      repeat (first | (refine And.intro (fun _ => ?_) (fun h => Go.Ai.tf h)) | (refine And.intro (fun _ => ?_) (fun h => Go.Ai.ft h)) | (refine And.intro (fun h => Go.Ai.ft h) (fun _ => ?_)) | (refine And.intro (fun h => Go.Ai.tf h) (fun _ => ?_)))
      refine And.intro (fun h3 => ?_) (fun h3 => ?_)
      · have h3 := lt_true h3
        have hc : (decide (2 * r + 1 + 1 < hi) && ltP e[first + (2 * r + 1)]! e[first + (2 * r + 1) + 1]!) = true := by rw [h3]; simp; omega
        refine Or.inl (And.intro (inK_i64 (by first | omega | (simp only <;> omega) | (simp only [Array.size_setIfInBounds, Go.Ai.swp_size] <;> omega))) ?_)
        refine Or.inl (And.intro (inK_i64 (by first | omega | (simp only <;> omega) | (simp only [Array.size_setIfInBounds, Go.Ai.swp_size] <;> omega))) ?_)
        apply nxW_of
        · exact idx_pair (first + r) rfl rfl rfl rfl rfl rfl (by first | omega | (simp only <;> omega) | (simp only [Array.size_setIfInBounds, Go.Ai.swp_size] <;> omega)) (by first | omega | (simp only <;> omega) | (simp only [Array.size_setIfInBounds, Go.Ai.swp_size] <;> omega))
        apply nxW_of
        · exact load_pair (e) (first + r) rfl rfl rfl rfl rfl (by first | omega | (simp only <;> omega) | (simp only [Array.size_setIfInBounds, Go.Ai.swp_size] <;> omega))
        refine Or.inl (And.intro (inK_i64 (by first | omega | (simp only <;> omega) | (simp only [Array.size_setIfInBounds, Go.Ai.swp_size] <;> omega))) ?_)
        apply nxW_of
        · exact idx_pair (first + (2 * r + 2)) rfl rfl rfl rfl rfl rfl (by first | omega | (simp only <;> omega) | (simp only [Array.size_setIfInBounds, Go.Ai.swp_size] <;> omega)) (by first | omega | (simp only <;> omega) | (simp only [Array.size_setIfInBounds, Go.Ai.swp_size] <;> omega))
        apply nxW_of
        · exact load_pair (e) (first + (2 * r + 2)) rfl rfl rfl rfl rfl (by first | omega | (simp only <;> omega) | (simp only [Array.size_setIfInBounds, Go.Ai.swp_size] <;> omega))
        refine CallW.of (cmp_ok _ _ _) ?_
        refine And.intro (fun h4 => ?_) (fun h4 => ?_)
        · have h4 := nlt_true h4
          have h5 : siftDown ltP hi first r e = e := by rw [siftDown, dif_neg (by omega)]; rw [if_pos hc, if_pos (by rw [h4]; rfl)]
          rw [← heq, h5]
          exact ⟨rfl, rfl⟩
        · have h4 := nlt_false h4
          refine Or.inl (And.intro (inK_i64 (by first | omega | (simp only <;> omega) | (simp only [Array.size_setIfInBounds, Go.Ai.swp_size] <;> omega))) ?_)
          refine Or.inl (And.intro (inK_i64 (by first | omega | (simp only <;> omega) | (simp only [Array.size_setIfInBounds, Go.Ai.swp_size] <;> omega))) ?_)
          refine Or.inl (And.intro (inK_i64 (by first | omega | (simp only <;> omega) | (simp only [Array.size_setIfInBounds, Go.Ai.swp_size] <;> omega))) ?_)
          apply nxW_of
          · exact idx_pair (first + (2 * r + 2)) rfl rfl rfl rfl rfl rfl (by first | omega | (simp only <;> omega) | (simp only [Array.size_setIfInBounds, Go.Ai.swp_size] <;> omega)) (by first | omega | (simp only <;> omega) | (simp only [Array.size_setIfInBounds, Go.Ai.swp_size] <;> omega))
          apply nxW_of
          · exact load_pair (e) (first + (2 * r + 2)) rfl rfl rfl rfl rfl (by first | omega | (simp only <;> omega) | (simp only [Array.size_setIfInBounds, Go.Ai.swp_size] <;> omega))
          refine Or.inl (And.intro (inK_i64 (by first | omega | (simp only <;> omega) | (simp only [Array.size_setIfInBounds, Go.Ai.swp_size] <;> omega))) ?_)
          apply nxW_of
          · exact idx_pair (first + r) rfl rfl rfl rfl rfl rfl (by first | omega | (simp only <;> omega) | (simp only [Array.size_setIfInBounds, Go.Ai.swp_size] <;> omega)) (by first | omega | (simp only <;> omega) | (simp only [Array.size_setIfInBounds, Go.Ai.swp_size] <;> omega))
          apply nxW_of
          · exact load_pair (e) (first + r) rfl rfl rfl rfl rfl (by first | omega | (simp only <;> omega) | (simp only [Array.size_setIfInBounds, Go.Ai.swp_size] <;> omega))
          apply nxW_of
          · exact idx_pair (first + r) rfl rfl rfl rfl rfl rfl (by first | omega | (simp only <;> omega) | (simp only [Array.size_setIfInBounds, Go.Ai.swp_size] <;> omega)) (by first | omega | (simp only <;> omega) | (simp only [Array.size_setIfInBounds, Go.Ai.swp_size] <;> omega))
          apply nxW_of
          · exact store_pair (e) (first + r) (e[first + (2 * r + 2)]!) rfl rfl rfl rfl rfl (by first | omega | (simp only <;> omega) | (simp only [Array.size_setIfInBounds, Go.Ai.swp_size] <;> omega))
          apply nxW_of
          · exact idx_pair (first + (2 * r + 2)) rfl rfl rfl rfl rfl rfl (by first | omega | (simp only <;> omega) | (simp only [Array.size_setIfInBounds, Go.Ai.swp_size] <;> omega)) (by first | omega | (simp only <;> omega) | (simp only [Array.size_setIfInBounds, Go.Ai.swp_size] <;> omega))
          apply nxW_of
          · exact store_pair (e.setIfInBounds (first + r) e[first + (2 * r + 2)]!) (first + (2 * r + 2)) (e[first + r]!) rfl rfl rfl rfl rfl (by first | omega | (simp only <;> omega) | (simp only [Array.size_setIfInBounds, Go.Ai.swp_size] <;> omega))
          have h5 : siftDown ltP hi first r e = siftDown ltP hi first ((2 * r + 2)) (swp e (first + r) (first + (2 * r + 2))) := by rw [siftDown, dif_neg (by omega)]; rw [if_pos hc, if_neg (by rw [h4]; simp), dif_pos (by omega)]
          refine ⟨((2 * r + 2), swp e (first + r) (first + (2 * r + 2))), ⟨by simp only [swp_size]; exact he, by simp only; omega, by simp only; rw [← heq, h5]⟩, weak_live ⟨rfl, rfl, rfl, rfl, (iv (by first | omega | (simp only <;> omega) | (simp only [Array.size_setIfInBounds, Go.Ai.swp_size] <;> omega))), trivial⟩ rfl rfl (hp_of rfl rfl rfl), by simp only; omega⟩
      · have h3 := lt_false h3
        have hc : ¬ (decide (2 * r + 1 + 1 < hi) && ltP e[first + (2 * r + 1)]! e[first + (2 * r + 1) + 1]!) = true := by rw [h3]; simp
        refine Or.inl (And.intro (inK_i64 (by first | omega | (simp only <;> omega) | (simp only [Array.size_setIfInBounds, Go.Ai.swp_size] <;> omega))) ?_)
        apply nxW_of
        · exact idx_pair (first + r) rfl rfl rfl rfl rfl rfl (by first | omega | (simp only <;> omega) | (simp only [Array.size_setIfInBounds, Go.Ai.swp_size] <;> omega)) (by first | omega | (simp only <;> omega) | (simp only [Array.size_setIfInBounds, Go.Ai.swp_size] <;> omega))
        apply nxW_of
        · exact load_pair (e) (first + r) rfl rfl rfl rfl rfl (by first | omega | (simp only <;> omega) | (simp only [Array.size_setIfInBounds, Go.Ai.swp_size] <;> omega))
        refine Or.inl (And.intro (inK_i64 (by first | omega | (simp only <;> omega) | (simp only [Array.size_setIfInBounds, Go.Ai.swp_size] <;> omega))) ?_)
        apply nxW_of
        · exact idx_pair (first + (2 * r + 1)) rfl rfl rfl rfl rfl rfl (by first | omega | (simp only <;> omega) | (simp only [Array.size_setIfInBounds, Go.Ai.swp_size] <;> omega)) (by first | omega | (simp only <;> omega) | (simp only [Array.size_setIfInBounds, Go.Ai.swp_size] <;> omega))
        apply nxW_of
        · exact load_pair (e) (first + (2 * r + 1)) rfl rfl rfl rfl rfl (by first | omega | (simp only <;> omega) | (simp only [Array.size_setIfInBounds, Go.Ai.swp_size] <;> omega))
        refine CallW.of (cmp_ok _ _ _) ?_
        refine And.intro (fun h4 => ?_) (fun h4 => ?_)
        · have h4 := nlt_true h4
          have h5 : siftDown ltP hi first r e = e := by rw [siftDown, dif_neg (by omega)]; rw [if_neg hc, if_pos (by rw [h4]; rfl)]
          rw [← heq, h5]
          exact ⟨rfl, rfl⟩
        · have h4 := nlt_false h4
          refine Or.inl (And.intro (inK_i64 (by first | omega | (simp only <;> omega) | (simp only [Array.size_setIfInBounds, Go.Ai.swp_size] <;> omega))) ?_)
          refine Or.inl (And.intro (inK_i64 (by first | omega | (simp only <;> omega) | (simp only [Array.size_setIfInBounds, Go.Ai.swp_size] <;> omega))) ?_)
          refine Or.inl (And.intro (inK_i64 (by first | omega | (simp only <;> omega) | (simp only [Array.size_setIfInBounds, Go.Ai.swp_size] <;> omega))) ?_)
          apply nxW_of
          · exact idx_pair (first + (2 * r + 1)) rfl rfl rfl rfl rfl rfl (by first | omega | (simp only <;> omega) | (simp only [Array.size_setIfInBounds, Go.Ai.swp_size] <;> omega)) (by first | omega | (simp only <;> omega) | (simp only [Array.size_setIfInBounds, Go.Ai.swp_size] <;> omega))
          apply nxW_of
          · exact load_pair (e) (first + (2 * r + 1)) rfl rfl rfl rfl rfl (by first | omega | (simp only <;> omega) | (simp only [Array.size_setIfInBounds, Go.Ai.swp_size] <;> omega))
          refine Or.inl (And.intro (inK_i64 (by first | omega | (simp only <;> omega) | (simp only [Array.size_setIfInBounds, Go.Ai.swp_size] <;> omega))) ?_)
          apply nxW_of
          · exact idx_pair (first + r) rfl rfl rfl rfl rfl rfl (by first | omega | (simp only <;> omega) | (simp only [Array.size_setIfInBounds, Go.Ai.swp_size] <;> omega)) (by first | omega | (simp only <;> omega) | (simp only [Array.size_setIfInBounds, Go.Ai.swp_size] <;> omega))
          apply nxW_of
          · exact load_pair (e) (first + r) rfl rfl rfl rfl rfl (by first | omega | (simp only <;> omega) | (simp only [Array.size_setIfInBounds, Go.Ai.swp_size] <;> omega))
          apply nxW_of
          · exact idx_pair (first + r) rfl rfl rfl rfl rfl rfl (by first | omega | (simp only <;> omega) | (simp only [Array.size_setIfInBounds, Go.Ai.swp_size] <;> omega)) (by first | omega | (simp only <;> omega) | (simp only [Array.size_setIfInBounds, Go.Ai.swp_size] <;> omega))
          apply nxW_of
          · exact store_pair (e) (first + r) (e[first + (2 * r + 1)]!) rfl rfl rfl rfl rfl (by first | omega | (simp only <;> omega) | (simp only [Array.size_setIfInBounds, Go.Ai.swp_size] <;> omega))
          apply nxW_of
          · exact idx_pair (first + (2 * r + 1)) rfl rfl rfl rfl rfl rfl (by first | omega | (simp only <;> omega) | (simp only [Array.size_setIfInBounds, Go.Ai.swp_size] <;> omega)) (by first | omega | (simp only <;> omega) | (simp only [Array.size_setIfInBounds, Go.Ai.swp_size] <;> omega))
          apply nxW_of
          · exact store_pair (e.setIfInBounds (first + r) e[first + (2 * r + 1)]!) (first + (2 * r + 1)) (e[first + r]!) rfl rfl rfl rfl rfl (by first | omega | (simp only <;> omega) | (simp only [Array.size_setIfInBounds, Go.Ai.swp_size] <;> omega))
          have h5 : siftDown ltP hi first r e = siftDown ltP hi first ((2 * r + 1)) (swp e (first + r) (first + (2 * r + 1))) := by rw [siftDown, dif_neg (by omega)]; rw [if_neg hc, if_neg (by rw [h4]; simp)]
          refine ⟨((2 * r + 1), swp e (first + r) (first + (2 * r + 1))), ⟨by simp only [swp_size]; exact he, by simp only; omega, by simp only; rw [← heq, h5]⟩, weak_live ⟨rfl, rfl, rfl, rfl, (iv (by first | omega | (simp only <;> omega) | (simp only [Array.size_setIfInBounds, Go.Ai.swp_size] <;> omega))), trivial⟩ rfl rfl (hp_of rfl rfl rfl), by simp only; omega⟩
    · have h2 : ¬ 2 * (r : Int) + 1 + 1 < hi := by have := of_decide_eq_false h2; simp only at this; omega
      repeat (first | (refine And.intro (fun _ => ?_) (fun h => Go.Ai.tf h)) | (refine And.intro (fun _ => ?_) (fun h => Go.Ai.ft h)) | (refine And.intro (fun h => Go.Ai.ft h) (fun _ => ?_)) | (refine And.intro (fun h => Go.Ai.tf h) (fun _ => ?_)))
      have hc : ¬ (decide (2 * r + 1 + 1 < hi) && ltP e[first + (2 * r + 1)]! e[first + (2 * r + 1) + 1]!) = true := by simp only [Bool.and_eq_true, decide_eq_true_eq]; omega
      refine Or.inl (And.intro (inK_i64 (by first | omega | (simp only <;> omega) | (simp only [Array.size_setIfInBounds, Go.Ai.swp_size] <;> omega))) ?_)
      apply nxW_of
      · exact idx_pair (first + r) rfl rfl rfl rfl rfl rfl (by first | omega | (simp only <;> omega) | (simp only [Array.size_setIfInBounds, Go.Ai.swp_size] <;> omega)) (by first | omega | (simp only <;> omega) | (simp only [Array.size_setIfInBounds, Go.Ai.swp_size] <;> omega))
      apply nxW_of
      · exact load_pair (e) (first + r) rfl rfl rfl rfl rfl (by first | omega | (simp only <;> omega) | (simp only [Array.size_setIfInBounds, Go.Ai.swp_size] <;> omega))
      refine Or.inl (And.intro (inK_i64 (by first | omega | (simp only <;> omega) | (simp only [Array.size_setIfInBounds, Go.Ai.swp_size] <;> omega))) ?_)
      apply nxW_of
      · exact idx_pair (first + (2 * r + 1)) rfl rfl rfl rfl rfl rfl (by first | omega | (simp only <;> omega) | (simp only [Array.size_setIfInBounds, Go.Ai.swp_size] <;> omega)) (by first | omega | (simp only <;> omega) | (simp only [Array.size_setIfInBounds, Go.Ai.swp_size] <;> omega))
      apply nxW_of
      · exact load_pair (e) (first + (2 * r + 1)) rfl rfl rfl rfl rfl (by first | omega | (simp only <;> omega) | (simp only [Array.size_setIfInBounds, Go.Ai.swp_size] <;> omega))
      refine CallW.of (cmp_ok _ _ _) ?_
      refine And.intro (fun h4 => ?_) (fun h4 => ?_)
      · have h4 := nlt_true h4
        have h5 : siftDown ltP hi first r e = e := by rw [siftDown, dif_neg (by omega)]; rw [if_neg hc, if_pos (by rw [h4]; rfl)]
        rw [← heq, h5]
        exact ⟨rfl, rfl⟩
      · have h4 := nlt_false h4
        refine Or.inl (And.intro (inK_i64 (by first | omega | (simp only <;> omega) | (simp only [Array.size_setIfInBounds, Go.Ai.swp_size] <;> omega))) ?_)
        refine Or.inl (And.intro (inK_i64 (by first | omega | (simp only <;> omega) | (simp only [Array.size_setIfInBounds, Go.Ai.swp_size] <;> omega))) ?_)
        refine Or.inl (And.intro (inK_i64 (by first | omega | (simp only <;> omega) | (simp only [Array.size_setIfInBounds, Go.Ai.swp_size] <;> omega))) ?_)
        apply nxW_of
        · exact idx_pair (first + (2 * r + 1)) rfl rfl rfl rfl rfl rfl (by first | omega | (simp only <;> omega) | (simp only [Array.size_setIfInBounds, Go.Ai.swp_size] <;> omega)) (by first | omega | (simp only <;> omega) | (simp only [Array.size_setIfInBounds, Go.Ai.swp_size] <;> omega))
        apply nxW_of
        · exact load_pair (e) (first + (2 * r + 1)) rfl rfl rfl rfl rfl (by first | omega | (simp only <;> omega) | (simp only [Array.size_setIfInBounds, Go.Ai.swp_size] <;> omega))
        refine Or.inl (And.intro (inK_i64 (by first | omega | (simp only <;> omega) | (simp only [Array.size_setIfInBounds, Go.Ai.swp_size] <;> omega))) ?_)
        apply nxW_of
        · exact idx_pair (first + r) rfl rfl rfl rfl rfl rfl (by first | omega | (simp only <;> omega) | (simp only [Array.size_setIfInBounds, Go.Ai.swp_size] <;> omega)) (by first | omega | (simp only <;> omega) | (simp only [Array.size_setIfInBounds, Go.Ai.swp_size] <;> omega))
        apply nxW_of
        · exact load_pair (e) (first + r) rfl rfl rfl rfl rfl (by first | omega | (simp only <;> omega) | (simp only [Array.size_setIfInBounds, Go.Ai.swp_size] <;> omega))
        apply nxW_of
        · exact idx_pair (first + r) rfl rfl rfl rfl rfl rfl (by first | omega | (simp only <;> omega) | (simp only [Array.size_setIfInBounds, Go.Ai.swp_size] <;> omega)) (by first | omega | (simp only <;> omega) | (simp only [Array.size_setIfInBounds, Go.Ai.swp_size] <;> omega))
        apply nxW_of
        · exact store_pair (e) (first + r) (e[first + (2 * r + 1)]!) rfl rfl rfl rfl rfl (by first | omega | (simp only <;> omega) | (simp only [Array.size_setIfInBounds, Go.Ai.swp_size] <;> omega))
        apply nxW_of
        · exact idx_pair (first + (2 * r + 1)) rfl rfl rfl rfl rfl rfl (by first | omega | (simp only <;> omega) | (simp only [Array.size_setIfInBounds, Go.Ai.swp_size] <;> omega)) (by first | omega | (simp only <;> omega) | (simp only [Array.size_setIfInBounds, Go.Ai.swp_size] <;> omega))
        apply nxW_of
        · exact store_pair (e.setIfInBounds (first + r) e[first + (2 * r + 1)]!) (first + (2 * r + 1)) (e[first + r]!) rfl rfl rfl rfl rfl (by first | omega | (simp only <;> omega) | (simp only [Array.size_setIfInBounds, Go.Ai.swp_size] <;> omega))
        have h5 : siftDown ltP hi first r e = siftDown ltP hi first ((2 * r + 1)) (swp e (first + r) (first + (2 * r + 1))) := by rw [siftDown, dif_neg (by omega)]; rw [if_neg hc, if_neg (by rw [h4]; simp)]
        refine ⟨((2 * r + 1), swp e (first + r) (first + (2 * r + 1))), ⟨by simp only [swp_size]; exact he, by simp only; omega, by simp only; rw [← heq, h5]⟩, weak_live ⟨rfl, rfl, rfl, rfl, (iv (by first | omega | (simp only <;> omega) | (simp only [Array.size_setIfInBounds, Go.Ai.swp_size] <;> omega))), trivial⟩ rfl rfl (hp_of rfl rfl rfl), by simp only; omega⟩
end Go.Proofs.Ytbaoelfpmdmhjaa
set_option maxRecDepth 100000
set_option maxHeartbeats 2000000
namespace Go.Proofs.Ytbaoelfpmdmhjaa
open Go.Ai
open Go.Sort (swp siftDown heapBuild heapPop heapSort)
/-! ### heapSort -/
theorem sift_size (hi F : Nat) : ∀ (n root : Nat) (d : Array PP), hi - root ≤ n → (siftDown ltP hi F root d).size = d.size := by
  intro n
  induction n with
  | zero => intro root d h; rw [siftDown, dif_pos (by omega)]
  | succ n ih =>
    intro root d h
    rw [siftDown]
    split
    · rfl
    · split
      · split
        · rfl
        · split
          · rw [ih _ _ (by omega), swp_size]
          · rfl
      · split
        · rfl
        · rw [ih _ _ (by omega), swp_size]
theorem sift_sz (hi F root : Nat) (d : Array PP) : (siftDown ltP hi F root d).size = d.size := sift_size hi F _ root d (Nat.le_refl _)
theorem CallW.ofE {P : Program} {C : Ctx} {g : Nat} {args : List Value} {h h0 h' : H} {v : Value} {K : Value → H → Prop} (hc : CallOk P C g args h0 (.ret v h')) (e : h = h0) (k : K v h') : CallW P C g args h K := by subst e; exact CallW.of hc k
/-- one less, from zero on -/
def less1 : Nat → Value
  | 0 => .int .i64 (-1)
  | k + 1 => I k
theorem less1_eq {z : Int} {k : Nat} (h : z = (k : Int) - 1) : some (Value.int .i64 z) = some (less1 k) := by
  subst h
  cases k with
  | zero => rfl
  | succ k => exact iv (by omega)
theorem heap_ok (d : Array PP) (a b : Nat) (hab : a < b) (hb : b ≤ d.size) (hn : d.size < 1000000000) :
    CallOk Try.prog C 50 [sl d.size, I a, I b, cmpF] (hOne (flatA d) 34 0) (.ret (.tuple #[]) (hOne (flatA (heapSort ltP d a b)) 34 0)) := by
  obtain ⟨n, hsz⟩ : ∃ n, d.size = n := ⟨_, rfl⟩
  rw [hsz]
  rw [hsz] at hb hn
  refine fn_wp CF rfl (n := 60) (res := []) (c := codeOf Try.f50) rfl ?_
  refine Or.inl (And.intro (inK_i64 (by first | omega | (simp only <;> omega) | (simp only [Array.size_setIfInBounds, Go.Ai.swp_size] <;> omega))) ?_)
  refine Or.inl (And.intro (inK_i64 (by first | omega | (simp only <;> omega) | (simp only [Array.size_setIfInBounds, Go.Ai.swp_size] <;> omega))) ?_)
  refine loopV CF.tt rfl (fun x : Nat × Array PP => ⟨tmOf 6 [(0, sl n), (3, cmpF), (8, I a), (9, I 0), (10, I (b - a)), (11, less1 x.1)], [], none, hOne (flatA x.2) 34 0⟩) ((b - a - 1) / 2 + 1, d)
    (weak_live ⟨rfl, rfl, rfl, rfl, (iv (by first | omega | (simp only <;> omega) | (simp only [Array.size_setIfInBounds, Go.Ai.swp_size] <;> omega))), ?_, trivial⟩ rfl rfl rfl) (fun x => x.1) (fun x => x.2.size = n ∧ x.1 ≤ b - a ∧ heapPop ltP a (b - a) (heapBuild ltP (b - a) a x.1 x.2) = heapSort ltP d a b) ⟨hsz, by simp only; omega, rfl⟩ ?_
  · exact less1_eq ((wquo (b - a - 1) 2 (by omega) rfl (by omega)).trans (by simp only; omega))
  rintro ⟨k, e⟩ ⟨he, hk, heq⟩
  simp only at he hk heq
  cases k with
  | succ k =>
    refine And.intro (fun h1 => ?_) (fun h1 => ?_)
    · have hs := sift_ok e k (b - a) a (by omega) (by omega) (by omega)
      rw [he] at hs
      refine CallW.of hs ?_
      refine Or.inl (And.intro (inK_i64 (by first | omega | (simp only <;> omega) | (simp only [Array.size_setIfInBounds, Go.Ai.swp_size] <;> omega))) ?_)
      refine ⟨(k, siftDown ltP (b - a) a k e), ⟨by simp only [sift_sz]; exact he, by simp only; omega, by simp only; rw [← heq]; rfl⟩, weak_live ⟨rfl, rfl, rfl, rfl, rfl, less1_eq rfl, trivial⟩ rfl rfl rfl, by simp only; omega⟩
    · have h1 := of_decide_eq_false h1
      exfalso
      omega
  | zero =>
    repeat (first | (refine And.intro (fun _ => ?_) (fun h => Go.Ai.tf h)) | (refine And.intro (fun _ => ?_) (fun h => Go.Ai.ft h)) | (refine And.intro (fun h => Go.Ai.ft h) (fun _ => ?_)) | (refine And.intro (fun h => Go.Ai.tf h) (fun _ => ?_)))
    refine Or.inl (And.intro (inK_i64 (by first | omega | (simp only <;> omega) | (simp only [Array.size_setIfInBounds, Go.Ai.swp_size] <;> omega))) ?_)
    refine loopV CF.tt rfl (fun x : Nat × Array PP => ⟨tmOf 6 [(0, sl n), (3, cmpF), (8, I a), (9, I 0), (12, less1 x.1)], [], none, hOne (flatA x.2) 34 0⟩) (b - a, e)
      (weak_live ⟨rfl, rfl, rfl, rfl, less1_eq (by omega), trivial⟩ rfl rfl rfl) (fun x => x.1) (fun x => x.2.size = n ∧ x.1 ≤ b - a ∧ heapPop ltP a x.1 x.2 = heapSort ltP d a b) ⟨he, Nat.le_refl _, heq⟩ ?_
    rintro ⟨k, f⟩ ⟨hf, hk, heq⟩
    simp only at hf hk heq
    cases k with
    | zero =>
      repeat (first | (refine And.intro (fun _ => ?_) (fun h => Go.Ai.tf h)) | (refine And.intro (fun _ => ?_) (fun h => Go.Ai.ft h)) | (refine And.intro (fun h => Go.Ai.ft h) (fun _ => ?_)) | (refine And.intro (fun h => Go.Ai.tf h) (fun _ => ?_)))
      have h2 : f = heapSort ltP d a b := heq
      rw [← h2]
      exact ⟨rfl, rfl⟩
    | succ k =>
      refine And.intro (fun h1 => ?_) (fun h1 => ?_)
      · refine Or.inl (And.intro (inK_i64 (by first | omega | (simp only <;> omega) | (simp only [Array.size_setIfInBounds, Go.Ai.swp_size] <;> omega))) ?_)
        refine Or.inl (And.intro (inK_i64 (by first | omega | (simp only <;> omega) | (simp only [Array.size_setIfInBounds, Go.Ai.swp_size] <;> omega))) ?_)
        apply nxW_of
        · exact idx_pair (a + k) rfl rfl rfl rfl rfl rfl (by first | omega | (simp only <;> omega) | (simp only [Array.size_setIfInBounds, Go.Ai.swp_size] <;> omega)) (by first | omega | (simp only <;> omega) | (simp only [Array.size_setIfInBounds, Go.Ai.swp_size] <;> omega))
        apply nxW_of
        · exact load_pair (f) (a + k) rfl rfl rfl rfl rfl (by first | omega | (simp only <;> omega) | (simp only [Array.size_setIfInBounds, Go.Ai.swp_size] <;> omega))
        apply nxW_of
        · exact idx_pair (a) rfl rfl rfl rfl rfl rfl (by first | omega | (simp only <;> omega) | (simp only [Array.size_setIfInBounds, Go.Ai.swp_size] <;> omega)) (by first | omega | (simp only <;> omega) | (simp only [Array.size_setIfInBounds, Go.Ai.swp_size] <;> omega))
        apply nxW_of
        · exact load_pair (f) (a) rfl rfl rfl rfl rfl (by first | omega | (simp only <;> omega) | (simp only [Array.size_setIfInBounds, Go.Ai.swp_size] <;> omega))
        apply nxW_of
        · exact idx_pair (a) rfl rfl rfl rfl rfl rfl (by first | omega | (simp only <;> omega) | (simp only [Array.size_setIfInBounds, Go.Ai.swp_size] <;> omega)) (by first | omega | (simp only <;> omega) | (simp only [Array.size_setIfInBounds, Go.Ai.swp_size] <;> omega))
        apply nxW_of
        · exact store_pair (f) (a) (f[a + k]!) rfl rfl rfl rfl rfl (by first | omega | (simp only <;> omega) | (simp only [Array.size_setIfInBounds, Go.Ai.swp_size] <;> omega))
        apply nxW_of
        · exact idx_pair (a + k) rfl rfl rfl rfl rfl rfl (by first | omega | (simp only <;> omega) | (simp only [Array.size_setIfInBounds, Go.Ai.swp_size] <;> omega)) (by first | omega | (simp only <;> omega) | (simp only [Array.size_setIfInBounds, Go.Ai.swp_size] <;> omega))
        apply nxW_of
        · exact store_pair (f.setIfInBounds a f[a + k]!) (a + k) (f[a]!) rfl rfl rfl rfl rfl (by first | omega | (simp only <;> omega) | (simp only [Array.size_setIfInBounds, Go.Ai.swp_size] <;> omega))
        have hs := sift_ok (swp f a (a + k)) 0 k a (Nat.zero_le _) (by rw [swp_size]; omega) (by rw [swp_size]; omega)
        rw [swp_size, hf] at hs
        refine CallW.ofE hs (hp_of rfl rfl rfl) ?_
        refine Or.inl (And.intro (inK_i64 (by first | omega | (simp only <;> omega) | (simp only [Array.size_setIfInBounds, Go.Ai.swp_size] <;> omega))) ?_)
        refine ⟨(k, siftDown ltP k a 0 (swp f a (a + k))), ⟨by simp only [sift_sz, swp_size]; exact hf, by simp only; omega, by simp only; rw [← heq]; rfl⟩, weak_live ⟨rfl, rfl, rfl, rfl, less1_eq rfl, trivial⟩ rfl rfl rfl, by simp only; omega⟩
      · have h1 := of_decide_eq_false h1
        exfalso
        omega
end Go.Proofs.Ytbaoelfpmdmhjaa
set_option maxRecDepth 100000
set_option maxHeartbeats 2000000
namespace Go.Proofs.Ytbaoelfpmdmhjaa
open Go.Ai
open Go.Sort (swp scanUp scanDown partLoop partition partEqLoop partitionEqual)
/-! ### partition -/
theorem scanUp_go {p : PP → Bool} {d : Array PP} {j i : Nat} (h1 : i ≤ j) (h2 : p d[i]! = true) : scanUp p d j i = scanUp p d j (i + 1) := by rw [scanUp.eq_def p d j i, if_pos (by simp [h2]; exact h1)]
theorem scanUp_end {p : PP → Bool} {d : Array PP} {j i : Nat} (h1 : ¬ i ≤ j) : scanUp p d j i = i := by rw [scanUp.eq_def p d j i, if_neg (by simp [h1])]
theorem scanUp_stop {p : PP → Bool} {d : Array PP} {j i : Nat} (h2 : p d[i]! = false) : scanUp p d j i = i := by rw [scanUp.eq_def p d j i, if_neg (by simp [h2])]
theorem scanDown_go {p : PP → Bool} {d : Array PP} {j i : Nat} (h1 : i ≤ j + 1) (h2 : p d[j + 1]! = true) : scanDown p d i (j + 1) = scanDown p d i j := by rw [scanDown, if_pos (by simp [h2]; exact h1)]
theorem scanDown_end {p : PP → Bool} {d : Array PP} {j i : Nat} (h1 : ¬ i ≤ j) : scanDown p d i j = j := by
  cases j with
  | zero => rfl
  | succ j => rw [scanDown, if_neg (by simp [h1])]
theorem scanDown_stop {p : PP → Bool} {d : Array PP} {j i : Nat} (h2 : p d[j]! = false) : scanDown p d i j = j := by
  cases j with
  | zero => rfl
  | succ j => rw [scanDown, if_neg (by simp [h2])]
theorem scanUp_ge (p : PP → Bool) (d : Array PP) (j i : Nat) : i ≤ scanUp p d j i := by
  suffices h : ∀ n i, j + 1 - i ≤ n → i ≤ scanUp p d j i from h _ i (Nat.le_refl _)
  intro n
  induction n with
  | zero => intro i h; rw [scanUp, if_neg (by simp; omega)]; exact Nat.le_refl _
  | succ n ih =>
    intro i h
    rw [scanUp]
    split
    · rename_i hc
      simp only [Bool.and_eq_true, decide_eq_true_eq] at hc
      exact Nat.le_trans (Nat.le_succ _) (ih (i + 1) (by omega))
    · exact Nat.le_refl _
theorem scanDown_le (p : PP → Bool) (d : Array PP) (i : Nat) : ∀ j, scanDown p d i j ≤ j
  | 0 => Nat.le_refl _
  | j + 1 => by
    rw [scanDown]
    split
    · exact Nat.le_trans (scanDown_le p d i j) (Nat.le_succ _)
    · exact Nat.le_refl _
theorem partition_ok (d : Array PP) (a b c : Nat) (hac : a ≤ c) (hcb : c < b) (hb : b ≤ d.size) (hn : d.size < 1000000000) :
    CallOk Try.prog C 56 [sl d.size, I a, I b, I c, cmpF] (hOne (flatA d) 34 0)
      (.ret (.tuple #[I (Go.Sort.partition ltP d a b c).1, .bool (Go.Sort.partition ltP d a b c).2.1]) (hOne (flatA (Go.Sort.partition ltP d a b c).2.2) 34 0)) := by
  obtain ⟨n, hsz⟩ : ∃ n, d.size = n := ⟨_, rfl⟩
  rw [hsz]
  rw [hsz] at hb hn
  refine fn_tb CF (n := 178) (res := [.tmp 10, .tmp 11]) (c := (codeOf Try.f56)) rfl ?_
  refine TB.seq (tb_wp CF.tt rfl ?_)
  refine TB.seq (tb_wp CF.tt rfl ?_)
  apply nxW_of
  · exact idx_pair (c) rfl rfl rfl rfl rfl rfl (by first | omega | (simp only <;> omega) | (simp only [Array.size_setIfInBounds, Go.Ai.swp_size] <;> omega)) (by first | omega | (simp only <;> omega) | (simp only [Array.size_setIfInBounds, Go.Ai.swp_size] <;> omega))
  apply nxW_of
  · exact load_pair (d) (c) rfl rfl rfl rfl rfl (by first | omega | (simp only <;> omega) | (simp only [Array.size_setIfInBounds, Go.Ai.swp_size] <;> omega))
  apply nxW_of
  · exact idx_pair (a) rfl rfl rfl rfl rfl rfl (by first | omega | (simp only <;> omega) | (simp only [Array.size_setIfInBounds, Go.Ai.swp_size] <;> omega)) (by first | omega | (simp only <;> omega) | (simp only [Array.size_setIfInBounds, Go.Ai.swp_size] <;> omega))
  apply nxW_of
  · exact load_pair (d) (a) rfl rfl rfl rfl rfl (by first | omega | (simp only <;> omega) | (simp only [Array.size_setIfInBounds, Go.Ai.swp_size] <;> omega))
  apply nxW_of
  · exact idx_pair (a) rfl rfl rfl rfl rfl rfl (by first | omega | (simp only <;> omega) | (simp only [Array.size_setIfInBounds, Go.Ai.swp_size] <;> omega)) (by first | omega | (simp only <;> omega) | (simp only [Array.size_setIfInBounds, Go.Ai.swp_size] <;> omega))
  apply nxW_of
  · exact store_pair (d) (a) (d[c]!) rfl rfl rfl rfl rfl (by first | omega | (simp only <;> omega) | (simp only [Array.size_setIfInBounds, Go.Ai.swp_size] <;> omega))
  apply nxW_of
  · exact idx_pair (c) rfl rfl rfl rfl rfl rfl (by first | omega | (simp only <;> omega) | (simp only [Array.size_setIfInBounds, Go.Ai.swp_size] <;> omega)) (by first | omega | (simp only <;> omega) | (simp only [Array.size_setIfInBounds, Go.Ai.swp_size] <;> omega))
  apply nxW_of
  · exact store_pair (d.setIfInBounds a d[c]!) (c) (d[a]!) rfl rfl rfl rfl rfl (by first | omega | (simp only <;> omega) | (simp only [Array.size_setIfInBounds, Go.Ai.swp_size] <;> omega))
  refine TB.seq (tb_wp CF.tt rfl ?_)
  refine Or.inl (And.intro (inK_i64 (by first | omega | (simp only <;> omega) | (simp only [Array.size_setIfInBounds, Go.Ai.swp_size] <;> omega))) ?_)
  refine Or.inl (And.intro (inK_i64 (by first | omega | (simp only <;> omega) | (simp only [Array.size_setIfInBounds, Go.Ai.swp_size] <;> omega))) ?_)
  obtain ⟨e, hed⟩ : ∃ e, e = swp d a c := ⟨_, rfl⟩
  have he : e.size = n := by rw [hed, swp_size]; exact hsz
  obtain ⟨i1, hi1⟩ : ∃ i, scanUp (fun x => ltP x e[a]!) e (b - 1) (a + 1) = i := ⟨_, rfl⟩
  refine cut_at (fun _ : Unit => ⟨tmOf 8 [(0, sl n), (1, I a), (4, cmpF), (12, I i1), (13, I (b - 1))], [], none, hOne (flatA e) 34 0⟩) (fun _ => True) (tb_wp CF.tt rfl ?_) ?_
  · refine loopV CF.tt rfl (fun x : Nat => ⟨tmOf 8 [(0, sl n), (1, I a), (4, cmpF), (12, I x), (13, I (b - 1))], [], none, hOne (flatA e) 34 0⟩) (a + 1)
      (weak_live ⟨rfl, rfl, rfl, (iv (by first | omega | (simp only <;> omega) | (simp only [Array.size_setIfInBounds, Go.Ai.swp_size] <;> omega))), (iv (by first | omega | (simp only <;> omega) | (simp only [Array.size_setIfInBounds, Go.Ai.swp_size] <;> omega))), trivial⟩ rfl rfl (hp_of (by rw [hed]; rfl) rfl rfl)) (fun x => b - 1 + 1 - x) (fun x => a + 1 ≤ x ∧ scanUp (fun x => ltP x e[a]!) e (b - 1) x = i1) ⟨Nat.le_refl _, hi1⟩ ?_
    rintro i ⟨hi, hx⟩
    refine And.intro (fun h1 => ?_) (fun h1 => ?_)
    · have h1 := of_decide_eq_true h1
      repeat (first | (refine And.intro (fun _ => ?_) (fun h => Go.Ai.tf h)) | (refine And.intro (fun _ => ?_) (fun h => Go.Ai.ft h)) | (refine And.intro (fun h => Go.Ai.ft h) (fun _ => ?_)) | (refine And.intro (fun h => Go.Ai.tf h) (fun _ => ?_)))
      apply nxW_of
      · exact idx_pair (i) rfl rfl rfl rfl rfl rfl (by first | omega | (simp only <;> omega) | (simp only [Array.size_setIfInBounds, Go.Ai.swp_size] <;> omega)) (by first | omega | (simp only <;> omega) | (simp only [Array.size_setIfInBounds, Go.Ai.swp_size] <;> omega))
      repeat (first | (refine And.intro (fun _ => ?_) (fun h => Go.Ai.tf h)) | (refine And.intro (fun _ => ?_) (fun h => Go.Ai.ft h)) | (refine And.intro (fun h => Go.Ai.ft h) (fun _ => ?_)) | (refine And.intro (fun h => Go.Ai.tf h) (fun _ => ?_)))
      apply nxW_of
      · exact load_pair (e) (i) rfl rfl rfl rfl rfl (by first | omega | (simp only <;> omega) | (simp only [Array.size_setIfInBounds, Go.Ai.swp_size] <;> omega))
      repeat (first | (refine And.intro (fun _ => ?_) (fun h => Go.Ai.tf h)) | (refine And.intro (fun _ => ?_) (fun h => Go.Ai.ft h)) | (refine And.intro (fun h => Go.Ai.ft h) (fun _ => ?_)) | (refine And.intro (fun h => Go.Ai.tf h) (fun _ => ?_)))
      apply nxW_of
      · exact idx_pair (a) rfl rfl rfl rfl rfl rfl (by first | omega | (simp only <;> omega) | (simp only [Array.size_setIfInBounds, Go.Ai.swp_size] <;> omega)) (by first | omega | (simp only <;> omega) | (simp only [Array.size_setIfInBounds, Go.Ai.swp_size] <;> omega))
      repeat (first | (refine And.intro (fun _ => ?_) (fun h => Go.Ai.tf h)) | (refine And.intro (fun _ => ?_) (fun h => Go.Ai.ft h)) | (refine And.intro (fun h => Go.Ai.ft h) (fun _ => ?_)) | (refine And.intro (fun h => Go.Ai.tf h) (fun _ => ?_)))
      apply nxW_of
      · exact load_pair (e) (a) rfl rfl rfl rfl rfl (by first | omega | (simp only <;> omega) | (simp only [Array.size_setIfInBounds, Go.Ai.swp_size] <;> omega))
      repeat (first | (refine And.intro (fun _ => ?_) (fun h => Go.Ai.tf h)) | (refine And.intro (fun _ => ?_) (fun h => Go.Ai.ft h)) | (refine And.intro (fun h => Go.Ai.ft h) (fun _ => ?_)) | (refine And.intro (fun h => Go.Ai.tf h) (fun _ => ?_)))
      refine CallW.of (cmp_ok _ _ _) ?_
      repeat (first | (refine And.intro (fun _ => ?_) (fun h => Go.Ai.tf h)) | (refine And.intro (fun _ => ?_) (fun h => Go.Ai.ft h)) | (refine And.intro (fun h => Go.Ai.ft h) (fun _ => ?_)) | (refine And.intro (fun h => Go.Ai.tf h) (fun _ => ?_)))
      refine And.intro (fun h2 => ?_) (fun h2 => ?_)
      · have h2 := lt_true h2
        refine Or.inl (And.intro (inK_i64 (by first | omega | (simp only <;> omega) | (simp only [Array.size_setIfInBounds, Go.Ai.swp_size] <;> omega))) ?_)
        refine ⟨i + 1, ⟨by omega, ?_⟩, weak_live ⟨rfl, rfl, rfl, (iv (by first | omega | (simp only <;> omega) | (simp only [Array.size_setIfInBounds, Go.Ai.swp_size] <;> omega))), rfl, trivial⟩ rfl rfl rfl, by omega⟩
        rw [← hx, scanUp_go (i := i) (by omega) h2]
      · have h2 := lt_false h2
        refine ⟨(), trivial, weak_live ⟨rfl, rfl, rfl, ?_, rfl, trivial⟩ rfl rfl rfl⟩
        rw [← hx, scanUp_stop (i := i) h2]
        rfl
    · have h1 := of_decide_eq_false h1
      repeat (first | (refine And.intro (fun _ => ?_) (fun h => Go.Ai.tf h)) | (refine And.intro (fun _ => ?_) (fun h => Go.Ai.ft h)) | (refine And.intro (fun h => Go.Ai.ft h) (fun _ => ?_)) | (refine And.intro (fun h => Go.Ai.tf h) (fun _ => ?_)))
      refine ⟨(), trivial, weak_live ⟨rfl, rfl, rfl, ?_, rfl, trivial⟩ rfl rfl rfl⟩
      rw [← hx, scanUp_end (i := i) (by omega)]
      rfl
  rintro ⟨⟩ -
  have hi1a : a + 1 ≤ i1 := by rw [← hi1]; exact scanUp_ge _ _ _ _
  obtain ⟨j1, hj1⟩ : ∃ j, scanDown (fun x => !ltP x e[a]!) e i1 (b - 1) = j := ⟨_, rfl⟩
  have hj1b : j1 ≤ b - 1 := by rw [← hj1]; exact scanDown_le _ _ _ _
  refine cut_at (fun _ : Unit => ⟨tmOf 8 [(0, sl n), (1, I a), (4, cmpF), (12, I i1), (13, I j1)], [], none, hOne (flatA e) 34 0⟩) (fun _ => True) (tb_wp CF.tt rfl ?_) ?_
  · refine loopV CF.tt rfl (fun x : Nat => ⟨tmOf 8 [(0, sl n), (1, I a), (4, cmpF), (12, I (i1)), (13, I x)], [], none, hOne (flatA e) 34 0⟩) (b - 1)
      (weak_live ⟨rfl, rfl, rfl, rfl, rfl, trivial⟩ rfl rfl rfl) (fun x => x) (fun x => x ≤ b - 1 ∧ scanDown (fun x => !ltP x e[a]!) e (i1) x = j1) ⟨Nat.le_refl _, hj1⟩ ?_
    rintro j ⟨hj, hx⟩
    refine And.intro (fun h1 => ?_) (fun h1 => ?_)
    · have h1 := of_decide_eq_true h1
      obtain ⟨j, rfl⟩ : ∃ k, j = k + 1 := ⟨j - 1, by omega⟩
      repeat (first | (refine And.intro (fun _ => ?_) (fun h => Go.Ai.tf h)) | (refine And.intro (fun _ => ?_) (fun h => Go.Ai.ft h)) | (refine And.intro (fun h => Go.Ai.ft h) (fun _ => ?_)) | (refine And.intro (fun h => Go.Ai.tf h) (fun _ => ?_)))
      apply nxW_of
      · exact idx_pair (j + 1) rfl rfl rfl rfl rfl rfl (by first | omega | (simp only <;> omega) | (simp only [Array.size_setIfInBounds, Go.Ai.swp_size] <;> omega)) (by first | omega | (simp only <;> omega) | (simp only [Array.size_setIfInBounds, Go.Ai.swp_size] <;> omega))
      repeat (first | (refine And.intro (fun _ => ?_) (fun h => Go.Ai.tf h)) | (refine And.intro (fun _ => ?_) (fun h => Go.Ai.ft h)) | (refine And.intro (fun h => Go.Ai.ft h) (fun _ => ?_)) | (refine And.intro (fun h => Go.Ai.tf h) (fun _ => ?_)))
      apply nxW_of
      · exact load_pair (e) (j + 1) rfl rfl rfl rfl rfl (by first | omega | (simp only <;> omega) | (simp only [Array.size_setIfInBounds, Go.Ai.swp_size] <;> omega))
      repeat (first | (refine And.intro (fun _ => ?_) (fun h => Go.Ai.tf h)) | (refine And.intro (fun _ => ?_) (fun h => Go.Ai.ft h)) | (refine And.intro (fun h => Go.Ai.ft h) (fun _ => ?_)) | (refine And.intro (fun h => Go.Ai.tf h) (fun _ => ?_)))
      apply nxW_of
      · exact idx_pair (a) rfl rfl rfl rfl rfl rfl (by first | omega | (simp only <;> omega) | (simp only [Array.size_setIfInBounds, Go.Ai.swp_size] <;> omega)) (by first | omega | (simp only <;> omega) | (simp only [Array.size_setIfInBounds, Go.Ai.swp_size] <;> omega))
      repeat (first | (refine And.intro (fun _ => ?_) (fun h => Go.Ai.tf h)) | (refine And.intro (fun _ => ?_) (fun h => Go.Ai.ft h)) | (refine And.intro (fun h => Go.Ai.ft h) (fun _ => ?_)) | (refine And.intro (fun h => Go.Ai.tf h) (fun _ => ?_)))
      apply nxW_of
      · exact load_pair (e) (a) rfl rfl rfl rfl rfl (by first | omega | (simp only <;> omega) | (simp only [Array.size_setIfInBounds, Go.Ai.swp_size] <;> omega))
      repeat (first | (refine And.intro (fun _ => ?_) (fun h => Go.Ai.tf h)) | (refine And.intro (fun _ => ?_) (fun h => Go.Ai.ft h)) | (refine And.intro (fun h => Go.Ai.ft h) (fun _ => ?_)) | (refine And.intro (fun h => Go.Ai.tf h) (fun _ => ?_)))
      refine CallW.of (cmp_ok _ _ _) ?_
      repeat (first | (refine And.intro (fun _ => ?_) (fun h => Go.Ai.tf h)) | (refine And.intro (fun _ => ?_) (fun h => Go.Ai.ft h)) | (refine And.intro (fun h => Go.Ai.ft h) (fun _ => ?_)) | (refine And.intro (fun h => Go.Ai.tf h) (fun _ => ?_)))
      refine And.intro (fun h2 => ?_) (fun h2 => ?_)
      · have h2 := nlt_true h2
        refine Or.inl (And.intro (inK_i64 (by first | omega | (simp only <;> omega) | (simp only [Array.size_setIfInBounds, Go.Ai.swp_size] <;> omega))) ?_)
        refine ⟨j, ⟨by omega, ?_⟩, weak_live ⟨rfl, rfl, rfl, rfl, (iv (by first | omega | (simp only <;> omega) | (simp only [Array.size_setIfInBounds, Go.Ai.swp_size] <;> omega))), trivial⟩ rfl rfl rfl, by omega⟩
        rw [← hx, scanDown_go (j := j) (by omega) (by simp [h2])]
      · have h2 := nlt_false h2
        refine ⟨(), trivial, weak_live ⟨rfl, rfl, rfl, rfl, ?_, trivial⟩ rfl rfl rfl⟩
        rw [← hx, scanDown_stop (j := j + 1) (by simp [h2])]
        rfl
    · have h1 := of_decide_eq_false h1
      repeat (first | (refine And.intro (fun _ => ?_) (fun h => Go.Ai.tf h)) | (refine And.intro (fun _ => ?_) (fun h => Go.Ai.ft h)) | (refine And.intro (fun h => Go.Ai.ft h) (fun _ => ?_)) | (refine And.intro (fun h => Go.Ai.tf h) (fun _ => ?_)))
      refine ⟨(), trivial, weak_live ⟨rfl, rfl, rfl, rfl, ?_, trivial⟩ rfl rfl rfl⟩
      rw [← hx, scanDown_end (j := j) (by omega)]
      rfl
  rintro ⟨⟩ -
  refine TB.seq (tb_wp CF.tt rfl ?_)
  refine And.intro (fun h1 => ?_) (fun h1 => ?_)
  · have h1 := of_decide_eq_true h1
    apply nxW_of
    · exact idx_pair (a) rfl rfl rfl rfl rfl rfl (by first | omega | (simp only <;> omega) | (simp only [Array.size_setIfInBounds, Go.Ai.swp_size] <;> omega)) (by first | omega | (simp only <;> omega) | (simp only [Array.size_setIfInBounds, Go.Ai.swp_size] <;> omega))
    apply nxW_of
    · exact load_pair (e) (a) rfl rfl rfl rfl rfl (by first | omega | (simp only <;> omega) | (simp only [Array.size_setIfInBounds, Go.Ai.swp_size] <;> omega))
    apply nxW_of
    · exact idx_pair (j1) rfl rfl rfl rfl rfl rfl (by first | omega | (simp only <;> omega) | (simp only [Array.size_setIfInBounds, Go.Ai.swp_size] <;> omega)) (by first | omega | (simp only <;> omega) | (simp only [Array.size_setIfInBounds, Go.Ai.swp_size] <;> omega))
    apply nxW_of
    · exact load_pair (e) (j1) rfl rfl rfl rfl rfl (by first | omega | (simp only <;> omega) | (simp only [Array.size_setIfInBounds, Go.Ai.swp_size] <;> omega))
    apply nxW_of
    · exact idx_pair (j1) rfl rfl rfl rfl rfl rfl (by first | omega | (simp only <;> omega) | (simp only [Array.size_setIfInBounds, Go.Ai.swp_size] <;> omega)) (by first | omega | (simp only <;> omega) | (simp only [Array.size_setIfInBounds, Go.Ai.swp_size] <;> omega))
    apply nxW_of
    · exact store_pair (e) (j1) (e[a]!) rfl rfl rfl rfl rfl (by first | omega | (simp only <;> omega) | (simp only [Array.size_setIfInBounds, Go.Ai.swp_size] <;> omega))
    apply nxW_of
    · exact idx_pair (a) rfl rfl rfl rfl rfl rfl (by first | omega | (simp only <;> omega) | (simp only [Array.size_setIfInBounds, Go.Ai.swp_size] <;> omega)) (by first | omega | (simp only <;> omega) | (simp only [Array.size_setIfInBounds, Go.Ai.swp_size] <;> omega))
    apply nxW_of
    · exact store_pair (e.setIfInBounds j1 e[a]!) (a) (e[j1]!) rfl rfl rfl rfl rfl (by first | omega | (simp only <;> omega) | (simp only [Array.size_setIfInBounds, Go.Ai.swp_size] <;> omega))
    have hp : Go.Sort.partition ltP d a b c = (j1, true, swp e j1 a) := by
      unfold Go.Sort.partition
      simp only [← hed, hi1, hj1]
      rw [if_pos (by omega)]
    rw [hp]
    exact ⟨rfl, hp_of rfl rfl rfl⟩
  have h1 := of_decide_eq_false h1
  refine TB.seq (tb_wp CF.tt rfl ?_)
  apply nxW_of
  · exact idx_pair (j1) rfl rfl rfl rfl rfl rfl (by first | omega | (simp only <;> omega) | (simp only [Array.size_setIfInBounds, Go.Ai.swp_size] <;> omega)) (by first | omega | (simp only <;> omega) | (simp only [Array.size_setIfInBounds, Go.Ai.swp_size] <;> omega))
  apply nxW_of
  · exact load_pair (e) (j1) rfl rfl rfl rfl rfl (by first | omega | (simp only <;> omega) | (simp only [Array.size_setIfInBounds, Go.Ai.swp_size] <;> omega))
  apply nxW_of
  · exact idx_pair (i1) rfl rfl rfl rfl rfl rfl (by first | omega | (simp only <;> omega) | (simp only [Array.size_setIfInBounds, Go.Ai.swp_size] <;> omega)) (by first | omega | (simp only <;> omega) | (simp only [Array.size_setIfInBounds, Go.Ai.swp_size] <;> omega))
  apply nxW_of
  · exact load_pair (e) (i1) rfl rfl rfl rfl rfl (by first | omega | (simp only <;> omega) | (simp only [Array.size_setIfInBounds, Go.Ai.swp_size] <;> omega))
  apply nxW_of
  · exact idx_pair (i1) rfl rfl rfl rfl rfl rfl (by first | omega | (simp only <;> omega) | (simp only [Array.size_setIfInBounds, Go.Ai.swp_size] <;> omega)) (by first | omega | (simp only <;> omega) | (simp only [Array.size_setIfInBounds, Go.Ai.swp_size] <;> omega))
  apply nxW_of
  · exact store_pair (e) (i1) (e[j1]!) rfl rfl rfl rfl rfl (by first | omega | (simp only <;> omega) | (simp only [Array.size_setIfInBounds, Go.Ai.swp_size] <;> omega))
  apply nxW_of
  · exact idx_pair (j1) rfl rfl rfl rfl rfl rfl (by first | omega | (simp only <;> omega) | (simp only [Array.size_setIfInBounds, Go.Ai.swp_size] <;> omega)) (by first | omega | (simp only <;> omega) | (simp only [Array.size_setIfInBounds, Go.Ai.swp_size] <;> omega))
  apply nxW_of
  · exact store_pair (e.setIfInBounds i1 e[j1]!) (j1) (e[i1]!) rfl rfl rfl rfl rfl (by first | omega | (simp only <;> omega) | (simp only [Array.size_setIfInBounds, Go.Ai.swp_size] <;> omega))
  refine TB.seq (tb_wp CF.tt rfl ?_)
  refine Or.inl (And.intro (inK_i64 (by first | omega | (simp only <;> omega) | (simp only [Array.size_setIfInBounds, Go.Ai.swp_size] <;> omega))) ?_)
  refine TB.seq (tb_wp CF.tt rfl ?_)
  refine Or.inl (And.intro (inK_i64 (by first | omega | (simp only <;> omega) | (simp only [Array.size_setIfInBounds, Go.Ai.swp_size] <;> omega))) ?_)
  obtain ⟨jf, df, hr⟩ : ∃ jf df, partLoop ltP a (i1 + 1) (j1 - 1) (swp e i1 j1) = (jf, df) := ⟨_, _, rfl⟩
  refine cut_at (fun _ : Unit => ⟨tmOf 8 [(0, sl n), (1, I a), (13, I jf)], [], none, hOne (flatA df) 34 0⟩) (fun _ => jf < n ∧ df.size = n) ?_ ?_
  · refine TB.block ?_
    refine loopT (fun x : Nat × Nat × Array PP => ⟨tmOf 8 [(0, sl n), (1, I a), (4, cmpF), (12, I x.1), (13, I x.2.1)], [], none, hOne (flatA x.2.2) 34 0⟩) (i1 + 1, j1 - 1, swp e i1 j1)
      (weak_live ⟨rfl, rfl, rfl, (iv (by first | omega | (simp only <;> omega) | (simp only [Array.size_setIfInBounds, Go.Ai.swp_size] <;> omega))), (iv (by first | omega | (simp only <;> omega) | (simp only [Array.size_setIfInBounds, Go.Ai.swp_size] <;> omega))), trivial⟩ rfl rfl (hp_of rfl rfl rfl)) (fun x => x.2.1 + 1 - x.1) (fun x => x.2.2.size = n ∧ a + 1 ≤ x.1 ∧ x.2.1 < n ∧ partLoop ltP a x.1 x.2.1 x.2.2 = (jf, df))
      ⟨by simp only [swp_size]; exact he, by simp only; omega, by simp only; omega, hr⟩ ?_
    clear hr hj1 hi1 hj1b hi1a h1 he hed
    rintro ⟨i0, j0, e⟩ ⟨he, hia, hjn, heq⟩
    simp only at he hia hjn heq
    refine TB.block ?_
    obtain ⟨i2, hi1⟩ : ∃ i, scanUp (fun x => ltP x e[a]!) e j0 i0 = i := ⟨_, rfl⟩
    refine cut_at (fun _ : Unit => ⟨tmOf 8 [(0, sl n), (1, I a), (4, cmpF), (12, I i2), (13, I j0)], [], none, hOne (flatA e) 34 0⟩) (fun _ => True) (tb_wp CF.tt rfl ?_) ?_
    · refine loopV CF.tt rfl (fun x : Nat => ⟨tmOf 8 [(0, sl n), (1, I a), (4, cmpF), (12, I x), (13, I (j0))], [], none, hOne (flatA e) 34 0⟩) (i0)
        (weak_live ⟨rfl, rfl, rfl, (iv (by first | omega | (simp only <;> omega) | (simp only [Array.size_setIfInBounds, Go.Ai.swp_size] <;> omega))), (iv (by first | omega | (simp only <;> omega) | (simp only [Array.size_setIfInBounds, Go.Ai.swp_size] <;> omega))), trivial⟩ rfl rfl (hp_of rfl rfl rfl)) (fun x => j0 + 1 - x) (fun x => i0 ≤ x ∧ scanUp (fun x => ltP x e[a]!) e (j0) x = i2) ⟨Nat.le_refl _, hi1⟩ ?_
      rintro i ⟨hi, hx⟩
      refine And.intro (fun h1 => ?_) (fun h1 => ?_)
      · have h1 := of_decide_eq_true h1
        repeat (first | (refine And.intro (fun _ => ?_) (fun h => Go.Ai.tf h)) | (refine And.intro (fun _ => ?_) (fun h => Go.Ai.ft h)) | (refine And.intro (fun h => Go.Ai.ft h) (fun _ => ?_)) | (refine And.intro (fun h => Go.Ai.tf h) (fun _ => ?_)))
        apply nxW_of
        · exact idx_pair (i) rfl rfl rfl rfl rfl rfl (by first | omega | (simp only <;> omega) | (simp only [Array.size_setIfInBounds, Go.Ai.swp_size] <;> omega)) (by first | omega | (simp only <;> omega) | (simp only [Array.size_setIfInBounds, Go.Ai.swp_size] <;> omega))
        repeat (first | (refine And.intro (fun _ => ?_) (fun h => Go.Ai.tf h)) | (refine And.intro (fun _ => ?_) (fun h => Go.Ai.ft h)) | (refine And.intro (fun h => Go.Ai.ft h) (fun _ => ?_)) | (refine And.intro (fun h => Go.Ai.tf h) (fun _ => ?_)))
        apply nxW_of
        · exact load_pair (e) (i) rfl rfl rfl rfl rfl (by first | omega | (simp only <;> omega) | (simp only [Array.size_setIfInBounds, Go.Ai.swp_size] <;> omega))
        repeat (first | (refine And.intro (fun _ => ?_) (fun h => Go.Ai.tf h)) | (refine And.intro (fun _ => ?_) (fun h => Go.Ai.ft h)) | (refine And.intro (fun h => Go.Ai.ft h) (fun _ => ?_)) | (refine And.intro (fun h => Go.Ai.tf h) (fun _ => ?_)))
        apply nxW_of
        · exact idx_pair (a) rfl rfl rfl rfl rfl rfl (by first | omega | (simp only <;> omega) | (simp only [Array.size_setIfInBounds, Go.Ai.swp_size] <;> omega)) (by first | omega | (simp only <;> omega) | (simp only [Array.size_setIfInBounds, Go.Ai.swp_size] <;> omega))
        repeat (first | (refine And.intro (fun _ => ?_) (fun h => Go.Ai.tf h)) | (refine And.intro (fun _ => ?_) (fun h => Go.Ai.ft h)) | (refine And.intro (fun h => Go.Ai.ft h) (fun _ => ?_)) | (refine And.intro (fun h => Go.Ai.tf h) (fun _ => ?_)))
        apply nxW_of
        · exact load_pair (e) (a) rfl rfl rfl rfl rfl (by first | omega | (simp only <;> omega) | (simp only [Array.size_setIfInBounds, Go.Ai.swp_size] <;> omega))
        repeat (first | (refine And.intro (fun _ => ?_) (fun h => Go.Ai.tf h)) | (refine And.intro (fun _ => ?_) (fun h => Go.Ai.ft h)) | (refine And.intro (fun h => Go.Ai.ft h) (fun _ => ?_)) | (refine And.intro (fun h => Go.Ai.tf h) (fun _ => ?_)))
        refine CallW.of (cmp_ok _ _ _) ?_
        repeat (first | (refine And.intro (fun _ => ?_) (fun h => Go.Ai.tf h)) | (refine And.intro (fun _ => ?_) (fun h => Go.Ai.ft h)) | (refine And.intro (fun h => Go.Ai.ft h) (fun _ => ?_)) | (refine And.intro (fun h => Go.Ai.tf h) (fun _ => ?_)))
        refine And.intro (fun h2 => ?_) (fun h2 => ?_)
        · have h2 := lt_true h2
          refine Or.inl (And.intro (inK_i64 (by first | omega | (simp only <;> omega) | (simp only [Array.size_setIfInBounds, Go.Ai.swp_size] <;> omega))) ?_)
          refine ⟨i + 1, ⟨by omega, ?_⟩, weak_live ⟨rfl, rfl, rfl, (iv (by first | omega | (simp only <;> omega) | (simp only [Array.size_setIfInBounds, Go.Ai.swp_size] <;> omega))), rfl, trivial⟩ rfl rfl rfl, by omega⟩
          rw [← hx, scanUp_go (i := i) (by omega) h2]
        · have h2 := lt_false h2
          refine ⟨(), trivial, weak_live ⟨rfl, rfl, rfl, ?_, rfl, trivial⟩ rfl rfl rfl⟩
          rw [← hx, scanUp_stop (i := i) h2]
          rfl
      · have h1 := of_decide_eq_false h1
        repeat (first | (refine And.intro (fun _ => ?_) (fun h => Go.Ai.tf h)) | (refine And.intro (fun _ => ?_) (fun h => Go.Ai.ft h)) | (refine And.intro (fun h => Go.Ai.ft h) (fun _ => ?_)) | (refine And.intro (fun h => Go.Ai.tf h) (fun _ => ?_)))
        refine ⟨(), trivial, weak_live ⟨rfl, rfl, rfl, ?_, rfl, trivial⟩ rfl rfl rfl⟩
        rw [← hx, scanUp_end (i := i) (by omega)]
        rfl
    rintro ⟨⟩ -
    have hi1a : i0 ≤ i2 := by rw [← hi1]; exact scanUp_ge _ _ _ _
    obtain ⟨j2, hj1⟩ : ∃ j, scanDown (fun x => !ltP x e[a]!) e i2 j0 = j := ⟨_, rfl⟩
    have hj1b : j2 ≤ j0 := by rw [← hj1]; exact scanDown_le _ _ _ _
    refine cut_at (fun _ : Unit => ⟨tmOf 8 [(0, sl n), (1, I a), (4, cmpF), (12, I i2), (13, I j2)], [], none, hOne (flatA e) 34 0⟩) (fun _ => True) (tb_wp CF.tt rfl ?_) ?_
    · refine loopV CF.tt rfl (fun x : Nat => ⟨tmOf 8 [(0, sl n), (1, I a), (4, cmpF), (12, I (i2)), (13, I x)], [], none, hOne (flatA e) 34 0⟩) (j0)
        (weak_live ⟨rfl, rfl, rfl, rfl, rfl, trivial⟩ rfl rfl rfl) (fun x => x) (fun x => x ≤ j0 ∧ scanDown (fun x => !ltP x e[a]!) e (i2) x = j2) ⟨Nat.le_refl _, hj1⟩ ?_
      rintro j ⟨hj, hx⟩
      refine And.intro (fun h1 => ?_) (fun h1 => ?_)
      · have h1 := of_decide_eq_true h1
        obtain ⟨j, rfl⟩ : ∃ k, j = k + 1 := ⟨j - 1, by omega⟩
        repeat (first | (refine And.intro (fun _ => ?_) (fun h => Go.Ai.tf h)) | (refine And.intro (fun _ => ?_) (fun h => Go.Ai.ft h)) | (refine And.intro (fun h => Go.Ai.ft h) (fun _ => ?_)) | (refine And.intro (fun h => Go.Ai.tf h) (fun _ => ?_)))
        apply nxW_of
        · exact idx_pair (j + 1) rfl rfl rfl rfl rfl rfl (by first | omega | (simp only <;> omega) | (simp only [Array.size_setIfInBounds, Go.Ai.swp_size] <;> omega)) (by first | omega | (simp only <;> omega) | (simp only [Array.size_setIfInBounds, Go.Ai.swp_size] <;> omega))
        repeat (first | (refine And.intro (fun _ => ?_) (fun h => Go.Ai.tf h)) | (refine And.intro (fun _ => ?_) (fun h => Go.Ai.ft h)) | (refine And.intro (fun h => Go.Ai.ft h) (fun _ => ?_)) | (refine And.intro (fun h => Go.Ai.tf h) (fun _ => ?_)))
        apply nxW_of
        · exact load_pair (e) (j + 1) rfl rfl rfl rfl rfl (by first | omega | (simp only <;> omega) | (simp only [Array.size_setIfInBounds, Go.Ai.swp_size] <;> omega))
        repeat (first | (refine And.intro (fun _ => ?_) (fun h => Go.Ai.tf h)) | (refine And.intro (fun _ => ?_) (fun h => Go.Ai.ft h)) | (refine And.intro (fun h => Go.Ai.ft h) (fun _ => ?_)) | (refine And.intro (fun h => Go.Ai.tf h) (fun _ => ?_)))
        apply nxW_of
        · exact idx_pair (a) rfl rfl rfl rfl rfl rfl (by first | omega | (simp only <;> omega) | (simp only [Array.size_setIfInBounds, Go.Ai.swp_size] <;> omega)) (by first | omega | (simp only <;> omega) | (simp only [Array.size_setIfInBounds, Go.Ai.swp_size] <;> omega))
        repeat (first | (refine And.intro (fun _ => ?_) (fun h => Go.Ai.tf h)) | (refine And.intro (fun _ => ?_) (fun h => Go.Ai.ft h)) | (refine And.intro (fun h => Go.Ai.ft h) (fun _ => ?_)) | (refine And.intro (fun h => Go.Ai.tf h) (fun _ => ?_)))
        apply nxW_of
        · exact load_pair (e) (a) rfl rfl rfl rfl rfl (by first | omega | (simp only <;> omega) | (simp only [Array.size_setIfInBounds, Go.Ai.swp_size] <;> omega))
        repeat (first | (refine And.intro (fun _ => ?_) (fun h => Go.Ai.tf h)) | (refine And.intro (fun _ => ?_) (fun h => Go.Ai.ft h)) | (refine And.intro (fun h => Go.Ai.ft h) (fun _ => ?_)) | (refine And.intro (fun h => Go.Ai.tf h) (fun _ => ?_)))
        refine CallW.of (cmp_ok _ _ _) ?_
        repeat (first | (refine And.intro (fun _ => ?_) (fun h => Go.Ai.tf h)) | (refine And.intro (fun _ => ?_) (fun h => Go.Ai.ft h)) | (refine And.intro (fun h => Go.Ai.ft h) (fun _ => ?_)) | (refine And.intro (fun h => Go.Ai.tf h) (fun _ => ?_)))
        refine And.intro (fun h2 => ?_) (fun h2 => ?_)
        · have h2 := nlt_true h2
          refine Or.inl (And.intro (inK_i64 (by first | omega | (simp only <;> omega) | (simp only [Array.size_setIfInBounds, Go.Ai.swp_size] <;> omega))) ?_)
          refine ⟨j, ⟨by omega, ?_⟩, weak_live ⟨rfl, rfl, rfl, rfl, (iv (by first | omega | (simp only <;> omega) | (simp only [Array.size_setIfInBounds, Go.Ai.swp_size] <;> omega))), trivial⟩ rfl rfl rfl, by omega⟩
          rw [← hx, scanDown_go (j := j) (by omega) (by simp [h2])]
        · have h2 := nlt_false h2
          refine ⟨(), trivial, weak_live ⟨rfl, rfl, rfl, rfl, ?_, trivial⟩ rfl rfl rfl⟩
          rw [← hx, scanDown_stop (j := j + 1) (by simp [h2])]
          rfl
      · have h1 := of_decide_eq_false h1
        repeat (first | (refine And.intro (fun _ => ?_) (fun h => Go.Ai.tf h)) | (refine And.intro (fun _ => ?_) (fun h => Go.Ai.ft h)) | (refine And.intro (fun h => Go.Ai.ft h) (fun _ => ?_)) | (refine And.intro (fun h => Go.Ai.tf h) (fun _ => ?_)))
        refine ⟨(), trivial, weak_live ⟨rfl, rfl, rfl, rfl, ?_, trivial⟩ rfl rfl rfl⟩
        rw [← hx, scanDown_end (j := j) (by omega)]
        rfl
    rintro ⟨⟩ -
    refine TB.seq (tb_wp CF.tt rfl ?_)
    refine And.intro (fun h1 => ?_) (fun h1 => ?_)
    · have h1 := of_decide_eq_true h1
      have hp : partLoop ltP a i0 j0 e = (j2, e) := by
        rw [partLoop]
        simp only [hi1, hj1]
        rw [if_pos (by omega)]
      rw [heq] at hp
      cases hp
      exact ⟨(), ⟨by omega, he⟩, weak_live ⟨rfl, rfl, rfl, trivial⟩ rfl rfl rfl⟩
    have h1 := of_decide_eq_false h1
    refine TB.seq (tb_wp CF.tt rfl ?_)
    apply nxW_of
    · exact idx_pair (j2) rfl rfl rfl rfl rfl rfl (by first | omega | (simp only <;> omega) | (simp only [Array.size_setIfInBounds, Go.Ai.swp_size] <;> omega)) (by first | omega | (simp only <;> omega) | (simp only [Array.size_setIfInBounds, Go.Ai.swp_size] <;> omega))
    apply nxW_of
    · exact load_pair (e) (j2) rfl rfl rfl rfl rfl (by first | omega | (simp only <;> omega) | (simp only [Array.size_setIfInBounds, Go.Ai.swp_size] <;> omega))
    apply nxW_of
    · exact idx_pair (i2) rfl rfl rfl rfl rfl rfl (by first | omega | (simp only <;> omega) | (simp only [Array.size_setIfInBounds, Go.Ai.swp_size] <;> omega)) (by first | omega | (simp only <;> omega) | (simp only [Array.size_setIfInBounds, Go.Ai.swp_size] <;> omega))
    apply nxW_of
    · exact load_pair (e) (i2) rfl rfl rfl rfl rfl (by first | omega | (simp only <;> omega) | (simp only [Array.size_setIfInBounds, Go.Ai.swp_size] <;> omega))
    apply nxW_of
    · exact idx_pair (i2) rfl rfl rfl rfl rfl rfl (by first | omega | (simp only <;> omega) | (simp only [Array.size_setIfInBounds, Go.Ai.swp_size] <;> omega)) (by first | omega | (simp only <;> omega) | (simp only [Array.size_setIfInBounds, Go.Ai.swp_size] <;> omega))
    apply nxW_of
    · exact store_pair (e) (i2) (e[j2]!) rfl rfl rfl rfl rfl (by first | omega | (simp only <;> omega) | (simp only [Array.size_setIfInBounds, Go.Ai.swp_size] <;> omega))
    apply nxW_of
    · exact idx_pair (j2) rfl rfl rfl rfl rfl rfl (by first | omega | (simp only <;> omega) | (simp only [Array.size_setIfInBounds, Go.Ai.swp_size] <;> omega)) (by first | omega | (simp only <;> omega) | (simp only [Array.size_setIfInBounds, Go.Ai.swp_size] <;> omega))
    apply nxW_of
    · exact store_pair (e.setIfInBounds i2 e[j2]!) (j2) (e[i2]!) rfl rfl rfl rfl rfl (by first | omega | (simp only <;> omega) | (simp only [Array.size_setIfInBounds, Go.Ai.swp_size] <;> omega))
    refine TB.seq (tb_wp CF.tt rfl ?_)
    refine Or.inl (And.intro (inK_i64 (by first | omega | (simp only <;> omega) | (simp only [Array.size_setIfInBounds, Go.Ai.swp_size] <;> omega))) ?_)
    refine tb_wp CF.tt rfl ?_
    refine Or.inl (And.intro (inK_i64 (by first | omega | (simp only <;> omega) | (simp only [Array.size_setIfInBounds, Go.Ai.swp_size] <;> omega))) ?_)
    have hp : partLoop ltP a i0 j0 e = partLoop ltP a (i2 + 1) (j2 - 1) (swp e i2 j2) := by
      rw [partLoop]
      simp only [hi1, hj1]
      rw [if_neg (by omega), dif_pos (by omega)]
    exact ⟨(i2 + 1, j2 - 1, swp e i2 j2), ⟨by simp only [swp_size]; exact he, by simp only; omega, by simp only; omega, by simp only; rw [← hp]; exact heq⟩, weak_live ⟨rfl, rfl, rfl, (iv (by first | omega | (simp only <;> omega) | (simp only [Array.size_setIfInBounds, Go.Ai.swp_size] <;> omega))), (iv (by first | omega | (simp only <;> omega) | (simp only [Array.size_setIfInBounds, Go.Ai.swp_size] <;> omega))), trivial⟩ rfl rfl (hp_of rfl rfl rfl), by simp only; omega⟩
  rintro ⟨⟩ ⟨hjf, hdf⟩
  refine TB.seq (tb_wp CF.tt rfl ?_)
  apply nxW_of
  · exact idx_pair (a) rfl rfl rfl rfl rfl rfl (by first | omega | (simp only <;> omega) | (simp only [Array.size_setIfInBounds, Go.Ai.swp_size] <;> omega)) (by first | omega | (simp only <;> omega) | (simp only [Array.size_setIfInBounds, Go.Ai.swp_size] <;> omega))
  apply nxW_of
  · exact load_pair (df) (a) rfl rfl rfl rfl rfl (by first | omega | (simp only <;> omega) | (simp only [Array.size_setIfInBounds, Go.Ai.swp_size] <;> omega))
  apply nxW_of
  · exact idx_pair (jf) rfl rfl rfl rfl rfl rfl (by first | omega | (simp only <;> omega) | (simp only [Array.size_setIfInBounds, Go.Ai.swp_size] <;> omega)) (by first | omega | (simp only <;> omega) | (simp only [Array.size_setIfInBounds, Go.Ai.swp_size] <;> omega))
  apply nxW_of
  · exact load_pair (df) (jf) rfl rfl rfl rfl rfl (by first | omega | (simp only <;> omega) | (simp only [Array.size_setIfInBounds, Go.Ai.swp_size] <;> omega))
  apply nxW_of
  · exact idx_pair (jf) rfl rfl rfl rfl rfl rfl (by first | omega | (simp only <;> omega) | (simp only [Array.size_setIfInBounds, Go.Ai.swp_size] <;> omega)) (by first | omega | (simp only <;> omega) | (simp only [Array.size_setIfInBounds, Go.Ai.swp_size] <;> omega))
  apply nxW_of
  · exact store_pair (df) (jf) (df[a]!) rfl rfl rfl rfl rfl (by first | omega | (simp only <;> omega) | (simp only [Array.size_setIfInBounds, Go.Ai.swp_size] <;> omega))
  apply nxW_of
  · exact idx_pair (a) rfl rfl rfl rfl rfl rfl (by first | omega | (simp only <;> omega) | (simp only [Array.size_setIfInBounds, Go.Ai.swp_size] <;> omega)) (by first | omega | (simp only <;> omega) | (simp only [Array.size_setIfInBounds, Go.Ai.swp_size] <;> omega))
  apply nxW_of
  · exact store_pair (df.setIfInBounds jf df[a]!) (a) (df[jf]!) rfl rfl rfl rfl rfl (by first | omega | (simp only <;> omega) | (simp only [Array.size_setIfInBounds, Go.Ai.swp_size] <;> omega))
  refine tb_wp CF.tt rfl ?_
  have hp : Go.Sort.partition ltP d a b c = (jf, false, swp df jf a) := by
    unfold Go.Sort.partition
    simp only [← hed, hi1, hj1]
    rw [if_neg (by omega), hr]
  rw [hp]
  exact ⟨rfl, hp_of rfl rfl rfl⟩
end Go.Proofs.Ytbaoelfpmdmhjaa
set_option maxRecDepth 100000
set_option maxHeartbeats 2000000
namespace Go.Proofs.Ytbaoelfpmdmhjaa
open Go.Ai
open Go.Sort (swp scanUp scanDown partEqLoop partitionEqual)
/-! ### partitionEqual -/
theorem partitionEqual_ok (d : Array PP) (a b c : Nat) (hac : a ≤ c) (hcb : c < b) (hb : b ≤ d.size) (hn : d.size < 1000000000) :
    CallOk Try.prog C 55 [sl d.size, I a, I b, I c, cmpF] (hOne (flatA d) 34 0)
      (.ret (I (partitionEqual ltP d a b c).1) (hOne (flatA (partitionEqual ltP d a b c).2) 34 0)) := by
  obtain ⟨n, hsz⟩ : ∃ n, d.size = n := ⟨_, rfl⟩
  rw [hsz]
  rw [hsz] at hb hn
  refine fn_tb CF (n := 90) (res := [.tmp 10]) (c := (codeOf Try.f55)) rfl ?_
  refine TB.seq (tb_wp CF.tt rfl ?_)
  refine TB.seq (tb_wp CF.tt rfl ?_)
  apply nxW_of
  · exact idx_pair (c) rfl rfl rfl rfl rfl rfl (by first | omega | (simp only <;> omega) | (simp only [Array.size_setIfInBounds, Go.Ai.swp_size] <;> omega)) (by first | omega | (simp only <;> omega) | (simp only [Array.size_setIfInBounds, Go.Ai.swp_size] <;> omega))
  apply nxW_of
  · exact load_pair (d) (c) rfl rfl rfl rfl rfl (by first | omega | (simp only <;> omega) | (simp only [Array.size_setIfInBounds, Go.Ai.swp_size] <;> omega))
  apply nxW_of
  · exact idx_pair (a) rfl rfl rfl rfl rfl rfl (by first | omega | (simp only <;> omega) | (simp only [Array.size_setIfInBounds, Go.Ai.swp_size] <;> omega)) (by first | omega | (simp only <;> omega) | (simp only [Array.size_setIfInBounds, Go.Ai.swp_size] <;> omega))
  apply nxW_of
  · exact load_pair (d) (a) rfl rfl rfl rfl rfl (by first | omega | (simp only <;> omega) | (simp only [Array.size_setIfInBounds, Go.Ai.swp_size] <;> omega))
  apply nxW_of
  · exact idx_pair (a) rfl rfl rfl rfl rfl rfl (by first | omega | (simp only <;> omega) | (simp only [Array.size_setIfInBounds, Go.Ai.swp_size] <;> omega)) (by first | omega | (simp only <;> omega) | (simp only [Array.size_setIfInBounds, Go.Ai.swp_size] <;> omega))
  apply nxW_of
  · exact store_pair (d) (a) (d[c]!) rfl rfl rfl rfl rfl (by first | omega | (simp only <;> omega) | (simp only [Array.size_setIfInBounds, Go.Ai.swp_size] <;> omega))
  apply nxW_of
  · exact idx_pair (c) rfl rfl rfl rfl rfl rfl (by first | omega | (simp only <;> omega) | (simp only [Array.size_setIfInBounds, Go.Ai.swp_size] <;> omega)) (by first | omega | (simp only <;> omega) | (simp only [Array.size_setIfInBounds, Go.Ai.swp_size] <;> omega))
  apply nxW_of
  · exact store_pair (d.setIfInBounds a d[c]!) (c) (d[a]!) rfl rfl rfl rfl rfl (by first | omega | (simp only <;> omega) | (simp only [Array.size_setIfInBounds, Go.Ai.swp_size] <;> omega))
  refine TB.seq (tb_wp CF.tt rfl ?_)
  refine Or.inl (And.intro (inK_i64 (by first | omega | (simp only <;> omega) | (simp only [Array.size_setIfInBounds, Go.Ai.swp_size] <;> omega))) ?_)
  refine Or.inl (And.intro (inK_i64 (by first | omega | (simp only <;> omega) | (simp only [Array.size_setIfInBounds, Go.Ai.swp_size] <;> omega))) ?_)
  obtain ⟨jf, df, hr⟩ : ∃ jf df, partitionEqual ltP d a b c = (jf, df) := ⟨_, _, rfl⟩
  rw [hr]
  refine cut_at (fun _ : Unit => ⟨tmOf 7 [(11, I jf)], [], none, hOne (flatA df) 34 0⟩) (fun _ => True) ?_ ?_
  · refine TB.block ?_
    refine loopT (fun x : Nat × Nat × Array PP => ⟨tmOf 7 [(0, sl n), (1, I a), (4, cmpF), (11, I x.1), (12, I x.2.1)], [], none, hOne (flatA x.2.2) 34 0⟩) (a + 1, b - 1, swp d a c)
      (weak_live ⟨rfl, rfl, rfl, (iv (by first | omega | (simp only <;> omega) | (simp only [Array.size_setIfInBounds, Go.Ai.swp_size] <;> omega))), (iv (by first | omega | (simp only <;> omega) | (simp only [Array.size_setIfInBounds, Go.Ai.swp_size] <;> omega))), trivial⟩ rfl rfl (hp_of rfl rfl rfl)) (fun x => x.2.1 + 1 - x.1) (fun x => x.2.2.size = n ∧ a + 1 ≤ x.1 ∧ x.2.1 < n ∧ partEqLoop ltP a x.1 x.2.1 x.2.2 = (jf, df))
      ⟨by simp only [swp_size]; exact hsz, by simp only; omega, by simp only; omega, hr⟩ ?_
    clear hr hsz
    rintro ⟨i0, j0, e⟩ ⟨he, hia, hjn, heq⟩
    simp only at he hia hjn heq
    refine TB.block ?_
    obtain ⟨i2, hi1⟩ : ∃ i, scanUp (fun x => !ltP e[a]! x) e j0 i0 = i := ⟨_, rfl⟩
    refine cut_at (fun _ : Unit => ⟨tmOf 7 [(0, sl n), (1, I a), (4, cmpF), (11, I i2), (12, I j0)], [], none, hOne (flatA e) 34 0⟩) (fun _ => True) (tb_wp CF.tt rfl ?_) ?_
    · refine loopV CF.tt rfl (fun x : Nat => ⟨tmOf 7 [(0, sl n), (1, I a), (4, cmpF), (11, I x), (12, I j0)], [], none, hOne (flatA e) 34 0⟩) i0
        (weak_live ⟨rfl, rfl, rfl, rfl, rfl, trivial⟩ rfl rfl rfl) (fun x => j0 + 1 - x) (fun x => i0 ≤ x ∧ scanUp (fun x => !ltP e[a]! x) e j0 x = i2) ⟨Nat.le_refl _, hi1⟩ ?_
      rintro i ⟨hi, hx⟩
      refine And.intro (fun h1 => ?_) (fun h1 => ?_)
      · have h1 := of_decide_eq_true h1
        repeat (first | (refine And.intro (fun _ => ?_) (fun h => Go.Ai.tf h)) | (refine And.intro (fun _ => ?_) (fun h => Go.Ai.ft h)) | (refine And.intro (fun h => Go.Ai.ft h) (fun _ => ?_)) | (refine And.intro (fun h => Go.Ai.tf h) (fun _ => ?_)))
        apply nxW_of
        · exact idx_pair (a) rfl rfl rfl rfl rfl rfl (by first | omega | (simp only <;> omega) | (simp only [Array.size_setIfInBounds, Go.Ai.swp_size] <;> omega)) (by first | omega | (simp only <;> omega) | (simp only [Array.size_setIfInBounds, Go.Ai.swp_size] <;> omega))
        repeat (first | (refine And.intro (fun _ => ?_) (fun h => Go.Ai.tf h)) | (refine And.intro (fun _ => ?_) (fun h => Go.Ai.ft h)) | (refine And.intro (fun h => Go.Ai.ft h) (fun _ => ?_)) | (refine And.intro (fun h => Go.Ai.tf h) (fun _ => ?_)))
        apply nxW_of
        · exact load_pair (e) (a) rfl rfl rfl rfl rfl (by first | omega | (simp only <;> omega) | (simp only [Array.size_setIfInBounds, Go.Ai.swp_size] <;> omega))
        repeat (first | (refine And.intro (fun _ => ?_) (fun h => Go.Ai.tf h)) | (refine And.intro (fun _ => ?_) (fun h => Go.Ai.ft h)) | (refine And.intro (fun h => Go.Ai.ft h) (fun _ => ?_)) | (refine And.intro (fun h => Go.Ai.tf h) (fun _ => ?_)))
        apply nxW_of
        · exact idx_pair (i) rfl rfl rfl rfl rfl rfl (by first | omega | (simp only <;> omega) | (simp only [Array.size_setIfInBounds, Go.Ai.swp_size] <;> omega)) (by first | omega | (simp only <;> omega) | (simp only [Array.size_setIfInBounds, Go.Ai.swp_size] <;> omega))
        repeat (first | (refine And.intro (fun _ => ?_) (fun h => Go.Ai.tf h)) | (refine And.intro (fun _ => ?_) (fun h => Go.Ai.ft h)) | (refine And.intro (fun h => Go.Ai.ft h) (fun _ => ?_)) | (refine And.intro (fun h => Go.Ai.tf h) (fun _ => ?_)))
        apply nxW_of
        · exact load_pair (e) (i) rfl rfl rfl rfl rfl (by first | omega | (simp only <;> omega) | (simp only [Array.size_setIfInBounds, Go.Ai.swp_size] <;> omega))
        repeat (first | (refine And.intro (fun _ => ?_) (fun h => Go.Ai.tf h)) | (refine And.intro (fun _ => ?_) (fun h => Go.Ai.ft h)) | (refine And.intro (fun h => Go.Ai.ft h) (fun _ => ?_)) | (refine And.intro (fun h => Go.Ai.tf h) (fun _ => ?_)))
        refine CallW.of (cmp_ok _ _ _) ?_
        repeat (first | (refine And.intro (fun _ => ?_) (fun h => Go.Ai.tf h)) | (refine And.intro (fun _ => ?_) (fun h => Go.Ai.ft h)) | (refine And.intro (fun h => Go.Ai.ft h) (fun _ => ?_)) | (refine And.intro (fun h => Go.Ai.tf h) (fun _ => ?_)))
        refine And.intro (fun h2 => ?_) (fun h2 => ?_)
        · have h2 := nlt_true h2
          refine Or.inl (And.intro (inK_i64 (by first | omega | (simp only <;> omega) | (simp only [Array.size_setIfInBounds, Go.Ai.swp_size] <;> omega))) ?_)
          refine ⟨i + 1, ⟨by omega, ?_⟩, weak_live ⟨rfl, rfl, rfl, (iv (by first | omega | (simp only <;> omega) | (simp only [Array.size_setIfInBounds, Go.Ai.swp_size] <;> omega))), rfl, trivial⟩ rfl rfl rfl, by omega⟩
          rw [← hx, scanUp_go (i := i) (by omega) (by simp [h2])]
        · have h2 := nlt_false h2
          refine ⟨(), trivial, weak_live ⟨rfl, rfl, rfl, ?_, rfl, trivial⟩ rfl rfl rfl⟩
          rw [← hx, scanUp_stop (i := i) (by simp [h2])]
          rfl
      · have h1 := of_decide_eq_false h1
        repeat (first | (refine And.intro (fun _ => ?_) (fun h => Go.Ai.tf h)) | (refine And.intro (fun _ => ?_) (fun h => Go.Ai.ft h)) | (refine And.intro (fun h => Go.Ai.ft h) (fun _ => ?_)) | (refine And.intro (fun h => Go.Ai.tf h) (fun _ => ?_)))
        refine ⟨(), trivial, weak_live ⟨rfl, rfl, rfl, ?_, rfl, trivial⟩ rfl rfl rfl⟩
        rw [← hx, scanUp_end (i := i) (by omega)]
        rfl
    rintro ⟨⟩ -
    have hi1a : i0 ≤ i2 := by rw [← hi1]; exact scanUp_ge _ _ _ _
    obtain ⟨j2, hj1⟩ : ∃ j, scanDown (fun x => ltP e[a]! x) e i2 j0 = j := ⟨_, rfl⟩
    have hj1b : j2 ≤ j0 := by rw [← hj1]; exact scanDown_le _ _ _ _
    refine cut_at (fun _ : Unit => ⟨tmOf 7 [(0, sl n), (1, I a), (4, cmpF), (11, I i2), (12, I j2)], [], none, hOne (flatA e) 34 0⟩) (fun _ => True) (tb_wp CF.tt rfl ?_) ?_
    · refine loopV CF.tt rfl (fun x : Nat => ⟨tmOf 7 [(0, sl n), (1, I a), (4, cmpF), (11, I i2), (12, I x)], [], none, hOne (flatA e) 34 0⟩) j0
        (weak_live ⟨rfl, rfl, rfl, rfl, rfl, trivial⟩ rfl rfl rfl) (fun x => x) (fun x => x ≤ j0 ∧ scanDown (fun x => ltP e[a]! x) e i2 x = j2) ⟨Nat.le_refl _, hj1⟩ ?_
      rintro j ⟨hj, hx⟩
      refine And.intro (fun h1 => ?_) (fun h1 => ?_)
      · have h1 := of_decide_eq_true h1
        obtain ⟨j, rfl⟩ : ∃ k, j = k + 1 := ⟨j - 1, by omega⟩
        repeat (first | (refine And.intro (fun _ => ?_) (fun h => Go.Ai.tf h)) | (refine And.intro (fun _ => ?_) (fun h => Go.Ai.ft h)) | (refine And.intro (fun h => Go.Ai.ft h) (fun _ => ?_)) | (refine And.intro (fun h => Go.Ai.tf h) (fun _ => ?_)))
        apply nxW_of
        · exact idx_pair (a) rfl rfl rfl rfl rfl rfl (by first | omega | (simp only <;> omega) | (simp only [Array.size_setIfInBounds, Go.Ai.swp_size] <;> omega)) (by first | omega | (simp only <;> omega) | (simp only [Array.size_setIfInBounds, Go.Ai.swp_size] <;> omega))
        repeat (first | (refine And.intro (fun _ => ?_) (fun h => Go.Ai.tf h)) | (refine And.intro (fun _ => ?_) (fun h => Go.Ai.ft h)) | (refine And.intro (fun h => Go.Ai.ft h) (fun _ => ?_)) | (refine And.intro (fun h => Go.Ai.tf h) (fun _ => ?_)))
        apply nxW_of
        · exact load_pair (e) (a) rfl rfl rfl rfl rfl (by first | omega | (simp only <;> omega) | (simp only [Array.size_setIfInBounds, Go.Ai.swp_size] <;> omega))
        repeat (first | (refine And.intro (fun _ => ?_) (fun h => Go.Ai.tf h)) | (refine And.intro (fun _ => ?_) (fun h => Go.Ai.ft h)) | (refine And.intro (fun h => Go.Ai.ft h) (fun _ => ?_)) | (refine And.intro (fun h => Go.Ai.tf h) (fun _ => ?_)))
        apply nxW_of
        · exact idx_pair (j + 1) rfl rfl rfl rfl rfl rfl (by first | omega | (simp only <;> omega) | (simp only [Array.size_setIfInBounds, Go.Ai.swp_size] <;> omega)) (by first | omega | (simp only <;> omega) | (simp only [Array.size_setIfInBounds, Go.Ai.swp_size] <;> omega))
        repeat (first | (refine And.intro (fun _ => ?_) (fun h => Go.Ai.tf h)) | (refine And.intro (fun _ => ?_) (fun h => Go.Ai.ft h)) | (refine And.intro (fun h => Go.Ai.ft h) (fun _ => ?_)) | (refine And.intro (fun h => Go.Ai.tf h) (fun _ => ?_)))
        apply nxW_of
        · exact load_pair (e) (j + 1) rfl rfl rfl rfl rfl (by first | omega | (simp only <;> omega) | (simp only [Array.size_setIfInBounds, Go.Ai.swp_size] <;> omega))
        repeat (first | (refine And.intro (fun _ => ?_) (fun h => Go.Ai.tf h)) | (refine And.intro (fun _ => ?_) (fun h => Go.Ai.ft h)) | (refine And.intro (fun h => Go.Ai.ft h) (fun _ => ?_)) | (refine And.intro (fun h => Go.Ai.tf h) (fun _ => ?_)))
        refine CallW.of (cmp_ok _ _ _) ?_
        repeat (first | (refine And.intro (fun _ => ?_) (fun h => Go.Ai.tf h)) | (refine And.intro (fun _ => ?_) (fun h => Go.Ai.ft h)) | (refine And.intro (fun h => Go.Ai.ft h) (fun _ => ?_)) | (refine And.intro (fun h => Go.Ai.tf h) (fun _ => ?_)))
        refine And.intro (fun h2 => ?_) (fun h2 => ?_)
        · have h2 := lt_true h2
          refine Or.inl (And.intro (inK_i64 (by first | omega | (simp only <;> omega) | (simp only [Array.size_setIfInBounds, Go.Ai.swp_size] <;> omega))) ?_)
          refine ⟨j, ⟨by omega, ?_⟩, weak_live ⟨rfl, rfl, rfl, rfl, (iv (by first | omega | (simp only <;> omega) | (simp only [Array.size_setIfInBounds, Go.Ai.swp_size] <;> omega))), trivial⟩ rfl rfl rfl, by omega⟩
          rw [← hx, scanDown_go (j := j) (by omega) h2]
        · have h2 := lt_false h2
          refine ⟨(), trivial, weak_live ⟨rfl, rfl, rfl, rfl, ?_, trivial⟩ rfl rfl rfl⟩
          rw [← hx, scanDown_stop (j := j + 1) h2]
          rfl
      · have h1 := of_decide_eq_false h1
        repeat (first | (refine And.intro (fun _ => ?_) (fun h => Go.Ai.tf h)) | (refine And.intro (fun _ => ?_) (fun h => Go.Ai.ft h)) | (refine And.intro (fun h => Go.Ai.ft h) (fun _ => ?_)) | (refine And.intro (fun h => Go.Ai.tf h) (fun _ => ?_)))
        refine ⟨(), trivial, weak_live ⟨rfl, rfl, rfl, rfl, ?_, trivial⟩ rfl rfl rfl⟩
        rw [← hx, scanDown_end (j := j) (by omega)]
        rfl
    rintro ⟨⟩ -
    refine TB.seq (tb_wp CF.tt rfl ?_)
    refine And.intro (fun h1 => ?_) (fun h1 => ?_)
    · have h1 := of_decide_eq_true h1
      have hp : partEqLoop ltP a i0 j0 e = (i2, e) := by
        rw [partEqLoop]
        simp only [hi1, hj1]
        rw [if_pos (by omega)]
      rw [heq] at hp
      cases hp
      exact ⟨(), trivial, weak_live ⟨rfl, trivial⟩ rfl rfl rfl⟩
    have h1 := of_decide_eq_false h1
    refine TB.seq (tb_wp CF.tt rfl ?_)
    apply nxW_of
    · exact idx_pair (j2) rfl rfl rfl rfl rfl rfl (by first | omega | (simp only <;> omega) | (simp only [Array.size_setIfInBounds, Go.Ai.swp_size] <;> omega)) (by first | omega | (simp only <;> omega) | (simp only [Array.size_setIfInBounds, Go.Ai.swp_size] <;> omega))
    apply nxW_of
    · exact load_pair (e) (j2) rfl rfl rfl rfl rfl (by first | omega | (simp only <;> omega) | (simp only [Array.size_setIfInBounds, Go.Ai.swp_size] <;> omega))
    apply nxW_of
    · exact idx_pair (i2) rfl rfl rfl rfl rfl rfl (by first | omega | (simp only <;> omega) | (simp only [Array.size_setIfInBounds, Go.Ai.swp_size] <;> omega)) (by first | omega | (simp only <;> omega) | (simp only [Array.size_setIfInBounds, Go.Ai.swp_size] <;> omega))
    apply nxW_of
    · exact load_pair (e) (i2) rfl rfl rfl rfl rfl (by first | omega | (simp only <;> omega) | (simp only [Array.size_setIfInBounds, Go.Ai.swp_size] <;> omega))
    apply nxW_of
    · exact idx_pair (i2) rfl rfl rfl rfl rfl rfl (by first | omega | (simp only <;> omega) | (simp only [Array.size_setIfInBounds, Go.Ai.swp_size] <;> omega)) (by first | omega | (simp only <;> omega) | (simp only [Array.size_setIfInBounds, Go.Ai.swp_size] <;> omega))
    apply nxW_of
    · exact store_pair (e) (i2) (e[j2]!) rfl rfl rfl rfl rfl (by first | omega | (simp only <;> omega) | (simp only [Array.size_setIfInBounds, Go.Ai.swp_size] <;> omega))
    apply nxW_of
    · exact idx_pair (j2) rfl rfl rfl rfl rfl rfl (by first | omega | (simp only <;> omega) | (simp only [Array.size_setIfInBounds, Go.Ai.swp_size] <;> omega)) (by first | omega | (simp only <;> omega) | (simp only [Array.size_setIfInBounds, Go.Ai.swp_size] <;> omega))
    apply nxW_of
    · exact store_pair (e.setIfInBounds i2 e[j2]!) (j2) (e[i2]!) rfl rfl rfl rfl rfl (by first | omega | (simp only <;> omega) | (simp only [Array.size_setIfInBounds, Go.Ai.swp_size] <;> omega))
    refine TB.seq (tb_wp CF.tt rfl ?_)
    refine Or.inl (And.intro (inK_i64 (by first | omega | (simp only <;> omega) | (simp only [Array.size_setIfInBounds, Go.Ai.swp_size] <;> omega))) ?_)
    refine tb_wp CF.tt rfl ?_
    refine Or.inl (And.intro (inK_i64 (by first | omega | (simp only <;> omega) | (simp only [Array.size_setIfInBounds, Go.Ai.swp_size] <;> omega))) ?_)
    have hp : partEqLoop ltP a i0 j0 e = partEqLoop ltP a (i2 + 1) (j2 - 1) (swp e i2 j2) := by
      rw [partEqLoop]
      simp only [hi1, hj1]
      rw [if_neg (by omega), dif_pos (by omega)]
    exact ⟨(i2 + 1, j2 - 1, swp e i2 j2), ⟨by simp only [swp_size]; exact he, by simp only; omega, by simp only; omega, by simp only; rw [← hp]; exact heq⟩, weak_live ⟨rfl, rfl, rfl, (iv (by first | omega | (simp only <;> omega) | (simp only [Array.size_setIfInBounds, Go.Ai.swp_size] <;> omega))), (iv (by first | omega | (simp only <;> omega) | (simp only [Array.size_setIfInBounds, Go.Ai.swp_size] <;> omega))), trivial⟩ rfl rfl (hp_of rfl rfl rfl), by simp only; omega⟩
  rintro ⟨⟩ -
  refine tb_wp CF.tt rfl ?_
  exact ⟨rfl, rfl⟩
end Go.Proofs.Ytbaoelfpmdmhjaa
set_option maxRecDepth 100000
set_option maxHeartbeats 2000000
namespace Go.Proofs.Ytbaoelfpmdmhjaa
open Go.Ai
open Go.Sort (swp scanSorted shiftDown shiftUp partialIns partialInsertionSort)
/-! ### partialInsertionSort -/
theorem scanSorted_go {d : Array PP} {b i : Nat} (h1 : i < b) (h2 : ltP d[i]! d[i - 1]! = false) : scanSorted ltP d b i = scanSorted ltP d b (i + 1) := by rw [scanSorted.eq_def ltP d b i, if_pos (by simp [h2]; exact h1)]
theorem scanSorted_end {d : Array PP} {b i : Nat} (h1 : ¬ i < b) : scanSorted ltP d b i = i := by rw [scanSorted.eq_def ltP d b i, if_neg (by simp [h1])]
theorem scanSorted_stop {d : Array PP} {b i : Nat} (h2 : ltP d[i]! d[i - 1]! = true) : scanSorted ltP d b i = i := by rw [scanSorted.eq_def ltP d b i, if_neg (by simp [h2])]
theorem partial_ok (d : Array PP) (a b : Nat) (hab : a < b) (hb : b ≤ d.size) (hn : d.size < 1000000000) :
    CallOk Try.prog C 54 [sl d.size, I a, I b, cmpF] (hOne (flatA d) 34 0)
      (.ret (.bool (partialInsertionSort ltP d a b).2) (hOne (flatA (partialInsertionSort ltP d a b).1) 34 0)) := by
  obtain ⟨n, hsz⟩ : ∃ n, d.size = n := ⟨_, rfl⟩
  rw [hsz]
  rw [hsz] at hb hn
  refine fn_tb CF (n := 141) (res := [.tmp 8]) (c := (codeOf Try.f54)) rfl ?_
  obtain ⟨df, bf, hr⟩ : ∃ df bf, partialInsertionSort ltP d a b = (df, bf) := ⟨_, _, rfl⟩
  rw [hr]
  refine TB.seq (tb_wp CF.tt rfl ?_)
  refine TB.seq (tb_wp CF.tt rfl ?_)
  refine Or.inl (And.intro (inK_i64 (by first | omega | (simp only <;> omega) | (simp only [Array.size_setIfInBounds, Go.Ai.swp_size] <;> omega))) ?_)
  refine cut_at (fun _ : Unit => ⟨tmOf 8 [], [], none, hOne (flatA df) 34 0⟩) (fun _ => bf = false) ?_ ?_
  · refine TB.seq (tb_wp CF.tt rfl ?_)
    refine TB.block ?_
    refine loopT (fun x : Nat × Nat × Array PP => ⟨tmOf 8 [(0, sl n), (1, I a), (2, I b), (3, cmpF), (9, I x.2.1), (10, I (5 - x.1))], [], none, hOne (flatA x.2.2) 34 0⟩) (5, a + 1, d)
      (weak_live ⟨rfl, rfl, rfl, rfl, (iv (by first | omega | (simp only <;> omega) | (simp only [Array.size_setIfInBounds, Go.Ai.swp_size] <;> omega))), rfl, trivial⟩ rfl rfl (hp_of rfl rfl rfl)) (fun x => x.1) (fun x => x.1 ≤ 5 ∧ x.2.2.size = n ∧ a + 1 ≤ x.2.1 ∧ x.2.1 ≤ b ∧ partialIns ltP a b x.1 x.2.1 x.2.2 = (df, bf))
      ⟨Nat.le_refl _, hsz, Nat.le_refl _, hab, hr⟩ ?_
    clear hr hsz
    rintro ⟨s, i0, e⟩ ⟨hs, he, hia, hib, heq⟩
    simp only at hs he hia hib heq
    refine TB.seq (tb_wp CF.tt rfl ?_)
    refine And.intro (fun h1 => ?_) (fun h1 => ?_)
    · have h1 := of_decide_eq_true h1
      simp only at h1
      obtain ⟨s, rfl⟩ : ∃ k, s = k + 1 := ⟨s - 1, by omega⟩
      refine TB.seq (TB.block ?_)
      obtain ⟨i, hi⟩ : ∃ i, scanSorted ltP e b i0 = i := ⟨_, rfl⟩
      refine cut_at (fun _ : Unit => ⟨tmOf 8 [(0, sl n), (1, I a), (2, I b), (3, cmpF), (9, I i), (10, I (5 - (s + 1)))], [], none, hOne (flatA e) 34 0⟩) (fun _ => i0 ≤ i ∧ i ≤ b) (tb_wp CF.tt rfl ?_) ?_
      · refine loopV CF.tt rfl (fun x : Nat => ⟨tmOf 8 [(0, sl n), (1, I a), (2, I b), (3, cmpF), (9, I x), (10, I (5 - (s + 1)))], [], none, hOne (flatA e) 34 0⟩) i0
          (weak_live ⟨rfl, rfl, rfl, rfl, rfl, rfl, trivial⟩ rfl rfl rfl) (fun x => b - x) (fun x => i0 ≤ x ∧ x ≤ b ∧ scanSorted ltP e b x = i) ⟨Nat.le_refl _, hib, hi⟩ ?_
        rintro j ⟨hj, hjb, hx⟩
        refine And.intro (fun h2 => ?_) (fun h2 => ?_)
        · have h2 := of_decide_eq_true h2
          repeat (first | (refine And.intro (fun _ => ?_) (fun h => Go.Ai.tf h)) | (refine And.intro (fun _ => ?_) (fun h => Go.Ai.ft h)) | (refine And.intro (fun h => Go.Ai.ft h) (fun _ => ?_)) | (refine And.intro (fun h => Go.Ai.tf h) (fun _ => ?_)))
          apply nxW_of
          · exact idx_pair (j) rfl rfl rfl rfl rfl rfl (by first | omega | (simp only <;> omega) | (simp only [Array.size_setIfInBounds, Go.Ai.swp_size] <;> omega)) (by first | omega | (simp only <;> omega) | (simp only [Array.size_setIfInBounds, Go.Ai.swp_size] <;> omega))
          repeat (first | (refine And.intro (fun _ => ?_) (fun h => Go.Ai.tf h)) | (refine And.intro (fun _ => ?_) (fun h => Go.Ai.ft h)) | (refine And.intro (fun h => Go.Ai.ft h) (fun _ => ?_)) | (refine And.intro (fun h => Go.Ai.tf h) (fun _ => ?_)))
          apply nxW_of
          · exact load_pair (e) (j) rfl rfl rfl rfl rfl (by first | omega | (simp only <;> omega) | (simp only [Array.size_setIfInBounds, Go.Ai.swp_size] <;> omega))
          repeat (first | (refine And.intro (fun _ => ?_) (fun h => Go.Ai.tf h)) | (refine And.intro (fun _ => ?_) (fun h => Go.Ai.ft h)) | (refine And.intro (fun h => Go.Ai.ft h) (fun _ => ?_)) | (refine And.intro (fun h => Go.Ai.tf h) (fun _ => ?_)))
          refine Or.inl (And.intro (inK_i64 (by first | omega | (simp only <;> omega) | (simp only [Array.size_setIfInBounds, Go.Ai.swp_size] <;> omega))) ?_)
          repeat (first | (refine And.intro (fun _ => ?_) (fun h => Go.Ai.tf h)) | (refine And.intro (fun _ => ?_) (fun h => Go.Ai.ft h)) | (refine And.intro (fun h => Go.Ai.ft h) (fun _ => ?_)) | (refine And.intro (fun h => Go.Ai.tf h) (fun _ => ?_)))
          apply nxW_of
          · exact idx_pair (j - 1) rfl rfl rfl rfl rfl rfl (by first | omega | (simp only <;> omega) | (simp only [Array.size_setIfInBounds, Go.Ai.swp_size] <;> omega)) (by first | omega | (simp only <;> omega) | (simp only [Array.size_setIfInBounds, Go.Ai.swp_size] <;> omega))
          repeat (first | (refine And.intro (fun _ => ?_) (fun h => Go.Ai.tf h)) | (refine And.intro (fun _ => ?_) (fun h => Go.Ai.ft h)) | (refine And.intro (fun h => Go.Ai.ft h) (fun _ => ?_)) | (refine And.intro (fun h => Go.Ai.tf h) (fun _ => ?_)))
          apply nxW_of
          · exact load_pair (e) (j - 1) rfl rfl rfl rfl rfl (by first | omega | (simp only <;> omega) | (simp only [Array.size_setIfInBounds, Go.Ai.swp_size] <;> omega))
          repeat (first | (refine And.intro (fun _ => ?_) (fun h => Go.Ai.tf h)) | (refine And.intro (fun _ => ?_) (fun h => Go.Ai.ft h)) | (refine And.intro (fun h => Go.Ai.ft h) (fun _ => ?_)) | (refine And.intro (fun h => Go.Ai.tf h) (fun _ => ?_)))
          refine CallW.of (cmp_ok _ _ _) ?_
          repeat (first | (refine And.intro (fun _ => ?_) (fun h => Go.Ai.tf h)) | (refine And.intro (fun _ => ?_) (fun h => Go.Ai.ft h)) | (refine And.intro (fun h => Go.Ai.ft h) (fun _ => ?_)) | (refine And.intro (fun h => Go.Ai.tf h) (fun _ => ?_)))
          refine And.intro (fun h3 => ?_) (fun h3 => ?_)
          · have h3 := nlt_true h3
            refine Or.inl (And.intro (inK_i64 (by first | omega | (simp only <;> omega) | (simp only [Array.size_setIfInBounds, Go.Ai.swp_size] <;> omega))) ?_)
            refine ⟨j + 1, ⟨by omega, by omega, ?_⟩, weak_live ⟨rfl, rfl, rfl, rfl, (iv (by first | omega | (simp only <;> omega) | (simp only [Array.size_setIfInBounds, Go.Ai.swp_size] <;> omega))), rfl, trivial⟩ rfl rfl rfl, by omega⟩
            rw [← hx, scanSorted_go (i := j) (by omega) h3]
          · have h3 := nlt_false h3
            have hij : i = j := by rw [← hx, scanSorted_stop (i := j) h3]
            refine ⟨(), ⟨by omega, by omega⟩, weak_live ⟨rfl, rfl, rfl, rfl, ?_, rfl, trivial⟩ rfl rfl rfl⟩
            rw [hij]
            rfl
        · have h2 := of_decide_eq_false h2
          repeat (first | (refine And.intro (fun _ => ?_) (fun h => Go.Ai.tf h)) | (refine And.intro (fun _ => ?_) (fun h => Go.Ai.ft h)) | (refine And.intro (fun h => Go.Ai.ft h) (fun _ => ?_)) | (refine And.intro (fun h => Go.Ai.tf h) (fun _ => ?_)))
          have hij : i = j := by rw [← hx, scanSorted_end (i := j) (by omega)]
          refine ⟨(), ⟨by omega, by omega⟩, weak_live ⟨rfl, rfl, rfl, rfl, ?_, rfl, trivial⟩ rfl rfl rfl⟩
          rw [hij]
          rfl
      rintro ⟨⟩ ⟨hi0, hi1⟩
      rw [partialIns] at heq
      simp only [hi] at heq
      refine TB.seq (tb_wp CF.tt rfl ?_)
      refine And.intro (fun h2 => ?_) (fun h2 => ?_)
      · have h2 := of_decide_eq_true h2
        rw [if_pos (by omega)] at heq
        cases heq
        exact ⟨rfl, rfl⟩
      have h2 := of_decide_eq_false h2
      rw [if_neg (by omega)] at heq
      refine TB.seq (tb_wp CF.tt rfl ?_)
      refine Or.inl (And.intro (inK_i64 (by first | omega | (simp only <;> omega) | (simp only [Array.size_setIfInBounds, Go.Ai.swp_size] <;> omega))) ?_)
      refine And.intro (fun h3 => ?_) (fun h3 => ?_)
      · have h3 := of_decide_eq_true h3
        rw [if_pos (by omega)] at heq
        cases heq
        exact ⟨rfl, rfl⟩
      have h3 := of_decide_eq_false h3
      rw [if_neg (by omega)] at heq
      refine TB.seq (tb_wp CF.tt rfl ?_)
      refine Or.inl (And.intro (inK_i64 (by first | omega | (simp only <;> omega) | (simp only [Array.size_setIfInBounds, Go.Ai.swp_size] <;> omega))) ?_)
      refine Or.inl (And.intro (inK_i64 (by first | omega | (simp only <;> omega) | (simp only [Array.size_setIfInBounds, Go.Ai.swp_size] <;> omega))) ?_)
      apply nxW_of
      · exact idx_pair (i - 1) rfl rfl rfl rfl rfl rfl (by first | omega | (simp only <;> omega) | (simp only [Array.size_setIfInBounds, Go.Ai.swp_size] <;> omega)) (by first | omega | (simp only <;> omega) | (simp only [Array.size_setIfInBounds, Go.Ai.swp_size] <;> omega))
      apply nxW_of
      · exact load_pair (e) (i - 1) rfl rfl rfl rfl rfl (by first | omega | (simp only <;> omega) | (simp only [Array.size_setIfInBounds, Go.Ai.swp_size] <;> omega))
      apply nxW_of
      · exact idx_pair (i) rfl rfl rfl rfl rfl rfl (by first | omega | (simp only <;> omega) | (simp only [Array.size_setIfInBounds, Go.Ai.swp_size] <;> omega)) (by first | omega | (simp only <;> omega) | (simp only [Array.size_setIfInBounds, Go.Ai.swp_size] <;> omega))
      apply nxW_of
      · exact load_pair (e) (i) rfl rfl rfl rfl rfl (by first | omega | (simp only <;> omega) | (simp only [Array.size_setIfInBounds, Go.Ai.swp_size] <;> omega))
      apply nxW_of
      · exact idx_pair (i) rfl rfl rfl rfl rfl rfl (by first | omega | (simp only <;> omega) | (simp only [Array.size_setIfInBounds, Go.Ai.swp_size] <;> omega)) (by first | omega | (simp only <;> omega) | (simp only [Array.size_setIfInBounds, Go.Ai.swp_size] <;> omega))
      apply nxW_of
      · exact store_pair (e) (i) (e[i - 1]!) rfl rfl rfl rfl rfl (by first | omega | (simp only <;> omega) | (simp only [Array.size_setIfInBounds, Go.Ai.swp_size] <;> omega))
      apply nxW_of
      · exact idx_pair (i - 1) rfl rfl rfl rfl rfl rfl (by first | omega | (simp only <;> omega) | (simp only [Array.size_setIfInBounds, Go.Ai.swp_size] <;> omega)) (by first | omega | (simp only <;> omega) | (simp only [Array.size_setIfInBounds, Go.Ai.swp_size] <;> omega))
      apply nxW_of
      · exact store_pair (e.setIfInBounds i e[i - 1]!) (i - 1) (e[i]!) rfl rfl rfl rfl rfl (by first | omega | (simp only <;> omega) | (simp only [Array.size_setIfInBounds, Go.Ai.swp_size] <;> omega))
      obtain ⟨e0, he0⟩ : ∃ e0, swp e i (i - 1) = e0 := ⟨_, rfl⟩
      have hs0 : e0.size = n := by rw [← he0, swp_size]; exact he
      rw [he0] at heq
      obtain ⟨e1, he1⟩ : ∃ e1, (if i - a ≥ 2 then shiftDown ltP (i - 1) e0 else e0) = e1 := ⟨_, rfl⟩
      rw [he1] at heq
      refine cut_at (fun _ : Unit => ⟨tmOf 8 [(0, sl n), (1, I a), (2, I b), (3, cmpF), (9, I i), (10, I (5 - (s + 1)))], [], none, hOne (flatA e1) 34 0⟩) (fun _ => e1.size = n) (tb_wp CF.tt rfl ?_) ?_
      · refine Or.inl (And.intro (inK_i64 (by first | omega | (simp only <;> omega) | (simp only [Array.size_setIfInBounds, Go.Ai.swp_size] <;> omega))) ?_)
        refine And.intro (fun h4 => ?_) (fun h4 => ?_)
        · have h4 := of_decide_eq_true h4
          rw [if_pos (by omega)] at he1
          refine Or.inl (And.intro (inK_i64 (by first | omega | (simp only <;> omega) | (simp only [Array.size_setIfInBounds, Go.Ai.swp_size] <;> omega))) ?_)
          refine loopV CF.tt rfl (fun x : Nat × Array PP => ⟨tmOf 8 [(0, sl n), (1, I a), (2, I b), (3, cmpF), (9, I i), (10, I (5 - (s + 1))), (11, I x.1)], [], none, hOne (flatA x.2) 34 0⟩) (i - 1, e0)
            (weak_live ⟨rfl, rfl, rfl, rfl, rfl, rfl, (iv (by first | omega | (simp only <;> omega) | (simp only [Array.size_setIfInBounds, Go.Ai.swp_size] <;> omega))), trivial⟩ rfl rfl (hp_of (by rw [← he0]; rfl) rfl rfl)) (fun x => x.1) (fun x => x.1 ≤ i - 1 ∧ x.2.size = n ∧ shiftDown ltP x.1 x.2 = e1) ⟨Nat.le_refl _, hs0, he1⟩ ?_
          rintro ⟨j, f⟩ ⟨hj, hf, hx⟩
          simp only at hj hf hx
          refine And.intro (fun h5 => ?_) (fun h5 => ?_)
          · have h5 := of_decide_eq_true h5
            simp only at h5
            obtain ⟨k, rfl⟩ : ∃ k, j = k + 1 := ⟨j - 1, by omega⟩
            rw [shiftDown] at hx
            apply nxW_of
            · exact idx_pair (k + 1) rfl rfl rfl rfl rfl rfl (by first | omega | (simp only <;> omega) | (simp only [Array.size_setIfInBounds, Go.Ai.swp_size] <;> omega)) (by first | omega | (simp only <;> omega) | (simp only [Array.size_setIfInBounds, Go.Ai.swp_size] <;> omega))
            apply nxW_of
            · exact load_pair (f) (k + 1) rfl rfl rfl rfl rfl (by first | omega | (simp only <;> omega) | (simp only [Array.size_setIfInBounds, Go.Ai.swp_size] <;> omega))
            refine Or.inl (And.intro (inK_i64 (by first | omega | (simp only <;> omega) | (simp only [Array.size_setIfInBounds, Go.Ai.swp_size] <;> omega))) ?_)
            apply nxW_of
            · exact idx_pair (k) rfl rfl rfl rfl rfl rfl (by first | omega | (simp only <;> omega) | (simp only [Array.size_setIfInBounds, Go.Ai.swp_size] <;> omega)) (by first | omega | (simp only <;> omega) | (simp only [Array.size_setIfInBounds, Go.Ai.swp_size] <;> omega))
            apply nxW_of
            · exact load_pair (f) (k) rfl rfl rfl rfl rfl (by first | omega | (simp only <;> omega) | (simp only [Array.size_setIfInBounds, Go.Ai.swp_size] <;> omega))
            refine CallW.of (cmp_ok _ _ _) ?_
            refine And.intro (fun h6 => ?_) (fun h6 => ?_)
            · have h6 := nlt_true h6
              rw [if_pos (by simp [h6])] at hx
              exact ⟨(), by rw [← hx]; exact hf, weak_live ⟨rfl, rfl, rfl, rfl, rfl, rfl, trivial⟩ rfl rfl (hp_of (by rw [← hx]; rfl) rfl rfl)⟩
            · have h6 := nlt_false h6
              rw [if_neg (by simp [h6])] at hx
              refine Or.inl (And.intro (inK_i64 (by first | omega | (simp only <;> omega) | (simp only [Array.size_setIfInBounds, Go.Ai.swp_size] <;> omega))) ?_)
              refine Or.inl (And.intro (inK_i64 (by first | omega | (simp only <;> omega) | (simp only [Array.size_setIfInBounds, Go.Ai.swp_size] <;> omega))) ?_)
              apply nxW_of
              · exact idx_pair (k) rfl rfl rfl rfl rfl rfl (by first | omega | (simp only <;> omega) | (simp only [Array.size_setIfInBounds, Go.Ai.swp_size] <;> omega)) (by first | omega | (simp only <;> omega) | (simp only [Array.size_setIfInBounds, Go.Ai.swp_size] <;> omega))
              apply nxW_of
              · exact load_pair (f) (k) rfl rfl rfl rfl rfl (by first | omega | (simp only <;> omega) | (simp only [Array.size_setIfInBounds, Go.Ai.swp_size] <;> omega))
              apply nxW_of
              · exact idx_pair ((k + 1)) rfl rfl rfl rfl rfl rfl (by first | omega | (simp only <;> omega) | (simp only [Array.size_setIfInBounds, Go.Ai.swp_size] <;> omega)) (by first | omega | (simp only <;> omega) | (simp only [Array.size_setIfInBounds, Go.Ai.swp_size] <;> omega))
              apply nxW_of
              · exact load_pair (f) ((k + 1)) rfl rfl rfl rfl rfl (by first | omega | (simp only <;> omega) | (simp only [Array.size_setIfInBounds, Go.Ai.swp_size] <;> omega))
              apply nxW_of
              · exact idx_pair ((k + 1)) rfl rfl rfl rfl rfl rfl (by first | omega | (simp only <;> omega) | (simp only [Array.size_setIfInBounds, Go.Ai.swp_size] <;> omega)) (by first | omega | (simp only <;> omega) | (simp only [Array.size_setIfInBounds, Go.Ai.swp_size] <;> omega))
              apply nxW_of
              · exact store_pair (f) ((k + 1)) (f[k]!) rfl rfl rfl rfl rfl (by first | omega | (simp only <;> omega) | (simp only [Array.size_setIfInBounds, Go.Ai.swp_size] <;> omega))
              apply nxW_of
              · exact idx_pair (k) rfl rfl rfl rfl rfl rfl (by first | omega | (simp only <;> omega) | (simp only [Array.size_setIfInBounds, Go.Ai.swp_size] <;> omega)) (by first | omega | (simp only <;> omega) | (simp only [Array.size_setIfInBounds, Go.Ai.swp_size] <;> omega))
              apply nxW_of
              · exact store_pair (f.setIfInBounds (k + 1) f[k]!) (k) (f[(k + 1)]!) rfl rfl rfl rfl rfl (by first | omega | (simp only <;> omega) | (simp only [Array.size_setIfInBounds, Go.Ai.swp_size] <;> omega))
              refine Or.inl (And.intro (inK_i64 (by first | omega | (simp only <;> omega) | (simp only [Array.size_setIfInBounds, Go.Ai.swp_size] <;> omega))) ?_)
              exact ⟨(k, swp f (k + 1) k), ⟨by simp only; omega, by simp only [swp_size]; exact hf, hx⟩, weak_live ⟨rfl, rfl, rfl, rfl, rfl, rfl, (iv (by first | omega | (simp only <;> omega) | (simp only [Array.size_setIfInBounds, Go.Ai.swp_size] <;> omega))), trivial⟩ rfl rfl (hp_of rfl rfl rfl), by simp only; omega⟩
          · have h5 := of_decide_eq_false h5
            simp only at h5
            have hj0 : j = 0 := by omega
            subst hj0
            rw [shiftDown] at hx
            exact ⟨(), by rw [← hx]; exact hf, weak_live ⟨rfl, rfl, rfl, rfl, rfl, rfl, trivial⟩ rfl rfl (hp_of (by rw [← hx]; rfl) rfl rfl)⟩
        · have h4 := of_decide_eq_false h4
          rw [if_neg (by omega)] at he1
          exact ⟨(), by rw [← he1]; exact hs0, weak_live ⟨rfl, rfl, rfl, rfl, rfl, rfl, trivial⟩ rfl rfl (hp_of (by rw [← he1, ← he0]; rfl) rfl rfl)⟩
      rintro ⟨⟩ hs1
      obtain ⟨e2, he2⟩ : ∃ e2, (if b - i ≥ 2 then shiftUp ltP b (i + 1) e1 else e1) = e2 := ⟨_, rfl⟩
      rw [he2] at heq
      · refine tb_wp CF.tt rfl ?_
        refine Or.inl (And.intro (inK_i64 (by first | omega | (simp only <;> omega) | (simp only [Array.size_setIfInBounds, Go.Ai.swp_size] <;> omega))) ?_)
        refine And.intro (fun h4 => ?_) (fun h4 => ?_)
        · have h4 := of_decide_eq_true h4
          rw [if_pos (by omega)] at he2
          refine Or.inl (And.intro (inK_i64 (by first | omega | (simp only <;> omega) | (simp only [Array.size_setIfInBounds, Go.Ai.swp_size] <;> omega))) ?_)
          refine loopV CF.tt rfl (fun x : Nat × Array PP => ⟨tmOf 8 [(0, sl n), (1, I a), (2, I b), (3, cmpF), (9, I i), (10, I (5 - (s + 1))), (12, I x.1)], [], none, hOne (flatA x.2) 34 0⟩) (i + 1, e1)
            (weak_live ⟨rfl, rfl, rfl, rfl, rfl, rfl, (iv (by first | omega | (simp only <;> omega) | (simp only [Array.size_setIfInBounds, Go.Ai.swp_size] <;> omega))), trivial⟩ rfl rfl rfl) (fun x => b - x.1) (fun x => i + 1 ≤ x.1 ∧ x.2.size = n ∧ shiftUp ltP b x.1 x.2 = e2) ⟨Nat.le_refl _, hs1, he2⟩ ?_
          rintro ⟨j, f⟩ ⟨hj, hf, hx⟩
          simp only at hj hf hx
          refine And.intro (fun h5 => ?_) (fun h5 => ?_)
          · have h5 := of_decide_eq_true h5
            simp only at h5
            rw [shiftUp, if_pos (by omega)] at hx
            apply nxW_of
            · exact idx_pair (j) rfl rfl rfl rfl rfl rfl (by first | omega | (simp only <;> omega) | (simp only [Array.size_setIfInBounds, Go.Ai.swp_size] <;> omega)) (by first | omega | (simp only <;> omega) | (simp only [Array.size_setIfInBounds, Go.Ai.swp_size] <;> omega))
            apply nxW_of
            · exact load_pair (f) (j) rfl rfl rfl rfl rfl (by first | omega | (simp only <;> omega) | (simp only [Array.size_setIfInBounds, Go.Ai.swp_size] <;> omega))
            refine Or.inl (And.intro (inK_i64 (by first | omega | (simp only <;> omega) | (simp only [Array.size_setIfInBounds, Go.Ai.swp_size] <;> omega))) ?_)
            apply nxW_of
            · exact idx_pair (j - 1) rfl rfl rfl rfl rfl rfl (by first | omega | (simp only <;> omega) | (simp only [Array.size_setIfInBounds, Go.Ai.swp_size] <;> omega)) (by first | omega | (simp only <;> omega) | (simp only [Array.size_setIfInBounds, Go.Ai.swp_size] <;> omega))
            apply nxW_of
            · exact load_pair (f) (j - 1) rfl rfl rfl rfl rfl (by first | omega | (simp only <;> omega) | (simp only [Array.size_setIfInBounds, Go.Ai.swp_size] <;> omega))
            refine CallW.of (cmp_ok _ _ _) ?_
            refine And.intro (fun h6 => ?_) (fun h6 => ?_)
            · have h6 := nlt_true h6
              rw [if_pos (by simp [h6])] at hx
              refine tb_wp CF.tt rfl ?_
              refine Or.inl (And.intro (inK_i64 (by first | omega | (simp only <;> omega) | (simp only [Array.size_setIfInBounds, Go.Ai.swp_size] <;> omega))) ?_)
              exact ⟨(s, i, e2), ⟨by simp only; omega, by rw [← hx]; exact hf, by simp only; omega, by simp only; omega, heq⟩, weak_live ⟨rfl, rfl, rfl, rfl, rfl, (iv (by first | omega | (simp only <;> omega) | (simp only [Array.size_setIfInBounds, Go.Ai.swp_size] <;> omega))), trivial⟩ rfl rfl (hp_of (by rw [← hx]; rfl) rfl rfl), by simp only; omega⟩
            · have h6 := nlt_false h6
              rw [if_neg (by simp [h6])] at hx
              refine Or.inl (And.intro (inK_i64 (by first | omega | (simp only <;> omega) | (simp only [Array.size_setIfInBounds, Go.Ai.swp_size] <;> omega))) ?_)
              refine Or.inl (And.intro (inK_i64 (by first | omega | (simp only <;> omega) | (simp only [Array.size_setIfInBounds, Go.Ai.swp_size] <;> omega))) ?_)
              apply nxW_of
              · exact idx_pair ((j - 1)) rfl rfl rfl rfl rfl rfl (by first | omega | (simp only <;> omega) | (simp only [Array.size_setIfInBounds, Go.Ai.swp_size] <;> omega)) (by first | omega | (simp only <;> omega) | (simp only [Array.size_setIfInBounds, Go.Ai.swp_size] <;> omega))
              apply nxW_of
              · exact load_pair (f) ((j - 1)) rfl rfl rfl rfl rfl (by first | omega | (simp only <;> omega) | (simp only [Array.size_setIfInBounds, Go.Ai.swp_size] <;> omega))
              apply nxW_of
              · exact idx_pair (j) rfl rfl rfl rfl rfl rfl (by first | omega | (simp only <;> omega) | (simp only [Array.size_setIfInBounds, Go.Ai.swp_size] <;> omega)) (by first | omega | (simp only <;> omega) | (simp only [Array.size_setIfInBounds, Go.Ai.swp_size] <;> omega))
              apply nxW_of
              · exact load_pair (f) (j) rfl rfl rfl rfl rfl (by first | omega | (simp only <;> omega) | (simp only [Array.size_setIfInBounds, Go.Ai.swp_size] <;> omega))
              apply nxW_of
              · exact idx_pair (j) rfl rfl rfl rfl rfl rfl (by first | omega | (simp only <;> omega) | (simp only [Array.size_setIfInBounds, Go.Ai.swp_size] <;> omega)) (by first | omega | (simp only <;> omega) | (simp only [Array.size_setIfInBounds, Go.Ai.swp_size] <;> omega))
              apply nxW_of
              · exact store_pair (f) (j) (f[(j - 1)]!) rfl rfl rfl rfl rfl (by first | omega | (simp only <;> omega) | (simp only [Array.size_setIfInBounds, Go.Ai.swp_size] <;> omega))
              apply nxW_of
              · exact idx_pair ((j - 1)) rfl rfl rfl rfl rfl rfl (by first | omega | (simp only <;> omega) | (simp only [Array.size_setIfInBounds, Go.Ai.swp_size] <;> omega)) (by first | omega | (simp only <;> omega) | (simp only [Array.size_setIfInBounds, Go.Ai.swp_size] <;> omega))
              apply nxW_of
              · exact store_pair (f.setIfInBounds j f[(j - 1)]!) ((j - 1)) (f[j]!) rfl rfl rfl rfl rfl (by first | omega | (simp only <;> omega) | (simp only [Array.size_setIfInBounds, Go.Ai.swp_size] <;> omega))
              refine Or.inl (And.intro (inK_i64 (by first | omega | (simp only <;> omega) | (simp only [Array.size_setIfInBounds, Go.Ai.swp_size] <;> omega))) ?_)
              exact ⟨(j + 1, swp f j (j - 1)), ⟨by simp only; omega, by simp only [swp_size]; exact hf, hx⟩, weak_live ⟨rfl, rfl, rfl, rfl, rfl, rfl, (iv (by first | omega | (simp only <;> omega) | (simp only [Array.size_setIfInBounds, Go.Ai.swp_size] <;> omega))), trivial⟩ rfl rfl (hp_of rfl rfl rfl), by simp only; omega⟩
          · have h5 := of_decide_eq_false h5
            simp only at h5
            rw [shiftUp, if_neg (by omega)] at hx
            refine tb_wp CF.tt rfl ?_
            refine Or.inl (And.intro (inK_i64 (by first | omega | (simp only <;> omega) | (simp only [Array.size_setIfInBounds, Go.Ai.swp_size] <;> omega))) ?_)
            exact ⟨(s, i, e2), ⟨by simp only; omega, by rw [← hx]; exact hf, by simp only; omega, by simp only; omega, heq⟩, weak_live ⟨rfl, rfl, rfl, rfl, rfl, (iv (by first | omega | (simp only <;> omega) | (simp only [Array.size_setIfInBounds, Go.Ai.swp_size] <;> omega))), trivial⟩ rfl rfl (hp_of (by rw [← hx]; rfl) rfl rfl), by simp only; omega⟩
        · have h4 := of_decide_eq_false h4
          rw [if_neg (by omega)] at he2
          refine tb_wp CF.tt rfl ?_
          refine Or.inl (And.intro (inK_i64 (by first | omega | (simp only <;> omega) | (simp only [Array.size_setIfInBounds, Go.Ai.swp_size] <;> omega))) ?_)
          exact ⟨(s, i, e2), ⟨by simp only; omega, by rw [← he2]; exact hs1, by simp only; omega, by simp only; omega, heq⟩, weak_live ⟨rfl, rfl, rfl, rfl, rfl, (iv (by first | omega | (simp only <;> omega) | (simp only [Array.size_setIfInBounds, Go.Ai.swp_size] <;> omega))), trivial⟩ rfl rfl (hp_of (by rw [← he2]; rfl) rfl rfl), by simp only; omega⟩
    · have h1 := of_decide_eq_false h1
      simp only at h1
      have hs0 : s = 0 := by omega
      subst hs0
      rw [partialIns] at heq
      cases heq
      exact ⟨(), rfl, weak_live trivial rfl rfl rfl⟩
  rintro ⟨⟩ hbf
  refine tb_wp CF.tt rfl ?_
  rw [hbf]
  exact ⟨rfl, rfl⟩
end Go.Proofs.Ytbaoelfpmdmhjaa
set_option maxRecDepth 100000
set_option maxHeartbeats 2000000
namespace Go.Proofs.Ytbaoelfpmdmhjaa
open Go.Ai
/-! ### order2, median: they give one of their indices -/
/-- rows of pairs, and a counter -/
def hCnt (d : Array PP) (k : Nat) : H := ⟨tree8 none (some (.cells (flatA d) 34 0 0)) (some (.cells [I k] 3 2 0)) none none none none none, 3, 0⟩
def cnt : Value := .pointer (some ⟨2, 0, none⟩)
theorem order2_ok (d : Array PP) (x y k : Nat) (hx : x < d.size) (hy : y < d.size) (hn : d.size < 1000000000) (hk : k < 1000) :
    ∃ u v k', k' ≤ k + 1 ∧ ((u = x ∧ v = y) ∨ (u = y ∧ v = x)) ∧ CallOk Try.prog C 74 [sl d.size, I x, I y, cnt, cmpF] (hCnt d k) (.ret (.tuple #[I u, I v]) (hCnt d k')) := by
  obtain ⟨n, hsz⟩ : ∃ n, d.size = n := ⟨_, rfl⟩
  rw [hsz]
  rw [hsz] at hx hy hn
  cases hc : ltP d[y]! d[x]! with
  | true =>
    refine ⟨y, x, k + 1, Nat.le_refl _, .inr ⟨rfl, rfl⟩, ?_⟩
    refine fn_wp CF rfl (n := 32) (res := [.tmp 10, .tmp 11]) (c := codeOf Try.f74) rfl ?_
    apply nxW_of
    · exact idx_pair (y) rfl rfl rfl rfl rfl rfl (by first | omega | (simp only <;> omega) | (simp only [Array.size_setIfInBounds, Go.Ai.swp_size] <;> omega)) (by first | omega | (simp only <;> omega) | (simp only [Array.size_setIfInBounds, Go.Ai.swp_size] <;> omega))
    apply nxW_of
    · exact load_pair (d) (y) rfl rfl rfl rfl rfl (by first | omega | (simp only <;> omega) | (simp only [Array.size_setIfInBounds, Go.Ai.swp_size] <;> omega))
    apply nxW_of
    · exact idx_pair (x) rfl rfl rfl rfl rfl rfl (by first | omega | (simp only <;> omega) | (simp only [Array.size_setIfInBounds, Go.Ai.swp_size] <;> omega)) (by first | omega | (simp only <;> omega) | (simp only [Array.size_setIfInBounds, Go.Ai.swp_size] <;> omega))
    apply nxW_of
    · exact load_pair (d) (x) rfl rfl rfl rfl rfl (by first | omega | (simp only <;> omega) | (simp only [Array.size_setIfInBounds, Go.Ai.swp_size] <;> omega))
    refine CallW.of (cmp_ok _ _ _) ?_
    refine And.intro (fun h2 => ?_) (fun h2 => ?_)
    · refine Or.inl (And.intro (inK_i64 (by first | omega | (simp only <;> omega) | (simp only [Array.size_setIfInBounds, Go.Ai.swp_size] <;> omega))) ?_)
      exact ⟨rfl, rfl⟩
    · have h2 := lt_false h2
      rw [hc] at h2
      cases h2
  | false =>
    refine ⟨x, y, k, Nat.le_succ _, .inl ⟨rfl, rfl⟩, ?_⟩
    refine fn_wp CF rfl (n := 32) (res := [.tmp 10, .tmp 11]) (c := codeOf Try.f74) rfl ?_
    apply nxW_of
    · exact idx_pair (y) rfl rfl rfl rfl rfl rfl (by first | omega | (simp only <;> omega) | (simp only [Array.size_setIfInBounds, Go.Ai.swp_size] <;> omega)) (by first | omega | (simp only <;> omega) | (simp only [Array.size_setIfInBounds, Go.Ai.swp_size] <;> omega))
    apply nxW_of
    · exact load_pair (d) (y) rfl rfl rfl rfl rfl (by first | omega | (simp only <;> omega) | (simp only [Array.size_setIfInBounds, Go.Ai.swp_size] <;> omega))
    apply nxW_of
    · exact idx_pair (x) rfl rfl rfl rfl rfl rfl (by first | omega | (simp only <;> omega) | (simp only [Array.size_setIfInBounds, Go.Ai.swp_size] <;> omega)) (by first | omega | (simp only <;> omega) | (simp only [Array.size_setIfInBounds, Go.Ai.swp_size] <;> omega))
    apply nxW_of
    · exact load_pair (d) (x) rfl rfl rfl rfl rfl (by first | omega | (simp only <;> omega) | (simp only [Array.size_setIfInBounds, Go.Ai.swp_size] <;> omega))
    refine CallW.of (cmp_ok _ _ _) ?_
    refine And.intro (fun h2 => ?_) (fun h2 => ?_)
    · have h2 := lt_true h2
      rw [hc] at h2
      cases h2
    · exact ⟨rfl, rfl⟩
theorem median_ok (d : Array PP) (x y z k : Nat) (hx : x < d.size) (hy : y < d.size) (hz : z < d.size) (hn : d.size < 1000000000) (hk : k < 900) :
    ∃ u k', k' ≤ k + 3 ∧ (u = x ∨ u = y ∨ u = z) ∧ CallOk Try.prog C 70 [sl d.size, I x, I y, I z, cnt, cmpF] (hCnt d k) (.ret (I u) (hCnt d k')) := by
  obtain ⟨u1, v1, k1, hk1, h1, c1⟩ := order2_ok d x y k hx hy hn (by omega)
  obtain ⟨u2, v2, k2, hk2, h2, c2⟩ := order2_ok d v1 z k1 (by omega) hz hn (by omega)
  obtain ⟨u3, v3, k3, hk3, h3, c3⟩ := order2_ok d u1 u2 k2 (by omega) (by omega) hn (by omega)
  refine ⟨v3, k3, by omega, by omega, ?_⟩
  refine fn_wp CF rfl (n := 41) (res := [.tmp 12]) (c := codeOf Try.f70) rfl ?_
  refine CallW.of c1 ?_
  refine CallW.of c2 ?_
  refine CallW.of c3 ?_
  exact ⟨rfl, rfl⟩
theorem adjacent_ok (d : Array PP) (x k : Nat) (h0 : 0 < x) (hx : x + 1 < d.size) (hn : d.size < 1000000000) (hk : k < 900) :
    ∃ u k', k' ≤ k + 3 ∧ x - 1 ≤ u ∧ u ≤ x + 1 ∧ CallOk Try.prog C 69 [sl d.size, I x, cnt, cmpF] (hCnt d k) (.ret (I u) (hCnt d k')) := by
  obtain ⟨u, k', hk', hu, c⟩ := median_ok d (x - 1) x (x + 1) k (by omega) (by omega) hx hn hk
  refine ⟨u, k', hk', by omega, by omega, ?_⟩
  refine fn_wp CF rfl (n := 18) (res := [.tmp 8]) (c := codeOf Try.f69) rfl ?_
  refine Or.inl (And.intro (inK_i64 (by first | omega | (simp only <;> omega) | (simp only [Array.size_setIfInBounds, Go.Ai.swp_size] <;> omega))) ?_)
  refine Or.inl (And.intro (inK_i64 (by first | omega | (simp only <;> omega) | (simp only [Array.size_setIfInBounds, Go.Ai.swp_size] <;> omega))) ?_)
  have e1 : I (x - 1) = .int .i64 ((x : Int) - 1) := by unfold I; congr 1; omega
  have e2 : I (x + 1) = .int .i64 ((x : Int) + 1) := rfl
  rw [e1, e2] at c
  refine CallW.of c ?_
  exact ⟨rfl, rfl⟩
end Go.Proofs.Ytbaoelfpmdmhjaa
