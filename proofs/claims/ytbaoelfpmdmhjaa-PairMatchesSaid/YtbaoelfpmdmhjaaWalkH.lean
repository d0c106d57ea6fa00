/- Contracts. Conditions: as each theorem says. -/
import Derived.Test.YtbaoelfpmdmhjaaWalkG
set_option maxRecDepth 100000
set_option maxHeartbeats 2000000
namespace Go.Proofs.Ytbaoelfpmdmhjaa
open Go.Ai
/-! ### the document's Place -/
def posQ (p : Int) : List Nat → Nat → Int
  | [], _ => -1
  | x :: r, i => if (x : Int) = p then i else posQ p r (i + 1)
theorem posQ_pos (p : Int) : ∀ (Q : List Nat) (i : Nat), 0 ≤ posQ p Q i ↔ ∃ x ∈ Q, (x : Int) = p
  | [], i => by simp [posQ]
  | x :: r, i => by
    unfold posQ
    split
    · rename_i h
      exact ⟨fun _ => ⟨x, by simp, h⟩, fun _ => by omega⟩
    · rename_i h
      rw [posQ_pos p r (i + 1)]
      constructor
      · rintro ⟨y, hy, e⟩; exact ⟨y, List.mem_cons_of_mem _ hy, e⟩
      · rintro ⟨y, hy, e⟩
        rcases List.mem_cons.1 hy with rfl | hy
        · exact absurd e h
        · exact ⟨y, hy, e⟩
noncomputable def hQb (Q : List Nat) : H := ⟨tree8 none (some (.cells (Q.map I) 3 0 0)) none none none none none none, 2, bigLow⟩
theorem cutAt (Q : List Nat) (i : Nat) (hi : i < Q.length) : cut (Q.map I) i 1 = [I (Q.getD i 0)] := by
  unfold cut
  rw [List.drop_eq_getElem_cons (by simpa using hi), List.take_succ_cons, List.take_zero, List.getElem_map, List.getD_eq_getElem?_getD, List.getElem?_eq_getElem hi]
  rfl
theorem find_at (Q : List Nat) (c : Nat) (p : Int) (hQ : Q.length ≤ 1000) : CallOk Try.prog C 42 [slQ Q c, .int .i64 p] (hQb Q) (.ret (.int .i64 (posQ p Q 0)) (hQb Q)) := by
  refine fn_wp CF rfl (n := 19) (res := [.tmp 4]) (c := codeOf Try.f42) rfl ?_
  refine loopV CF.tt rfl (fun i : Nat => ⟨tmOf 6 [(0, slQ Q c), (1, .int .i64 p), (5, I i)], [], none, hQb Q⟩) 0 (weak_live ⟨rfl, rfl, rfl, trivial⟩ rfl rfl rfl)
    (fun i => Q.length - i) (fun i => i ≤ Q.length ∧ posQ p (Q.drop i) i = posQ p Q 0) ⟨Nat.zero_le _, rfl⟩ ?_
  rintro i ⟨hi, hr⟩
  refine And.intro (fun h1 => ?_) (fun h1 => ?_)
  · have h1 := of_decide_eq_true h1
    have hiQ : i < Q.length := by
      have : (i : Int) < (Q.length : Nat) := h1
      omega
    have hd : Q.drop i = Q.getD i 0 :: Q.drop (i + 1) := by
      rw [List.drop_eq_getElem_cons hiQ, List.getD_eq_getElem?_getD, List.getElem?_eq_getElem hiQ]; rfl
    rw [hd] at hr
    have hr : (if ((Q.getD i 0 : Nat) : Int) = p then (i : Int) else posQ p (Q.drop (i + 1)) (i + 1)) = posQ p Q 0 := hr
    refine nxW_of (idx_cell i rfl rfl rfl rfl rfl rfl rfl hiQ) ?_
    refine nxW_of (load_val (v := I (Q.getD i 0)) rfl rfl rfl (by rw [List.length_map]; exact hiQ) (by exact congrArg (ofCells _) (cutAt Q i hiQ))) ?_
    refine And.intro (fun h2 => ?_) (fun h2 => ?_)
    · have h2 := of_decide_eq_true h2
      rw [if_pos h2] at hr
      exact ⟨retI hr, rfl⟩
    · have h2 := of_decide_eq_false h2
      rw [if_neg h2] at hr
      refine Or.inl (And.intro (inK_i64 (by first | omega | (simp only <;> omega) | (simp only [Array.size_setIfInBounds, Go.Ai.swp_size] <;> omega))) ?_)
      exact ⟨i + 1, ⟨by omega, hr⟩, weak_live ⟨rfl, rfl, (iv (by first | omega | (simp only <;> omega) | (simp only [Array.size_setIfInBounds, Go.Ai.swp_size] <;> omega))), trivial⟩ rfl rfl rfl, by omega⟩
  · have h1 := of_decide_eq_false h1
    have hiQ : ¬ i < Q.length := by
      have : ¬ (i : Int) < (Q.length : Nat) := h1
      omega
    rw [List.drop_of_length_le (by omega)] at hr
    exact ⟨retI hr, rfl⟩
theorem find_ok3 (Q : List Nat) (c : Nat) (p : Int) (hQ : Q.length ≤ 1000) {h : H} {B f : Nat} (hb : h.bl.get B = some (.cells (Q.map I) 3 f 0)) : CallOk Try.prog C 42 [.slice (some ⟨B, 0, none⟩) Q.length c, .int .i64 p] h (.ret (.int .i64 (posQ p Q 0)) h) := by
  refine call_read (L := [B + 1, B]) rfl (find_at Q c p hQ) rfl rfl ⟨trivial, ?_, trivial⟩ rfl (by simp) ?_
  · show (match h.bl.get B with | some y => BlkRn (nth [B + 1, B]) 2 (.cells (Q.map I) 3 0 0) y ∧ ((famOf 1 (Blk.cells (Q.map I) 3 0 0) ≤ 1) ∧ (famOf 1 (Blk.cells (Q.map I) 3 0 0) = 1 → famOf B y = B)) | none => False)
    rw [hb]
    exact ⟨brS _ _ Q _ _ _ [] (by simp), Nat.zero_le _, fun h => (nomatch h)⟩
  · intro j x0 hx
    have hlt := keysB_ok (cc := 2) (f := fun k => k) (t := (hQb Q).bl) rfl j x0 hx
    rcases (by omega : j = 0 ∨ j = 1) with rfl | rfl
    · cases hx
    · cases hx; exact (show 0 < bigLow by decide)
theorem find_nil (p : Int) : ∀ h, CallOk Try.prog C 42 [.slice none 0 0, .int .i64 p] h (.ret (.int .i64 (-1)) h) := by
  refine pure_wp CF rfl 4 3 (n := 19) (res := [.tmp 4]) (c := codeOf Try.f42) rfl rfl rfl ?_
  refine TB.ofLB (LB.nextW CF.tt rfl ?_)
  repeat (first | (refine And.intro (fun _ => ?_) (fun h => Go.Ai.tf h)) | (refine And.intro (fun _ => ?_) (fun h => Go.Ai.ft h)) | (refine And.intro (fun h => Go.Ai.ft h) (fun _ => ?_)) | (refine And.intro (fun h => Go.Ai.tf h) (fun _ => ?_)))
  rfl
/-- the places between runes -/
theorem inner_in (l : List UInt8) (j : Nat) (h1 : 1 ≤ j) (h2 : j < sizeS l) : innerS (l.getD j 0) = true := by
  cases l with
  | nil => exact absurd h2 (Nat.not_lt_zero _)
  | cons a r =>
    obtain ⟨k, hk⟩ : ∃ k, sizeS (a :: r) = k := ⟨_, rfl⟩
    rw [hk] at h2
    obtain ⟨g1, g2, g3⟩ := (sizeS_gen a r k (by omega)).1 hk
    have hb := g3 j h2 h1
    unfold okB at hb
    unfold innerS
    have hrange : 128 ≤ (fstS a.toNat).2.1 ∧ (fstS a.toNat).2.2 ≤ 191 ∨ (fstS a.toNat).1 ≤ 1 := by unfold fstS; (repeat' split) <;> simp
    split at hb
    · rw [Bool.and_eq_true] at hb ⊢
      have b1 := of_decide_eq_true hb.1
      have b2 := of_decide_eq_true hb.2
      rcases hrange with hr | hr
      · exact ⟨decide_eq_true (by omega), decide_eq_true (by omega)⟩
      · omega
    · rw [Bool.and_eq_true] at hb ⊢
      have b1 := of_decide_eq_true hb.1
      have b2 := of_decide_eq_true hb.2
      exact ⟨decide_eq_true (by omega), decide_eq_true (by omega)⟩
theorem inner_lead (l : List UInt8) (h : sizeS l ≠ 0) : innerS (l.getD 0 0) = false := by
  cases l with
  | nil => exact absurd rfl h
  | cons a r =>
    obtain ⟨g1, _, _⟩ := (sizeS_gen a r _ (by omega)).1 rfl
    show innerS a = false
    have ha : (fstS a.toNat).1 ≠ 0 := by omega
    unfold innerS
    have : a.toNat < 128 ∨ 194 ≤ a.toNat := by
      rcases Nat.lt_or_ge a.toNat 128 with h1 | h1
      · exact .inl h1
      · rcases Nat.lt_or_ge a.toNat 194 with h2 | h2
        · exfalso
          apply ha
          unfold fstS
          rw [if_neg (by omega), if_pos h2]
        · exact .inr h2
    rcases this with h1 | h1
    · rw [decide_eq_false (by omega), Bool.false_and]
    · rw [decide_eq_false (by omega : ¬ a.toNat < 192), Bool.and_false]
theorem spl_mem (l : List UInt8) (hv : validS l = true) (q : Nat) (p : Nat) : p ∈ spl l q ↔ ∃ j, p = q + j ∧ j ≤ l.length ∧ (j = l.length ∨ innerS (l.getD j 0) = false) := by
  induction hn : l.length using Nat.strongRecOn generalizing l q with
  | _ n ih =>
    cases l with
    | nil =>
      simp only [spl, List.mem_singleton]
      constructor
      · rintro rfl; exact ⟨0, rfl, Nat.zero_le _, .inl hn⟩
      · rintro ⟨j, rfl, h1, _⟩
        have : n = 0 := hn.symm
        omega
    | cons b r =>
      have hvd := validS_drop (b :: r) (by simp)
      rw [hv] at hvd
      have hs : sizeS (b :: r) ≠ 0 := by
        intro e
        rw [if_pos e] at hvd
        cases hvd
      rw [if_neg hs] at hvd
      have hle := sizeS_le (b :: r)
      rw [spl_drop _ _ (by simp) hs, List.mem_cons]
      obtain ⟨sz, hsz⟩ : ∃ sz, sizeS (b :: r) = sz := ⟨_, rfl⟩
      have hin := inner_in (b :: r)
      have hle0 := inner_lead (b :: r) hs
      rw [hsz] at hs hvd hle hin
      rw [hsz]
      have hlen : ((b :: r).drop sz).length = n - sz := by rw [List.length_drop, hn]
      rw [ih (n - sz) (by omega) ((b :: r).drop sz) hvd.symm (q + sz) hlen]
      rw [hn] at hle
      have hg : ∀ j, ((b :: r).drop sz).getD j 0 = (b :: r).getD (sz + j) 0 := fun j => getD_drop' _ _ _
      constructor
      · rintro (rfl | ⟨j, rfl, h1, h2⟩)
        · exact ⟨0, rfl, Nat.zero_le _, .inr hle0⟩
        · refine ⟨sz + j, by omega, by omega, ?_⟩
          rcases h2 with h2 | h2
          · exact .inl (by omega)
          · rw [hg] at h2; exact .inr h2
      · rintro ⟨j, rfl, h1, h2⟩
        by_cases h0 : j = 0
        · subst h0; exact .inl rfl
        · right
          have hjs : sz ≤ j := by
            rcases Nat.lt_or_ge j sz with hlt | hge
            · rcases h2 with h2 | h2
              · omega
              · rw [hin j (by omega) hlt] at h2; cases h2
            · exact hge
          refine ⟨j - sz, by omega, by omega, ?_⟩
          rcases h2 with h2 | h2
          · exact .inl (by omega)
          · rw [hg, show sz + (j - sz) = j by omega]; exact .inr h2
theorem place_eq (s : List UInt8) (hv : validS s = true) (p : Int) : (∃ x ∈ spl s 0, ((x : Nat) : Int) = p) ↔ placeS s p = true := by
  unfold placeS
  rw [hv, Bool.and_true, Bool.and_eq_true, Bool.and_eq_true, Bool.or_eq_true, decide_eq_true_eq, decide_eq_true_eq, decide_eq_true_eq, Bool.not_eq_true']
  constructor
  · rintro ⟨x, hx, rfl⟩
    obtain ⟨j, e, h1, h2⟩ := (spl_mem s hv 0 x).1 hx
    have : x = j := by omega
    subst this
    refine ⟨by omega, by omega, ?_⟩
    rcases h2 with h2 | h2
    · exact .inl (by omega)
    · exact .inr h2
  · rintro ⟨h0, h1, h2⟩
    refine ⟨p.toNat, (spl_mem s hv 0 _).2 ⟨p.toNat, by omega, by omega, ?_⟩, by omega⟩
    rcases h2 with h2 | h2
    · exact .inl (by omega)
    · exact .inr h2
theorem spl_len (l : List UInt8) (q : Nat) : (spl l q).length ≤ l.length + 1 := by
  induction hn : l.length using Nat.strongRecOn generalizing l q with
  | _ n ih =>
    cases l with
    | nil => simp [spl]
    | cons b r =>
      rw [spl]
      split
      · simp
      · rename_i h
        have hn1 : r.length + 1 = n := hn
        have := ih (n - sizeS (b :: r)) (by omega) ((b :: r).drop (sizeS (b :: r))) (q + sizeS (b :: r)) (by rw [List.length_drop, hn])
        rw [List.length_cons]
        omega
theorem place3_ok (s : List UInt8) (p : Int) (hl : s.length ≤ 500) : ∀ h, CallOk Try.prog C 29 [str s, .int .i64 p] h (.ret (.bool (placeS s p)) h) := by
  refine pure_wp CF rfl 4 3 (n := 10) (res := [.tmp 4]) (c := codeOf Try.f29) rfl rfl rfl ?_
  cases hv : validS s with
  | false =>
    have e : placeS s p = false := by unfold placeS; rw [hv]; simp
    rw [e]
    refine CallW.of (split_bad s hl hv _) ?_
    refine CallW.of (find_nil p _) ?_
    rfl
  | true =>
    refine CallW.of (split_ok s hl hv _) ?_
    refine CallW.of (find_ok3 (spl s 0) (capQ s) p (by have := spl_len s 0; omega) rfl) ?_
    refine retB ?_
    have h1 := posQ_pos p (spl s 0) 0
    have h2 := place_eq s hv p
    cases hp : placeS s p with
    | false =>
      refine decide_eq_false fun h => ?_
      rw [h1, h2, hp] at h
      cases h
    | true => exact decide_eq_true (h1.2 (h2.2 hp))
end Go.Proofs.Ytbaoelfpmdmhjaa
set_option maxRecDepth 100000
set_option maxHeartbeats 2000000
namespace Go.Proofs.Ytbaoelfpmdmhjaa
open Go.Ai
/-! ### the document's lines -/
def linR (s : List UInt8) : Nat → Option (Array PP) × Nat
  | 0 => (none, 0)
  | i + 1 => if i = s.length ∨ s.getD i 0 = 10 then (some (((linR s i).1.getD #[]).push (mkP (linR s i).2 i)), i + 1) else linR s i
theorem linR_size (s : List UInt8) : ∀ i, ((linR s i).1.getD #[]).size ≤ i ∧ (linR s i).2 ≤ i
  | 0 => ⟨Nat.le_refl _, Nat.le_refl _⟩
  | i + 1 => by
    have ih := linR_size s i
    unfold linR
    split
    · simp only [Option.getD_some, Array.size_push]; omega
    · omega
theorem lines_bad (s : List UInt8) (hl : s.length ≤ 500) (hv : validS s = false) : ∀ h, CallOk Try.prog C 43 [str s] h (.ret (.slice none 0 0) h) := by
  have hv3 := valid3_ok s hl
  rw [hv] at hv3
  refine pure_wp CF rfl 4 3 (n := 34) (res := [.tmp 2]) (c := codeOf Try.f43) rfl rfl rfl ?_
  refine CallW.of (hv3 _) ?_
  repeat (first | (refine And.intro (fun _ => ?_) (fun h => Go.Ai.tf h)) | (refine And.intro (fun _ => ?_) (fun h => Go.Ai.ft h)) | (refine And.intro (fun h => Go.Ai.ft h) (fun _ => ?_)) | (refine And.intro (fun h => Go.Ai.tf h) (fun _ => ?_)))
  rfl
theorem lines_at (s : List UInt8) (hl : s.length ≤ 500) (hv : validS s = true) :
    CallOk Try.prog C 43 [str s] (h00 4) (.ret (slO 1 (linR s (s.length + 1)).1) (hR (linR s (s.length + 1)).1)) := by
  have hv3 := valid3_ok s hl
  rw [hv] at hv3
  refine fn_wp CF rfl (n := 34) (res := [.tmp 2]) (c := codeOf Try.f43) rfl ?_
  refine CallW.of (hv3 _) ?_
  repeat (first | (refine And.intro (fun _ => ?_) (fun h => Go.Ai.tf h)) | (refine And.intro (fun _ => ?_) (fun h => Go.Ai.ft h)) | (refine And.intro (fun h => Go.Ai.ft h) (fun _ => ?_)) | (refine And.intro (fun h => Go.Ai.tf h) (fun _ => ?_)))
  refine loopV CF.tt rfl (fun i : Nat => ⟨tmOf 7 [(0, str s), (3, slO 1 (linR s i).1), (4, I (linR s i).2), (5, I i)], [], none, hR (linR s i).1⟩) 0
    (weak_ren (L := [0, 1]) ⟨⟨_, rfl, rfl⟩, ⟨_, rfl, rfl⟩, ⟨_, rfl, rfl⟩, ⟨_, rfl, rfl⟩, trivial⟩ ⟨trivial, trivial, trivial⟩ rfl (by decide) rfl rfl (Nat.zero_le _))
    (fun i => s.length + 1 - i) (fun i => i ≤ s.length + 1) (Nat.zero_le _) ?_
  intro i hi
  have hsz := linR_size s i
  have hnx : linR s (i + 1) = if i = s.length ∨ s.getD i 0 = 10 then (some (((linR s i).1.getD #[]).push (mkP (linR s i).2 i)), i + 1) else linR s i := rfl
  by_cases hend : i = s.length + 1
  · subst hend
    have d1 : decide (((s.length + 1 : Nat) : Int) ≤ (s.length : Nat)) = false := decide_eq_false (by omega)
    refine cF d1 ?_
    exact ⟨rfl, rfl⟩
  · have d1 : decide (((i : Nat) : Int) ≤ (s.length : Nat)) = true := decide_eq_true (by omega)
    revert hsz hnx
    generalize linR s i = st
    obtain ⟨O, f⟩ := st
    intro hsz hnx
    simp only at hsz hnx
    have hf' : f < 4611686018427387904 := by omega
    refine cT d1 ?_
    by_cases hlast : i = s.length
    · have d2 : decide (((i : Nat) : Int) = (s.length : Nat)) = true := decide_eq_true (by omega)
      rw [if_pos (.inl hlast)] at hnx
      refine gFs d2 ?_
      repeat (first | (refine And.intro (fun _ => ?_) (fun h => Go.Ai.tf h)) | (refine And.intro (fun _ => ?_) (fun h => Go.Ai.ft h)) | (refine And.intro (fun h => Go.Ai.ft h) (fun _ => ?_)) | (refine And.intro (fun h => Go.Ai.tf h) (fun _ => ?_)))
      cases O with
      | none =>
        refine Or.inl (And.intro (inK_i64 (by first | omega | (simp only <;> omega) | (simp only [Array.size_setIfInBounds, Go.Ai.swp_size] <;> omega))) ?_)
        repeat (first | (refine And.intro (fun _ => ?_) (fun h => Go.Ai.tf h)) | (refine And.intro (fun _ => ?_) (fun h => Go.Ai.ft h)) | (refine And.intro (fun h => Go.Ai.ft h) (fun _ => ?_)) | (refine And.intro (fun h => Go.Ai.tf h) (fun _ => ?_)))
        refine Or.inl (And.intro (inK_i64 (by first | omega | (simp only <;> omega) | (simp only [Array.size_setIfInBounds, Go.Ai.swp_size] <;> omega))) ?_)
        refine ⟨i + 1, by omega, ?_, by omega⟩
        rw [hnx]
        exact weak_ren (L := [0, 3]) ⟨⟨_, rfl, rfl⟩, ⟨_, rfl, rfl⟩, ⟨_, (iv (by first | omega | (simp only <;> omega) | (simp only [Array.size_setIfInBounds, Go.Ai.swp_size] <;> omega))), rfl⟩, ⟨_, (iv (by first | omega | (simp only <;> omega) | (simp only [Array.size_setIfInBounds, Go.Ai.swp_size] <;> omega))), rfl⟩, trivial⟩ ⟨trivial, ⟨brO _ _ _ _ _ _ (pushO #[] i hf'), Nat.zero_le _, fun h => (nomatch h)⟩, trivial⟩ rfl (by decide) rfl rfl (Nat.zero_le _)
      | some O =>
        have es : slO 1 (some (O.push (mkP f i))) = .slice (some ⟨1, 0, none⟩) (O.size + 1) 4 := by simp [slO]
        simp only [Option.getD_some] at hsz hnx
        refine nxW_of (app_val rfl rfl rfl (aAppend_cells (n := 1) (new := [I f, I i]) (cs := flatA O) (fam := 0) (fz := 0) rfl rfl rfl rfl rfl rfl rfl (by decide) rfl (by show (O.size + 1) * 17 ≤ _; omega) rfl rfl rfl (by rw [flatA_len]; exact Nat.le_of_eq (show 0 + O.size * 2 = O.size * 2 by omega)) (fzle_zero _))) ?_
        refine Or.inl (And.intro (inK_i64 (by first | omega | (simp only <;> omega) | (simp only [Array.size_setIfInBounds, Go.Ai.swp_size] <;> omega))) ?_)
        repeat (first | (refine And.intro (fun _ => ?_) (fun h => Go.Ai.tf h)) | (refine And.intro (fun _ => ?_) (fun h => Go.Ai.ft h)) | (refine And.intro (fun h => Go.Ai.ft h) (fun _ => ?_)) | (refine And.intro (fun h => Go.Ai.tf h) (fun _ => ?_)))
        refine Or.inl (And.intro (inK_i64 (by first | omega | (simp only <;> omega) | (simp only [Array.size_setIfInBounds, Go.Ai.swp_size] <;> omega))) ?_)
        refine ⟨i + 1, by omega, ?_, by omega⟩
        rw [hnx]
        exact weak_ren (L := [0, 3]) ⟨⟨_, rfl, rfl⟩, ⟨_, rfl, by rw [es]; rfl⟩, ⟨_, (iv (by first | omega | (simp only <;> omega) | (simp only [Array.size_setIfInBounds, Go.Ai.swp_size] <;> omega))), rfl⟩, ⟨_, (iv (by first | omega | (simp only <;> omega) | (simp only [Array.size_setIfInBounds, Go.Ai.swp_size] <;> omega))), rfl⟩, trivial⟩ ⟨trivial, ⟨brO _ _ _ _ _ _ (cutO O i hf'), Nat.zero_le _, fun h => (nomatch h)⟩, trivial⟩ rfl (by decide) rfl rfl (Nat.zero_le _)
    · have d2 : decide (((i : Nat) : Int) = (s.length : Nat)) = false := decide_eq_false (by omega)
      refine gF d2 ?_
      repeat (first | (refine And.intro (fun _ => ?_) (fun h => Go.Ai.tf h)) | (refine And.intro (fun _ => ?_) (fun h => Go.Ai.ft h)) | (refine And.intro (fun h => Go.Ai.ft h) (fun _ => ?_)) | (refine And.intro (fun h => Go.Ai.tf h) (fun _ => ?_)))
      refine And.intro (show (0 : Int) ≤ i ∧ (i : Int) < (s.length : Nat) by omega) ?_
      repeat (first | (refine And.intro (fun _ => ?_) (fun h => Go.Ai.tf h)) | (refine And.intro (fun _ => ?_) (fun h => Go.Ai.ft h)) | (refine And.intro (fun h => Go.Ai.ft h) (fun _ => ?_)) | (refine And.intro (fun h => Go.Ai.tf h) (fun _ => ?_)))
      refine And.intro (fun h3 => ?_) (fun h3 => ?_)
      · have h3 : (((s.getD i 0).toNat : Nat) : Int) = 10 := of_decide_eq_true h3
        have h3 : s.getD i 0 = 10 := UInt8.toNat_inj.1 (by have : (10 : UInt8).toNat = 10 := rfl; omega)
        rw [if_pos (.inr h3)] at hnx
        cases O with
        | none =>
          refine Or.inl (And.intro (inK_i64 (by first | omega | (simp only <;> omega) | (simp only [Array.size_setIfInBounds, Go.Ai.swp_size] <;> omega))) ?_)
          repeat (first | (refine And.intro (fun _ => ?_) (fun h => Go.Ai.tf h)) | (refine And.intro (fun _ => ?_) (fun h => Go.Ai.ft h)) | (refine And.intro (fun h => Go.Ai.ft h) (fun _ => ?_)) | (refine And.intro (fun h => Go.Ai.tf h) (fun _ => ?_)))
          refine Or.inl (And.intro (inK_i64 (by first | omega | (simp only <;> omega) | (simp only [Array.size_setIfInBounds, Go.Ai.swp_size] <;> omega))) ?_)
          refine ⟨i + 1, by omega, ?_, by omega⟩
          rw [hnx]
          exact weak_ren (L := [0, 3]) ⟨⟨_, rfl, rfl⟩, ⟨_, rfl, rfl⟩, ⟨_, (iv (by first | omega | (simp only <;> omega) | (simp only [Array.size_setIfInBounds, Go.Ai.swp_size] <;> omega))), rfl⟩, ⟨_, (iv (by first | omega | (simp only <;> omega) | (simp only [Array.size_setIfInBounds, Go.Ai.swp_size] <;> omega))), rfl⟩, trivial⟩ ⟨trivial, ⟨brO _ _ _ _ _ _ (pushO #[] i hf'), Nat.zero_le _, fun h => (nomatch h)⟩, trivial⟩ rfl (by decide) rfl rfl (Nat.zero_le _)
        | some O =>
          have es : slO 1 (some (O.push (mkP f i))) = .slice (some ⟨1, 0, none⟩) (O.size + 1) 4 := by simp [slO]
          simp only [Option.getD_some] at hsz hnx
          refine nxW_of (app_val rfl rfl rfl (aAppend_cells (n := 1) (new := [I f, I i]) (cs := flatA O) (fam := 0) (fz := 0) rfl rfl rfl rfl rfl rfl rfl (by decide) rfl (by show (O.size + 1) * 17 ≤ _; omega) rfl rfl rfl (by rw [flatA_len]; exact Nat.le_of_eq (show 0 + O.size * 2 = O.size * 2 by omega)) (fzle_zero _))) ?_
          refine Or.inl (And.intro (inK_i64 (by first | omega | (simp only <;> omega) | (simp only [Array.size_setIfInBounds, Go.Ai.swp_size] <;> omega))) ?_)
          repeat (first | (refine And.intro (fun _ => ?_) (fun h => Go.Ai.tf h)) | (refine And.intro (fun _ => ?_) (fun h => Go.Ai.ft h)) | (refine And.intro (fun h => Go.Ai.ft h) (fun _ => ?_)) | (refine And.intro (fun h => Go.Ai.tf h) (fun _ => ?_)))
          refine Or.inl (And.intro (inK_i64 (by first | omega | (simp only <;> omega) | (simp only [Array.size_setIfInBounds, Go.Ai.swp_size] <;> omega))) ?_)
          refine ⟨i + 1, by omega, ?_, by omega⟩
          rw [hnx]
          exact weak_ren (L := [0, 3]) ⟨⟨_, rfl, rfl⟩, ⟨_, rfl, by rw [es]; rfl⟩, ⟨_, (iv (by first | omega | (simp only <;> omega) | (simp only [Array.size_setIfInBounds, Go.Ai.swp_size] <;> omega))), rfl⟩, ⟨_, (iv (by first | omega | (simp only <;> omega) | (simp only [Array.size_setIfInBounds, Go.Ai.swp_size] <;> omega))), rfl⟩, trivial⟩ ⟨trivial, ⟨brO _ _ _ _ _ _ (cutO O i hf'), Nat.zero_le _, fun h => (nomatch h)⟩, trivial⟩ rfl (by decide) rfl rfl (Nat.zero_le _)
      · have h3 : ¬ (((s.getD i 0).toNat : Nat) : Int) = 10 := of_decide_eq_false h3
        rw [if_neg (fun e => by rcases e with e | e; exact hlast e; exact h3 (by rw [e]; rfl))] at hnx
        refine Or.inl (And.intro (inK_i64 (by first | omega | (simp only <;> omega) | (simp only [Array.size_setIfInBounds, Go.Ai.swp_size] <;> omega))) ?_)
        refine ⟨i + 1, by omega, ?_, by omega⟩
        rw [hnx]
        exact weak_live ⟨rfl, rfl, rfl, (iv (by first | omega | (simp only <;> omega) | (simp only [Array.size_setIfInBounds, Go.Ai.swp_size] <;> omega))), trivial⟩ rfl rfl rfl
end Go.Proofs.Ytbaoelfpmdmhjaa
set_option maxRecDepth 100000
set_option maxHeartbeats 2000000
namespace Go.Proofs.Ytbaoelfpmdmhjaa
open Go.Ai
/-! ### the document's Of, End -/
def lastIdx (p : Nat) (d : Array PP) : Nat → Option Nat
  | 0 => none
  | k + 1 => if d[k]!.a ≤ p then some k else lastIdx p d k
theorem lastIdx_lt (p : Nat) (d : Array PP) : ∀ n k, lastIdx p d n = some k → k < n
  | 0, k, h => by cases h
  | n + 1, k, h => by
    unfold lastIdx at h
    split at h
    · cases h; exact Nat.lt_succ_self _
    · have := lastIdx_lt p d n k h; omega
theorem lastIdx_congr (p : Nat) (d e : Array PP) : ∀ n, (∀ j, j < n → d[j]! = e[j]!) → lastIdx p d n = lastIdx p e n
  | 0, _ => rfl
  | n + 1, h => by
    unfold lastIdx
    rw [h n (Nat.lt_succ_self _), lastIdx_congr p d e n fun j hj => h j (by omega)]
structure Ln (s : List UInt8) (i : Nat) (d : Array PP) (f : Nat) : Prop where
  fi : f ≤ i
  nl : ∀ j, f ≤ j → j < i → s.getD j 0 ≠ 10
  x : ∀ k, k < d.size → d[k]!.b ≤ s.length ∧ (∀ j, d[k]!.a ≤ j → j < d[k]!.b → s.getD j 0 ≠ 10) ∧ (d[k]!.b = s.length ∨ s.getD d[k]!.b 0 = 10)
  cov : ∀ p, p < f → ∃ k, lastIdx p d d.size = some k ∧ p ≤ d[k]!.b
theorem push_at (d : Array PP) (x : PP) (k : Nat) (hk : k < d.size) : (d.push x)[k]! = d[k]! := by
  rw [getElem!_pos (d.push x) k (by simp; omega), getElem!_pos d k hk, Array.getElem_push, dif_pos hk]
theorem push_end (d : Array PP) (x : PP) : (d.push x)[d.size]! = x := by
  rw [getElem!_pos (d.push x) d.size (by simp)]
  simp
theorem Ln.push {s : List UInt8} {i f : Nat} {d : Array PP} (h : Ln s i d f) (hi : i ≤ s.length) (hl : s.length ≤ 500) (he : i = s.length ∨ s.getD i 0 = 10) : Ln s (i + 1) (d.push (mkP f i)) (i + 1) := by
  have hf : f < 4611686018427387904 := by have := h.fi; omega
  refine ⟨Nat.le_refl _, fun j h1 h2 => by omega, fun k hk => ?_, fun p hp => ?_⟩
  · rw [Array.size_push] at hk
    rcases (by omega : k < d.size ∨ k = d.size) with g | g
    · rw [push_at d _ k g]; exact h.x k g
    · subst g
      rw [push_end, mkP_a hf, mkP_b hf]
      exact ⟨hi, fun j h1 h2 => h.nl j h1 h2, he⟩
  · rw [Array.size_push]
    have e : lastIdx p (d.push (mkP f i)) (d.size + 1) = if (d.push (mkP f i))[d.size]!.a ≤ p then some d.size else lastIdx p (d.push (mkP f i)) d.size := rfl
    rw [e, push_end, mkP_a hf]
    by_cases hp2 : f ≤ p
    · rw [if_pos hp2]
      exact ⟨d.size, rfl, by rw [push_end, mkP_b hf]; omega⟩
    · rw [if_neg hp2, lastIdx_congr p (d.push (mkP f i)) d d.size fun j hj => push_at d _ j hj]
      obtain ⟨k, h1, h2⟩ := h.cov p (by omega)
      exact ⟨k, h1, by rw [push_at d _ k (lastIdx_lt _ _ _ _ h1)]; exact h2⟩
theorem linR_ln (s : List UInt8) (hl : s.length ≤ 500) : ∀ i, i ≤ s.length + 1 → Ln s i ((linR s i).1.getD #[]) (linR s i).2
  | 0, _ => ⟨Nat.le_refl _, fun j h1 h2 => absurd h2 (Nat.not_lt_zero _), fun k hk => absurd hk (Nat.not_lt_zero _), fun p hp => absurd hp (Nat.not_lt_zero _)⟩
  | i + 1, hi => by
    have ih := linR_ln s hl i (by omega)
    unfold linR
    split
    · rename_i h
      exact ih.push (by omega) hl h
    · rename_i h
      have h1 : s.getD i 0 ≠ 10 := fun e => h (.inr e)
      refine ⟨by have := ih.fi; omega, fun j h2 h3 => ?_, ih.x, ih.cov⟩
      rcases (by omega : j < i ∨ j = i) with g | g
      · exact ih.nl j h2 g
      · rw [g]; exact h1
theorem linR_end (s : List UInt8) : ∃ d, (linR s (s.length + 1)).1 = some d ∧ (linR s (s.length + 1)).2 = s.length + 1 := by
  unfold linR
  rw [if_pos (.inl rfl)]
  exact ⟨_, rfl, rfl⟩
theorem cut1a {d : Array PP} {j : Nat} (hj : j < d.size) : cut (flatA d) (j * 2) 1 = [I d[j]!.a] := by
  have h := cut_flatA hj
  have e : cut (flatA d) (j * 2) 1 = (cut (flatA d) (j * 2) 2).take 1 := by unfold cut; rw [List.take_take]; rfl
  rw [e, h]
  rfl
theorem cut1b {d : Array PP} {j : Nat} (hj : j < d.size) : cut (flatA d) (j * 2 + 1) 1 = [I d[j]!.b] := by
  have h := cut_flatA hj
  have e : cut (flatA d) (j * 2 + 1) 1 = (cut (flatA d) (j * 2) 2).drop 1 := by
    unfold cut
    rw [List.drop_take, List.drop_drop]
  rw [e, h]
  rfl
/-- the lines -/
theorem lines_ok (s : List UInt8) (hl : s.length ≤ 500) (hv : validS s = true) : ∃ d : Array PP, d.size ≤ 501 ∧ (∀ h, CallOk Try.prog C 43 [str s] h (.ret (.slice (some ⟨nrmN (h.ctr + 1), 0, none⟩) d.size 4) (moreC h (flatA d) 34))) ∧
    (∀ p, p ≤ s.length → ∃ k, lastIdx p d d.size = some k ∧ d[k]!.b = eol s p) := by
  have hn := linR_ln s hl (s.length + 1) (Nat.le_refl _)
  have hsz := (linR_size s (s.length + 1)).1
  have hat := lines_at s hl hv
  obtain ⟨d, h1, h2⟩ := linR_end s
  rw [h1] at hn hat hsz
  rw [h2] at hn
  simp only [Option.getD_some] at hn hsz
  refine ⟨d, by omega, alloc_of rfl (k := 3) (b := 1) (fam := 0) hat rfl rfl (flatA_flat d), fun p hp => ?_⟩
  obtain ⟨k, g1, g2⟩ := hn.cov p (by omega)
  refine ⟨k, g1, ?_⟩
  have hk := lastIdx_lt _ _ _ _ g1
  obtain ⟨x1, x2, x3⟩ := hn.x k hk
  have hap : d[k]!.a ≤ p := by
    clear hat hn h1 h2 g2 x1 x2 x3
    revert g1
    generalize d.size = n
    induction n with
    | zero => intro g; cases g
    | succ n ih =>
      intro g
      unfold lastIdx at g
      split at g
      · cases g; assumption
      · exact ih g
  refine (eol_of s g2 ?_ ?_).symm
  · intro hm
    obtain ⟨j, hj, e⟩ := List.getElem_of_mem hm
    rw [List.getElem_take, List.getElem_drop] at e
    simp only [List.length_take, List.length_drop] at hj
    refine x2 (p + j) (by omega) (by omega) ?_
    rw [List.getD_eq_getElem?_getD, List.getElem?_eq_getElem (by omega), e]
    rfl
  · rcases x3 with x3 | x3
    · exact .inl x3
    · rcases Nat.eq_or_lt_of_le x1 with e | hlt
      · exact .inl e
      · exact .inr ⟨hlt, x3⟩
theorem of3_ok (s : List UInt8) (hl : s.length ≤ 500) (d : Array PP) (hd : d.size ≤ 501) (hlin : ∀ h, CallOk Try.prog C 43 [str s] h (.ret (.slice (some ⟨nrmN (h.ctr + 1), 0, none⟩) d.size 4) (moreC h (flatA d) 34))) (p : Nat) (hp : p ≤ s.length) (k : Nat) (hk : lastIdx p d d.size = some k) :
    ∀ h, CallOk Try.prog C 31 [str s, .int .i64 p] h (.ret (I k) h) := by
  refine pure_wp CF rfl 4 3 (n := 32) (res := [.tmp 4]) (c := codeOf Try.f31) rfl rfl rfl ?_
  refine CallW.of (hlin _) ?_
  have d1 : decide (((p : Nat) : Int) < 0) = false := decide_eq_false (by omega)
  have d2 : decide (((s.length : Nat) : Int) < (p : Nat)) = false := decide_eq_false (by omega)
  refine gF d1 ?_
  repeat (first | (refine And.intro (fun _ => ?_) (fun h => Go.Ai.tf h)) | (refine And.intro (fun _ => ?_) (fun h => Go.Ai.ft h)) | (refine And.intro (fun h => Go.Ai.ft h) (fun _ => ?_)) | (refine And.intro (fun h => Go.Ai.tf h) (fun _ => ?_)))
  refine cF d2 ?_
  refine Or.inl (And.intro (inK_i64 (by first | omega | (simp only <;> omega) | (simp only [Array.size_setIfInBounds, Go.Ai.swp_size] <;> omega))) ?_)
  refine loopV CF.tt rfl (fun x : Nat => ⟨tmOf 6 [(1, .int .i64 p), (5, .slice (some ⟨1, 0, none⟩) d.size 4), (6, less1 x)], [], none, hOne (flatA d) 34 0⟩) d.size
    (weak_ren (L := [0, 1]) ⟨⟨_, rfl, rfl⟩, ⟨_, rfl, rfl⟩, ⟨_, less1_eq rfl, by cases d.size <;> rfl⟩, trivial⟩ ⟨trivial, ⟨brO _ _ d _ _ _ rfl, Nat.zero_le _, fun h => (nomatch h)⟩, trivial⟩ rfl (by decide) rfl rfl (Nat.zero_le _))
    (fun x => x) (fun x => x ≤ d.size ∧ lastIdx p d x = some k) ⟨Nat.le_refl _, hk⟩ ?_
  rintro x ⟨hx, hr⟩
  cases x with
  | zero => cases hr
  | succ j =>
    have hj : j < d.size := by omega
    have hr : (if d[j]!.a ≤ p then some j else lastIdx p d j) = some k := hr
    refine And.intro (fun h1 => ?_) (fun h1 => ?_)
    · have h1 := of_decide_eq_true h1
      apply nxW_of
      · exact idx_pair (j) rfl rfl rfl rfl rfl rfl (by first | omega | (simp only <;> omega) | (simp only [Array.size_setIfInBounds, Go.Ai.swp_size] <;> omega)) (by first | omega | (simp only <;> omega) | (simp only [Array.size_setIfInBounds, Go.Ai.swp_size] <;> omega))
      refine nxW_of (load_val (v := I d[j]!.a) rfl rfl rfl (by rw [flatA_len]; show j * 2 + 1 ≤ d.size * 2; omega) (by exact congrArg (ofCells _) (cut1a hj))) ?_
      refine And.intro (fun h2 => ?_) (fun h2 => ?_)
      · have h2 := of_decide_eq_true h2
        rw [if_pos (by omega)] at hr
        cases hr
        rfl
      · have h2 := of_decide_eq_false h2
        rw [if_neg (by omega)] at hr
        refine Or.inl (And.intro (inK_i64 (by first | omega | (simp only <;> omega) | (simp only [Array.size_setIfInBounds, Go.Ai.swp_size] <;> omega))) ?_)
        exact ⟨j, ⟨by omega, hr⟩, weak_live ⟨rfl, rfl, less1_eq rfl, trivial⟩ rfl rfl rfl, Nat.lt_succ_self _⟩
    · have h1 := of_decide_eq_false h1
      exfalso
      omega
theorem end3_ok (s : List UInt8) (d : Array PP) (hd : d.size ≤ 501) (hlin : ∀ h, CallOk Try.prog C 43 [str s] h (.ret (.slice (some ⟨nrmN (h.ctr + 1), 0, none⟩) d.size 4) (moreC h (flatA d) 34))) (k : Nat) (hk : k < d.size) :
    ∀ h, CallOk Try.prog C 30 [str s, I k] h (.ret (I d[k]!.b) h) := by
  refine pure_wp CF rfl 4 3 (n := 21) (res := [.tmp 4]) (c := codeOf Try.f30) rfl rfl rfl ?_
  refine CallW.of (hlin _) ?_
  have d1 : decide (((k : Nat) : Int) < 0) = false := decide_eq_false (by omega)
  have d2 : decide (((d.size : Nat) : Int) ≤ (k : Nat)) = false := decide_eq_false (by omega)
  refine gF d1 ?_
  repeat (first | (refine And.intro (fun _ => ?_) (fun h => Go.Ai.tf h)) | (refine And.intro (fun _ => ?_) (fun h => Go.Ai.ft h)) | (refine And.intro (fun h => Go.Ai.ft h) (fun _ => ?_)) | (refine And.intro (fun h => Go.Ai.tf h) (fun _ => ?_)))
  refine cF d2 ?_
  apply nxW_of
  · exact idx_pair (k) rfl rfl rfl rfl rfl rfl (by first | omega | (simp only <;> omega) | (simp only [Array.size_setIfInBounds, Go.Ai.swp_size] <;> omega)) (by first | omega | (simp only <;> omega) | (simp only [Array.size_setIfInBounds, Go.Ai.swp_size] <;> omega))
  refine nxW_of (load_val (v := I d[k]!.b) rfl rfl rfl (by rw [flatA_len]; show k * 2 + 1 + 1 ≤ d.size * 2; omega) (by exact congrArg (ofCells _) (cut1b hk))) ?_
  rfl
end Go.Proofs.Ytbaoelfpmdmhjaa
set_option maxRecDepth 100000
set_option maxHeartbeats 2000000
namespace Go.Proofs.Ytbaoelfpmdmhjaa
open Go.Ai
/-! ### the document's Around -/
theorem around_succ (p : Int) (d : Array PP) (i : Nat) (hi : i < d.size) : aroundS p (d.toList.take (i + 1)) = if inP p d[i]! then some d[i]! else aroundS p (d.toList.take i) := by
  unfold aroundS
  rw [List.take_succ_eq_append_getElem (by simpa using hi), getElem!_pos d i hi, List.reverse_append, List.reverse_singleton, List.singleton_append, List.find?_cons]
  simp only [Array.getElem_toList]
  cases inP p d[i] <;> rfl
theorem refAround_ok (l kd : List UInt8) (D : Option (Array PP)) (hR : AllU 10 l kd D) (hsz : ∀ d, D = some d → d.size ≤ 500) (p : Int) (hl : l.length ≤ 500) :
    ∀ h, CallOk Try.prog C 14 [str l, .int .i64 p, str kd] h (.ret (aroundV (if placeS l p then aroundS p (lstO D) else none)) h) := by
  refine pure_wp CF rfl 4 3 (n := 57) (res := [.tmp 6, .tmp 7, .tmp 8]) (c := (codeOf Try.f14)) rfl rfl (aroundV_flat _) ?_
  refine CallW.of (hR _) ?_
  cases D with
  | none =>
    refine TB.ofLB (LB.nextW CF.tt rfl ?_)
    repeat (first | (refine And.intro (fun _ => ?_) (fun h => Go.Ai.tf h)) | (refine And.intro (fun _ => ?_) (fun h => Go.Ai.ft h)) | (refine And.intro (fun h => Go.Ai.ft h) (fun _ => ?_)) | (refine And.intro (fun h => Go.Ai.tf h) (fun _ => ?_)))
    show _ = aroundV _
    cases placeS l p <;> rfl
  | some d =>
    have hsz := hsz d rfl
    cases hp : placeS l p with
    | false =>
      refine TB.ofLB (LB.nextW CF.tt rfl ?_)
      refine And.intro (fun h1 => ?_) (fun h1 => ?_)
      · repeat (first | (refine And.intro (fun _ => ?_) (fun h => Go.Ai.tf h)) | (refine And.intro (fun _ => ?_) (fun h => Go.Ai.ft h)) | (refine And.intro (fun h => Go.Ai.ft h) (fun _ => ?_)) | (refine And.intro (fun h => Go.Ai.tf h) (fun _ => ?_)))
        refine CallW.of (place3_ok l p hl _) ?_
        rw [hp]
        repeat (first | (refine And.intro (fun _ => ?_) (fun h => Go.Ai.tf h)) | (refine And.intro (fun _ => ?_) (fun h => Go.Ai.ft h)) | (refine And.intro (fun h => Go.Ai.ft h) (fun _ => ?_)) | (refine And.intro (fun h => Go.Ai.tf h) (fun _ => ?_)))
        rfl
      · repeat (first | (refine And.intro (fun _ => ?_) (fun h => Go.Ai.tf h)) | (refine And.intro (fun _ => ?_) (fun h => Go.Ai.ft h)) | (refine And.intro (fun h => Go.Ai.ft h) (fun _ => ?_)) | (refine And.intro (fun h => Go.Ai.tf h) (fun _ => ?_)))
        rfl
    | true =>
      rw [if_pos rfl]
      refine loopV CF.tt rfl (fun i : Nat => ⟨tmOf 7 [(0, str l), (1, .int .i64 p), (9, I (rA (aroundS p (d.toList.take i)))), (10, I (rB (aroundS p (d.toList.take i)))), (11, .bool (rOk (aroundS p (d.toList.take i)))), (12, .slice (some ⟨1, 0, none⟩) d.size 4), (13, I i)], [], none, hOne (flatA d) 34 0⟩) 0
        (weak_ren (L := [0, 1]) ⟨⟨_, rfl, rfl⟩, ⟨_, rfl, rfl⟩, ⟨_, rfl, rfl⟩, ⟨_, rfl, rfl⟩, ⟨_, rfl, rfl⟩, ⟨_, rfl, rfl⟩, ⟨_, rfl, rfl⟩, trivial⟩ ⟨trivial, ⟨brO _ _ d _ _ _ rfl, Nat.zero_le _, fun h => (nomatch h)⟩, trivial⟩ rfl (by decide) rfl rfl (Nat.zero_le _))
        (fun i => d.size - i) (fun i => i ≤ d.size) (Nat.zero_le _) ?_
      intro i hi
      refine And.intro (fun h1 => ?_) (fun h1 => ?_)
      · have h1 := of_decide_eq_true h1
        have hid : i < d.size := by
          have : (i : Int) < (d.size : Nat) := h1
          omega
        have hs := around_succ p d i hid
        repeat (first | (refine And.intro (fun _ => ?_) (fun h => Go.Ai.tf h)) | (refine And.intro (fun _ => ?_) (fun h => Go.Ai.ft h)) | (refine And.intro (fun h => Go.Ai.ft h) (fun _ => ?_)) | (refine And.intro (fun h => Go.Ai.tf h) (fun _ => ?_)))
        refine CallW.of (place3_ok l p hl _) ?_
        rw [hp]
        repeat (first | (refine And.intro (fun _ => ?_) (fun h => Go.Ai.tf h)) | (refine And.intro (fun _ => ?_) (fun h => Go.Ai.ft h)) | (refine And.intro (fun h => Go.Ai.ft h) (fun _ => ?_)) | (refine And.intro (fun h => Go.Ai.tf h) (fun _ => ?_)))
        apply nxW_of
        · exact idx_pair (i) rfl rfl rfl rfl rfl rfl (by first | omega | (simp only <;> omega) | (simp only [Array.size_setIfInBounds, Go.Ai.swp_size] <;> omega)) (by first | omega | (simp only <;> omega) | (simp only [Array.size_setIfInBounds, Go.Ai.swp_size] <;> omega))
        refine nxW_of (load_val (v := I d[i]!.a) rfl rfl rfl (by rw [flatA_len]; show i * 2 + 1 ≤ d.size * 2; omega) (by exact congrArg (ofCells _) (cut1a hid))) ?_
        refine And.intro (fun h2 => ?_) (fun h2 => ?_)
        · have h2 := of_decide_eq_true h2
          repeat (first | (refine And.intro (fun _ => ?_) (fun h => Go.Ai.tf h)) | (refine And.intro (fun _ => ?_) (fun h => Go.Ai.ft h)) | (refine And.intro (fun h => Go.Ai.ft h) (fun _ => ?_)) | (refine And.intro (fun h => Go.Ai.tf h) (fun _ => ?_)))
          apply nxW_of
          · exact idx_pair (i) rfl rfl rfl rfl rfl rfl (by first | omega | (simp only <;> omega) | (simp only [Array.size_setIfInBounds, Go.Ai.swp_size] <;> omega)) (by first | omega | (simp only <;> omega) | (simp only [Array.size_setIfInBounds, Go.Ai.swp_size] <;> omega))
          repeat (first | (refine And.intro (fun _ => ?_) (fun h => Go.Ai.tf h)) | (refine And.intro (fun _ => ?_) (fun h => Go.Ai.ft h)) | (refine And.intro (fun h => Go.Ai.ft h) (fun _ => ?_)) | (refine And.intro (fun h => Go.Ai.tf h) (fun _ => ?_)))
          refine nxW_of (load_val (v := I d[i]!.b) rfl rfl rfl (by rw [flatA_len]; show i * 2 + 1 + 1 ≤ d.size * 2; omega) (by exact congrArg (ofCells _) (cut1b hid))) ?_
          repeat (first | (refine And.intro (fun _ => ?_) (fun h => Go.Ai.tf h)) | (refine And.intro (fun _ => ?_) (fun h => Go.Ai.ft h)) | (refine And.intro (fun h => Go.Ai.ft h) (fun _ => ?_)) | (refine And.intro (fun h => Go.Ai.tf h) (fun _ => ?_)))
          refine And.intro (fun h3 => ?_) (fun h3 => ?_)
          · have h3 := of_decide_eq_true h3
            have hin : inP p d[i]! = true := by unfold inP; rw [decide_eq_true h2, decide_eq_true h3]; rfl
            rw [hin, if_pos rfl] at hs
            apply nxW_of
            · exact idx_pair (i) rfl rfl rfl rfl rfl rfl (by first | omega | (simp only <;> omega) | (simp only [Array.size_setIfInBounds, Go.Ai.swp_size] <;> omega)) (by first | omega | (simp only <;> omega) | (simp only [Array.size_setIfInBounds, Go.Ai.swp_size] <;> omega))
            refine nxW_of (load_val (v := I d[i]!.a) rfl rfl rfl (by rw [flatA_len]; show i * 2 + 1 ≤ d.size * 2; omega) (by exact congrArg (ofCells _) (cut1a hid))) ?_
            apply nxW_of
            · exact idx_pair (i) rfl rfl rfl rfl rfl rfl (by first | omega | (simp only <;> omega) | (simp only [Array.size_setIfInBounds, Go.Ai.swp_size] <;> omega)) (by first | omega | (simp only <;> omega) | (simp only [Array.size_setIfInBounds, Go.Ai.swp_size] <;> omega))
            refine nxW_of (load_val (v := I d[i]!.b) rfl rfl rfl (by rw [flatA_len]; show i * 2 + 1 + 1 ≤ d.size * 2; omega) (by exact congrArg (ofCells _) (cut1b hid))) ?_
            refine Or.inl (And.intro (inK_i64 (by first | omega | (simp only <;> omega) | (simp only [Array.size_setIfInBounds, Go.Ai.swp_size] <;> omega))) ?_)
            refine ⟨i + 1, by omega, ?_, by omega⟩
            rw [hs]
            exact weak_live ⟨rfl, rfl, rfl, rfl, rfl, rfl, (iv (by first | omega | (simp only <;> omega) | (simp only [Array.size_setIfInBounds, Go.Ai.swp_size] <;> omega))), trivial⟩ rfl rfl rfl
          · have h3 := of_decide_eq_false h3
            have hin : inP p d[i]! = false := by unfold inP; rw [decide_eq_false h3, Bool.and_false]
            rw [hin, if_neg (by simp)] at hs
            refine Or.inl (And.intro (inK_i64 (by first | omega | (simp only <;> omega) | (simp only [Array.size_setIfInBounds, Go.Ai.swp_size] <;> omega))) ?_)
            refine ⟨i + 1, by omega, ?_, by omega⟩
            rw [hs]
            exact weak_live ⟨rfl, rfl, rfl, rfl, rfl, rfl, (iv (by first | omega | (simp only <;> omega) | (simp only [Array.size_setIfInBounds, Go.Ai.swp_size] <;> omega))), trivial⟩ rfl rfl rfl
        · have h2 := of_decide_eq_false h2
          have hin : inP p d[i]! = false := by unfold inP; rw [decide_eq_false h2, Bool.false_and]
          rw [hin, if_neg (by simp)] at hs
          repeat (first | (refine And.intro (fun _ => ?_) (fun h => Go.Ai.tf h)) | (refine And.intro (fun _ => ?_) (fun h => Go.Ai.ft h)) | (refine And.intro (fun h => Go.Ai.ft h) (fun _ => ?_)) | (refine And.intro (fun h => Go.Ai.tf h) (fun _ => ?_)))
          refine Or.inl (And.intro (inK_i64 (by first | omega | (simp only <;> omega) | (simp only [Array.size_setIfInBounds, Go.Ai.swp_size] <;> omega))) ?_)
          refine ⟨i + 1, by omega, ?_, by omega⟩
          rw [hs]
          exact weak_live ⟨rfl, rfl, rfl, rfl, rfl, rfl, (iv (by first | omega | (simp only <;> omega) | (simp only [Array.size_setIfInBounds, Go.Ai.swp_size] <;> omega))), trivial⟩ rfl rfl rfl
      · have h1 := of_decide_eq_false h1
        have hid : i = d.size := by
          have : ¬ (i : Int) < (d.size : Nat) := h1
          omega
        subst hid
        repeat (first | (refine And.intro (fun _ => ?_) (fun h => Go.Ai.tf h)) | (refine And.intro (fun _ => ?_) (fun h => Go.Ai.ft h)) | (refine And.intro (fun h => Go.Ai.ft h) (fun _ => ?_)) | (refine And.intro (fun h => Go.Ai.tf h) (fun _ => ?_)))
        have ht : d.toList.take d.size = lstO (some d) := by rw [List.take_of_length_le (by simp)]; rfl
        show _ = aroundV _
        rw [← ht, aroundV_eq]
        rfl
end Go.Proofs.Ytbaoelfpmdmhjaa
set_option maxRecDepth 100000
set_option maxHeartbeats 2000000
namespace Go.Proofs.Ytbaoelfpmdmhjaa
open Go.Ai
/-! ### the document's Match -/
theorem refAll_F (l : List UInt8) (hl : l.length ≤ 500) (i : Nat) (hi : i < 4) : AllU 10 l [opB i] (AllF l i) := by
  obtain ⟨hAD, hbad, hAC⟩ := AllF_spec hi hl
  obtain ⟨R, hR, hv1, hv0⟩ := refAll_any l i hi hl
  have : R = AllF l i := by
    cases hv : validS l with
    | false => rw [hv0 hv, hbad hv]
    | true =>
      have he := all_eq l hl hv i hi
      rw [← hv1 hv] at he
      have hA := hAD hv
      have hr1 : ∀ A, R = some A → 0 < A.size := fun A h => refRun_some _ _ _ _ A ((hv1 hv).symm.trans h)
      have hd1 : ∀ d, AllF l i = some d → 0 < d.size := by
        intro d h
        rw [h] at hA
        unfold AllD at hA
        revert hA
        have hs := runS_some (opB i) (clB i) l l.length
        revert hs
        generalize (runS (opB i) (clB i) l l.length).2 = O
        cases O with
        | none => intro _ h; cases h
        | some A =>
          rintro hs ⟨d', e, p, _⟩
          cases e
          rw [p.1]
          exact hs A rfl
      revert he hr1 hd1
      generalize AllF l i = D
      intro he hr1 hd1
      cases R with
      | none => cases D with
        | none => rfl
        | some d =>
          have := hd1 d rfl
          have h2 : d.toList = [] := he
          rw [← Array.length_toList, h2] at this
          exact absurd this (Nat.lt_irrefl _)
      | some r => cases D with
        | none =>
          have := hr1 r rfl
          have h2 : [] = r.toList := he
          rw [← Array.length_toList, ← h2] at this
          exact absurd this (Nat.lt_irrefl _)
        | some d =>
          have h2 : d.toList = r.toList := he
          rw [Array.ext' h2]
  rw [← this]
  exact hR

theorem optC {α : Type} (o : Option α) : o = none ∨ ∃ d, o = some d := by cases o <;> simp
/-- kind i is found at place q -/
theorem refMatch_ok (l : List UInt8) (p : Int) (hl : l.length ≤ 500) : ∀ h, CallOk Try.prog C 12 [str l, .int .i64 p] h (.ret (matchV (matchS l p)) h) := by
  refine pure_wp CF rfl 4 3 (n := 79) (res := [.tmp 4, .tmp 5]) (c := (codeOf Try.f12)) rfl rfl (matchV_flat _) ?_
  refine CallW.of (place3_ok l p hl _) ?_
  cases hp : placeS l p with
  | false =>
    repeat (first | (refine And.intro (fun _ => ?_) (fun h => Go.Ai.tf h)) | (refine And.intro (fun _ => ?_) (fun h => Go.Ai.ft h)) | (refine And.intro (fun h => Go.Ai.ft h) (fun _ => ?_)) | (refine And.intro (fun h => Go.Ai.tf h) (fun _ => ?_)))
    show _ = matchV (matchS l p)
    unfold matchS
    rw [if_pos hp]
    rfl
  | true =>
    have hpl := hp
    simp only [placeS, Bool.and_eq_true, decide_eq_true_eq] at hpl
    obtain ⟨hp0, hp1, _, hv⟩ := hpl
    obtain ⟨a, rfl⟩ : ∃ a : Nat, p = a := ⟨p.toNat, by omega⟩
    obtain ⟨d0, hd0, hlin, hcov⟩ := lines_ok l hl hv
    obtain ⟨k0, hk1, hk2⟩ := hcov a (by omega)
    have hof := of3_ok l hl d0 hd0 hlin a (by omega) k0 hk1
    have hend := end3_ok l d0 hd0 hlin k0 (lastIdx_lt _ _ _ _ hk1)
    rw [hk2] at hend
    obtain ⟨he1, he2⟩ := eol_le l (p := a) (by omega)
    have hm : matchS l a = match ((l.drop a).take (eol l a - a)).findIdx? isBr with
        | none => none
        | some n => findL (a + n) (lstO (AllF l (kindOf (l.getD (a + n) 0)))) := by
      unfold matchS
      rw [if_neg (by rw [hp]; simp)]
      rfl
    generalize eol l a = e at *
    repeat (first | (refine And.intro (fun _ => ?_) (fun h => Go.Ai.tf h)) | (refine And.intro (fun _ => ?_) (fun h => Go.Ai.ft h)) | (refine And.intro (fun h => Go.Ai.ft h) (fun _ => ?_)) | (refine And.intro (fun h => Go.Ai.tf h) (fun _ => ?_)))
    refine CallW.of (hof _) ?_
    refine CallW.of (hend _) ?_
    refine loopV CF.tt rfl (fun q : Nat => ⟨tmOf 8 [(0, str l), (1, I q), (6, I e)], [], none, h00 4⟩) a (weak_live ⟨rfl, rfl, rfl, trivial⟩ rfl rfl rfl)
      (fun q => e - q) (fun q => a ≤ q ∧ q ≤ e ∧ ∀ j, a ≤ j → j < q → isBr (l.getD j 0) = false) ⟨Nat.le_refl _, he1, fun j h1 h2 => by omega⟩ ?_
    rintro q ⟨hq1, hq2, hno⟩
    refine And.intro (fun h1 => ?_) (fun h1 => ?_)
    · have h1 := of_decide_eq_true h1
      have hqe : q < e := by
        have : (q : Int) < (e : Nat) := h1
        omega
      have found : isBr (l.getD q 0) = true → matchS l a = findL q (lstO (AllF l (kindOf (l.getD q 0)))) := by
        intro hb
        have hf : ((l.drop a).take (e - a)).findIdx? isBr = some (q - a) := by
          rw [List.findIdx?_eq_some_iff_getElem]
          refine ⟨by simp; omega, ?_, fun j hj => ?_⟩
          · rw [List.getElem_take, List.getElem_drop]
            rw [List.getD_eq_getElem?_getD, List.getElem?_eq_getElem (by omega)] at hb
            have e1 : a + (q - a) = q := by omega
            simp only [e1]
            exact hb
          · rw [List.getElem_take, List.getElem_drop]
            have := hno (a + j) (by omega) (by omega)
            rw [List.getD_eq_getElem?_getD, List.getElem?_eq_getElem (by omega)] at this
            simpa using this
        rw [hm, hf]
        simp only
        rw [show a + (q - a) = q by omega]
      obtain ⟨b, hb⟩ : ∃ b, l.getD q 0 = b := ⟨_, rfl⟩
      rw [hb] at found
      refine TB.ofLB (LB.nextW CF.tt rfl ?_)
      repeat (first | (refine And.intro (fun _ => ?_) (fun h => Go.Ai.tf h)) | (refine And.intro (fun _ => ?_) (fun h => Go.Ai.ft h)) | (refine And.intro (fun h => Go.Ai.ft h) (fun _ => ?_)) | (refine And.intro (fun h => Go.Ai.tf h) (fun _ => ?_)))
      have neF : ∀ k : UInt8, ¬ b = k → (!decide ((((l.getD q 0).toNat : Nat) : Int) = (k.toNat : Nat))) = true := fun k h => by
        rw [hb, decide_eq_false (fun e => h (UInt8.toNat_inj.1 (by omega)))]
        rfl
      have eqF : ∀ k : UInt8, b = k → (!decide ((((l.getD q 0).toNat : Nat) : Int) = (k.toNat : Nat))) = false := fun k h => by
        rw [hb, h, decide_eq_true rfl]
        rfl
      by_cases b0 : b = 40
      · have hms : matchS l a = findL q (lstO (AllF l 0)) := by
          have := found (by rw [b0]; rfl)
          rw [b0] at this
          exact this
        refine And.intro (show (0 : Int) ≤ q ∧ (q : Int) < (l.length : Nat) by omega) ?_
        refine And.intro ⟨of_decide_eq_true rfl, of_decide_eq_true rfl⟩ ?_
        refine gTf (eqF 40 b0) ?_
        repeat (first | (refine And.intro (fun _ => ?_) (fun h => Go.Ai.tf h)) | (refine And.intro (fun _ => ?_) (fun h => Go.Ai.ft h)) | (refine And.intro (fun h => Go.Ai.ft h) (fun _ => ?_)) | (refine And.intro (fun h => Go.Ai.tf h) (fun _ => ?_)))
        have hA : AllU 10 l [40] (AllF l 0) := refAll_F l hl 0 (by omega)
        refine (optC (AllF l 0)).elim (fun hD => ?_) (fun hX => hX.elim fun d hD => ?_)
        · rw [hD] at hA hms
          refine CallW.of (hA _) ?_
          refine TB.ofLB (LB.nextW CF.tt rfl ?_)
          repeat (first | (refine And.intro (fun _ => ?_) (fun h => Go.Ai.tf h)) | (refine And.intro (fun _ => ?_) (fun h => Go.Ai.ft h)) | (refine And.intro (fun h => Go.Ai.ft h) (fun _ => ?_)) | (refine And.intro (fun h => Go.Ai.tf h) (fun _ => ?_)))
          show _ = matchV (matchS l a)
          rw [hms]
          rfl
        · have hsz := AllF_size (by omega) hl hD
          rw [hD] at hA hms
          refine CallW.of (hA _) ?_
          refine loopV CF.tt rfl (fun j : Nat => ⟨tmOf 8 [(1, I q), (9, .slice (some ⟨1, 0, none⟩) d.size 4), (10, I j)], [], none, hOne (flatA d) 34 0⟩) 0
            (weak_ren (L := [0, 2]) ⟨⟨_, rfl, rfl⟩, ⟨_, rfl, rfl⟩, ⟨_, rfl, rfl⟩, trivial⟩ ⟨trivial, ⟨brO _ _ d _ _ _ rfl, Nat.zero_le _, fun h => (nomatch h)⟩, trivial⟩ rfl (by decide) rfl rfl (Nat.zero_le _))
            (fun j => d.size - j) (fun j => j ≤ d.size ∧ findL q (d.toList.drop j) = findL q d.toList) ⟨Nat.zero_le _, rfl⟩ ?_
          rintro j ⟨hj, hfl⟩
          have hms : matchS l a = findL q d.toList := hms
          refine And.intro (fun g1 => ?_) (fun g1 => ?_)
          · have g1 := of_decide_eq_true g1
            have hid : j < d.size := by
              have : (j : Int) < (d.size : Nat) := g1
              omega
            have hdj : d.toList.drop j = d[j]! :: d.toList.drop (j + 1) := by
              rw [List.drop_eq_getElem_cons (by simpa using hid), getElem!_pos d j hid]
              simp
            rw [hdj, findL_cons] at hfl
            apply nxW_of
            · exact idx_pair (j) rfl rfl rfl rfl rfl rfl (by first | omega | (simp only <;> omega) | (simp only [Array.size_setIfInBounds, Go.Ai.swp_size] <;> omega)) (by first | omega | (simp only <;> omega) | (simp only [Array.size_setIfInBounds, Go.Ai.swp_size] <;> omega))
            refine nxW_of (load_val (v := I d[j]!.a) rfl rfl rfl (by rw [flatA_len]; show j * 2 + 1 ≤ d.size * 2; omega) (by exact congrArg (ofCells _) (cut1a hid))) ?_
            refine And.intro (fun g2 => ?_) (fun g2 => ?_)
            · have g2 := of_decide_eq_true g2
              rw [if_pos (by omega)] at hfl
              apply nxW_of
              · exact idx_pair (j) rfl rfl rfl rfl rfl rfl (by first | omega | (simp only <;> omega) | (simp only [Array.size_setIfInBounds, Go.Ai.swp_size] <;> omega)) (by first | omega | (simp only <;> omega) | (simp only [Array.size_setIfInBounds, Go.Ai.swp_size] <;> omega))
              refine nxW_of (load_val (v := I d[j]!.b) rfl rfl rfl (by rw [flatA_len]; show j * 2 + 1 + 1 ≤ d.size * 2; omega) (by exact congrArg (ofCells _) (cut1b hid))) ?_
              show _ = matchV (matchS l a)
              rw [hms, ← hfl]
              rfl
            · have g2 := of_decide_eq_false g2
              rw [if_neg (by omega)] at hfl
              apply nxW_of
              · exact idx_pair (j) rfl rfl rfl rfl rfl rfl (by first | omega | (simp only <;> omega) | (simp only [Array.size_setIfInBounds, Go.Ai.swp_size] <;> omega)) (by first | omega | (simp only <;> omega) | (simp only [Array.size_setIfInBounds, Go.Ai.swp_size] <;> omega))
              refine nxW_of (load_val (v := I d[j]!.b) rfl rfl rfl (by rw [flatA_len]; show j * 2 + 1 + 1 ≤ d.size * 2; omega) (by exact congrArg (ofCells _) (cut1b hid))) ?_
              refine And.intro (fun g3 => ?_) (fun g3 => ?_)
              · have g3 := of_decide_eq_true g3
                rw [if_pos (by omega)] at hfl
                apply nxW_of
                · exact idx_pair (j) rfl rfl rfl rfl rfl rfl (by first | omega | (simp only <;> omega) | (simp only [Array.size_setIfInBounds, Go.Ai.swp_size] <;> omega)) (by first | omega | (simp only <;> omega) | (simp only [Array.size_setIfInBounds, Go.Ai.swp_size] <;> omega))
                refine nxW_of (load_val (v := I d[j]!.a) rfl rfl rfl (by rw [flatA_len]; show j * 2 + 1 ≤ d.size * 2; omega) (by exact congrArg (ofCells _) (cut1a hid))) ?_
                show _ = matchV (matchS l a)
                rw [hms, ← hfl]
                rfl
              · have g3 := of_decide_eq_false g3
                rw [if_neg (by omega)] at hfl
                refine Or.inl (And.intro (inK_i64 (by first | omega | (simp only <;> omega) | (simp only [Array.size_setIfInBounds, Go.Ai.swp_size] <;> omega))) ?_)
                exact ⟨j + 1, ⟨by omega, hfl⟩, weak_live ⟨rfl, rfl, (iv (by first | omega | (simp only <;> omega) | (simp only [Array.size_setIfInBounds, Go.Ai.swp_size] <;> omega))), trivial⟩ rfl rfl rfl, by omega⟩
          · have g1 := of_decide_eq_false g1
            have hid : j = d.size := by
              have : ¬ (j : Int) < (d.size : Nat) := g1
              omega
            subst hid
            rw [List.drop_of_length_le (by simp)] at hfl
            show _ = matchV (matchS l a)
            rw [hms, ← hfl]
            rfl
      by_cases b1 : b = 41
      · have hms : matchS l a = findL q (lstO (AllF l 0)) := by
          have := found (by rw [b1]; rfl)
          rw [b1] at this
          exact this
        refine And.intro (show (0 : Int) ≤ q ∧ (q : Int) < (l.length : Nat) by omega) ?_
        refine And.intro ⟨of_decide_eq_true rfl, of_decide_eq_true rfl⟩ ?_
        refine gT (neF 40 b0) ?_
        repeat (first | (refine And.intro (fun _ => ?_) (fun h => Go.Ai.tf h)) | (refine And.intro (fun _ => ?_) (fun h => Go.Ai.ft h)) | (refine And.intro (fun h => Go.Ai.ft h) (fun _ => ?_)) | (refine And.intro (fun h => Go.Ai.tf h) (fun _ => ?_)))
        refine And.intro (show (0 : Int) ≤ q ∧ (q : Int) < (l.length : Nat) by omega) ?_
        repeat (first | (refine And.intro (fun _ => ?_) (fun h => Go.Ai.tf h)) | (refine And.intro (fun _ => ?_) (fun h => Go.Ai.ft h)) | (refine And.intro (fun h => Go.Ai.ft h) (fun _ => ?_)) | (refine And.intro (fun h => Go.Ai.tf h) (fun _ => ?_)))
        refine CallW.of (closer_ok [40] _) ?_
        repeat (first | (refine And.intro (fun _ => ?_) (fun h => Go.Ai.tf h)) | (refine And.intro (fun _ => ?_) (fun h => Go.Ai.ft h)) | (refine And.intro (fun h => Go.Ai.ft h) (fun _ => ?_)) | (refine And.intro (fun h => Go.Ai.tf h) (fun _ => ?_)))
        refine cF (eqF (closeS [40]) b1) ?_
        have hA : AllU 10 l [40] (AllF l 0) := refAll_F l hl 0 (by omega)
        refine (optC (AllF l 0)).elim (fun hD => ?_) (fun hX => hX.elim fun d hD => ?_)
        · rw [hD] at hA hms
          refine CallW.of (hA _) ?_
          refine TB.ofLB (LB.nextW CF.tt rfl ?_)
          repeat (first | (refine And.intro (fun _ => ?_) (fun h => Go.Ai.tf h)) | (refine And.intro (fun _ => ?_) (fun h => Go.Ai.ft h)) | (refine And.intro (fun h => Go.Ai.ft h) (fun _ => ?_)) | (refine And.intro (fun h => Go.Ai.tf h) (fun _ => ?_)))
          show _ = matchV (matchS l a)
          rw [hms]
          rfl
        · have hsz := AllF_size (by omega) hl hD
          rw [hD] at hA hms
          refine CallW.of (hA _) ?_
          refine loopV CF.tt rfl (fun j : Nat => ⟨tmOf 8 [(1, I q), (9, .slice (some ⟨1, 0, none⟩) d.size 4), (10, I j)], [], none, hOne (flatA d) 34 0⟩) 0
            (weak_ren (L := [0, 2]) ⟨⟨_, rfl, rfl⟩, ⟨_, rfl, rfl⟩, ⟨_, rfl, rfl⟩, trivial⟩ ⟨trivial, ⟨brO _ _ d _ _ _ rfl, Nat.zero_le _, fun h => (nomatch h)⟩, trivial⟩ rfl (by decide) rfl rfl (Nat.zero_le _))
            (fun j => d.size - j) (fun j => j ≤ d.size ∧ findL q (d.toList.drop j) = findL q d.toList) ⟨Nat.zero_le _, rfl⟩ ?_
          rintro j ⟨hj, hfl⟩
          have hms : matchS l a = findL q d.toList := hms
          refine And.intro (fun g1 => ?_) (fun g1 => ?_)
          · have g1 := of_decide_eq_true g1
            have hid : j < d.size := by
              have : (j : Int) < (d.size : Nat) := g1
              omega
            have hdj : d.toList.drop j = d[j]! :: d.toList.drop (j + 1) := by
              rw [List.drop_eq_getElem_cons (by simpa using hid), getElem!_pos d j hid]
              simp
            rw [hdj, findL_cons] at hfl
            apply nxW_of
            · exact idx_pair (j) rfl rfl rfl rfl rfl rfl (by first | omega | (simp only <;> omega) | (simp only [Array.size_setIfInBounds, Go.Ai.swp_size] <;> omega)) (by first | omega | (simp only <;> omega) | (simp only [Array.size_setIfInBounds, Go.Ai.swp_size] <;> omega))
            refine nxW_of (load_val (v := I d[j]!.a) rfl rfl rfl (by rw [flatA_len]; show j * 2 + 1 ≤ d.size * 2; omega) (by exact congrArg (ofCells _) (cut1a hid))) ?_
            refine And.intro (fun g2 => ?_) (fun g2 => ?_)
            · have g2 := of_decide_eq_true g2
              rw [if_pos (by omega)] at hfl
              apply nxW_of
              · exact idx_pair (j) rfl rfl rfl rfl rfl rfl (by first | omega | (simp only <;> omega) | (simp only [Array.size_setIfInBounds, Go.Ai.swp_size] <;> omega)) (by first | omega | (simp only <;> omega) | (simp only [Array.size_setIfInBounds, Go.Ai.swp_size] <;> omega))
              refine nxW_of (load_val (v := I d[j]!.b) rfl rfl rfl (by rw [flatA_len]; show j * 2 + 1 + 1 ≤ d.size * 2; omega) (by exact congrArg (ofCells _) (cut1b hid))) ?_
              show _ = matchV (matchS l a)
              rw [hms, ← hfl]
              rfl
            · have g2 := of_decide_eq_false g2
              rw [if_neg (by omega)] at hfl
              apply nxW_of
              · exact idx_pair (j) rfl rfl rfl rfl rfl rfl (by first | omega | (simp only <;> omega) | (simp only [Array.size_setIfInBounds, Go.Ai.swp_size] <;> omega)) (by first | omega | (simp only <;> omega) | (simp only [Array.size_setIfInBounds, Go.Ai.swp_size] <;> omega))
              refine nxW_of (load_val (v := I d[j]!.b) rfl rfl rfl (by rw [flatA_len]; show j * 2 + 1 + 1 ≤ d.size * 2; omega) (by exact congrArg (ofCells _) (cut1b hid))) ?_
              refine And.intro (fun g3 => ?_) (fun g3 => ?_)
              · have g3 := of_decide_eq_true g3
                rw [if_pos (by omega)] at hfl
                apply nxW_of
                · exact idx_pair (j) rfl rfl rfl rfl rfl rfl (by first | omega | (simp only <;> omega) | (simp only [Array.size_setIfInBounds, Go.Ai.swp_size] <;> omega)) (by first | omega | (simp only <;> omega) | (simp only [Array.size_setIfInBounds, Go.Ai.swp_size] <;> omega))
                refine nxW_of (load_val (v := I d[j]!.a) rfl rfl rfl (by rw [flatA_len]; show j * 2 + 1 ≤ d.size * 2; omega) (by exact congrArg (ofCells _) (cut1a hid))) ?_
                show _ = matchV (matchS l a)
                rw [hms, ← hfl]
                rfl
              · have g3 := of_decide_eq_false g3
                rw [if_neg (by omega)] at hfl
                refine Or.inl (And.intro (inK_i64 (by first | omega | (simp only <;> omega) | (simp only [Array.size_setIfInBounds, Go.Ai.swp_size] <;> omega))) ?_)
                exact ⟨j + 1, ⟨by omega, hfl⟩, weak_live ⟨rfl, rfl, (iv (by first | omega | (simp only <;> omega) | (simp only [Array.size_setIfInBounds, Go.Ai.swp_size] <;> omega))), trivial⟩ rfl rfl rfl, by omega⟩
          · have g1 := of_decide_eq_false g1
            have hid : j = d.size := by
              have : ¬ (j : Int) < (d.size : Nat) := g1
              omega
            subst hid
            rw [List.drop_of_length_le (by simp)] at hfl
            show _ = matchV (matchS l a)
            rw [hms, ← hfl]
            rfl
      refine And.intro (show (0 : Int) ≤ q ∧ (q : Int) < (l.length : Nat) by omega) ?_
      refine And.intro ⟨of_decide_eq_true rfl, of_decide_eq_true rfl⟩ ?_
      refine gT (neF 40 b0) ?_
      repeat (first | (refine And.intro (fun _ => ?_) (fun h => Go.Ai.tf h)) | (refine And.intro (fun _ => ?_) (fun h => Go.Ai.ft h)) | (refine And.intro (fun h => Go.Ai.ft h) (fun _ => ?_)) | (refine And.intro (fun h => Go.Ai.tf h) (fun _ => ?_)))
      refine And.intro (show (0 : Int) ≤ q ∧ (q : Int) < (l.length : Nat) by omega) ?_
      repeat (first | (refine And.intro (fun _ => ?_) (fun h => Go.Ai.tf h)) | (refine And.intro (fun _ => ?_) (fun h => Go.Ai.ft h)) | (refine And.intro (fun h => Go.Ai.ft h) (fun _ => ?_)) | (refine And.intro (fun h => Go.Ai.tf h) (fun _ => ?_)))
      refine CallW.of (closer_ok [40] _) ?_
      repeat (first | (refine And.intro (fun _ => ?_) (fun h => Go.Ai.tf h)) | (refine And.intro (fun _ => ?_) (fun h => Go.Ai.ft h)) | (refine And.intro (fun h => Go.Ai.ft h) (fun _ => ?_)) | (refine And.intro (fun h => Go.Ai.tf h) (fun _ => ?_)))
      refine cT (neF (closeS [40]) b1) ?_
      refine Or.inl (And.intro (inK_i64 (by first | omega | (simp only <;> omega) | (simp only [Array.size_setIfInBounds, Go.Ai.swp_size] <;> omega))) ?_)
      refine LB.nextW CF.tt rfl ?_
      repeat (first | (refine And.intro (fun _ => ?_) (fun h => Go.Ai.tf h)) | (refine And.intro (fun _ => ?_) (fun h => Go.Ai.ft h)) | (refine And.intro (fun h => Go.Ai.ft h) (fun _ => ?_)) | (refine And.intro (fun h => Go.Ai.tf h) (fun _ => ?_)))
      by_cases b2 : b = 91
      · have hms : matchS l a = findL q (lstO (AllF l 1)) := by
          have := found (by rw [b2]; rfl)
          rw [b2] at this
          exact this
        refine And.intro (show (0 : Int) ≤ q ∧ (q : Int) < (l.length : Nat) by omega) ?_
        refine And.intro ⟨of_decide_eq_true rfl, of_decide_eq_true rfl⟩ ?_
        refine gTf (eqF 91 b2) ?_
        repeat (first | (refine And.intro (fun _ => ?_) (fun h => Go.Ai.tf h)) | (refine And.intro (fun _ => ?_) (fun h => Go.Ai.ft h)) | (refine And.intro (fun h => Go.Ai.ft h) (fun _ => ?_)) | (refine And.intro (fun h => Go.Ai.tf h) (fun _ => ?_)))
        have hA : AllU 10 l [91] (AllF l 1) := refAll_F l hl 1 (by omega)
        refine (optC (AllF l 1)).elim (fun hD => ?_) (fun hX => hX.elim fun d hD => ?_)
        · rw [hD] at hA hms
          refine CallW.of (hA _) ?_
          refine TB.ofLB (LB.nextW CF.tt rfl ?_)
          repeat (first | (refine And.intro (fun _ => ?_) (fun h => Go.Ai.tf h)) | (refine And.intro (fun _ => ?_) (fun h => Go.Ai.ft h)) | (refine And.intro (fun h => Go.Ai.ft h) (fun _ => ?_)) | (refine And.intro (fun h => Go.Ai.tf h) (fun _ => ?_)))
          show _ = matchV (matchS l a)
          rw [hms]
          rfl
        · have hsz := AllF_size (by omega) hl hD
          rw [hD] at hA hms
          refine CallW.of (hA _) ?_
          refine loopV CF.tt rfl (fun j : Nat => ⟨tmOf 8 [(1, I q), (9, .slice (some ⟨1, 0, none⟩) d.size 4), (10, I j)], [], none, hOne (flatA d) 34 0⟩) 0
            (weak_ren (L := [0, 2]) ⟨⟨_, rfl, rfl⟩, ⟨_, rfl, rfl⟩, ⟨_, rfl, rfl⟩, trivial⟩ ⟨trivial, ⟨brO _ _ d _ _ _ rfl, Nat.zero_le _, fun h => (nomatch h)⟩, trivial⟩ rfl (by decide) rfl rfl (Nat.zero_le _))
            (fun j => d.size - j) (fun j => j ≤ d.size ∧ findL q (d.toList.drop j) = findL q d.toList) ⟨Nat.zero_le _, rfl⟩ ?_
          rintro j ⟨hj, hfl⟩
          have hms : matchS l a = findL q d.toList := hms
          refine And.intro (fun g1 => ?_) (fun g1 => ?_)
          · have g1 := of_decide_eq_true g1
            have hid : j < d.size := by
              have : (j : Int) < (d.size : Nat) := g1
              omega
            have hdj : d.toList.drop j = d[j]! :: d.toList.drop (j + 1) := by
              rw [List.drop_eq_getElem_cons (by simpa using hid), getElem!_pos d j hid]
              simp
            rw [hdj, findL_cons] at hfl
            apply nxW_of
            · exact idx_pair (j) rfl rfl rfl rfl rfl rfl (by first | omega | (simp only <;> omega) | (simp only [Array.size_setIfInBounds, Go.Ai.swp_size] <;> omega)) (by first | omega | (simp only <;> omega) | (simp only [Array.size_setIfInBounds, Go.Ai.swp_size] <;> omega))
            refine nxW_of (load_val (v := I d[j]!.a) rfl rfl rfl (by rw [flatA_len]; show j * 2 + 1 ≤ d.size * 2; omega) (by exact congrArg (ofCells _) (cut1a hid))) ?_
            refine And.intro (fun g2 => ?_) (fun g2 => ?_)
            · have g2 := of_decide_eq_true g2
              rw [if_pos (by omega)] at hfl
              apply nxW_of
              · exact idx_pair (j) rfl rfl rfl rfl rfl rfl (by first | omega | (simp only <;> omega) | (simp only [Array.size_setIfInBounds, Go.Ai.swp_size] <;> omega)) (by first | omega | (simp only <;> omega) | (simp only [Array.size_setIfInBounds, Go.Ai.swp_size] <;> omega))
              refine nxW_of (load_val (v := I d[j]!.b) rfl rfl rfl (by rw [flatA_len]; show j * 2 + 1 + 1 ≤ d.size * 2; omega) (by exact congrArg (ofCells _) (cut1b hid))) ?_
              show _ = matchV (matchS l a)
              rw [hms, ← hfl]
              rfl
            · have g2 := of_decide_eq_false g2
              rw [if_neg (by omega)] at hfl
              apply nxW_of
              · exact idx_pair (j) rfl rfl rfl rfl rfl rfl (by first | omega | (simp only <;> omega) | (simp only [Array.size_setIfInBounds, Go.Ai.swp_size] <;> omega)) (by first | omega | (simp only <;> omega) | (simp only [Array.size_setIfInBounds, Go.Ai.swp_size] <;> omega))
              refine nxW_of (load_val (v := I d[j]!.b) rfl rfl rfl (by rw [flatA_len]; show j * 2 + 1 + 1 ≤ d.size * 2; omega) (by exact congrArg (ofCells _) (cut1b hid))) ?_
              refine And.intro (fun g3 => ?_) (fun g3 => ?_)
              · have g3 := of_decide_eq_true g3
                rw [if_pos (by omega)] at hfl
                apply nxW_of
                · exact idx_pair (j) rfl rfl rfl rfl rfl rfl (by first | omega | (simp only <;> omega) | (simp only [Array.size_setIfInBounds, Go.Ai.swp_size] <;> omega)) (by first | omega | (simp only <;> omega) | (simp only [Array.size_setIfInBounds, Go.Ai.swp_size] <;> omega))
                refine nxW_of (load_val (v := I d[j]!.a) rfl rfl rfl (by rw [flatA_len]; show j * 2 + 1 ≤ d.size * 2; omega) (by exact congrArg (ofCells _) (cut1a hid))) ?_
                show _ = matchV (matchS l a)
                rw [hms, ← hfl]
                rfl
              · have g3 := of_decide_eq_false g3
                rw [if_neg (by omega)] at hfl
                refine Or.inl (And.intro (inK_i64 (by first | omega | (simp only <;> omega) | (simp only [Array.size_setIfInBounds, Go.Ai.swp_size] <;> omega))) ?_)
                exact ⟨j + 1, ⟨by omega, hfl⟩, weak_live ⟨rfl, rfl, (iv (by first | omega | (simp only <;> omega) | (simp only [Array.size_setIfInBounds, Go.Ai.swp_size] <;> omega))), trivial⟩ rfl rfl rfl, by omega⟩
          · have g1 := of_decide_eq_false g1
            have hid : j = d.size := by
              have : ¬ (j : Int) < (d.size : Nat) := g1
              omega
            subst hid
            rw [List.drop_of_length_le (by simp)] at hfl
            show _ = matchV (matchS l a)
            rw [hms, ← hfl]
            rfl
      by_cases b3 : b = 93
      · have hms : matchS l a = findL q (lstO (AllF l 1)) := by
          have := found (by rw [b3]; rfl)
          rw [b3] at this
          exact this
        refine And.intro (show (0 : Int) ≤ q ∧ (q : Int) < (l.length : Nat) by omega) ?_
        refine And.intro ⟨of_decide_eq_true rfl, of_decide_eq_true rfl⟩ ?_
        refine gT (neF 91 b2) ?_
        repeat (first | (refine And.intro (fun _ => ?_) (fun h => Go.Ai.tf h)) | (refine And.intro (fun _ => ?_) (fun h => Go.Ai.ft h)) | (refine And.intro (fun h => Go.Ai.ft h) (fun _ => ?_)) | (refine And.intro (fun h => Go.Ai.tf h) (fun _ => ?_)))
        refine And.intro (show (0 : Int) ≤ q ∧ (q : Int) < (l.length : Nat) by omega) ?_
        repeat (first | (refine And.intro (fun _ => ?_) (fun h => Go.Ai.tf h)) | (refine And.intro (fun _ => ?_) (fun h => Go.Ai.ft h)) | (refine And.intro (fun h => Go.Ai.ft h) (fun _ => ?_)) | (refine And.intro (fun h => Go.Ai.tf h) (fun _ => ?_)))
        refine CallW.of (closer_ok [91] _) ?_
        repeat (first | (refine And.intro (fun _ => ?_) (fun h => Go.Ai.tf h)) | (refine And.intro (fun _ => ?_) (fun h => Go.Ai.ft h)) | (refine And.intro (fun h => Go.Ai.ft h) (fun _ => ?_)) | (refine And.intro (fun h => Go.Ai.tf h) (fun _ => ?_)))
        refine cF (eqF (closeS [91]) b3) ?_
        have hA : AllU 10 l [91] (AllF l 1) := refAll_F l hl 1 (by omega)
        refine (optC (AllF l 1)).elim (fun hD => ?_) (fun hX => hX.elim fun d hD => ?_)
        · rw [hD] at hA hms
          refine CallW.of (hA _) ?_
          refine TB.ofLB (LB.nextW CF.tt rfl ?_)
          repeat (first | (refine And.intro (fun _ => ?_) (fun h => Go.Ai.tf h)) | (refine And.intro (fun _ => ?_) (fun h => Go.Ai.ft h)) | (refine And.intro (fun h => Go.Ai.ft h) (fun _ => ?_)) | (refine And.intro (fun h => Go.Ai.tf h) (fun _ => ?_)))
          show _ = matchV (matchS l a)
          rw [hms]
          rfl
        · have hsz := AllF_size (by omega) hl hD
          rw [hD] at hA hms
          refine CallW.of (hA _) ?_
          refine loopV CF.tt rfl (fun j : Nat => ⟨tmOf 8 [(1, I q), (9, .slice (some ⟨1, 0, none⟩) d.size 4), (10, I j)], [], none, hOne (flatA d) 34 0⟩) 0
            (weak_ren (L := [0, 2]) ⟨⟨_, rfl, rfl⟩, ⟨_, rfl, rfl⟩, ⟨_, rfl, rfl⟩, trivial⟩ ⟨trivial, ⟨brO _ _ d _ _ _ rfl, Nat.zero_le _, fun h => (nomatch h)⟩, trivial⟩ rfl (by decide) rfl rfl (Nat.zero_le _))
            (fun j => d.size - j) (fun j => j ≤ d.size ∧ findL q (d.toList.drop j) = findL q d.toList) ⟨Nat.zero_le _, rfl⟩ ?_
          rintro j ⟨hj, hfl⟩
          have hms : matchS l a = findL q d.toList := hms
          refine And.intro (fun g1 => ?_) (fun g1 => ?_)
          · have g1 := of_decide_eq_true g1
            have hid : j < d.size := by
              have : (j : Int) < (d.size : Nat) := g1
              omega
            have hdj : d.toList.drop j = d[j]! :: d.toList.drop (j + 1) := by
              rw [List.drop_eq_getElem_cons (by simpa using hid), getElem!_pos d j hid]
              simp
            rw [hdj, findL_cons] at hfl
            apply nxW_of
            · exact idx_pair (j) rfl rfl rfl rfl rfl rfl (by first | omega | (simp only <;> omega) | (simp only [Array.size_setIfInBounds, Go.Ai.swp_size] <;> omega)) (by first | omega | (simp only <;> omega) | (simp only [Array.size_setIfInBounds, Go.Ai.swp_size] <;> omega))
            refine nxW_of (load_val (v := I d[j]!.a) rfl rfl rfl (by rw [flatA_len]; show j * 2 + 1 ≤ d.size * 2; omega) (by exact congrArg (ofCells _) (cut1a hid))) ?_
            refine And.intro (fun g2 => ?_) (fun g2 => ?_)
            · have g2 := of_decide_eq_true g2
              rw [if_pos (by omega)] at hfl
              apply nxW_of
              · exact idx_pair (j) rfl rfl rfl rfl rfl rfl (by first | omega | (simp only <;> omega) | (simp only [Array.size_setIfInBounds, Go.Ai.swp_size] <;> omega)) (by first | omega | (simp only <;> omega) | (simp only [Array.size_setIfInBounds, Go.Ai.swp_size] <;> omega))
              refine nxW_of (load_val (v := I d[j]!.b) rfl rfl rfl (by rw [flatA_len]; show j * 2 + 1 + 1 ≤ d.size * 2; omega) (by exact congrArg (ofCells _) (cut1b hid))) ?_
              show _ = matchV (matchS l a)
              rw [hms, ← hfl]
              rfl
            · have g2 := of_decide_eq_false g2
              rw [if_neg (by omega)] at hfl
              apply nxW_of
              · exact idx_pair (j) rfl rfl rfl rfl rfl rfl (by first | omega | (simp only <;> omega) | (simp only [Array.size_setIfInBounds, Go.Ai.swp_size] <;> omega)) (by first | omega | (simp only <;> omega) | (simp only [Array.size_setIfInBounds, Go.Ai.swp_size] <;> omega))
              refine nxW_of (load_val (v := I d[j]!.b) rfl rfl rfl (by rw [flatA_len]; show j * 2 + 1 + 1 ≤ d.size * 2; omega) (by exact congrArg (ofCells _) (cut1b hid))) ?_
              refine And.intro (fun g3 => ?_) (fun g3 => ?_)
              · have g3 := of_decide_eq_true g3
                rw [if_pos (by omega)] at hfl
                apply nxW_of
                · exact idx_pair (j) rfl rfl rfl rfl rfl rfl (by first | omega | (simp only <;> omega) | (simp only [Array.size_setIfInBounds, Go.Ai.swp_size] <;> omega)) (by first | omega | (simp only <;> omega) | (simp only [Array.size_setIfInBounds, Go.Ai.swp_size] <;> omega))
                refine nxW_of (load_val (v := I d[j]!.a) rfl rfl rfl (by rw [flatA_len]; show j * 2 + 1 ≤ d.size * 2; omega) (by exact congrArg (ofCells _) (cut1a hid))) ?_
                show _ = matchV (matchS l a)
                rw [hms, ← hfl]
                rfl
              · have g3 := of_decide_eq_false g3
                rw [if_neg (by omega)] at hfl
                refine Or.inl (And.intro (inK_i64 (by first | omega | (simp only <;> omega) | (simp only [Array.size_setIfInBounds, Go.Ai.swp_size] <;> omega))) ?_)
                exact ⟨j + 1, ⟨by omega, hfl⟩, weak_live ⟨rfl, rfl, (iv (by first | omega | (simp only <;> omega) | (simp only [Array.size_setIfInBounds, Go.Ai.swp_size] <;> omega))), trivial⟩ rfl rfl rfl, by omega⟩
          · have g1 := of_decide_eq_false g1
            have hid : j = d.size := by
              have : ¬ (j : Int) < (d.size : Nat) := g1
              omega
            subst hid
            rw [List.drop_of_length_le (by simp)] at hfl
            show _ = matchV (matchS l a)
            rw [hms, ← hfl]
            rfl
      refine And.intro (show (0 : Int) ≤ q ∧ (q : Int) < (l.length : Nat) by omega) ?_
      refine And.intro ⟨of_decide_eq_true rfl, of_decide_eq_true rfl⟩ ?_
      refine gT (neF 91 b2) ?_
      repeat (first | (refine And.intro (fun _ => ?_) (fun h => Go.Ai.tf h)) | (refine And.intro (fun _ => ?_) (fun h => Go.Ai.ft h)) | (refine And.intro (fun h => Go.Ai.ft h) (fun _ => ?_)) | (refine And.intro (fun h => Go.Ai.tf h) (fun _ => ?_)))
      refine And.intro (show (0 : Int) ≤ q ∧ (q : Int) < (l.length : Nat) by omega) ?_
      repeat (first | (refine And.intro (fun _ => ?_) (fun h => Go.Ai.tf h)) | (refine And.intro (fun _ => ?_) (fun h => Go.Ai.ft h)) | (refine And.intro (fun h => Go.Ai.ft h) (fun _ => ?_)) | (refine And.intro (fun h => Go.Ai.tf h) (fun _ => ?_)))
      refine CallW.of (closer_ok [91] _) ?_
      repeat (first | (refine And.intro (fun _ => ?_) (fun h => Go.Ai.tf h)) | (refine And.intro (fun _ => ?_) (fun h => Go.Ai.ft h)) | (refine And.intro (fun h => Go.Ai.ft h) (fun _ => ?_)) | (refine And.intro (fun h => Go.Ai.tf h) (fun _ => ?_)))
      refine cT (neF (closeS [91]) b3) ?_
      refine Or.inl (And.intro (inK_i64 (by first | omega | (simp only <;> omega) | (simp only [Array.size_setIfInBounds, Go.Ai.swp_size] <;> omega))) ?_)
      refine LB.nextW CF.tt rfl ?_
      repeat (first | (refine And.intro (fun _ => ?_) (fun h => Go.Ai.tf h)) | (refine And.intro (fun _ => ?_) (fun h => Go.Ai.ft h)) | (refine And.intro (fun h => Go.Ai.ft h) (fun _ => ?_)) | (refine And.intro (fun h => Go.Ai.tf h) (fun _ => ?_)))
      by_cases b4 : b = 123
      · have hms : matchS l a = findL q (lstO (AllF l 2)) := by
          have := found (by rw [b4]; rfl)
          rw [b4] at this
          exact this
        refine And.intro (show (0 : Int) ≤ q ∧ (q : Int) < (l.length : Nat) by omega) ?_
        refine And.intro ⟨of_decide_eq_true rfl, of_decide_eq_true rfl⟩ ?_
        refine gTf (eqF 123 b4) ?_
        repeat (first | (refine And.intro (fun _ => ?_) (fun h => Go.Ai.tf h)) | (refine And.intro (fun _ => ?_) (fun h => Go.Ai.ft h)) | (refine And.intro (fun h => Go.Ai.ft h) (fun _ => ?_)) | (refine And.intro (fun h => Go.Ai.tf h) (fun _ => ?_)))
        have hA : AllU 10 l [123] (AllF l 2) := refAll_F l hl 2 (by omega)
        refine (optC (AllF l 2)).elim (fun hD => ?_) (fun hX => hX.elim fun d hD => ?_)
        · rw [hD] at hA hms
          refine CallW.of (hA _) ?_
          refine TB.ofLB (LB.nextW CF.tt rfl ?_)
          repeat (first | (refine And.intro (fun _ => ?_) (fun h => Go.Ai.tf h)) | (refine And.intro (fun _ => ?_) (fun h => Go.Ai.ft h)) | (refine And.intro (fun h => Go.Ai.ft h) (fun _ => ?_)) | (refine And.intro (fun h => Go.Ai.tf h) (fun _ => ?_)))
          show _ = matchV (matchS l a)
          rw [hms]
          rfl
        · have hsz := AllF_size (by omega) hl hD
          rw [hD] at hA hms
          refine CallW.of (hA _) ?_
          refine loopV CF.tt rfl (fun j : Nat => ⟨tmOf 8 [(1, I q), (9, .slice (some ⟨1, 0, none⟩) d.size 4), (10, I j)], [], none, hOne (flatA d) 34 0⟩) 0
            (weak_ren (L := [0, 2]) ⟨⟨_, rfl, rfl⟩, ⟨_, rfl, rfl⟩, ⟨_, rfl, rfl⟩, trivial⟩ ⟨trivial, ⟨brO _ _ d _ _ _ rfl, Nat.zero_le _, fun h => (nomatch h)⟩, trivial⟩ rfl (by decide) rfl rfl (Nat.zero_le _))
            (fun j => d.size - j) (fun j => j ≤ d.size ∧ findL q (d.toList.drop j) = findL q d.toList) ⟨Nat.zero_le _, rfl⟩ ?_
          rintro j ⟨hj, hfl⟩
          have hms : matchS l a = findL q d.toList := hms
          refine And.intro (fun g1 => ?_) (fun g1 => ?_)
          · have g1 := of_decide_eq_true g1
            have hid : j < d.size := by
              have : (j : Int) < (d.size : Nat) := g1
              omega
            have hdj : d.toList.drop j = d[j]! :: d.toList.drop (j + 1) := by
              rw [List.drop_eq_getElem_cons (by simpa using hid), getElem!_pos d j hid]
              simp
            rw [hdj, findL_cons] at hfl
            apply nxW_of
            · exact idx_pair (j) rfl rfl rfl rfl rfl rfl (by first | omega | (simp only <;> omega) | (simp only [Array.size_setIfInBounds, Go.Ai.swp_size] <;> omega)) (by first | omega | (simp only <;> omega) | (simp only [Array.size_setIfInBounds, Go.Ai.swp_size] <;> omega))
            refine nxW_of (load_val (v := I d[j]!.a) rfl rfl rfl (by rw [flatA_len]; show j * 2 + 1 ≤ d.size * 2; omega) (by exact congrArg (ofCells _) (cut1a hid))) ?_
            refine And.intro (fun g2 => ?_) (fun g2 => ?_)
            · have g2 := of_decide_eq_true g2
              rw [if_pos (by omega)] at hfl
              apply nxW_of
              · exact idx_pair (j) rfl rfl rfl rfl rfl rfl (by first | omega | (simp only <;> omega) | (simp only [Array.size_setIfInBounds, Go.Ai.swp_size] <;> omega)) (by first | omega | (simp only <;> omega) | (simp only [Array.size_setIfInBounds, Go.Ai.swp_size] <;> omega))
              refine nxW_of (load_val (v := I d[j]!.b) rfl rfl rfl (by rw [flatA_len]; show j * 2 + 1 + 1 ≤ d.size * 2; omega) (by exact congrArg (ofCells _) (cut1b hid))) ?_
              show _ = matchV (matchS l a)
              rw [hms, ← hfl]
              rfl
            · have g2 := of_decide_eq_false g2
              rw [if_neg (by omega)] at hfl
              apply nxW_of
              · exact idx_pair (j) rfl rfl rfl rfl rfl rfl (by first | omega | (simp only <;> omega) | (simp only [Array.size_setIfInBounds, Go.Ai.swp_size] <;> omega)) (by first | omega | (simp only <;> omega) | (simp only [Array.size_setIfInBounds, Go.Ai.swp_size] <;> omega))
              refine nxW_of (load_val (v := I d[j]!.b) rfl rfl rfl (by rw [flatA_len]; show j * 2 + 1 + 1 ≤ d.size * 2; omega) (by exact congrArg (ofCells _) (cut1b hid))) ?_
              refine And.intro (fun g3 => ?_) (fun g3 => ?_)
              · have g3 := of_decide_eq_true g3
                rw [if_pos (by omega)] at hfl
                apply nxW_of
                · exact idx_pair (j) rfl rfl rfl rfl rfl rfl (by first | omega | (simp only <;> omega) | (simp only [Array.size_setIfInBounds, Go.Ai.swp_size] <;> omega)) (by first | omega | (simp only <;> omega) | (simp only [Array.size_setIfInBounds, Go.Ai.swp_size] <;> omega))
                refine nxW_of (load_val (v := I d[j]!.a) rfl rfl rfl (by rw [flatA_len]; show j * 2 + 1 ≤ d.size * 2; omega) (by exact congrArg (ofCells _) (cut1a hid))) ?_
                show _ = matchV (matchS l a)
                rw [hms, ← hfl]
                rfl
              · have g3 := of_decide_eq_false g3
                rw [if_neg (by omega)] at hfl
                refine Or.inl (And.intro (inK_i64 (by first | omega | (simp only <;> omega) | (simp only [Array.size_setIfInBounds, Go.Ai.swp_size] <;> omega))) ?_)
                exact ⟨j + 1, ⟨by omega, hfl⟩, weak_live ⟨rfl, rfl, (iv (by first | omega | (simp only <;> omega) | (simp only [Array.size_setIfInBounds, Go.Ai.swp_size] <;> omega))), trivial⟩ rfl rfl rfl, by omega⟩
          · have g1 := of_decide_eq_false g1
            have hid : j = d.size := by
              have : ¬ (j : Int) < (d.size : Nat) := g1
              omega
            subst hid
            rw [List.drop_of_length_le (by simp)] at hfl
            show _ = matchV (matchS l a)
            rw [hms, ← hfl]
            rfl
      by_cases b5 : b = 125
      · have hms : matchS l a = findL q (lstO (AllF l 2)) := by
          have := found (by rw [b5]; rfl)
          rw [b5] at this
          exact this
        refine And.intro (show (0 : Int) ≤ q ∧ (q : Int) < (l.length : Nat) by omega) ?_
        refine And.intro ⟨of_decide_eq_true rfl, of_decide_eq_true rfl⟩ ?_
        refine gT (neF 123 b4) ?_
        repeat (first | (refine And.intro (fun _ => ?_) (fun h => Go.Ai.tf h)) | (refine And.intro (fun _ => ?_) (fun h => Go.Ai.ft h)) | (refine And.intro (fun h => Go.Ai.ft h) (fun _ => ?_)) | (refine And.intro (fun h => Go.Ai.tf h) (fun _ => ?_)))
        refine And.intro (show (0 : Int) ≤ q ∧ (q : Int) < (l.length : Nat) by omega) ?_
        repeat (first | (refine And.intro (fun _ => ?_) (fun h => Go.Ai.tf h)) | (refine And.intro (fun _ => ?_) (fun h => Go.Ai.ft h)) | (refine And.intro (fun h => Go.Ai.ft h) (fun _ => ?_)) | (refine And.intro (fun h => Go.Ai.tf h) (fun _ => ?_)))
        refine CallW.of (closer_ok [123] _) ?_
        repeat (first | (refine And.intro (fun _ => ?_) (fun h => Go.Ai.tf h)) | (refine And.intro (fun _ => ?_) (fun h => Go.Ai.ft h)) | (refine And.intro (fun h => Go.Ai.ft h) (fun _ => ?_)) | (refine And.intro (fun h => Go.Ai.tf h) (fun _ => ?_)))
        refine cF (eqF (closeS [123]) b5) ?_
        have hA : AllU 10 l [123] (AllF l 2) := refAll_F l hl 2 (by omega)
        refine (optC (AllF l 2)).elim (fun hD => ?_) (fun hX => hX.elim fun d hD => ?_)
        · rw [hD] at hA hms
          refine CallW.of (hA _) ?_
          refine TB.ofLB (LB.nextW CF.tt rfl ?_)
          repeat (first | (refine And.intro (fun _ => ?_) (fun h => Go.Ai.tf h)) | (refine And.intro (fun _ => ?_) (fun h => Go.Ai.ft h)) | (refine And.intro (fun h => Go.Ai.ft h) (fun _ => ?_)) | (refine And.intro (fun h => Go.Ai.tf h) (fun _ => ?_)))
          show _ = matchV (matchS l a)
          rw [hms]
          rfl
        · have hsz := AllF_size (by omega) hl hD
          rw [hD] at hA hms
          refine CallW.of (hA _) ?_
          refine loopV CF.tt rfl (fun j : Nat => ⟨tmOf 8 [(1, I q), (9, .slice (some ⟨1, 0, none⟩) d.size 4), (10, I j)], [], none, hOne (flatA d) 34 0⟩) 0
            (weak_ren (L := [0, 2]) ⟨⟨_, rfl, rfl⟩, ⟨_, rfl, rfl⟩, ⟨_, rfl, rfl⟩, trivial⟩ ⟨trivial, ⟨brO _ _ d _ _ _ rfl, Nat.zero_le _, fun h => (nomatch h)⟩, trivial⟩ rfl (by decide) rfl rfl (Nat.zero_le _))
            (fun j => d.size - j) (fun j => j ≤ d.size ∧ findL q (d.toList.drop j) = findL q d.toList) ⟨Nat.zero_le _, rfl⟩ ?_
          rintro j ⟨hj, hfl⟩
          have hms : matchS l a = findL q d.toList := hms
          refine And.intro (fun g1 => ?_) (fun g1 => ?_)
          · have g1 := of_decide_eq_true g1
            have hid : j < d.size := by
              have : (j : Int) < (d.size : Nat) := g1
              omega
            have hdj : d.toList.drop j = d[j]! :: d.toList.drop (j + 1) := by
              rw [List.drop_eq_getElem_cons (by simpa using hid), getElem!_pos d j hid]
              simp
            rw [hdj, findL_cons] at hfl
            apply nxW_of
            · exact idx_pair (j) rfl rfl rfl rfl rfl rfl (by first | omega | (simp only <;> omega) | (simp only [Array.size_setIfInBounds, Go.Ai.swp_size] <;> omega)) (by first | omega | (simp only <;> omega) | (simp only [Array.size_setIfInBounds, Go.Ai.swp_size] <;> omega))
            refine nxW_of (load_val (v := I d[j]!.a) rfl rfl rfl (by rw [flatA_len]; show j * 2 + 1 ≤ d.size * 2; omega) (by exact congrArg (ofCells _) (cut1a hid))) ?_
            refine And.intro (fun g2 => ?_) (fun g2 => ?_)
            · have g2 := of_decide_eq_true g2
              rw [if_pos (by omega)] at hfl
              apply nxW_of
              · exact idx_pair (j) rfl rfl rfl rfl rfl rfl (by first | omega | (simp only <;> omega) | (simp only [Array.size_setIfInBounds, Go.Ai.swp_size] <;> omega)) (by first | omega | (simp only <;> omega) | (simp only [Array.size_setIfInBounds, Go.Ai.swp_size] <;> omega))
              refine nxW_of (load_val (v := I d[j]!.b) rfl rfl rfl (by rw [flatA_len]; show j * 2 + 1 + 1 ≤ d.size * 2; omega) (by exact congrArg (ofCells _) (cut1b hid))) ?_
              show _ = matchV (matchS l a)
              rw [hms, ← hfl]
              rfl
            · have g2 := of_decide_eq_false g2
              rw [if_neg (by omega)] at hfl
              apply nxW_of
              · exact idx_pair (j) rfl rfl rfl rfl rfl rfl (by first | omega | (simp only <;> omega) | (simp only [Array.size_setIfInBounds, Go.Ai.swp_size] <;> omega)) (by first | omega | (simp only <;> omega) | (simp only [Array.size_setIfInBounds, Go.Ai.swp_size] <;> omega))
              refine nxW_of (load_val (v := I d[j]!.b) rfl rfl rfl (by rw [flatA_len]; show j * 2 + 1 + 1 ≤ d.size * 2; omega) (by exact congrArg (ofCells _) (cut1b hid))) ?_
              refine And.intro (fun g3 => ?_) (fun g3 => ?_)
              · have g3 := of_decide_eq_true g3
                rw [if_pos (by omega)] at hfl
                apply nxW_of
                · exact idx_pair (j) rfl rfl rfl rfl rfl rfl (by first | omega | (simp only <;> omega) | (simp only [Array.size_setIfInBounds, Go.Ai.swp_size] <;> omega)) (by first | omega | (simp only <;> omega) | (simp only [Array.size_setIfInBounds, Go.Ai.swp_size] <;> omega))
                refine nxW_of (load_val (v := I d[j]!.a) rfl rfl rfl (by rw [flatA_len]; show j * 2 + 1 ≤ d.size * 2; omega) (by exact congrArg (ofCells _) (cut1a hid))) ?_
                show _ = matchV (matchS l a)
                rw [hms, ← hfl]
                rfl
              · have g3 := of_decide_eq_false g3
                rw [if_neg (by omega)] at hfl
                refine Or.inl (And.intro (inK_i64 (by first | omega | (simp only <;> omega) | (simp only [Array.size_setIfInBounds, Go.Ai.swp_size] <;> omega))) ?_)
                exact ⟨j + 1, ⟨by omega, hfl⟩, weak_live ⟨rfl, rfl, (iv (by first | omega | (simp only <;> omega) | (simp only [Array.size_setIfInBounds, Go.Ai.swp_size] <;> omega))), trivial⟩ rfl rfl rfl, by omega⟩
          · have g1 := of_decide_eq_false g1
            have hid : j = d.size := by
              have : ¬ (j : Int) < (d.size : Nat) := g1
              omega
            subst hid
            rw [List.drop_of_length_le (by simp)] at hfl
            show _ = matchV (matchS l a)
            rw [hms, ← hfl]
            rfl
      refine And.intro (show (0 : Int) ≤ q ∧ (q : Int) < (l.length : Nat) by omega) ?_
      refine And.intro ⟨of_decide_eq_true rfl, of_decide_eq_true rfl⟩ ?_
      refine gT (neF 123 b4) ?_
      repeat (first | (refine And.intro (fun _ => ?_) (fun h => Go.Ai.tf h)) | (refine And.intro (fun _ => ?_) (fun h => Go.Ai.ft h)) | (refine And.intro (fun h => Go.Ai.ft h) (fun _ => ?_)) | (refine And.intro (fun h => Go.Ai.tf h) (fun _ => ?_)))
      refine And.intro (show (0 : Int) ≤ q ∧ (q : Int) < (l.length : Nat) by omega) ?_
      repeat (first | (refine And.intro (fun _ => ?_) (fun h => Go.Ai.tf h)) | (refine And.intro (fun _ => ?_) (fun h => Go.Ai.ft h)) | (refine And.intro (fun h => Go.Ai.ft h) (fun _ => ?_)) | (refine And.intro (fun h => Go.Ai.tf h) (fun _ => ?_)))
      refine CallW.of (closer_ok [123] _) ?_
      repeat (first | (refine And.intro (fun _ => ?_) (fun h => Go.Ai.tf h)) | (refine And.intro (fun _ => ?_) (fun h => Go.Ai.ft h)) | (refine And.intro (fun h => Go.Ai.ft h) (fun _ => ?_)) | (refine And.intro (fun h => Go.Ai.tf h) (fun _ => ?_)))
      refine cT (neF (closeS [123]) b5) ?_
      refine Or.inl (And.intro (inK_i64 (by first | omega | (simp only <;> omega) | (simp only [Array.size_setIfInBounds, Go.Ai.swp_size] <;> omega))) ?_)
      refine LB.nextW CF.tt rfl ?_
      repeat (first | (refine And.intro (fun _ => ?_) (fun h => Go.Ai.tf h)) | (refine And.intro (fun _ => ?_) (fun h => Go.Ai.ft h)) | (refine And.intro (fun h => Go.Ai.ft h) (fun _ => ?_)) | (refine And.intro (fun h => Go.Ai.tf h) (fun _ => ?_)))
      have hnb : isBr b = false := by
        have g : ∀ k : UInt8, ¬ b = k → decide (b.toNat = k.toNat) = false := fun k h => decide_eq_false (fun e => h (UInt8.toNat_inj.1 e))
        have g0 := g 40 b0
        have g1 := g 41 b1
        have g2 := g 91 b2
        have g3 := g 93 b3
        have g4 := g 123 b4
        have g5 := g 125 b5
        show (decide (b.toNat = (40 : UInt8).toNat) || decide (b.toNat = (91 : UInt8).toNat) || decide (b.toNat = (123 : UInt8).toNat) || decide (b.toNat = (41 : UInt8).toNat) || decide (b.toNat = (93 : UInt8).toNat) || decide (b.toNat = (125 : UInt8).toNat)) = false
        rw [g0, g1, g2, g3, g4, g5]
        rfl
      refine Or.inl (And.intro (inK_i64 (by first | omega | (simp only <;> omega) | (simp only [Array.size_setIfInBounds, Go.Ai.swp_size] <;> omega))) ?_)
      exact ⟨q + 1, ⟨by omega, by omega, fun j g1 g2 => by rcases (by omega : j < q ∨ j = q) with g | g; exact hno j g1 g; rw [g, hb]; exact hnb⟩, weak_flat (k := 3) ⟨rfl, (iv (by first | omega | (simp only <;> omega) | (simp only [Array.size_setIfInBounds, Go.Ai.swp_size] <;> omega))), rfl, trivial⟩ rfl rfl rfl, by omega⟩
    · have h1 := of_decide_eq_false h1
      have hqe : q = e := by
        have : ¬ (q : Int) < (e : Nat) := h1
        omega
      subst hqe
      have hf : ((l.drop a).take (q - a)).findIdx? isBr = none := by
        rw [List.findIdx?_eq_none_iff]
        intro x hx
        obtain ⟨j, hj, ex⟩ := List.getElem_of_mem hx
        rw [List.getElem_take, List.getElem_drop] at ex
        simp only [List.length_take, List.length_drop] at hj
        have := hno (a + j) (by omega) (by omega)
        rw [List.getD_eq_getElem?_getD, List.getElem?_eq_getElem (by omega)] at this
        rw [← ex]
        exact this
      show _ = matchV (matchS l a)
      rw [hm, hf]
      rfl
end Go.Proofs.Ytbaoelfpmdmhjaa
set_option maxRecDepth 100000
set_option maxHeartbeats 2000000
namespace Go.Proofs.Ytbaoelfpmdmhjaa
open Go.Ai
/-! ### pair.Around at kinds that are none, and the law PairMatches -/
theorem backNil_any (y k : Nat) (h : H) (fam fz : Nat) (hb : h.bl.get k = some (.cells [.slice none 0 0] 24 fam fz)) : CallOk Try.prog C 44 [.func (.yield y) #[] #[], ptr k] h (.ret (.tuple #[]) h) := by
  refine fn_wp CF rfl (n := 19) (res := []) (c := codeOf Try.f44) rfl ?_
  refine nxW_of (load_val (v := .slice none 0 0) rfl rfl hb (Nat.le_refl _) rfl) ?_
  refine Or.inl (And.intro (inK_i64 (by first | omega | (simp only <;> omega) | (simp only [Array.size_setIfInBounds, Go.Ai.swp_size] <;> omega))) ?_)
  refine TB.ofLB (LB.nextW CF.tt rfl ?_)
  repeat (first | (refine And.intro (fun _ => ?_) (fun h => Go.Ai.tf h)) | (refine And.intro (fun _ => ?_) (fun h => Go.Ai.ft h)) | (refine And.intro (fun h => Go.Ai.ft h) (fun _ => ?_)) | (refine And.intro (fun h => Go.Ai.tf h) (fun _ => ?_)))
  refine ⟨rfl, ?_⟩
  simp only [nrm_eq]
theorem around_bad (l kd : List UInt8) (hbad : ¬ ∃ i, i < 4 ∧ kd = [opB i]) (p : Int) (hl : l.length < 4611686018427387904) (m : Int) (e : TypeId) (fz : Nat) :
    ∀ (h : H) (fam : Nat), h.bl.get 0 = some (.cells [.int .i64 m] e fam fz) → CallOk Try.prog C1 13 [str l, .int .i64 p, str kd] h (.ret (aroundV none) h) := by
  have key : ∃ h', 0 < h'.low ∧ CallOk Try.prog C1 13 [str l, .int .i64 p, str kd] (hM m e fz) (.ret (aroundV none) h') := by
    cases hp : placeS l p with
    | false =>
      apply Exists.intro
      apply And.intro
      rotate_left
      · apply fn_wpN CF1 (by decide) (n := 37) (res := [.cell 6 3, .cell 7 3, .cell 8 4]) (c := (codeOf Try.f13)) rfl
        refine CallW.of (call_up rfl (place_ok l p hl _)) ?_
        rw [hp]
        repeat (first | (refine And.intro (fun _ => ?_) (fun h => Go.Ai.tf h)) | (refine And.intro (fun _ => ?_) (fun h => Go.Ai.ft h)) | (refine And.intro (fun h => Go.Ai.ft h) (fun _ => ?_)) | (refine And.intro (fun h => Go.Ai.tf h) (fun _ => ?_)))
        exact ⟨rfl, rfl⟩
      · first | exact (show 0 < 2 by decide) | exact (show 0 < 1 by decide) | exact of_decide_eq_true rfl
    | true =>
      apply Exists.intro
      apply And.intro
      rotate_left
      · apply fn_wpN CF1 (by decide) (n := 37) (res := [.cell 6 3, .cell 7 3, .cell 8 4]) (c := (codeOf Try.f13)) rfl
        refine CallW.of (call_up rfl (place_ok l p hl _)) ?_
        rw [hp]
        repeat (first | (refine And.intro (fun _ => ?_) (fun h => Go.Ai.tf h)) | (refine And.intro (fun _ => ?_) (fun h => Go.Ai.ft h)) | (refine And.intro (fun h => Go.Ai.ft h) (fun _ => ?_)) | (refine And.intro (fun h => Go.Ai.tf h) (fun _ => ?_)))
        refine CallW.of (all_none l kd hbad m e fz _ 0 rfl) ?_
        refine CallW.of (call_up rfl (backward_ok _ _ rfl)) ?_
        refine TB.range ?_
        refine CallW.of (call_up rfl (backNil_any _ _ _ _ _ rfl)) ?_
        exact ⟨rfl, rfl⟩
      · first | exact (show 0 < 2 by decide) | exact (show 0 < 1 by decide) | exact of_decide_eq_true rfl
  obtain ⟨h', hlow, hc⟩ := key
  exact pure_of1 hc hlow rfl (aroundV_flat _)
end Go.Proofs.Ytbaoelfpmdmhjaa
set_option maxRecDepth 100000
set_option maxHeartbeats 2000000
namespace Go.Proofs.Ytbaoelfpmdmhjaa
open Go.Ai
/-! ### the law PairMatches -/
theorem around_kind (l kd : List UInt8) (p : Int) (hl : l.length ≤ 500) (m : Int) (e : TypeId) (fz : Nat) : ∃ r, (∀ (h : H) (fam : Nat), h.bl.get 0 = some (.cells [.int .i64 m] e fam fz) → CallOk Try.prog C1 13 [str l, .int .i64 p, str kd] h (.ret (aroundV r) h)) ∧
    (∀ h, CallOk Try.prog C1 14 [str l, .int .i64 p, str kd] h (.ret (aroundV r) h)) := by
  by_cases hb : ∃ i, i < 4 ∧ kd = [opB i]
  · obtain ⟨i, hi, rfl⟩ := hb
    obtain ⟨-, -, hAC⟩ := AllF_spec (l := l) (i := i) hi hl
    have hsz : ∀ d, AllF l i = some d → d.size ≤ 250 := fun d h => AllF_size hi hl h
    refine ⟨_, fun h _ _ => call_up rfl (around_ok l _ (AllF l i) (AllCk_of hAC) hsz p (by omega) h), fun h => call_up rfl (refAround_ok l _ (AllF l i) (refAll_F l hl i hi) (fun d hd => by have := hsz d hd; omega) p hl h)⟩
  · refine ⟨none, fun h fam hc => around_bad l kd hb p (by omega) m e fz h fam hc, fun h => ?_⟩
    have := refAround_ok l kd none (refAll_none l kd (close_bad kd hb)) (fun d h => (nomatch h)) p hl h
    have e1 : (if placeS l p then aroundS p (lstO none) else none) = none := by cases placeS l p <;> rfl
    rw [e1] at this
    exact call_up rfl this
theorem pairMatches_wp (l kd : List UInt8) (p : Int) (m : Int) (e : TypeId) (fz : Nat) : wpC Try.prog C1 (hM m e fz) none (codeOf Try.f5) (RetW C1 [.tmp 6] fun v' h' => v' = .bool true ∧ 0 < h'.low) ⟨initT 75 [str l, .int .i64 p, str kd], [], none, hM m e fz⟩ := by
  refine And.intro (fun h1 => ?_) (fun h1 => ?_)
  · refine CallW.of (call_up rfl (lives_ok _)) ?_
    exact ⟨rfl, show 0 < bigLow by decide⟩
  · have h1 := of_decide_eq_false h1
    have hl : l.length ≤ 500 := by
      have : ¬ (500 : Int) < (l.length : Nat) := h1
      omega
    have h1 := match_ok l p hl
    have h2 := refMatch_ok l p hl
    obtain ⟨r, hr⟩ : ∃ r, matchS l p = r := ⟨_, rfl⟩
    rw [hr] at h1 h2
    obtain ⟨q, a1, a2⟩ := around_kind l kd p hl m e fz
    cases r with
    | none =>
      cases q with
      | none =>
        refine CallW.of (call_up rfl (h1 _)) ?_
        refine CallW.of (call_up rfl (h2 _)) ?_
        refine CallW.of (a1 _ 0 rfl) ?_
        refine CallW.of (a2 _) ?_
        repeat (first | (refine And.intro (fun _ => ?_) (fun h => Go.Ai.tf h)) | (refine And.intro (fun _ => ?_) (fun h => Go.Ai.ft h)) | (refine And.intro (fun h => Go.Ai.ft h) (fun _ => ?_)) | (refine And.intro (fun h => Go.Ai.tf h) (fun _ => ?_)))
        refine CallW.of (call_up rfl (lives_ok _)) ?_
        repeat (first | (refine And.intro (fun _ => ?_) (fun h => Go.Ai.tf h)) | (refine And.intro (fun _ => ?_) (fun h => Go.Ai.ft h)) | (refine And.intro (fun h => Go.Ai.ft h) (fun _ => ?_)) | (refine And.intro (fun h => Go.Ai.tf h) (fun _ => ?_)))
        exact ⟨rfl, show 0 < bigLow by decide⟩
      | some q =>
        refine CallW.of (call_up rfl (h1 _)) ?_
        refine CallW.of (call_up rfl (h2 _)) ?_
        refine CallW.of (a1 _ 0 rfl) ?_
        refine CallW.of (a2 _) ?_
        repeat (first | (refine And.intro (fun _ => ?_) (fun h => Go.Ai.tf h)) | (refine And.intro (fun _ => ?_) (fun h => Go.Ai.ft h)) | (refine And.intro (fun h => Go.Ai.ft h) (fun _ => ?_)) | (refine And.intro (fun h => Go.Ai.tf h) (fun _ => ?_)))
        refine And.intro (fun _ => ?_) (fun h => absurd rfl (of_decide_eq_false h))
        repeat (first | (refine And.intro (fun _ => ?_) (fun h => Go.Ai.tf h)) | (refine And.intro (fun _ => ?_) (fun h => Go.Ai.ft h)) | (refine And.intro (fun h => Go.Ai.ft h) (fun _ => ?_)) | (refine And.intro (fun h => Go.Ai.tf h) (fun _ => ?_)))
        refine And.intro (fun _ => ?_) (fun h => absurd rfl (of_decide_eq_false h))
        repeat (first | (refine And.intro (fun _ => ?_) (fun h => Go.Ai.tf h)) | (refine And.intro (fun _ => ?_) (fun h => Go.Ai.ft h)) | (refine And.intro (fun h => Go.Ai.ft h) (fun _ => ?_)) | (refine And.intro (fun h => Go.Ai.tf h) (fun _ => ?_)))
        refine CallW.of (call_up rfl (lives_ok _)) ?_
        repeat (first | (refine And.intro (fun _ => ?_) (fun h => Go.Ai.tf h)) | (refine And.intro (fun _ => ?_) (fun h => Go.Ai.ft h)) | (refine And.intro (fun h => Go.Ai.ft h) (fun _ => ?_)) | (refine And.intro (fun h => Go.Ai.tf h) (fun _ => ?_)))
        exact ⟨rfl, show 0 < bigLow by decide⟩
    | some r =>
      cases q with
      | none =>
        refine CallW.of (call_up rfl (h1 _)) ?_
        refine CallW.of (call_up rfl (h2 _)) ?_
        refine CallW.of (a1 _ 0 rfl) ?_
        refine CallW.of (a2 _) ?_
        repeat (first | (refine And.intro (fun _ => ?_) (fun h => Go.Ai.tf h)) | (refine And.intro (fun _ => ?_) (fun h => Go.Ai.ft h)) | (refine And.intro (fun h => Go.Ai.ft h) (fun _ => ?_)) | (refine And.intro (fun h => Go.Ai.tf h) (fun _ => ?_)))
        refine And.intro (fun _ => ?_) (fun h => absurd rfl (of_decide_eq_false h))
        repeat (first | (refine And.intro (fun _ => ?_) (fun h => Go.Ai.tf h)) | (refine And.intro (fun _ => ?_) (fun h => Go.Ai.ft h)) | (refine And.intro (fun h => Go.Ai.ft h) (fun _ => ?_)) | (refine And.intro (fun h => Go.Ai.tf h) (fun _ => ?_)))
        refine CallW.of (call_up rfl (lives_ok _)) ?_
        repeat (first | (refine And.intro (fun _ => ?_) (fun h => Go.Ai.tf h)) | (refine And.intro (fun _ => ?_) (fun h => Go.Ai.ft h)) | (refine And.intro (fun h => Go.Ai.ft h) (fun _ => ?_)) | (refine And.intro (fun h => Go.Ai.tf h) (fun _ => ?_)))
        exact ⟨rfl, show 0 < bigLow by decide⟩
      | some q =>
        refine CallW.of (call_up rfl (h1 _)) ?_
        refine CallW.of (call_up rfl (h2 _)) ?_
        refine CallW.of (a1 _ 0 rfl) ?_
        refine CallW.of (a2 _) ?_
        repeat (first | (refine And.intro (fun _ => ?_) (fun h => Go.Ai.tf h)) | (refine And.intro (fun _ => ?_) (fun h => Go.Ai.ft h)) | (refine And.intro (fun h => Go.Ai.ft h) (fun _ => ?_)) | (refine And.intro (fun h => Go.Ai.tf h) (fun _ => ?_)))
        refine And.intro (fun _ => ?_) (fun h => absurd rfl (of_decide_eq_false h))
        repeat (first | (refine And.intro (fun _ => ?_) (fun h => Go.Ai.tf h)) | (refine And.intro (fun _ => ?_) (fun h => Go.Ai.ft h)) | (refine And.intro (fun h => Go.Ai.ft h) (fun _ => ?_)) | (refine And.intro (fun h => Go.Ai.tf h) (fun _ => ?_)))
        refine And.intro (fun _ => ?_) (fun h => absurd rfl (of_decide_eq_false h))
        repeat (first | (refine And.intro (fun _ => ?_) (fun h => Go.Ai.tf h)) | (refine And.intro (fun _ => ?_) (fun h => Go.Ai.ft h)) | (refine And.intro (fun h => Go.Ai.ft h) (fun _ => ?_)) | (refine And.intro (fun h => Go.Ai.tf h) (fun _ => ?_)))
        refine And.intro (fun _ => ?_) (fun h => absurd rfl (of_decide_eq_false h))
        repeat (first | (refine And.intro (fun _ => ?_) (fun h => Go.Ai.tf h)) | (refine And.intro (fun _ => ?_) (fun h => Go.Ai.ft h)) | (refine And.intro (fun h => Go.Ai.ft h) (fun _ => ?_)) | (refine And.intro (fun h => Go.Ai.tf h) (fun _ => ?_)))
        refine CallW.of (call_up rfl (lives_ok _)) ?_
        repeat (first | (refine And.intro (fun _ => ?_) (fun h => Go.Ai.tf h)) | (refine And.intro (fun _ => ?_) (fun h => Go.Ai.ft h)) | (refine And.intro (fun h => Go.Ai.ft h) (fun _ => ?_)) | (refine And.intro (fun h => Go.Ai.tf h) (fun _ => ?_)))
        exact ⟨rfl, show 0 < bigLow by decide⟩
end Go.Proofs.Ytbaoelfpmdmhjaa
