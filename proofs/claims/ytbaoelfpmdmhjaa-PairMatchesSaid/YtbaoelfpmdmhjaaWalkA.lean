/- Contracts of the text and line functions that the laws reach. Conditions: as each theorem says. -/
import Derived.Test.YtbaoelfpmdmhjaaTables
import Derived.Test.YtbaoelfpmdmhjaaEngineD
set_option maxRecDepth 100000
namespace Go.Proofs.Ytbaoelfpmdmhjaa
open Go.Ai

/-! ### runes -/
def fstS (n : Nat) : Nat × Nat × Nat := if n < 128 then (1, 0, 0) else if n < 194 then (0, 0, 0) else if n < 224 then (2, 128, 191) else if n = 224 then (3, 160, 191) else if n = 237 then (3, 128, 159)
  else if n < 240 then (3, 128, 191) else if n = 240 then (4, 144, 191) else if n < 244 then (4, 128, 191) else if n = 244 then (4, 128, 143) else (0, 0, 0)
def V3 (p : Nat × Nat × Nat) : Value := .agg #[.int .i64 p.1, .int .u8 p.2.1, .int .u8 p.2.2]
theorem first_ok (n : Nat) : ∀ h, CallOk Try.prog C 64 [.int .u8 n] h (.ret (V3 (fstS n)) h) := by
  refine pure_wp CF rfl 6 3 (n := 43) (res := [.cell 2 80]) (c := codeOf Try.f64) rfl rfl rfl ?_
  refine And.intro (fun h1 => ?_) (fun h1 => ?_)
  · have h1 := of_decide_eq_true h1
    have e : fstS n = (1, 0, 0) := by unfold fstS; rw [if_pos (by omega)]
    exact congrArg V3 e.symm
  have h1 := of_decide_eq_false h1
  refine And.intro (fun h2 => ?_) (fun h2 => ?_)
  · have h2 := of_decide_eq_true h2
    have e : fstS n = (0, 0, 0) := by unfold fstS; rw [if_neg (by omega), if_pos (by omega)]
    exact congrArg V3 e.symm
  have h2 := of_decide_eq_false h2
  refine And.intro (fun h3 => ?_) (fun h3 => ?_)
  · have h3 := of_decide_eq_true h3
    have e : fstS n = (2, 128, 191) := by unfold fstS; rw [if_neg (by omega), if_neg (by omega), if_pos (by omega)]
    exact congrArg V3 e.symm
  have h3 := of_decide_eq_false h3
  refine And.intro (fun h4 => ?_) (fun h4 => ?_)
  · have h4 := of_decide_eq_true h4
    have e : fstS n = (3, 160, 191) := by unfold fstS; rw [if_neg (by omega), if_neg (by omega), if_neg (by omega), if_pos (by omega)]
    exact congrArg V3 e.symm
  have h4 := of_decide_eq_false h4
  refine And.intro (fun h5 => ?_) (fun h5 => ?_)
  · have h5 := of_decide_eq_true h5
    have e : fstS n = (3, 128, 159) := by unfold fstS; rw [if_neg (by omega), if_neg (by omega), if_neg (by omega), if_neg (by omega), if_pos (by omega)]
    exact congrArg V3 e.symm
  have h5 := of_decide_eq_false h5
  refine And.intro (fun h6 => ?_) (fun h6 => ?_)
  · have h6 := of_decide_eq_true h6
    have e : fstS n = (3, 128, 191) := by unfold fstS; rw [if_neg (by omega), if_neg (by omega), if_neg (by omega), if_neg (by omega), if_neg (by omega), if_pos (by omega)]
    exact congrArg V3 e.symm
  have h6 := of_decide_eq_false h6
  refine And.intro (fun h7 => ?_) (fun h7 => ?_)
  · have h7 := of_decide_eq_true h7
    have e : fstS n = (4, 144, 191) := by unfold fstS; rw [if_neg (by omega), if_neg (by omega), if_neg (by omega), if_neg (by omega), if_neg (by omega), if_neg (by omega), if_pos (by omega)]
    exact congrArg V3 e.symm
  have h7 := of_decide_eq_false h7
  refine And.intro (fun h8 => ?_) (fun h8 => ?_)
  · have h8 := of_decide_eq_true h8
    have e : fstS n = (4, 128, 191) := by unfold fstS; rw [if_neg (by omega), if_neg (by omega), if_neg (by omega), if_neg (by omega), if_neg (by omega), if_neg (by omega), if_neg (by omega), if_pos (by omega)]
    exact congrArg V3 e.symm
  have h8 := of_decide_eq_false h8
  refine And.intro (fun h9 => ?_) (fun h9 => ?_)
  · have h9 := of_decide_eq_true h9
    have e : fstS n = (4, 128, 143) := by unfold fstS; rw [if_neg (by omega), if_neg (by omega), if_neg (by omega), if_neg (by omega), if_neg (by omega), if_neg (by omega), if_neg (by omega), if_neg (by omega), if_pos (by omega)]
    exact congrArg V3 e.symm
  have h9 := of_decide_eq_false h9
  have e : fstS n = (0, 0, 0) := by unfold fstS; rw [if_neg (by omega), if_neg (by omega), if_neg (by omega), if_neg (by omega), if_neg (by omega), if_neg (by omega), if_neg (by omega), if_neg (by omega), if_neg (by omega)]
  exact congrArg V3 e.symm
end Go.Proofs.Ytbaoelfpmdmhjaa
set_option maxRecDepth 100000
namespace Go.Proofs.Ytbaoelfpmdmhjaa
open Go.Ai

def okB (p : Nat × Nat × Nat) (j : Nat) (b : UInt8) : Bool := if j = 1 then decide (p.2.1 ≤ b.toNat) && decide (b.toNat ≤ p.2.2) else decide (128 ≤ b.toNat) && decide (b.toNat ≤ 191)
def okTo (p : Nat × Nat × Nat) (l : List UInt8) (n : Nat) : Prop := ∀ j, j < n → 1 ≤ j → okB p j (l.getD j 0) = true
instance (p : Nat × Nat × Nat) (l : List UInt8) (n : Nat) : Decidable (okTo p l n) := by unfold okTo; infer_instance
def begS (b : UInt8) (r : List UInt8) : Nat × Nat := if okTo (fstS b.toNat) (b :: r) (min (r.length + 1) (fstS b.toNat).1) then (min (r.length + 1) (fstS b.toNat).1, (fstS b.toNat).1) else (0, 0)
def V2 (p : Nat × Nat) : Value := .tuple #[.int .i64 p.1, .int .i64 p.2]
theorem begins_nil : ∀ h, CallOk Try.prog C 45 [str []] h (.ret (V2 (0, 0)) h) := by
  refine pure_wp CF rfl 6 3 (n := 50) (res := [.tmp 2, .tmp 3]) (c := codeOf Try.f45) rfl rfl rfl ?_
  first | (refine And.intro (fun _ => ?_) (fun h => Go.Ai.tf h)) | (refine And.intro (fun _ => ?_) (fun h => Go.Ai.ft h))
  rfl
theorem begins_ok (b : UInt8) (r : List UInt8) (hl : r.length < 4611686018427387904) : ∀ h, CallOk Try.prog C 45 [str (b :: r)] h (.ret (V2 (begS b r)) h) := by
  refine pure_wp CF rfl 6 3 (n := 50) (res := [.tmp 2, .tmp 3]) (c := codeOf Try.f45) rfl rfl rfl ?_
  first | (refine And.intro (fun h => Go.Ai.ft h) (fun _ => ?_)) | (refine And.intro (fun h => Go.Ai.tf h) (fun _ => ?_))
  refine And.intro ⟨by decide, ?_⟩ ?_
  · show (0 : Int) < ((r.length + 1 : Nat) : Int); omega
  refine CallW.of (first_ok b.toNat _) ?_
  refine loopW CF.tt rfl (fun hp (i : Nat) => ⟨tmOf 8 [(0, str (b :: r)), (4, .pointer (some ⟨0, 0, none⟩)), (5, .int .i64 i)], [], none, hp⟩) 1 (weak_live ⟨rfl, rfl, rfl, trivial⟩ rfl rfl rfl)
    (fun i => 10 - i) (fun i => 1 ≤ i ∧ i ≤ 9 ∧ okTo (fstS b.toNat) (b :: r) i) ⟨by omega, by omega, fun j h1 h2 => by omega⟩ ?body
  rintro i ⟨h1, h9, hi⟩
  have fin : okTo (fstS b.toNat) (b :: r) (min (r.length + 1) (fstS b.toNat).1) → Value.tuple #[.int .i64 (if ((fstS b.toNat).1 : Int) < ((r.length + 1 : Nat) : Int) then ((fstS b.toNat).1 : Int) else ((r.length + 1 : Nat) : Int)), .int .i64 (fstS b.toNat).1] = V2 (begS b r) := by
    intro hall
    have e : (if ((fstS b.toNat).1 : Int) < ((r.length + 1 : Nat) : Int) then ((fstS b.toNat).1 : Int) else ((r.length + 1 : Nat) : Int)) = ((min (r.length + 1) (fstS b.toNat).1 : Nat) : Int) := by split <;> omega
    unfold begS V2
    rw [if_pos hall, e]
  refine And.intro (fun h2 => ?_) (fun h2 => ?_)
  · have h2 : (i : Int) < ((fstS b.toNat).1 : Nat) := of_decide_eq_true h2
    repeat (first | (refine And.intro (fun _ => ?_) (fun h => Go.Ai.tf h)) | (refine And.intro (fun _ => ?_) (fun h => Go.Ai.ft h)) | (refine And.intro (fun h => Go.Ai.ft h) (fun _ => ?_)) | (refine And.intro (fun h => Go.Ai.tf h) (fun _ => ?_)))
    refine And.intro (fun h3 => ?_) (fun h3 => ?_)
    · have h3 : (i : Int) < ((r.length + 1 : Nat) : Int) := of_decide_eq_true h3
      have hix : (0 : Int) ≤ i ∧ (i : Int) < ((r.length + 1 : Nat) : Int) := ⟨by omega, h3⟩
      -- what a byte must be, and what follows when it is
      have good : okB (fstS b.toNat) i ((b :: r).getD i 0) = true → okTo (fstS b.toNat) (b :: r) (i + 1) := by
        intro hb j hj hj1
        by_cases e : j = i
        · rw [e]; exact hb
        · exact hi j (by omega) hj1
      have hk4 : (fstS b.toNat).1 ≤ 4 := by unfold fstS; (repeat' split) <;> simp
      have bad : okB (fstS b.toNat) i ((b :: r).getD i 0) = false → V2 (0, 0) = V2 (begS b r) := by
        intro hb
        unfold begS
        rw [if_neg]
        intro hall
        have := hall i (by omega) h1
        rw [hb] at this; cases this
      refine And.intro (fun h4 => ?_) (fun h4 => ?_)
      · have h4 : (i : Int) = 1 := of_decide_eq_true h4
        have e : i = 1 := by omega
        subst e
        refine And.intro hix ?_
        refine And.intro (fun g1 => ?_) (fun g1 => ?_)
        · have g1 : ¬ ((((b :: r).getD 1 0).toNat : Int) < (fstS b.toNat).2.1) := of_decide_eq_false g1
          repeat (first | (refine And.intro (fun _ => ?_) (fun h => Go.Ai.tf h)) | (refine And.intro (fun _ => ?_) (fun h => Go.Ai.ft h)) | (refine And.intro (fun h => Go.Ai.ft h) (fun _ => ?_)) | (refine And.intro (fun h => Go.Ai.tf h) (fun _ => ?_)))
          refine And.intro hix ?_
          repeat (first | (refine And.intro (fun _ => ?_) (fun h => Go.Ai.tf h)) | (refine And.intro (fun _ => ?_) (fun h => Go.Ai.ft h)) | (refine And.intro (fun h => Go.Ai.ft h) (fun _ => ?_)) | (refine And.intro (fun h => Go.Ai.tf h) (fun _ => ?_)))
          refine And.intro (fun g2 => ?_) (fun g2 => ?_)
          · have g2 : ((fstS b.toNat).2.2 : Int) < (((b :: r).getD 1 0).toNat : Int) := of_decide_eq_true g2
            refine bad ?_
            simp only [okB, if_pos, Bool.and_eq_false_iff, decide_eq_false_iff_not]
            right; omega
          · have g2 : ¬ ((fstS b.toNat).2.2 : Int) < (((b :: r).getD 1 0).toNat : Int) := of_decide_eq_false g2
            refine Or.inl (And.intro (inK_i64 (by first | omega | (simp only <;> omega) | (simp only [Array.size_setIfInBounds, Go.Ai.swp_size] <;> omega))) ?_)
            refine ⟨1 + 1, ⟨by omega, by omega, good ?_⟩, weak_live ⟨rfl, rfl, rfl, trivial⟩ rfl rfl rfl, by omega⟩
            simp only [okB, if_pos, Bool.and_eq_true, decide_eq_true_eq]
            omega
        · have g1 : ((((b :: r).getD 1 0).toNat : Int) < (fstS b.toNat).2.1) := of_decide_eq_true g1
          repeat (first | (refine And.intro (fun _ => ?_) (fun h => Go.Ai.tf h)) | (refine And.intro (fun _ => ?_) (fun h => Go.Ai.ft h)) | (refine And.intro (fun h => Go.Ai.ft h) (fun _ => ?_)) | (refine And.intro (fun h => Go.Ai.tf h) (fun _ => ?_)))
          refine bad ?_
          simp only [okB, if_pos, Bool.and_eq_false_iff, decide_eq_false_iff_not]
          left; omega
      · have h4 : ¬ (i : Int) = 1 := of_decide_eq_false h4
        refine And.intro hix ?_
        refine And.intro (fun g1 => ?_) (fun g1 => ?_)
        · have g1 : ¬ ((((b :: r).getD i 0).toNat : Int) < 128) := of_decide_eq_false g1
          repeat (first | (refine And.intro (fun _ => ?_) (fun h => Go.Ai.tf h)) | (refine And.intro (fun _ => ?_) (fun h => Go.Ai.ft h)) | (refine And.intro (fun h => Go.Ai.ft h) (fun _ => ?_)) | (refine And.intro (fun h => Go.Ai.tf h) (fun _ => ?_)))
          refine And.intro hix ?_
          repeat (first | (refine And.intro (fun _ => ?_) (fun h => Go.Ai.tf h)) | (refine And.intro (fun _ => ?_) (fun h => Go.Ai.ft h)) | (refine And.intro (fun h => Go.Ai.ft h) (fun _ => ?_)) | (refine And.intro (fun h => Go.Ai.tf h) (fun _ => ?_)))
          refine And.intro (fun g2 => ?_) (fun g2 => ?_)
          · have g2 : (191 : Int) < (((b :: r).getD i 0).toNat : Int) := of_decide_eq_true g2
            refine bad ?_
            simp only [okB]
            rw [if_neg (by omega)]
            simp only [Bool.and_eq_false_iff, decide_eq_false_iff_not]
            right; omega
          · have g2 : ¬ (191 : Int) < (((b :: r).getD i 0).toNat : Int) := of_decide_eq_false g2
            refine Or.inl (And.intro (inK_i64 (by first | omega | (simp only <;> omega) | (simp only [Array.size_setIfInBounds, Go.Ai.swp_size] <;> omega))) ?_)
            refine ⟨i + 1, ⟨by omega, by omega, good ?_⟩, weak_live ⟨rfl, rfl, rfl, trivial⟩ rfl rfl rfl, by omega⟩
            simp only [okB]
            rw [if_neg (by omega)]
            simp only [Bool.and_eq_true, decide_eq_true_eq]
            omega
        · have g1 : ((((b :: r).getD i 0).toNat : Int) < 128) := of_decide_eq_true g1
          repeat (first | (refine And.intro (fun _ => ?_) (fun h => Go.Ai.tf h)) | (refine And.intro (fun _ => ?_) (fun h => Go.Ai.ft h)) | (refine And.intro (fun h => Go.Ai.ft h) (fun _ => ?_)) | (refine And.intro (fun h => Go.Ai.tf h) (fun _ => ?_)))
          refine bad ?_
          simp only [okB]
          rw [if_neg (by omega)]
          simp only [Bool.and_eq_false_iff, decide_eq_false_iff_not]
          left; omega
    · have h3 : ¬ (i : Int) < ((r.length + 1 : Nat) : Int) := of_decide_eq_false h3
      exact fin fun j hj hj1 => hi j (by omega) hj1
  · have h2 : ¬ (i : Int) < ((fstS b.toNat).1 : Nat) := of_decide_eq_false h2
    repeat (first | (refine And.intro (fun _ => ?_) (fun h => Go.Ai.tf h)) | (refine And.intro (fun _ => ?_) (fun h => Go.Ai.ft h)) | (refine And.intro (fun h => Go.Ai.ft h) (fun _ => ?_)) | (refine And.intro (fun h => Go.Ai.tf h) (fun _ => ?_)))
    exact fin fun j hj hj1 => hi j (by omega) hj1
end Go.Proofs.Ytbaoelfpmdmhjaa
set_option maxRecDepth 100000

namespace Go.Proofs.Ytbaoelfpmdmhjaa
open Go.Ai

def sizeS : List UInt8 → Nat
  | [] => 0
  | b :: r => if (begS b r).1 < (begS b r).2 then 0 else (begS b r).2
theorem sizeS_cons (b : UInt8) (r : List UInt8) : sizeS (b :: r) = if (begS b r).1 < (begS b r).2 then 0 else (begS b r).2 := rfl
theorem sizeS_le : ∀ l, sizeS l ≤ l.length
  | [] => Nat.le_refl _
  | b :: r => by
    rw [sizeS_cons]
    unfold begS
    split
    · simp only [List.length_cons]
      split <;> omega
    · simp
theorem size_nil : ∀ h, CallOk Try.prog C 33 [str []] h (.ret (.int .i64 (sizeS [] : Nat)) h) := by
  refine pure_wp CF rfl 6 3 (n := 14) (res := [.tmp 2]) (c := codeOf Try.f33) rfl rfl rfl ?_
  refine CallW.of (begins_nil _) ?_
  first | (refine And.intro (fun h => Go.Ai.ft h) (fun _ => ?_)) | (refine And.intro (fun h => Go.Ai.tf h) (fun _ => ?_))
  rfl
theorem size_cons (b : UInt8) (r : List UInt8) (hl : r.length < 4611686018427387904) : ∀ h, CallOk Try.prog C 33 [str (b :: r)] h (.ret (.int .i64 (sizeS (b :: r) : Nat)) h) := by
  refine pure_wp CF rfl 6 3 (n := 14) (res := [.tmp 2]) (c := codeOf Try.f33) rfl rfl rfl ?_
  refine CallW.of (begins_ok b r hl _) ?_
  refine And.intro (fun h1 => ?_) (fun h1 => ?_)
  · have h1 : ((begS b r).1 : Int) < ((begS b r).2 : Nat) := of_decide_eq_true h1
    have e : sizeS (b :: r) = 0 := by rw [sizeS_cons]; rw [if_pos (by omega)]
    exact retI (by rw [e]; rfl)
  · have h1 : ¬ ((begS b r).1 : Int) < ((begS b r).2 : Nat) := of_decide_eq_false h1
    have e : sizeS (b :: r) = (begS b r).2 := by rw [sizeS_cons]; rw [if_neg (by omega)]
    exact retI (by rw [e])
theorem size_ok (l : List UInt8) (hl : l.length < 4611686018427387904) : ∀ h, CallOk Try.prog C 33 [str l] h (.ret (.int .i64 (sizeS l : Nat)) h) := by
  cases l with
  | nil => exact size_nil
  | cons b r => exact size_cons b r (by simp at hl; omega)

def validS : List UInt8 → Bool
  | [] => true
  | b :: r => if h : sizeS (b :: r) = 0 then false else validS ((b :: r).drop (sizeS (b :: r)))
  termination_by l => l.length
  decreasing_by simp; omega
theorem valid_ok (l : List UInt8) (hl : l.length < 4611686018427387904) : ∀ h, CallOk Try.prog C 15 [str l] h (.ret (.bool (validS l)) h) := by
  refine pure_wp CF rfl 6 3 (n := 13) (res := [.tmp 2]) (c := codeOf Try.f15) rfl rfl rfl ?_
  refine loopW CF.tt rfl (fun hp (l : List UInt8) => ⟨tmOf 6 [(0, str l)], [], none, hp⟩) l (weak_live ⟨rfl, trivial⟩ rfl rfl rfl)
    (fun l => l.length) (fun k => k.length < 4611686018427387904 ∧ validS l = validS k) ⟨hl, rfl⟩ ?_
  rintro k ⟨hk, e⟩
  cases k with
  | nil =>
    first | (refine And.intro (fun h => Go.Ai.ft h) (fun _ => ?_)) | (refine And.intro (fun h => Go.Ai.tf h) (fun _ => ?_))
    exact retB (by rw [e, validS])
  | cons b r =>
    first | (refine And.intro (fun _ => ?_) (fun h => Go.Ai.tf h)) | (refine And.intro (fun _ => ?_) (fun h => Go.Ai.ft h))
    refine CallW.of (size_ok _ hk _) ?_
    refine And.intro (fun h1 => ?_) (fun h1 => ?_)
    · have h1 : ((sizeS (b :: r) : Nat) : Int) = 0 := of_decide_eq_true h1
      refine retB ?_
      rw [e, validS, dif_pos (by omega)]
    · have h1 : ¬ ((sizeS (b :: r) : Nat) : Int) = 0 := of_decide_eq_false h1
      have hle := sizeS_le (b :: r)
      refine And.intro (show (0 : Int) ≤ (sizeS (b :: r) : Nat) ∧ ((sizeS (b :: r) : Nat) : Int) ≤ ((b :: r).length : Nat) ∧ (((b :: r).length : Nat) : Int) ≤ ((b :: r).length : Nat) by omega) ?_
      refine ⟨(b :: r).drop (sizeS (b :: r)), ⟨by simp at hk ⊢; omega, ?_⟩, weak_live ⟨?_, trivial⟩ rfl rfl rfl, by simp at hle ⊢; omega⟩
      · rw [e, validS, dif_neg (by omega)]
      · have e2 : ((b :: r).drop (sizeS (b :: r))).take ((b :: r).length - sizeS (b :: r)) = (b :: r).drop (sizeS (b :: r)) := List.take_of_length_le (by simp)
        exact congrArg (fun l => some (str l)) e2

def innerS (b : UInt8) : Bool := decide (128 ≤ b.toNat) && decide (b.toNat < 192)
theorem inner_tab : ((List.range 256).all fun n => decide (IntKind.u8.wrap ((BitVec.ofInt 8 (n : Int) &&& BitVec.ofInt 8 192).toNat : Int) = 128) == (decide (128 ≤ n) && decide (n < 192))) = true := by kernel_rfl
theorem inner_ok (b : UInt8) : ∀ h, CallOk Try.prog C 34 [.int .u8 b.toNat] h (.ret (.bool (innerS b)) h) := by
  refine pure_wp CF rfl 6 3 (n := 6) (res := [.tmp 2]) (c := codeOf Try.f34) rfl rfl rfl ?_
  have h := List.all_eq_true.1 inner_tab b.toNat (by have := b.toNat_lt; simpa using this)
  exact retB (eq_of_beq h)

end Go.Proofs.Ytbaoelfpmdmhjaa
set_option maxRecDepth 100000
namespace Go.Proofs.Ytbaoelfpmdmhjaa
open Go.Ai
def placeS (l : List UInt8) (p : Int) : Bool := decide (0 ≤ p) && (decide (p ≤ l.length) && ((decide (p = l.length) || !innerS (l.getD p.toNat 0)) && validS l))
theorem place_ok (l : List UInt8) (p : Int) (hl : l.length < 4611686018427387904) : ∀ h, CallOk Try.prog C 16 [str l, .int .i64 p] h (.ret (.bool (placeS l p)) h) := by
  refine pure_wp CF rfl 6 3 (n := 30) (res := [.tmp 4]) (c := codeOf Try.f16) rfl rfl rfl ?_
  refine And.intro (fun h1 => ?_) (fun h1 => ?_)
  · have h1 : (0 : Int) ≤ p := of_decide_eq_true h1
    repeat (first | (refine And.intro (fun _ => ?_) (fun h => Go.Ai.tf h)) | (refine And.intro (fun _ => ?_) (fun h => Go.Ai.ft h)) | (refine And.intro (fun h => Go.Ai.ft h) (fun _ => ?_)) | (refine And.intro (fun h => Go.Ai.tf h) (fun _ => ?_)))
    refine And.intro (fun h2 => ?_) (fun h2 => ?_)
    · have h2 : p ≤ (l.length : Nat) := of_decide_eq_true h2
      repeat (first | (refine And.intro (fun _ => ?_) (fun h => Go.Ai.tf h)) | (refine And.intro (fun _ => ?_) (fun h => Go.Ai.ft h)) | (refine And.intro (fun h => Go.Ai.ft h) (fun _ => ?_)) | (refine And.intro (fun h => Go.Ai.tf h) (fun _ => ?_)))
      refine And.intro (fun h3 => ?_) (fun h3 => ?_)
      · have h3 : ¬ p = (l.length : Nat) := of_decide_eq_false h3
        repeat (first | (refine And.intro (fun _ => ?_) (fun h => Go.Ai.tf h)) | (refine And.intro (fun _ => ?_) (fun h => Go.Ai.ft h)) | (refine And.intro (fun h => Go.Ai.ft h) (fun _ => ?_)) | (refine And.intro (fun h => Go.Ai.tf h) (fun _ => ?_)))
        refine And.intro (show (0 : Int) ≤ p ∧ p < (l.length : Nat) by omega) ?_
        repeat (first | (refine And.intro (fun _ => ?_) (fun h => Go.Ai.tf h)) | (refine And.intro (fun _ => ?_) (fun h => Go.Ai.ft h)) | (refine And.intro (fun h => Go.Ai.ft h) (fun _ => ?_)) | (refine And.intro (fun h => Go.Ai.tf h) (fun _ => ?_)))
        refine CallW.of (inner_ok _ _) ?_
        repeat (first | (refine And.intro (fun _ => ?_) (fun h => Go.Ai.tf h)) | (refine And.intro (fun _ => ?_) (fun h => Go.Ai.ft h)) | (refine And.intro (fun h => Go.Ai.ft h) (fun _ => ?_)) | (refine And.intro (fun h => Go.Ai.tf h) (fun _ => ?_)))
        refine And.intro (fun h4 => ?_) (fun h4 => ?_)
        · have h4 : (!innerS (l.getD p.toNat 0)) = true := h4
          repeat (first | (refine And.intro (fun _ => ?_) (fun h => Go.Ai.tf h)) | (refine And.intro (fun _ => ?_) (fun h => Go.Ai.ft h)) | (refine And.intro (fun h => Go.Ai.ft h) (fun _ => ?_)) | (refine And.intro (fun h => Go.Ai.tf h) (fun _ => ?_)))
          refine CallW.of (valid_ok l hl _) ?_
          repeat (first | (refine And.intro (fun _ => ?_) (fun h => Go.Ai.tf h)) | (refine And.intro (fun _ => ?_) (fun h => Go.Ai.ft h)) | (refine And.intro (fun h => Go.Ai.ft h) (fun _ => ?_)) | (refine And.intro (fun h => Go.Ai.tf h) (fun _ => ?_)))
          refine retB ?_
          show validS l = placeS l p
          have h4' : innerS (l.getD p.toNat 0) = false := by simpa using h4
          unfold placeS
          rw [decide_eq_true h1, decide_eq_true h2, decide_eq_false h3, h4']
          rfl
        · have h4 : (!innerS (l.getD p.toNat 0)) = false := h4
          repeat (first | (refine And.intro (fun _ => ?_) (fun h => Go.Ai.tf h)) | (refine And.intro (fun _ => ?_) (fun h => Go.Ai.ft h)) | (refine And.intro (fun h => Go.Ai.ft h) (fun _ => ?_)) | (refine And.intro (fun h => Go.Ai.tf h) (fun _ => ?_)))
          refine retB ?_
          show false = placeS l p
          have h4' : innerS (l.getD p.toNat 0) = true := by simpa using h4
          unfold placeS
          rw [decide_eq_true h1, decide_eq_true h2, decide_eq_false h3, h4']
          rfl
      · have h3 : p = (l.length : Nat) := of_decide_eq_true h3
        repeat (first | (refine And.intro (fun _ => ?_) (fun h => Go.Ai.tf h)) | (refine And.intro (fun _ => ?_) (fun h => Go.Ai.ft h)) | (refine And.intro (fun h => Go.Ai.ft h) (fun _ => ?_)) | (refine And.intro (fun h => Go.Ai.tf h) (fun _ => ?_)))
        refine CallW.of (valid_ok l hl _) ?_
        repeat (first | (refine And.intro (fun _ => ?_) (fun h => Go.Ai.tf h)) | (refine And.intro (fun _ => ?_) (fun h => Go.Ai.ft h)) | (refine And.intro (fun h => Go.Ai.ft h) (fun _ => ?_)) | (refine And.intro (fun h => Go.Ai.tf h) (fun _ => ?_)))
        refine retB ?_
        show validS l = placeS l p
        simp [placeS, h3]
    · have h2 : ¬ p ≤ (l.length : Nat) := of_decide_eq_false h2
      repeat (first | (refine And.intro (fun _ => ?_) (fun h => Go.Ai.tf h)) | (refine And.intro (fun _ => ?_) (fun h => Go.Ai.ft h)) | (refine And.intro (fun h => Go.Ai.ft h) (fun _ => ?_)) | (refine And.intro (fun h => Go.Ai.tf h) (fun _ => ?_)))
      refine retB ?_
      show false = placeS l p
      simp [placeS, h1, h2]
  · have h1 : ¬ (0 : Int) ≤ p := of_decide_eq_false h1
    repeat (first | (refine And.intro (fun _ => ?_) (fun h => Go.Ai.tf h)) | (refine And.intro (fun _ => ?_) (fun h => Go.Ai.ft h)) | (refine And.intro (fun h => Go.Ai.ft h) (fun _ => ?_)) | (refine And.intro (fun h => Go.Ai.tf h) (fun _ => ?_)))
    refine retB ?_
    show false = placeS l p
    simp [placeS, h1]
end Go.Proofs.Ytbaoelfpmdmhjaa
set_option maxRecDepth 100000
namespace Go.Proofs.Ytbaoelfpmdmhjaa
open Go.Ai
/-! ### strings -/
theorem liteByte_ok (l : List UInt8) (c : UInt8) : ∀ h, CallOk Try.prog C 41 [str l, .int .u8 c.toNat] h (.ret (.int .i64 (Go.Lib.indexByte l c)) h) := by
  refine pure_wp CF rfl 6 3 (n := 8) (res := [.tmp 4]) (c := codeOf Try.f41) rfl rfl rfl ?_
  refine CallW.of (indexByte_call CF rfl l c _) ?_
  rfl
theorem stringsByte_ok (l : List UInt8) (c : UInt8) : ∀ h, CallOk Try.prog C 28 [str l, .int .u8 c.toNat] h (.ret (.int .i64 (Go.Lib.indexByte l c)) h) := by
  refine pure_wp CF rfl 6 3 (n := 8) (res := [.tmp 4]) (c := codeOf Try.f28) rfl rfl rfl ?_
  refine CallW.of (liteByte_ok l c _) ?_
  rfl
theorem liteIndex_one (l : List UInt8) (c : UInt8) : ∀ h, CallOk Try.prog C 35 [str l, str [c]] h (.ret (.int .i64 (Go.Lib.indexByte l c)) h) := by
  refine pure_wp CF rfl 6 3 (n := 143) (res := [.tmp 4]) (c := codeOf Try.f35) rfl rfl rfl ?_
  repeat (first | (refine And.intro (fun _ => ?_) (fun h => Go.Ai.tf h)) | (refine And.intro (fun _ => ?_) (fun h => Go.Ai.ft h)) | (refine And.intro (fun h => Go.Ai.ft h) (fun _ => ?_)) | (refine And.intro (fun h => Go.Ai.tf h) (fun _ => ?_)))
  refine And.intro (fun h1 => ?_) (fun h1 => ?_)
  · have h1 : [c] = l := of_decide_eq_true h1
    refine retI ?_
    rw [← h1]; simp [Go.Lib.indexByte]
  first | (refine And.intro (fun _ => ?_) (fun h => Go.Ai.tf h)) | (refine And.intro (fun _ => ?_) (fun h => Go.Ai.ft h))
  refine And.intro (show (0 : Int) ≤ 0 ∧ (0 : Int) < 1 by omega) ?_
  refine CallW.of (liteByte_ok l c _) ?_
  rfl
theorem index_one (l : List UInt8) (c : UInt8) : ∀ h, CallOk Try.prog C 17 [str l, str [c]] h (.ret (.int .i64 (Go.Lib.indexByte l c)) h) := by
  refine pure_wp CF rfl 6 3 (n := 8) (res := [.tmp 4]) (c := codeOf Try.f17) rfl rfl rfl ?_
  refine CallW.of (liteIndex_one l c _) ?_
  rfl
theorem count_one (l : List UInt8) (c : UInt8) : ∀ h, CallOk Try.prog C 40 [str l, str [c]] h (.ret (.int .i64 (Go.Lib.countByte l c : Nat)) h) := by
  refine pure_wp CF rfl 6 3 (n := 34) (res := [.tmp 4]) (c := codeOf Try.f40) rfl rfl rfl ?_
  first | (refine And.intro (fun h => Go.Ai.ft h) (fun _ => ?_)) | (refine And.intro (fun h => Go.Ai.tf h) (fun _ => ?_))
  first | (refine And.intro (fun _ => ?_) (fun h => Go.Ai.tf h)) | (refine And.intro (fun _ => ?_) (fun h => Go.Ai.ft h))
  refine And.intro (show (0 : Int) ≤ 0 ∧ (0 : Int) < 1 by omega) ?_
  refine CallW.of (count_call CF rfl l c _) ?_
  rfl
theorem of_ok (l : List UInt8) (p : Int) (hl : l.length < 4611686018427387904) (h1 : 0 ≤ p) (h2 : p ≤ l.length) (hv : validS l = true) : ∀ h, CallOk Try.prog C 26 [str l, .int .i64 p] h (.ret (.int .i64 (Go.Lib.countByte (l.take p.toNat) 10 : Nat)) h) := by
  refine pure_wp CF rfl 6 3 (n := 22) (res := [.tmp 4]) (c := codeOf Try.f26) rfl rfl rfl ?_
  refine And.intro (fun g1 => ?_) (fun g1 => ?_)
  · have g1 : ¬ p < 0 := of_decide_eq_false g1
    repeat (first | (refine And.intro (fun _ => ?_) (fun h => Go.Ai.tf h)) | (refine And.intro (fun _ => ?_) (fun h => Go.Ai.ft h)) | (refine And.intro (fun h => Go.Ai.ft h) (fun _ => ?_)) | (refine And.intro (fun h => Go.Ai.tf h) (fun _ => ?_)))
    refine And.intro (fun g2 => ?_) (fun g2 => ?_)
    · have g2 : ¬ (l.length : Int) < p := of_decide_eq_false g2
      repeat (first | (refine And.intro (fun _ => ?_) (fun h => Go.Ai.tf h)) | (refine And.intro (fun _ => ?_) (fun h => Go.Ai.ft h)) | (refine And.intro (fun h => Go.Ai.ft h) (fun _ => ?_)) | (refine And.intro (fun h => Go.Ai.tf h) (fun _ => ?_)))
      refine CallW.of (valid_ok l hl _) ?_
      rw [hv]
      repeat (first | (refine And.intro (fun _ => ?_) (fun h => Go.Ai.tf h)) | (refine And.intro (fun _ => ?_) (fun h => Go.Ai.ft h)) | (refine And.intro (fun h => Go.Ai.ft h) (fun _ => ?_)) | (refine And.intro (fun h => Go.Ai.tf h) (fun _ => ?_)))
      refine And.intro (show (0 : Int) ≤ 0 ∧ (0 : Int) ≤ p ∧ p ≤ (l.length : Nat) by omega) ?_
      refine CallW.of (count_one _ 10 _) ?_
      rfl
    · have g2 : (l.length : Int) < p := of_decide_eq_true g2
      omega
  · have g1 : p < 0 := of_decide_eq_true g1
    omega
end Go.Proofs.Ytbaoelfpmdmhjaa
set_option maxRecDepth 100000
namespace Go.Proofs.Ytbaoelfpmdmhjaa
open Go.Ai
/-! ### lines -/
theorem all_ok (l : List UInt8) (h : H) : CallOk Try.prog C 60 [str l] h (.ret (.func (.func 73) #[] #[.pointer (some ⟨h.ctr, 0, none⟩)]) (nrm (newCells h [str l] 9))) := by
  refine fn_wp CF rfl (n := 4) (res := [.tmp 2]) (c := codeOf Try.f60) rfl ?_
  refine ⟨rfl, ?_⟩
  simp only [nrm_eq]
  rfl
/-- what lies in memory while find looks line by line: the number sought, the results, how many lines there were, the text, the loop -/
noncomputable def tmF : T Value := tmOf 6 [(3, ptr 0), (4, ptr 1), (5, ptr 2), (6, ptr 3), (7, ptr 4), (14, .func (.func 73) #[] #[ptr 5])]
noncomputable def hF (l : List UInt8) (k n a b : Int) (ok : Bool) (st : LoopState) (pe : Option Code) (low : Nat) : H :=
  ⟨tree8 (some (.cells [.int .i64 k] 3 0 0)) (some (.cells [.int .i64 a] 3 1 0)) (some (.cells [.int .i64 b] 3 2 0)) (some (.cells [.bool ok] 4 3 0)) (some (.cells [.int .i64 n] 3 4 0)) (some (.cells [str l] 9 5 0)) (some (.defd true))
    (some (.loop st pe tmF [15, 16] (asgIn (codeOf Try.f39)) (bdyIn (codeOf Try.f39)) 6)), 8, low⟩
theorem roundF_no (l : List UInt8) (k n at' to : Int) (hne : n ≠ k) (h0 : 0 ≤ n) (h1 : n < 9223372036854775807) : RoundOk Try.prog C 7 [.int .i64 at', .int .i64 to] (hF l k n 0 0 false .ready none 4) (.ret (.bool true) (hF l k (n + 1) 0 0 false .ready none 4)) := by
  refine roundW_ok CF.tt (Nat.zero_le _) ?_
  refine And.intro (fun h2 => ?_) (fun h2 => ?_)
  · exact absurd (of_decide_eq_true h2) hne
  · refine Or.inl (And.intro (inK_i64 (by first | omega | (simp only <;> omega) | (simp only [Array.size_setIfInBounds, Go.Ai.swp_size] <;> omega))) ?_)
    exact ⟨rfl, rfl⟩
theorem roundF_yes (l : List UInt8) (k at' to : Int) : RoundOk Try.prog C 7 [.int .i64 at', .int .i64 to] (hF l k k 0 0 false .ready none 4) (.ret (.bool false) (hF l k k at' to true .done (some .ret) 1)) := by
  refine roundW_ok CF.tt (Nat.zero_le _) ?_
  refine And.intro (fun h2 => ?_) (fun h2 => ?_)
  · exact ⟨rfl, rfl⟩
  · exact absurd rfl (of_decide_eq_false h2)

theorem allLoop_ok (l : List UInt8) (p : Nat) (hp : p ≤ l.length) (hl : l.length < 4611686018427387904) :
    CallOk Try.prog C 73 [.func (.yield 7) #[] #[], ptr 5] (hF l (Go.Lib.countByte (l.take p) 10 : Nat) 0 0 0 false .ready none 4)
      (.ret (.tuple #[]) (hF l (Go.Lib.countByte (l.take p) 10 : Nat) (Go.Lib.countByte (l.take p) 10 : Nat) (bol l p : Nat) (eol l p : Nat) true .done (some .ret) 1)) := by
  refine fn_wp CF rfl (n := 27) (res := []) (c := codeOf Try.f73) rfl ?_
  refine loopW CF.tt rfl (hp := h00 0) (fun _ (x : Nat × Nat) => ⟨tmOf 6 [(0, .func (.yield 7) #[] #[]), (1, ptr 5), (3, .int .i64 x.1)], [], none, hF l (Go.Lib.countByte (l.take p) 10 : Nat) x.2 0 0 false .ready none 4⟩) (0, 0) (weak_live ⟨rfl, rfl, rfl, trivial⟩ rfl rfl rfl)
    (fun x => l.length + 1 - x.1) (fun x => x.1 ≤ p ∧ x.2 = Go.Lib.countByte (l.take x.1) 10 ∧ (x.1 = 0 ∨ l.getD (x.1 - 1) 0 = 10)) ⟨Nat.zero_le _, rfl, .inl rfl⟩ ?_
  rintro ⟨a, n⟩ ⟨hap, hn, hst⟩
  simp only at hap hn hst
  have hc := count_split l 10 hap
  refine And.intro (show (0 : Int) ≤ a ∧ (a : Int) ≤ (l.length : Nat) ∧ ((l.length : Nat) : Int) ≤ (l.length : Nat) by omega) ?_
  have hidx : ∀ h, CallOk Try.prog C 17 [str ((l.drop a).take (l.length - a)), str [10]] h (.ret (.int .i64 (Go.Lib.indexByte (l.drop a) 10)) h) := by
    intro h; rw [drop_take_all]; exact index_one _ 10 h
  refine CallW.of (hidx _) ?_
  have hcl : Go.Lib.countByte (l.take a) 10 ≤ a := Nat.le_trans List.count_le_length (by simp; omega)
  rcases indexByte_spec (l.drop a) 10 with ⟨e, hno⟩ | ⟨j, e, hj, hat, hno⟩
  · rw [e]
    first | (refine And.intro (fun _ => ?_) (fun h => Go.Ai.tf h)) | (refine And.intro (fun _ => ?_) (fun h => Go.Ai.ft h))
    have hk : Go.Lib.countByte ((l.drop a).take (p - a)) 10 = 0 := count_zero.2 fun h => hno (List.mem_of_mem_take h)
    have hk : n = Go.Lib.countByte (l.take p) 10 := by omega
    subst hk
    have he : eol l p = l.length := by
      refine eol_of l hp ?_ (.inl rfl)
      intro h
      have h2 := List.mem_of_mem_take h
      have h3 : (10 : UInt8) ∈ (l.drop a).drop (p - a) := by
        rw [List.drop_drop, show a + (p - a) = p by omega]; exact h2
      exact hno (List.mem_of_mem_drop h3)
    have hb : bol l p = a := bol_of l hp hap (fun h => hno (List.mem_of_mem_take h)) hst
    rw [he, hb]
    refine ⟨_, _, roundF_yes l _ (a : Nat) (l.length : Nat), ?_⟩
    exact ⟨rfl, rfl⟩
  · rw [e]
    simp only [List.length_drop] at hj
    rw [getD_drop'] at hat
    first | (refine And.intro (fun h => Go.Ai.ft h) (fun _ => ?_)) | (refine And.intro (fun h => Go.Ai.tf h) (fun _ => ?_))
    refine Or.inl (And.intro (inK_i64 (by first | omega | (simp only <;> omega) | (simp only [Array.size_setIfInBounds, Go.Ai.swp_size] <;> omega))) ?_)
    by_cases hk : n = Go.Lib.countByte (l.take p) 10
    · have hz : Go.Lib.countByte ((l.drop a).take (p - a)) 10 = 0 := by omega
      have hz := count_zero.1 hz
      have hpj : p ≤ a + j := by
        by_cases h : p ≤ a + j
        · exact h
        · exfalso
          apply hz
          rw [List.mem_iff_getElem?]
          refine ⟨j, ?_⟩
          rw [List.getElem?_take, if_pos (by omega), List.getElem?_drop, List.getElem?_eq_getElem (by omega)]
          rw [← hat, List.getD_eq_getElem?_getD, List.getElem?_eq_getElem (by omega)]
          rfl
      subst hk
      have he : eol l p = a + j := eol_of l hpj (by
        intro h
        apply hno
        have h2 : (10 : UInt8) ∈ ((l.drop a).take j).drop (p - a) := by
          rw [List.drop_take, List.drop_drop, show a + (p - a) = p by omega, show j - (p - a) = a + j - p by omega]; exact h
        exact List.mem_of_mem_drop h2) (.inr ⟨by omega, hat⟩)
      have hb : bol l p = a := bol_of l hp hap hz hst
      rw [he, hb]
      refine ⟨_, _, roundF_yes l _ (a : Nat) (a + j : Nat), ?_⟩
      first | (refine And.intro (fun _ => ?_) (fun h => Go.Ai.tf h)) | (refine And.intro (fun _ => ?_) (fun h => Go.Ai.ft h))
      exact ⟨rfl, rfl⟩
    · have hpj : a + j < p := by
        by_cases h : a + j < p
        · exact h
        · exfalso
          apply hk
          have hz : Go.Lib.countByte ((l.drop a).take (p - a)) 10 = 0 := count_zero.2 (by
            intro h2
            apply hno
            have : (l.drop a).take (p - a) = ((l.drop a).take j).take (p - a) := by rw [List.take_take, Nat.min_eq_left (by omega)]
            rw [this] at h2
            exact List.mem_of_mem_take h2)
          omega
      refine ⟨_, _, roundF_no l _ n (a : Nat) (a + j : Nat) (by omega) (by omega) (by omega), ?_⟩
      first | (refine And.intro (fun h => Go.Ai.ft h) (fun _ => ?_)) | (refine And.intro (fun h => Go.Ai.tf h) (fun _ => ?_))
      refine Or.inl (And.intro (inK_i64 (by first | omega | (simp only <;> omega) | (simp only [Array.size_setIfInBounds, Go.Ai.swp_size] <;> omega))) ?_)
      refine Or.inl (And.intro (inK_i64 (by first | omega | (simp only <;> omega) | (simp only [Array.size_setIfInBounds, Go.Ai.swp_size] <;> omega))) ?_)
      refine ⟨(a + j + 1, n + 1), ⟨by omega, ?_, .inr hat⟩, weak_live ⟨rfl, rfl, ?_, trivial⟩ rfl rfl rfl, by simp only; omega⟩
      · have h1 := count_split l 10 (show a ≤ a + j + 1 by omega)
        have h2 : Go.Lib.countByte ((l.drop a).take (a + j + 1 - a)) 10 = 1 := by
          rw [show a + j + 1 - a = j + 1 by omega, List.take_succ_eq_append_getElem (by simp; omega)]
          have h3 : (l.drop a)[j]'(by simp; omega) = 10 := by
            rw [List.getElem_drop, ← hat, List.getD_eq_getElem?_getD, List.getElem?_eq_getElem (by omega)]
            rfl
          unfold Go.Lib.countByte at *
          rw [List.count_append, h3]
          have := count_zero.2 hno
          unfold Go.Lib.countByte at this
          rw [this]
          rfl
        simp only
        omega
      · refine congrArg (fun z => some (Value.int .i64 z)) ?_
        show (a : Int) + ((j : Int) + 1) = ((a + j + 1 : Nat) : Int)
        omega
end Go.Proofs.Ytbaoelfpmdmhjaa
set_option maxRecDepth 100000
namespace Go.Proofs.Ytbaoelfpmdmhjaa
open Go.Ai
theorem find_ok (l : List UInt8) (p : Nat) (hp : p ≤ l.length) (hl : l.length < 4611686018427387904) (hv : validS l = true) :
    ∀ h, CallOk Try.prog C 39 [str l, .int .i64 (Go.Lib.countByte (l.take p) 10 : Nat)] h (.ret (.tuple #[.int .i64 (bol l p : Nat), .int .i64 (eol l p : Nat), .bool true]) h) := by
  refine pure_wp CF rfl 4 3 (n := 24) (res := [.cell 4 3, .cell 5 3, .cell 6 4]) (c := codeOf Try.f39) rfl rfl rfl ?_
  refine CallW.of (valid_ok l hl _) ?_
  rw [hv]
  first | (refine And.intro (fun h => Go.Ai.ft h) (fun _ => ?_)) | (refine And.intro (fun h => Go.Ai.tf h) (fun _ => ?_))
  refine CallW.of (all_ok l _) ?_
  refine TB.weak (weak_live (d := 6) (l := [(3, ptr 0), (4, ptr 1), (5, ptr 2), (6, ptr 3), (7, ptr 4), (14, .func (.func 73) #[] #[ptr 5])])
    (hp := ⟨tree8 (some (.cells [.int .i64 (Go.Lib.countByte (l.take p) 10 : Nat)] 3 0 0)) (some (.cells [.int .i64 0] 3 1 0)) (some (.cells [.int .i64 0] 3 2 0)) (some (.cells [.bool false] 4 3 0)) (some (.cells [.int .i64 0] 3 4 0)) (some (.cells [str l] 9 5 0)) none none, 6, 4⟩) ⟨rfl, rfl, rfl, rfl, rfl, rfl, trivial⟩ rfl rfl rfl) ?_
  refine TB.range ?_
  refine CallW.of (allLoop_ok l p hp hl) ?_
  rfl
theorem end_ok (l : List UInt8) (p : Nat) (hp : p ≤ l.length) (hl : l.length < 4611686018427387904) (hv : validS l = true) :
    ∀ h, CallOk Try.prog C 25 [str l, .int .i64 (Go.Lib.countByte (l.take p) 10 : Nat)] h (.ret (.int .i64 (eol l p : Nat)) h) := by
  refine pure_wp CF rfl 6 3 (n := 16) (res := [.tmp 4]) (c := codeOf Try.f25) rfl rfl rfl ?_
  refine CallW.of (find_ok l p hp hl hv _) ?_
  rfl
end Go.Proofs.Ytbaoelfpmdmhjaa
set_option maxRecDepth 100000
namespace Go.Proofs.Ytbaoelfpmdmhjaa
open Go.Ai
def isBr (b : UInt8) : Bool := decide (b.toNat = 40) || decide (b.toNat = 91) || decide (b.toNat = 123) || decide (b.toNat = 41) || decide (b.toNat = 93) || decide (b.toNat = 125)
def brIdx (l : List UInt8) : Int := match l.findIdx? isBr with | some i => i | none => -1
theorem brIdx_at {l : List UInt8} {p : Nat} (hp : p < l.length) (h1 : isBr (l.getD p 0) = true) (h2 : ∀ i, i < p → isBr (l.getD i 0) = false) : brIdx l = p := by
  have : l.findIdx? isBr = some p := by
    rw [List.findIdx?_eq_some_iff_getElem]
    refine ⟨hp, ?_, fun j hj => ?_⟩
    · rw [List.getD_eq_getElem?_getD, List.getElem?_eq_getElem hp] at h1; exact h1
    · have := h2 j hj
      rw [List.getD_eq_getElem?_getD, List.getElem?_eq_getElem (by omega)] at this
      simpa using this
  unfold brIdx
  rw [this]
theorem brIdx_none {l : List UInt8} (h2 : ∀ i, i < l.length → isBr (l.getD i 0) = false) : brIdx l = -1 := by
  have : l.findIdx? isBr = none := by
    rw [List.findIdx?_eq_none_iff]
    intro x hx
    obtain ⟨i, hi, rfl⟩ := List.getElem_of_mem hx
    have := h2 i hi
    rw [List.getD_eq_getElem?_getD, List.getElem?_eq_getElem hi] at this
    exact this
  unfold brIdx
  rw [this]
theorem anyAt_ok (l : List UInt8) (hl : l.length < 4611686018427387904) : ∀ h, CallOk Try.prog C 27 [str l, str [40, 91, 123, 41, 93, 125]] h (.ret (.int .i64 (brIdx l)) h) := by
  refine pure_wp CF rfl 4 3 (n := 24) (res := [.tmp 4]) (c := codeOf Try.f27) rfl rfl rfl ?_
  refine loopV CF.tt rfl (fun pos : Nat => ⟨tmOf 6 [(1, str [40, 91, 123, 41, 93, 125]), (10, ptr 0)], [], none, ⟨tree8 (some (.iter ⟨⟨l⟩⟩ pos)) none none none none none none none, 1, 0⟩⟩) 0
    (weak_ren (L := [0]) ⟨⟨_, rfl, rfl⟩, ⟨_, rfl, rfl⟩, trivial⟩ ⟨⟨⟨rfl, rfl⟩, Nat.zero_le _, fun _ => rfl⟩, trivial⟩ rfl (by decide) rfl rfl (Nat.zero_le _))
    (fun pos => l.length - pos) (fun pos => pos ≤ l.length ∧ ∀ i, i < pos → isBr (l.getD i 0) = false) ⟨Nat.zero_le _, fun i hi => by omega⟩ ?_
  rintro pos ⟨hpos, hno⟩
  refine And.intro (fun hlt => ?_) (fun hlt => ?_)
  · have hlt : pos < l.length := hlt
    first | (refine And.intro (fun _ => ?_) (fun h => Go.Ai.tf h)) | (refine And.intro (fun _ => ?_) (fun h => Go.Ai.ft h))
    have hds := decode_spec l pos hlt
    have found : ((Utf8.decode ⟨⟨l⟩⟩ pos).1 : Int) = 40 ∨ ((Utf8.decode ⟨⟨l⟩⟩ pos).1 : Int) = 91 ∨ ((Utf8.decode ⟨⟨l⟩⟩ pos).1 : Int) = 123 ∨ ((Utf8.decode ⟨⟨l⟩⟩ pos).1 : Int) = 41 ∨ ((Utf8.decode ⟨⟨l⟩⟩ pos).1 : Int) = 93 ∨ ((Utf8.decode ⟨⟨l⟩⟩ pos).1 : Int) = 125 →
        Value.int .i64 pos = Value.int .i64 (brIdx l) := by
      intro hr
      refine retI ?_
      rcases hds with ⟨hb, hd⟩ | ⟨hb, h1, _⟩
      · rw [hd] at hr
        simp only at hr
        rw [brIdx_at hlt (by simp only [isBr, Bool.or_eq_true, decide_eq_true_eq]; omega) hno]
      · omega
    refine TB.ofLB (LB.nextW CF.tt rfl ?_)
    refine And.intro (fun _ => ?_) (fun h => by have h : 6 ≤ 0 := h; omega)
    first | (refine And.intro (fun _ => ?_) (fun h => Go.Ai.tf h)) | (refine And.intro (fun _ => ?_) (fun h => Go.Ai.ft h))
    refine And.intro (fun c0 => ?_) (fun c0 => ?_)
    · have c0 : ((Utf8.decode ⟨⟨l⟩⟩ pos).1 : Int) = 40 := of_decide_eq_true c0
      exact found (by omega)
    have c0 : ¬ ((Utf8.decode ⟨⟨l⟩⟩ pos).1 : Int) = 40 := of_decide_eq_false c0
    refine LB.nextW CF.tt rfl ?_
    refine And.intro (fun _ => ?_) (fun h => by have h : 6 ≤ 1 := h; omega)
    first | (refine And.intro (fun _ => ?_) (fun h => Go.Ai.tf h)) | (refine And.intro (fun _ => ?_) (fun h => Go.Ai.ft h))
    refine And.intro (fun c1 => ?_) (fun c1 => ?_)
    · have c1 : ((Utf8.decode ⟨⟨l⟩⟩ pos).1 : Int) = 91 := of_decide_eq_true c1
      exact found (by omega)
    have c1 : ¬ ((Utf8.decode ⟨⟨l⟩⟩ pos).1 : Int) = 91 := of_decide_eq_false c1
    refine LB.nextW CF.tt rfl ?_
    refine And.intro (fun _ => ?_) (fun h => by have h : 6 ≤ 2 := h; omega)
    first | (refine And.intro (fun _ => ?_) (fun h => Go.Ai.tf h)) | (refine And.intro (fun _ => ?_) (fun h => Go.Ai.ft h))
    refine And.intro (fun c2 => ?_) (fun c2 => ?_)
    · have c2 : ((Utf8.decode ⟨⟨l⟩⟩ pos).1 : Int) = 123 := of_decide_eq_true c2
      exact found (by omega)
    have c2 : ¬ ((Utf8.decode ⟨⟨l⟩⟩ pos).1 : Int) = 123 := of_decide_eq_false c2
    refine LB.nextW CF.tt rfl ?_
    refine And.intro (fun _ => ?_) (fun h => by have h : 6 ≤ 3 := h; omega)
    first | (refine And.intro (fun _ => ?_) (fun h => Go.Ai.tf h)) | (refine And.intro (fun _ => ?_) (fun h => Go.Ai.ft h))
    refine And.intro (fun c3 => ?_) (fun c3 => ?_)
    · have c3 : ((Utf8.decode ⟨⟨l⟩⟩ pos).1 : Int) = 41 := of_decide_eq_true c3
      exact found (by omega)
    have c3 : ¬ ((Utf8.decode ⟨⟨l⟩⟩ pos).1 : Int) = 41 := of_decide_eq_false c3
    refine LB.nextW CF.tt rfl ?_
    refine And.intro (fun _ => ?_) (fun h => by have h : 6 ≤ 4 := h; omega)
    first | (refine And.intro (fun _ => ?_) (fun h => Go.Ai.tf h)) | (refine And.intro (fun _ => ?_) (fun h => Go.Ai.ft h))
    refine And.intro (fun c4 => ?_) (fun c4 => ?_)
    · have c4 : ((Utf8.decode ⟨⟨l⟩⟩ pos).1 : Int) = 93 := of_decide_eq_true c4
      exact found (by omega)
    have c4 : ¬ ((Utf8.decode ⟨⟨l⟩⟩ pos).1 : Int) = 93 := of_decide_eq_false c4
    refine LB.nextW CF.tt rfl ?_
    refine And.intro (fun _ => ?_) (fun h => by have h : 6 ≤ 5 := h; omega)
    first | (refine And.intro (fun _ => ?_) (fun h => Go.Ai.tf h)) | (refine And.intro (fun _ => ?_) (fun h => Go.Ai.ft h))
    refine And.intro (fun c5 => ?_) (fun c5 => ?_)
    · have c5 : ((Utf8.decode ⟨⟨l⟩⟩ pos).1 : Int) = 125 := of_decide_eq_true c5
      exact found (by omega)
    have c5 : ¬ ((Utf8.decode ⟨⟨l⟩⟩ pos).1 : Int) = 125 := of_decide_eq_false c5
    refine LB.nextW CF.tt rfl ?_
    refine And.intro (fun h => by have h : 6 < 6 := h; omega) (fun _ => ?_)
    first | (refine And.intro (fun h => Go.Ai.ft h) (fun _ => ?_)) | (refine And.intro (fun h => Go.Ai.tf h) (fun _ => ?_))
    rcases hds with ⟨hb, hd⟩ | ⟨hb, h1, h2, h3, h4⟩
    · rw [hd] at c0 c1 c2 c3 c4 c5
      simp only at c0 c1 c2 c3 c4 c5
      refine ⟨pos + 1, ⟨by omega, fun i hi => ?_⟩, weak_ren (L := [0]) ⟨⟨_, rfl, rfl⟩, ⟨_, rfl, rfl⟩, trivial⟩ ⟨⟨⟨rfl, ?_⟩, Nat.zero_le _, fun _ => rfl⟩, trivial⟩ rfl (by decide) rfl rfl (Nat.zero_le _), by omega⟩
      · by_cases e : i = pos
        · subst e
          simp only [isBr, Bool.or_eq_false_iff, decide_eq_false_iff_not]
          omega
        · exact hno i (by omega)
      · exact congrArg (fun z : Nat × Nat => pos + z.2) hd.symm
    · refine ⟨pos + (Utf8.decode ⟨⟨l⟩⟩ pos).2, ⟨h3, fun i hi => ?_⟩, weak_ren (L := [0]) ⟨⟨_, rfl, rfl⟩, ⟨_, rfl, rfl⟩, trivial⟩ ⟨⟨⟨rfl, rfl⟩, Nat.zero_le _, fun _ => rfl⟩, trivial⟩ rfl (by decide) rfl rfl (Nat.zero_le _), by omega⟩
      by_cases e : i < pos
      · exact hno i e
      · have := h4 (i - pos) (by omega)
        rw [show pos + (i - pos) = i by omega] at this
        simp only [isBr, Bool.or_eq_false_iff, decide_eq_false_iff_not]
        omega
  · have hlt : l.length ≤ pos := hlt
    first | (refine And.intro (fun h => Go.Ai.ft h) (fun _ => ?_)) | (refine And.intro (fun h => Go.Ai.tf h) (fun _ => ?_))
    refine retI ?_
    rw [brIdx_none fun i hi => hno i (by omega)]
end Go.Proofs.Ytbaoelfpmdmhjaa
