/- Contracts of strings.Index and of All at every kind, and of the law PairAll. Conditions: as each theorem says. -/
import Derived.Test.YtbaoelfpmdmhjaaWalkF
set_option maxRecDepth 100000
set_option maxHeartbeats 2000000
namespace Go.Proofs.Ytbaoelfpmdmhjaa
open Go.Ai
/-! ### strings.Index at two or three bytes, whatever MaxLen holds -/
noncomputable def C1 : Ctx := up1 C
theorem CF1 : CtxF Try.prog C1 := ctx_up CF rfl
theorem index_ext (m : Int) (a b : List UInt8) (h2 : 2 ≤ b.length) (hb : (b.length : Int) ≤ m) (ha : a.length < 4294967281) {h : H} {e : TypeId} {fam fz : Nat} (hb0 : h.bl.get 0 = some (.cells [.int .i64 m] e fam fz)) : CallOk Try.prog C1 46 [str a, str b] h (.ret (.int .i64 (Go.Lib.index a b)) h) := by
  have H : Ext0 Try.prog 46 Extern.BytealgIndex.index := ext0 Try.func46 (by kernel_rfl) (by kernel_rfl) (by kernel_rfl) (show Extern.find _ = some Extern.BytealgIndex.index by kernel_rfl)
  intro ρ w args' cs hv hh hg
  obtain ⟨x', y', rfl, hx, hy⟩ := hv.two_inv
  have hcell := cell0_at ⟨e, fam, fz, hb0⟩ hh hg
  rw [hx.string_inv, hy.string_inv]
  refine .inl ⟨_, _, ρ, _, w, rfl, .int _ _, hh, Ext.refl _ _ _, .inl ?_⟩
  rw [H.run, show (⟨[str a, str b]⟩ : Array Value) = #[.string ⟨⟨a⟩⟩, .string ⟨⟨b⟩⟩] from rfl, Go.Lib.run_indexString ⟨⟨a⟩⟩ ⟨⟨b⟩⟩ w 0 m (by kernel_rfl) hcell h2 hb ha]
  rfl
theorem gTf {b : Bool} {A B : Prop} (h : b = false) (a : B) : (b = true → A) ∧ (b = !true → B) := ⟨fun e => (by rw [h] at e; cases e), fun _ => a⟩
theorem ib_none {l : List UInt8} {x : UInt8} (h : x ∉ l) : Go.Lib.indexByte l x = -1 := by
  rcases indexByte_spec l x with ⟨e, _⟩ | ⟨j, e, hj, hat, _⟩
  · exact e
  · exfalso
    apply h
    rw [← hat, List.getD_eq_getElem?_getD, List.getElem?_eq_getElem hj]
    exact List.getElem_mem _
theorem lite2 (x y : UInt8) (m : Int) (e : TypeId) (fz : Nat) : ∃ v : Int, CallOk Try.prog C1 35 [str [40, 91, 123, 60], str [x, y]] (hM m e fz) (.ret (.int .i64 v) (hM m e fz)) := by
  have d0 : decide ([x, y] = [40, 91, 123, 60]) = false := decide_eq_false (by simp)
  have hb0 : (hM m e fz).bl.get 0 = some (.cells [.int .i64 m] e 0 fz) := rfl
  by_cases hm : (2 : Int) ≤ m
  · refine ⟨Go.Lib.index [40, 91, 123, 60] [x, y], ?_⟩
    have d1 : decide ((2 : Int) ≤ m) = true := decide_eq_true hm
    refine fn_wpN CF1 (by decide) (n := 143) (res := [.tmp 4]) (c := (codeOf Try.f35)) rfl ?_
    repeat (first | (refine And.intro (fun _ => ?_) (fun h => Go.Ai.tf h)) | (refine And.intro (fun _ => ?_) (fun h => Go.Ai.ft h)) | (refine And.intro (fun h => Go.Ai.ft h) (fun _ => ?_)) | (refine And.intro (fun h => Go.Ai.tf h) (fun _ => ?_)))
    try (refine cF d0 ?_)
    repeat (first | (refine And.intro (fun _ => ?_) (fun h => Go.Ai.tf h)) | (refine And.intro (fun _ => ?_) (fun h => Go.Ai.ft h)) | (refine And.intro (fun h => Go.Ai.ft h) (fun _ => ?_)) | (refine And.intro (fun h => Go.Ai.tf h) (fun _ => ?_)))
    refine gT d1 ?_
    repeat (first | (refine And.intro (fun _ => ?_) (fun h => Go.Ai.tf h)) | (refine And.intro (fun _ => ?_) (fun h => Go.Ai.ft h)) | (refine And.intro (fun h => Go.Ai.ft h) (fun _ => ?_)) | (refine And.intro (fun h => Go.Ai.tf h) (fun _ => ?_)))
    refine CallW.of (index_ext m [40, 91, 123, 60] [x, y] (Nat.le_refl 2) hm (by simp) (e := e) (fam := 0) (fz := fz) rfl) ?_
    exact ⟨rfl, rfl⟩
  · have d1 : decide ((2 : Int) ≤ m) = false := decide_eq_false hm
    have d2 : decide (m < 2) = true := decide_eq_true (by omega)
    have dif : ∀ (k : UInt8) (z : UInt8), ¬ z = k → decide (((k.toNat : Nat) : Int) = (z.toNat : Nat)) = false := fun k z h => decide_eq_false (fun e => h (UInt8.toNat_inj.1 (by omega)))
    by_cases hx : x = 40
    · subst hx
      by_cases hy : y = 91
      · subst hy
        refine ⟨0, ?_⟩
        refine fn_wpN CF1 (by decide) (n := 143) (res := [.tmp 4]) (c := (codeOf Try.f35)) rfl ?_
        repeat (first | (refine And.intro (fun _ => ?_) (fun h => Go.Ai.tf h)) | (refine And.intro (fun _ => ?_) (fun h => Go.Ai.ft h)) | (refine And.intro (fun h => Go.Ai.ft h) (fun _ => ?_)) | (refine And.intro (fun h => Go.Ai.tf h) (fun _ => ?_)))
        try (refine cF d0 ?_)
        repeat (first | (refine And.intro (fun _ => ?_) (fun h => Go.Ai.tf h)) | (refine And.intro (fun _ => ?_) (fun h => Go.Ai.ft h)) | (refine And.intro (fun h => Go.Ai.ft h) (fun _ => ?_)) | (refine And.intro (fun h => Go.Ai.tf h) (fun _ => ?_)))
        refine gTf d1 ?_
        repeat (first | (refine And.intro (fun _ => ?_) (fun h => Go.Ai.tf h)) | (refine And.intro (fun _ => ?_) (fun h => Go.Ai.ft h)) | (refine And.intro (fun h => Go.Ai.ft h) (fun _ => ?_)) | (refine And.intro (fun h => Go.Ai.tf h) (fun _ => ?_)))
        refine And.intro ⟨of_decide_eq_true rfl, of_decide_eq_true rfl⟩ ?_
        refine And.intro ⟨of_decide_eq_true rfl, of_decide_eq_true rfl⟩ ?_
        refine Or.inl (And.intro (inK_i64 (show (-9223372036854775808 : Int) ≤ 4 - 2 ∧ (4 : Int) - 2 < 9223372036854775808 by omega)) ?_)
        refine Or.inl (And.intro (inK_i64 (show (-9223372036854775808 : Int) ≤ 4 - 2 + 1 ∧ (4 : Int) - 2 + 1 < 9223372036854775808 by omega)) ?_)
        refine TB.ofLB (LB.nextN CF1.tt (by decide) ?_)
        repeat (first | (refine And.intro (fun _ => ?_) (fun h => Go.Ai.tf h)) | (refine And.intro (fun _ => ?_) (fun h => Go.Ai.ft h)) | (refine And.intro (fun h => Go.Ai.ft h) (fun _ => ?_)) | (refine And.intro (fun h => Go.Ai.tf h) (fun _ => ?_)) | (refine And.intro ⟨of_decide_eq_true rfl, of_decide_eq_true rfl⟩ ?_) | (refine And.intro ⟨of_decide_eq_true rfl, of_decide_eq_true rfl, of_decide_eq_true rfl⟩ ?_) | (refine Or.inl (And.intro (inK_i64 (by decide)) ?_)) | (refine gTf d1 ?_) | (refine gT d2 ?_) | (refine CallW.of (call_up rfl (liteByte_ok _ _ _)) ?_))
        exact ⟨rfl, rfl⟩
      · have dy := dif 91 y hy
        refine ⟨-1, ?_⟩
        refine fn_wpN CF1 (by decide) (n := 143) (res := [.tmp 4]) (c := (codeOf Try.f35)) rfl ?_
        repeat (first | (refine And.intro (fun _ => ?_) (fun h => Go.Ai.tf h)) | (refine And.intro (fun _ => ?_) (fun h => Go.Ai.ft h)) | (refine And.intro (fun h => Go.Ai.ft h) (fun _ => ?_)) | (refine And.intro (fun h => Go.Ai.tf h) (fun _ => ?_)))
        try (refine cF d0 ?_)
        repeat (first | (refine And.intro (fun _ => ?_) (fun h => Go.Ai.tf h)) | (refine And.intro (fun _ => ?_) (fun h => Go.Ai.ft h)) | (refine And.intro (fun h => Go.Ai.ft h) (fun _ => ?_)) | (refine And.intro (fun h => Go.Ai.tf h) (fun _ => ?_)))
        refine gTf d1 ?_
        repeat (first | (refine And.intro (fun _ => ?_) (fun h => Go.Ai.tf h)) | (refine And.intro (fun _ => ?_) (fun h => Go.Ai.ft h)) | (refine And.intro (fun h => Go.Ai.ft h) (fun _ => ?_)) | (refine And.intro (fun h => Go.Ai.tf h) (fun _ => ?_)))
        refine And.intro ⟨of_decide_eq_true rfl, of_decide_eq_true rfl⟩ ?_
        refine And.intro ⟨of_decide_eq_true rfl, of_decide_eq_true rfl⟩ ?_
        refine Or.inl (And.intro (inK_i64 (show (-9223372036854775808 : Int) ≤ 4 - 2 ∧ (4 : Int) - 2 < 9223372036854775808 by omega)) ?_)
        refine Or.inl (And.intro (inK_i64 (show (-9223372036854775808 : Int) ≤ 4 - 2 + 1 ∧ (4 : Int) - 2 + 1 < 9223372036854775808 by omega)) ?_)
        refine TB.ofLB (LB.nextN CF1.tt (by decide) ?_)
        repeat (first | (refine And.intro (fun _ => ?_) (fun h => Go.Ai.tf h)) | (refine And.intro (fun _ => ?_) (fun h => Go.Ai.ft h)) | (refine And.intro (fun h => Go.Ai.ft h) (fun _ => ?_)) | (refine And.intro (fun h => Go.Ai.tf h) (fun _ => ?_)) | (refine And.intro ⟨of_decide_eq_true rfl, of_decide_eq_true rfl⟩ ?_) | (refine And.intro ⟨of_decide_eq_true rfl, of_decide_eq_true rfl, of_decide_eq_true rfl⟩ ?_) | (refine Or.inl (And.intro (inK_i64 (by decide)) ?_)) | (refine gTf d1 ?_) | (refine gT d2 ?_) | (refine CallW.of (call_up rfl (liteByte_ok _ _ _)) ?_))
        refine gTf dy ?_
        repeat (first | (refine And.intro (fun _ => ?_) (fun h => Go.Ai.tf h)) | (refine And.intro (fun _ => ?_) (fun h => Go.Ai.ft h)) | (refine And.intro (fun h => Go.Ai.ft h) (fun _ => ?_)) | (refine And.intro (fun h => Go.Ai.tf h) (fun _ => ?_)) | (refine And.intro ⟨of_decide_eq_true rfl, of_decide_eq_true rfl⟩ ?_) | (refine And.intro ⟨of_decide_eq_true rfl, of_decide_eq_true rfl, of_decide_eq_true rfl⟩ ?_) | (refine Or.inl (And.intro (inK_i64 (by decide)) ?_)) | (refine gTf d1 ?_) | (refine gT d2 ?_) | (refine CallW.of (call_up rfl (liteByte_ok _ _ _)) ?_))
        refine LB.nextN CF1.tt (by decide) ?_
        repeat (first | (refine And.intro (fun _ => ?_) (fun h => Go.Ai.tf h)) | (refine And.intro (fun _ => ?_) (fun h => Go.Ai.ft h)) | (refine And.intro (fun h => Go.Ai.ft h) (fun _ => ?_)) | (refine And.intro (fun h => Go.Ai.tf h) (fun _ => ?_)) | (refine And.intro ⟨of_decide_eq_true rfl, of_decide_eq_true rfl⟩ ?_) | (refine And.intro ⟨of_decide_eq_true rfl, of_decide_eq_true rfl, of_decide_eq_true rfl⟩ ?_) | (refine Or.inl (And.intro (inK_i64 (by decide)) ?_)) | (refine gTf d1 ?_) | (refine gT d2 ?_) | (refine CallW.of (call_up rfl (liteByte_ok _ _ _)) ?_))
        exact ⟨rfl, rfl⟩
    by_cases hx1 : x = 91
    · subst hx1
      by_cases hy : y = 123
      · subst hy
        refine ⟨1, ?_⟩
        refine fn_wpN CF1 (by decide) (n := 143) (res := [.tmp 4]) (c := (codeOf Try.f35)) rfl ?_
        repeat (first | (refine And.intro (fun _ => ?_) (fun h => Go.Ai.tf h)) | (refine And.intro (fun _ => ?_) (fun h => Go.Ai.ft h)) | (refine And.intro (fun h => Go.Ai.ft h) (fun _ => ?_)) | (refine And.intro (fun h => Go.Ai.tf h) (fun _ => ?_)))
        try (refine cF d0 ?_)
        repeat (first | (refine And.intro (fun _ => ?_) (fun h => Go.Ai.tf h)) | (refine And.intro (fun _ => ?_) (fun h => Go.Ai.ft h)) | (refine And.intro (fun h => Go.Ai.ft h) (fun _ => ?_)) | (refine And.intro (fun h => Go.Ai.tf h) (fun _ => ?_)))
        refine gTf d1 ?_
        repeat (first | (refine And.intro (fun _ => ?_) (fun h => Go.Ai.tf h)) | (refine And.intro (fun _ => ?_) (fun h => Go.Ai.ft h)) | (refine And.intro (fun h => Go.Ai.ft h) (fun _ => ?_)) | (refine And.intro (fun h => Go.Ai.tf h) (fun _ => ?_)))
        refine And.intro ⟨of_decide_eq_true rfl, of_decide_eq_true rfl⟩ ?_
        refine And.intro ⟨of_decide_eq_true rfl, of_decide_eq_true rfl⟩ ?_
        refine Or.inl (And.intro (inK_i64 (show (-9223372036854775808 : Int) ≤ 4 - 2 ∧ (4 : Int) - 2 < 9223372036854775808 by omega)) ?_)
        refine Or.inl (And.intro (inK_i64 (show (-9223372036854775808 : Int) ≤ 4 - 2 + 1 ∧ (4 : Int) - 2 + 1 < 9223372036854775808 by omega)) ?_)
        refine TB.ofLB (LB.nextN CF1.tt (by decide) ?_)
        repeat (first | (refine And.intro (fun _ => ?_) (fun h => Go.Ai.tf h)) | (refine And.intro (fun _ => ?_) (fun h => Go.Ai.ft h)) | (refine And.intro (fun h => Go.Ai.ft h) (fun _ => ?_)) | (refine And.intro (fun h => Go.Ai.tf h) (fun _ => ?_)) | (refine And.intro ⟨of_decide_eq_true rfl, of_decide_eq_true rfl⟩ ?_) | (refine And.intro ⟨of_decide_eq_true rfl, of_decide_eq_true rfl, of_decide_eq_true rfl⟩ ?_) | (refine Or.inl (And.intro (inK_i64 (by decide)) ?_)) | (refine gTf d1 ?_) | (refine gT d2 ?_) | (refine CallW.of (call_up rfl (liteByte_ok _ _ _)) ?_))
        exact ⟨rfl, rfl⟩
      · have dy := dif 123 y hy
        refine ⟨-1, ?_⟩
        have hlb : ∀ h, CallOk Try.prog C1 41 [str [91, 123], .int .u8 (91 : UInt8).toNat] h (.ret (.int .i64 0) h) := fun h => call_up rfl (liteByte_ok [91, 123] 91 h)
        refine fn_wpN CF1 (by decide) (n := 143) (res := [.tmp 4]) (c := (codeOf Try.f35)) rfl ?_
        repeat (first | (refine And.intro (fun _ => ?_) (fun h => Go.Ai.tf h)) | (refine And.intro (fun _ => ?_) (fun h => Go.Ai.ft h)) | (refine And.intro (fun h => Go.Ai.ft h) (fun _ => ?_)) | (refine And.intro (fun h => Go.Ai.tf h) (fun _ => ?_)))
        try (refine cF d0 ?_)
        repeat (first | (refine And.intro (fun _ => ?_) (fun h => Go.Ai.tf h)) | (refine And.intro (fun _ => ?_) (fun h => Go.Ai.ft h)) | (refine And.intro (fun h => Go.Ai.ft h) (fun _ => ?_)) | (refine And.intro (fun h => Go.Ai.tf h) (fun _ => ?_)))
        refine gTf d1 ?_
        repeat (first | (refine And.intro (fun _ => ?_) (fun h => Go.Ai.tf h)) | (refine And.intro (fun _ => ?_) (fun h => Go.Ai.ft h)) | (refine And.intro (fun h => Go.Ai.ft h) (fun _ => ?_)) | (refine And.intro (fun h => Go.Ai.tf h) (fun _ => ?_)))
        refine And.intro ⟨of_decide_eq_true rfl, of_decide_eq_true rfl⟩ ?_
        refine And.intro ⟨of_decide_eq_true rfl, of_decide_eq_true rfl⟩ ?_
        refine Or.inl (And.intro (inK_i64 (show (-9223372036854775808 : Int) ≤ 4 - 2 ∧ (4 : Int) - 2 < 9223372036854775808 by omega)) ?_)
        refine Or.inl (And.intro (inK_i64 (show (-9223372036854775808 : Int) ≤ 4 - 2 + 1 ∧ (4 : Int) - 2 + 1 < 9223372036854775808 by omega)) ?_)
        refine TB.ofLB (LB.nextN CF1.tt (by decide) ?_)
        repeat (first | (refine And.intro (fun _ => ?_) (fun h => Go.Ai.tf h)) | (refine And.intro (fun _ => ?_) (fun h => Go.Ai.ft h)) | (refine And.intro (fun h => Go.Ai.ft h) (fun _ => ?_)) | (refine And.intro (fun h => Go.Ai.tf h) (fun _ => ?_)) | (refine And.intro ⟨of_decide_eq_true rfl, of_decide_eq_true rfl⟩ ?_) | (refine And.intro ⟨of_decide_eq_true rfl, of_decide_eq_true rfl, of_decide_eq_true rfl⟩ ?_) | (refine Or.inl (And.intro (inK_i64 (by decide)) ?_)) | (refine gTf d1 ?_) | (refine gT d2 ?_))
        refine CallW.of (hlb _) ?_
        repeat (first | (refine And.intro (fun _ => ?_) (fun h => Go.Ai.tf h)) | (refine And.intro (fun _ => ?_) (fun h => Go.Ai.ft h)) | (refine And.intro (fun h => Go.Ai.ft h) (fun _ => ?_)) | (refine And.intro (fun h => Go.Ai.tf h) (fun _ => ?_)) | (refine And.intro ⟨of_decide_eq_true rfl, of_decide_eq_true rfl⟩ ?_) | (refine And.intro ⟨of_decide_eq_true rfl, of_decide_eq_true rfl, of_decide_eq_true rfl⟩ ?_) | (refine Or.inl (And.intro (inK_i64 (by decide)) ?_)) | (refine gTf d1 ?_) | (refine gT d2 ?_))
        refine gTf dy ?_
        repeat (first | (refine And.intro (fun _ => ?_) (fun h => Go.Ai.tf h)) | (refine And.intro (fun _ => ?_) (fun h => Go.Ai.ft h)) | (refine And.intro (fun h => Go.Ai.ft h) (fun _ => ?_)) | (refine And.intro (fun h => Go.Ai.tf h) (fun _ => ?_)) | (refine And.intro ⟨of_decide_eq_true rfl, of_decide_eq_true rfl⟩ ?_) | (refine And.intro ⟨of_decide_eq_true rfl, of_decide_eq_true rfl, of_decide_eq_true rfl⟩ ?_) | (refine Or.inl (And.intro (inK_i64 (by decide)) ?_)) | (refine gTf d1 ?_) | (refine gT d2 ?_) | (refine CallW.of (call_up rfl (liteByte_ok _ _ _)) ?_))
        refine LB.nextN CF1.tt (by decide) ?_
        repeat (first | (refine And.intro (fun _ => ?_) (fun h => Go.Ai.tf h)) | (refine And.intro (fun _ => ?_) (fun h => Go.Ai.ft h)) | (refine And.intro (fun h => Go.Ai.ft h) (fun _ => ?_)) | (refine And.intro (fun h => Go.Ai.tf h) (fun _ => ?_)) | (refine And.intro ⟨of_decide_eq_true rfl, of_decide_eq_true rfl⟩ ?_) | (refine And.intro ⟨of_decide_eq_true rfl, of_decide_eq_true rfl, of_decide_eq_true rfl⟩ ?_) | (refine Or.inl (And.intro (inK_i64 (by decide)) ?_)) | (refine gTf d1 ?_) | (refine gT d2 ?_) | (refine CallW.of (call_up rfl (liteByte_ok _ _ _)) ?_))
        exact ⟨rfl, rfl⟩
    by_cases hx2 : x = 123
    · subst hx2
      by_cases hy : y = 60
      · subst hy
        refine ⟨2, ?_⟩
        refine fn_wpN CF1 (by decide) (n := 143) (res := [.tmp 4]) (c := (codeOf Try.f35)) rfl ?_
        repeat (first | (refine And.intro (fun _ => ?_) (fun h => Go.Ai.tf h)) | (refine And.intro (fun _ => ?_) (fun h => Go.Ai.ft h)) | (refine And.intro (fun h => Go.Ai.ft h) (fun _ => ?_)) | (refine And.intro (fun h => Go.Ai.tf h) (fun _ => ?_)))
        try (refine cF d0 ?_)
        repeat (first | (refine And.intro (fun _ => ?_) (fun h => Go.Ai.tf h)) | (refine And.intro (fun _ => ?_) (fun h => Go.Ai.ft h)) | (refine And.intro (fun h => Go.Ai.ft h) (fun _ => ?_)) | (refine And.intro (fun h => Go.Ai.tf h) (fun _ => ?_)))
        refine gTf d1 ?_
        repeat (first | (refine And.intro (fun _ => ?_) (fun h => Go.Ai.tf h)) | (refine And.intro (fun _ => ?_) (fun h => Go.Ai.ft h)) | (refine And.intro (fun h => Go.Ai.ft h) (fun _ => ?_)) | (refine And.intro (fun h => Go.Ai.tf h) (fun _ => ?_)))
        refine And.intro ⟨of_decide_eq_true rfl, of_decide_eq_true rfl⟩ ?_
        refine And.intro ⟨of_decide_eq_true rfl, of_decide_eq_true rfl⟩ ?_
        refine Or.inl (And.intro (inK_i64 (show (-9223372036854775808 : Int) ≤ 4 - 2 ∧ (4 : Int) - 2 < 9223372036854775808 by omega)) ?_)
        refine Or.inl (And.intro (inK_i64 (show (-9223372036854775808 : Int) ≤ 4 - 2 + 1 ∧ (4 : Int) - 2 + 1 < 9223372036854775808 by omega)) ?_)
        refine TB.ofLB (LB.nextN CF1.tt (by decide) ?_)
        repeat (first | (refine And.intro (fun _ => ?_) (fun h => Go.Ai.tf h)) | (refine And.intro (fun _ => ?_) (fun h => Go.Ai.ft h)) | (refine And.intro (fun h => Go.Ai.ft h) (fun _ => ?_)) | (refine And.intro (fun h => Go.Ai.tf h) (fun _ => ?_)) | (refine And.intro ⟨of_decide_eq_true rfl, of_decide_eq_true rfl⟩ ?_) | (refine And.intro ⟨of_decide_eq_true rfl, of_decide_eq_true rfl, of_decide_eq_true rfl⟩ ?_) | (refine Or.inl (And.intro (inK_i64 (by decide)) ?_)) | (refine gTf d1 ?_) | (refine gT d2 ?_) | (refine CallW.of (call_up rfl (liteByte_ok _ _ _)) ?_))
        exact ⟨rfl, rfl⟩
      · have dy := dif 60 y hy
        refine ⟨-1, ?_⟩
        have hlb : ∀ h, CallOk Try.prog C1 41 [str [91, 123], .int .u8 (123 : UInt8).toNat] h (.ret (.int .i64 1) h) := fun h => call_up rfl (liteByte_ok [91, 123] 123 h)
        refine fn_wpN CF1 (by decide) (n := 143) (res := [.tmp 4]) (c := (codeOf Try.f35)) rfl ?_
        repeat (first | (refine And.intro (fun _ => ?_) (fun h => Go.Ai.tf h)) | (refine And.intro (fun _ => ?_) (fun h => Go.Ai.ft h)) | (refine And.intro (fun h => Go.Ai.ft h) (fun _ => ?_)) | (refine And.intro (fun h => Go.Ai.tf h) (fun _ => ?_)))
        try (refine cF d0 ?_)
        repeat (first | (refine And.intro (fun _ => ?_) (fun h => Go.Ai.tf h)) | (refine And.intro (fun _ => ?_) (fun h => Go.Ai.ft h)) | (refine And.intro (fun h => Go.Ai.ft h) (fun _ => ?_)) | (refine And.intro (fun h => Go.Ai.tf h) (fun _ => ?_)))
        refine gTf d1 ?_
        repeat (first | (refine And.intro (fun _ => ?_) (fun h => Go.Ai.tf h)) | (refine And.intro (fun _ => ?_) (fun h => Go.Ai.ft h)) | (refine And.intro (fun h => Go.Ai.ft h) (fun _ => ?_)) | (refine And.intro (fun h => Go.Ai.tf h) (fun _ => ?_)))
        refine And.intro ⟨of_decide_eq_true rfl, of_decide_eq_true rfl⟩ ?_
        refine And.intro ⟨of_decide_eq_true rfl, of_decide_eq_true rfl⟩ ?_
        refine Or.inl (And.intro (inK_i64 (show (-9223372036854775808 : Int) ≤ 4 - 2 ∧ (4 : Int) - 2 < 9223372036854775808 by omega)) ?_)
        refine Or.inl (And.intro (inK_i64 (show (-9223372036854775808 : Int) ≤ 4 - 2 + 1 ∧ (4 : Int) - 2 + 1 < 9223372036854775808 by omega)) ?_)
        refine TB.ofLB (LB.nextN CF1.tt (by decide) ?_)
        repeat (first | (refine And.intro (fun _ => ?_) (fun h => Go.Ai.tf h)) | (refine And.intro (fun _ => ?_) (fun h => Go.Ai.ft h)) | (refine And.intro (fun h => Go.Ai.ft h) (fun _ => ?_)) | (refine And.intro (fun h => Go.Ai.tf h) (fun _ => ?_)) | (refine And.intro ⟨of_decide_eq_true rfl, of_decide_eq_true rfl⟩ ?_) | (refine And.intro ⟨of_decide_eq_true rfl, of_decide_eq_true rfl, of_decide_eq_true rfl⟩ ?_) | (refine Or.inl (And.intro (inK_i64 (by decide)) ?_)) | (refine gTf d1 ?_) | (refine gT d2 ?_))
        refine CallW.of (hlb _) ?_
        repeat (first | (refine And.intro (fun _ => ?_) (fun h => Go.Ai.tf h)) | (refine And.intro (fun _ => ?_) (fun h => Go.Ai.ft h)) | (refine And.intro (fun h => Go.Ai.ft h) (fun _ => ?_)) | (refine And.intro (fun h => Go.Ai.tf h) (fun _ => ?_)) | (refine And.intro ⟨of_decide_eq_true rfl, of_decide_eq_true rfl⟩ ?_) | (refine And.intro ⟨of_decide_eq_true rfl, of_decide_eq_true rfl, of_decide_eq_true rfl⟩ ?_) | (refine Or.inl (And.intro (inK_i64 (by decide)) ?_)) | (refine gTf d1 ?_) | (refine gT d2 ?_))
        refine gTf dy ?_
        repeat (first | (refine And.intro (fun _ => ?_) (fun h => Go.Ai.tf h)) | (refine And.intro (fun _ => ?_) (fun h => Go.Ai.ft h)) | (refine And.intro (fun h => Go.Ai.ft h) (fun _ => ?_)) | (refine And.intro (fun h => Go.Ai.tf h) (fun _ => ?_)) | (refine And.intro ⟨of_decide_eq_true rfl, of_decide_eq_true rfl⟩ ?_) | (refine And.intro ⟨of_decide_eq_true rfl, of_decide_eq_true rfl, of_decide_eq_true rfl⟩ ?_) | (refine Or.inl (And.intro (inK_i64 (by decide)) ?_)) | (refine gTf d1 ?_) | (refine gT d2 ?_) | (refine CallW.of (call_up rfl (liteByte_ok _ _ _)) ?_))
        refine LB.nextN CF1.tt (by decide) ?_
        repeat (first | (refine And.intro (fun _ => ?_) (fun h => Go.Ai.tf h)) | (refine And.intro (fun _ => ?_) (fun h => Go.Ai.ft h)) | (refine And.intro (fun h => Go.Ai.ft h) (fun _ => ?_)) | (refine And.intro (fun h => Go.Ai.tf h) (fun _ => ?_)) | (refine And.intro ⟨of_decide_eq_true rfl, of_decide_eq_true rfl⟩ ?_) | (refine And.intro ⟨of_decide_eq_true rfl, of_decide_eq_true rfl, of_decide_eq_true rfl⟩ ?_) | (refine Or.inl (And.intro (inK_i64 (by decide)) ?_)) | (refine gTf d1 ?_) | (refine gT d2 ?_) | (refine CallW.of (call_up rfl (liteByte_ok _ _ _)) ?_))
        exact ⟨rfl, rfl⟩
    · have dx : (!decide (((40 : UInt8).toNat : Int) = (x.toNat : Nat))) = true := by rw [dif 40 x hx]; rfl
      have hib : Go.Lib.indexByte [91, 123] x = -1 := ib_none (by simp [hx1, hx2])
      have hlb : ∀ h, CallOk Try.prog C1 41 [str [91, 123], .int .u8 x.toNat] h (.ret (.int .i64 (-1)) h) := by
        intro h
        have := liteByte_ok [91, 123] x h
        rw [hib] at this
        exact call_up rfl this
      refine ⟨-1, ?_⟩
      refine fn_wpN CF1 (by decide) (n := 143) (res := [.tmp 4]) (c := (codeOf Try.f35)) rfl ?_
      repeat (first | (refine And.intro (fun _ => ?_) (fun h => Go.Ai.tf h)) | (refine And.intro (fun _ => ?_) (fun h => Go.Ai.ft h)) | (refine And.intro (fun h => Go.Ai.ft h) (fun _ => ?_)) | (refine And.intro (fun h => Go.Ai.tf h) (fun _ => ?_)))
      try (refine cF d0 ?_)
      repeat (first | (refine And.intro (fun _ => ?_) (fun h => Go.Ai.tf h)) | (refine And.intro (fun _ => ?_) (fun h => Go.Ai.ft h)) | (refine And.intro (fun h => Go.Ai.ft h) (fun _ => ?_)) | (refine And.intro (fun h => Go.Ai.tf h) (fun _ => ?_)))
      refine gTf d1 ?_
      repeat (first | (refine And.intro (fun _ => ?_) (fun h => Go.Ai.tf h)) | (refine And.intro (fun _ => ?_) (fun h => Go.Ai.ft h)) | (refine And.intro (fun h => Go.Ai.ft h) (fun _ => ?_)) | (refine And.intro (fun h => Go.Ai.tf h) (fun _ => ?_)))
      refine And.intro ⟨of_decide_eq_true rfl, of_decide_eq_true rfl⟩ ?_
      refine And.intro ⟨of_decide_eq_true rfl, of_decide_eq_true rfl⟩ ?_
      refine Or.inl (And.intro (inK_i64 (show (-9223372036854775808 : Int) ≤ 4 - 2 ∧ (4 : Int) - 2 < 9223372036854775808 by omega)) ?_)
      refine Or.inl (And.intro (inK_i64 (show (-9223372036854775808 : Int) ≤ 4 - 2 + 1 ∧ (4 : Int) - 2 + 1 < 9223372036854775808 by omega)) ?_)
      refine TB.ofLB (LB.nextN CF1.tt (by decide) ?_)
      repeat (first | (refine And.intro (fun _ => ?_) (fun h => Go.Ai.tf h)) | (refine And.intro (fun _ => ?_) (fun h => Go.Ai.ft h)) | (refine And.intro (fun h => Go.Ai.ft h) (fun _ => ?_)) | (refine And.intro (fun h => Go.Ai.tf h) (fun _ => ?_)) | (refine And.intro ⟨of_decide_eq_true rfl, of_decide_eq_true rfl⟩ ?_) | (refine And.intro ⟨of_decide_eq_true rfl, of_decide_eq_true rfl, of_decide_eq_true rfl⟩ ?_) | (refine Or.inl (And.intro (inK_i64 (by decide)) ?_)) | (refine gTf d1 ?_) | (refine gT d2 ?_))
      refine cT dx ?_
      repeat (first | (refine And.intro (fun _ => ?_) (fun h => Go.Ai.tf h)) | (refine And.intro (fun _ => ?_) (fun h => Go.Ai.ft h)) | (refine And.intro (fun h => Go.Ai.ft h) (fun _ => ?_)) | (refine And.intro (fun h => Go.Ai.tf h) (fun _ => ?_)) | (refine And.intro ⟨of_decide_eq_true rfl, of_decide_eq_true rfl⟩ ?_) | (refine And.intro ⟨of_decide_eq_true rfl, of_decide_eq_true rfl, of_decide_eq_true rfl⟩ ?_) | (refine Or.inl (And.intro (inK_i64 (by decide)) ?_)) | (refine gTf d1 ?_) | (refine gT d2 ?_))
      refine CallW.of (hlb _) ?_
      repeat (first | (refine And.intro (fun _ => ?_) (fun h => Go.Ai.tf h)) | (refine And.intro (fun _ => ?_) (fun h => Go.Ai.ft h)) | (refine And.intro (fun h => Go.Ai.ft h) (fun _ => ?_)) | (refine And.intro (fun h => Go.Ai.tf h) (fun _ => ?_)) | (refine And.intro ⟨of_decide_eq_true rfl, of_decide_eq_true rfl⟩ ?_) | (refine And.intro ⟨of_decide_eq_true rfl, of_decide_eq_true rfl, of_decide_eq_true rfl⟩ ?_) | (refine Or.inl (And.intro (inK_i64 (by decide)) ?_)) | (refine gTf d1 ?_) | (refine gT d2 ?_))
      exact ⟨rfl, rfl⟩
end Go.Proofs.Ytbaoelfpmdmhjaa
set_option maxRecDepth 100000
set_option maxHeartbeats 2000000
namespace Go.Proofs.Ytbaoelfpmdmhjaa
open Go.Ai
theorem lite3 (x y z : UInt8) (m : Int) (e : TypeId) (fz : Nat) : ∃ v : Int, CallOk Try.prog C1 35 [str [40, 91, 123, 60], str [x, y, z]] (hM m e fz) (.ret (.int .i64 v) (hM m e fz)) := by
  have d0 : decide ([x, y, z] = [40, 91, 123, 60]) = false := decide_eq_false (by simp)
  have hb0 : (hM m e fz).bl.get 0 = some (.cells [.int .i64 m] e 0 fz) := rfl
  by_cases hm : (3 : Int) ≤ m
  · refine ⟨Go.Lib.index [40, 91, 123, 60] [x, y, z], ?_⟩
    have d1 : decide ((3 : Int) ≤ m) = true := decide_eq_true hm
    refine fn_wpN CF1 (by decide) (n := 143) (res := [.tmp 4]) (c := (codeOf Try.f35)) rfl ?_
    repeat (first | (refine And.intro (fun _ => ?_) (fun h => Go.Ai.tf h)) | (refine And.intro (fun _ => ?_) (fun h => Go.Ai.ft h)) | (refine And.intro (fun h => Go.Ai.ft h) (fun _ => ?_)) | (refine And.intro (fun h => Go.Ai.tf h) (fun _ => ?_)))
    try (refine cF d0 ?_)
    repeat (first | (refine And.intro (fun _ => ?_) (fun h => Go.Ai.tf h)) | (refine And.intro (fun _ => ?_) (fun h => Go.Ai.ft h)) | (refine And.intro (fun h => Go.Ai.ft h) (fun _ => ?_)) | (refine And.intro (fun h => Go.Ai.tf h) (fun _ => ?_)))
    refine gT d1 ?_
    repeat (first | (refine And.intro (fun _ => ?_) (fun h => Go.Ai.tf h)) | (refine And.intro (fun _ => ?_) (fun h => Go.Ai.ft h)) | (refine And.intro (fun h => Go.Ai.ft h) (fun _ => ?_)) | (refine And.intro (fun h => Go.Ai.tf h) (fun _ => ?_)))
    refine CallW.of (index_ext m [40, 91, 123, 60] [x, y, z] (by simp) hm (by simp) (e := e) (fam := 0) (fz := fz) rfl) ?_
    exact ⟨rfl, rfl⟩
  · have d1 : decide ((3 : Int) ≤ m) = false := decide_eq_false hm
    have d2 : decide (m < 3) = true := decide_eq_true (by omega)
    have dif : ∀ (k : UInt8) (z : UInt8), ¬ z = k → decide (((k.toNat : Nat) : Int) = (z.toNat : Nat)) = false := fun k z h => decide_eq_false (fun e => h (UInt8.toNat_inj.1 (by omega)))
    by_cases hx : x = 40
    · subst hx
      by_cases hy : y = 91
      · subst hy
        by_cases hz : z = 123
        · subst hz
          refine ⟨0, ?_⟩
          refine fn_wpN CF1 (by decide) (n := 143) (res := [.tmp 4]) (c := (codeOf Try.f35)) rfl ?_
          repeat (first | (refine And.intro (fun _ => ?_) (fun h => Go.Ai.tf h)) | (refine And.intro (fun _ => ?_) (fun h => Go.Ai.ft h)) | (refine And.intro (fun h => Go.Ai.ft h) (fun _ => ?_)) | (refine And.intro (fun h => Go.Ai.tf h) (fun _ => ?_)))
          try (refine cF d0 ?_)
          repeat (first | (refine And.intro (fun _ => ?_) (fun h => Go.Ai.tf h)) | (refine And.intro (fun _ => ?_) (fun h => Go.Ai.ft h)) | (refine And.intro (fun h => Go.Ai.ft h) (fun _ => ?_)) | (refine And.intro (fun h => Go.Ai.tf h) (fun _ => ?_)))
          refine gTf d1 ?_
          repeat (first | (refine And.intro (fun _ => ?_) (fun h => Go.Ai.tf h)) | (refine And.intro (fun _ => ?_) (fun h => Go.Ai.ft h)) | (refine And.intro (fun h => Go.Ai.ft h) (fun _ => ?_)) | (refine And.intro (fun h => Go.Ai.tf h) (fun _ => ?_)))
          refine And.intro ⟨of_decide_eq_true rfl, of_decide_eq_true rfl⟩ ?_
          refine And.intro ⟨of_decide_eq_true rfl, of_decide_eq_true rfl⟩ ?_
          refine Or.inl (And.intro (inK_i64 (show (-9223372036854775808 : Int) ≤ 4 - 3 ∧ (4 : Int) - 3 < 9223372036854775808 by omega)) ?_)
          refine Or.inl (And.intro (inK_i64 (show (-9223372036854775808 : Int) ≤ 4 - 3 + 1 ∧ (4 : Int) - 3 + 1 < 9223372036854775808 by omega)) ?_)
          refine TB.ofLB (LB.nextN CF1.tt (by decide) ?_)
          repeat (first | (refine And.intro (fun _ => ?_) (fun h => Go.Ai.tf h)) | (refine And.intro (fun _ => ?_) (fun h => Go.Ai.ft h)) | (refine And.intro (fun h => Go.Ai.ft h) (fun _ => ?_)) | (refine And.intro (fun h => Go.Ai.tf h) (fun _ => ?_)) | (refine And.intro ⟨of_decide_eq_true rfl, of_decide_eq_true rfl⟩ ?_) | (refine And.intro ⟨of_decide_eq_true rfl, of_decide_eq_true rfl, of_decide_eq_true rfl⟩ ?_) | (refine Or.inl (And.intro (inK_i64 (by decide)) ?_)) | (refine gTf d1 ?_) | (refine gT d2 ?_) | (refine CallW.of (call_up rfl (liteByte_ok _ _ _)) ?_))
          exact ⟨rfl, rfl⟩
        · have dz : decide ([40, 91, 123] = [40, 91, z]) = false := decide_eq_false (by simpa using fun e => hz e.symm)
          refine ⟨-1, ?_⟩
          refine fn_wpN CF1 (by decide) (n := 143) (res := [.tmp 4]) (c := (codeOf Try.f35)) rfl ?_
          repeat (first | (refine And.intro (fun _ => ?_) (fun h => Go.Ai.tf h)) | (refine And.intro (fun _ => ?_) (fun h => Go.Ai.ft h)) | (refine And.intro (fun h => Go.Ai.ft h) (fun _ => ?_)) | (refine And.intro (fun h => Go.Ai.tf h) (fun _ => ?_)))
          try (refine cF d0 ?_)
          repeat (first | (refine And.intro (fun _ => ?_) (fun h => Go.Ai.tf h)) | (refine And.intro (fun _ => ?_) (fun h => Go.Ai.ft h)) | (refine And.intro (fun h => Go.Ai.ft h) (fun _ => ?_)) | (refine And.intro (fun h => Go.Ai.tf h) (fun _ => ?_)))
          refine gTf d1 ?_
          repeat (first | (refine And.intro (fun _ => ?_) (fun h => Go.Ai.tf h)) | (refine And.intro (fun _ => ?_) (fun h => Go.Ai.ft h)) | (refine And.intro (fun h => Go.Ai.ft h) (fun _ => ?_)) | (refine And.intro (fun h => Go.Ai.tf h) (fun _ => ?_)))
          refine And.intro ⟨of_decide_eq_true rfl, of_decide_eq_true rfl⟩ ?_
          refine And.intro ⟨of_decide_eq_true rfl, of_decide_eq_true rfl⟩ ?_
          refine Or.inl (And.intro (inK_i64 (show (-9223372036854775808 : Int) ≤ 4 - 3 ∧ (4 : Int) - 3 < 9223372036854775808 by omega)) ?_)
          refine Or.inl (And.intro (inK_i64 (show (-9223372036854775808 : Int) ≤ 4 - 3 + 1 ∧ (4 : Int) - 3 + 1 < 9223372036854775808 by omega)) ?_)
          refine TB.ofLB (LB.nextN CF1.tt (by decide) ?_)
          repeat (first | (refine And.intro (fun _ => ?_) (fun h => Go.Ai.tf h)) | (refine And.intro (fun _ => ?_) (fun h => Go.Ai.ft h)) | (refine And.intro (fun h => Go.Ai.ft h) (fun _ => ?_)) | (refine And.intro (fun h => Go.Ai.tf h) (fun _ => ?_)) | (refine And.intro ⟨of_decide_eq_true rfl, of_decide_eq_true rfl⟩ ?_) | (refine And.intro ⟨of_decide_eq_true rfl, of_decide_eq_true rfl, of_decide_eq_true rfl⟩ ?_) | (refine Or.inl (And.intro (inK_i64 (by decide)) ?_)) | (refine gTf d1 ?_) | (refine gT d2 ?_) | (refine CallW.of (call_up rfl (liteByte_ok _ _ _)) ?_))
          refine Or.inl (And.intro (inK_i64 (show (-9223372036854775808 : Int) ≤ 0 + 3 ∧ (0 : Int) + 3 < 9223372036854775808 by omega)) ?_)
          repeat (first | (refine And.intro (fun _ => ?_) (fun h => Go.Ai.tf h)) | (refine And.intro (fun _ => ?_) (fun h => Go.Ai.ft h)) | (refine And.intro (fun h => Go.Ai.ft h) (fun _ => ?_)) | (refine And.intro (fun h => Go.Ai.tf h) (fun _ => ?_)) | (refine And.intro ⟨of_decide_eq_true rfl, of_decide_eq_true rfl⟩ ?_) | (refine And.intro ⟨of_decide_eq_true rfl, of_decide_eq_true rfl, of_decide_eq_true rfl⟩ ?_) | (refine Or.inl (And.intro (inK_i64 (by decide)) ?_)) | (refine gTf d1 ?_) | (refine gT d2 ?_) | (refine CallW.of (call_up rfl (liteByte_ok _ _ _)) ?_))
          refine cF dz ?_
          repeat (first | (refine And.intro (fun _ => ?_) (fun h => Go.Ai.tf h)) | (refine And.intro (fun _ => ?_) (fun h => Go.Ai.ft h)) | (refine And.intro (fun h => Go.Ai.ft h) (fun _ => ?_)) | (refine And.intro (fun h => Go.Ai.tf h) (fun _ => ?_)) | (refine And.intro ⟨of_decide_eq_true rfl, of_decide_eq_true rfl⟩ ?_) | (refine And.intro ⟨of_decide_eq_true rfl, of_decide_eq_true rfl, of_decide_eq_true rfl⟩ ?_) | (refine Or.inl (And.intro (inK_i64 (by decide)) ?_)) | (refine gTf d1 ?_) | (refine gT d2 ?_) | (refine CallW.of (call_up rfl (liteByte_ok _ _ _)) ?_))
          refine LB.nextN CF1.tt (by decide) ?_
          repeat (first | (refine And.intro (fun _ => ?_) (fun h => Go.Ai.tf h)) | (refine And.intro (fun _ => ?_) (fun h => Go.Ai.ft h)) | (refine And.intro (fun h => Go.Ai.ft h) (fun _ => ?_)) | (refine And.intro (fun h => Go.Ai.tf h) (fun _ => ?_)) | (refine And.intro ⟨of_decide_eq_true rfl, of_decide_eq_true rfl⟩ ?_) | (refine And.intro ⟨of_decide_eq_true rfl, of_decide_eq_true rfl, of_decide_eq_true rfl⟩ ?_) | (refine Or.inl (And.intro (inK_i64 (by decide)) ?_)) | (refine gTf d1 ?_) | (refine gT d2 ?_) | (refine CallW.of (call_up rfl (liteByte_ok _ _ _)) ?_))
          exact ⟨rfl, rfl⟩
      · have dy := dif 91 y hy
        refine ⟨-1, ?_⟩
        refine fn_wpN CF1 (by decide) (n := 143) (res := [.tmp 4]) (c := (codeOf Try.f35)) rfl ?_
        repeat (first | (refine And.intro (fun _ => ?_) (fun h => Go.Ai.tf h)) | (refine And.intro (fun _ => ?_) (fun h => Go.Ai.ft h)) | (refine And.intro (fun h => Go.Ai.ft h) (fun _ => ?_)) | (refine And.intro (fun h => Go.Ai.tf h) (fun _ => ?_)))
        try (refine cF d0 ?_)
        repeat (first | (refine And.intro (fun _ => ?_) (fun h => Go.Ai.tf h)) | (refine And.intro (fun _ => ?_) (fun h => Go.Ai.ft h)) | (refine And.intro (fun h => Go.Ai.ft h) (fun _ => ?_)) | (refine And.intro (fun h => Go.Ai.tf h) (fun _ => ?_)))
        refine gTf d1 ?_
        repeat (first | (refine And.intro (fun _ => ?_) (fun h => Go.Ai.tf h)) | (refine And.intro (fun _ => ?_) (fun h => Go.Ai.ft h)) | (refine And.intro (fun h => Go.Ai.ft h) (fun _ => ?_)) | (refine And.intro (fun h => Go.Ai.tf h) (fun _ => ?_)))
        refine And.intro ⟨of_decide_eq_true rfl, of_decide_eq_true rfl⟩ ?_
        refine And.intro ⟨of_decide_eq_true rfl, of_decide_eq_true rfl⟩ ?_
        refine Or.inl (And.intro (inK_i64 (show (-9223372036854775808 : Int) ≤ 4 - 3 ∧ (4 : Int) - 3 < 9223372036854775808 by omega)) ?_)
        refine Or.inl (And.intro (inK_i64 (show (-9223372036854775808 : Int) ≤ 4 - 3 + 1 ∧ (4 : Int) - 3 + 1 < 9223372036854775808 by omega)) ?_)
        refine TB.ofLB (LB.nextN CF1.tt (by decide) ?_)
        repeat (first | (refine And.intro (fun _ => ?_) (fun h => Go.Ai.tf h)) | (refine And.intro (fun _ => ?_) (fun h => Go.Ai.ft h)) | (refine And.intro (fun h => Go.Ai.ft h) (fun _ => ?_)) | (refine And.intro (fun h => Go.Ai.tf h) (fun _ => ?_)) | (refine And.intro ⟨of_decide_eq_true rfl, of_decide_eq_true rfl⟩ ?_) | (refine And.intro ⟨of_decide_eq_true rfl, of_decide_eq_true rfl, of_decide_eq_true rfl⟩ ?_) | (refine Or.inl (And.intro (inK_i64 (by decide)) ?_)) | (refine gTf d1 ?_) | (refine gT d2 ?_) | (refine CallW.of (call_up rfl (liteByte_ok _ _ _)) ?_))
        refine gTf dy ?_
        repeat (first | (refine And.intro (fun _ => ?_) (fun h => Go.Ai.tf h)) | (refine And.intro (fun _ => ?_) (fun h => Go.Ai.ft h)) | (refine And.intro (fun h => Go.Ai.ft h) (fun _ => ?_)) | (refine And.intro (fun h => Go.Ai.tf h) (fun _ => ?_)) | (refine And.intro ⟨of_decide_eq_true rfl, of_decide_eq_true rfl⟩ ?_) | (refine And.intro ⟨of_decide_eq_true rfl, of_decide_eq_true rfl, of_decide_eq_true rfl⟩ ?_) | (refine Or.inl (And.intro (inK_i64 (by decide)) ?_)) | (refine gTf d1 ?_) | (refine gT d2 ?_) | (refine CallW.of (call_up rfl (liteByte_ok _ _ _)) ?_))
        refine LB.nextN CF1.tt (by decide) ?_
        repeat (first | (refine And.intro (fun _ => ?_) (fun h => Go.Ai.tf h)) | (refine And.intro (fun _ => ?_) (fun h => Go.Ai.ft h)) | (refine And.intro (fun h => Go.Ai.ft h) (fun _ => ?_)) | (refine And.intro (fun h => Go.Ai.tf h) (fun _ => ?_)) | (refine And.intro ⟨of_decide_eq_true rfl, of_decide_eq_true rfl⟩ ?_) | (refine And.intro ⟨of_decide_eq_true rfl, of_decide_eq_true rfl, of_decide_eq_true rfl⟩ ?_) | (refine Or.inl (And.intro (inK_i64 (by decide)) ?_)) | (refine gTf d1 ?_) | (refine gT d2 ?_) | (refine CallW.of (call_up rfl (liteByte_ok _ _ _)) ?_))
        exact ⟨rfl, rfl⟩
    by_cases hx1 : x = 91
    · subst hx1
      have hlb : ∀ h, CallOk Try.prog C1 41 [str [91], .int .u8 (91 : UInt8).toNat] h (.ret (.int .i64 0) h) := fun h => call_up rfl (liteByte_ok [91] 91 h)
      by_cases hy : y = 123
      · subst hy
        by_cases hz : z = 60
        · subst hz
          refine ⟨1, ?_⟩
          refine fn_wpN CF1 (by decide) (n := 143) (res := [.tmp 4]) (c := (codeOf Try.f35)) rfl ?_
          repeat (first | (refine And.intro (fun _ => ?_) (fun h => Go.Ai.tf h)) | (refine And.intro (fun _ => ?_) (fun h => Go.Ai.ft h)) | (refine And.intro (fun h => Go.Ai.ft h) (fun _ => ?_)) | (refine And.intro (fun h => Go.Ai.tf h) (fun _ => ?_)))
          try (refine cF d0 ?_)
          repeat (first | (refine And.intro (fun _ => ?_) (fun h => Go.Ai.tf h)) | (refine And.intro (fun _ => ?_) (fun h => Go.Ai.ft h)) | (refine And.intro (fun h => Go.Ai.ft h) (fun _ => ?_)) | (refine And.intro (fun h => Go.Ai.tf h) (fun _ => ?_)))
          refine gTf d1 ?_
          repeat (first | (refine And.intro (fun _ => ?_) (fun h => Go.Ai.tf h)) | (refine And.intro (fun _ => ?_) (fun h => Go.Ai.ft h)) | (refine And.intro (fun h => Go.Ai.ft h) (fun _ => ?_)) | (refine And.intro (fun h => Go.Ai.tf h) (fun _ => ?_)))
          refine And.intro ⟨of_decide_eq_true rfl, of_decide_eq_true rfl⟩ ?_
          refine And.intro ⟨of_decide_eq_true rfl, of_decide_eq_true rfl⟩ ?_
          refine Or.inl (And.intro (inK_i64 (show (-9223372036854775808 : Int) ≤ 4 - 3 ∧ (4 : Int) - 3 < 9223372036854775808 by omega)) ?_)
          refine Or.inl (And.intro (inK_i64 (show (-9223372036854775808 : Int) ≤ 4 - 3 + 1 ∧ (4 : Int) - 3 + 1 < 9223372036854775808 by omega)) ?_)
          refine TB.ofLB (LB.nextN CF1.tt (by decide) ?_)
          repeat (first | (refine And.intro (fun _ => ?_) (fun h => Go.Ai.tf h)) | (refine And.intro (fun _ => ?_) (fun h => Go.Ai.ft h)) | (refine And.intro (fun h => Go.Ai.ft h) (fun _ => ?_)) | (refine And.intro (fun h => Go.Ai.tf h) (fun _ => ?_)) | (refine And.intro ⟨of_decide_eq_true rfl, of_decide_eq_true rfl⟩ ?_) | (refine And.intro ⟨of_decide_eq_true rfl, of_decide_eq_true rfl, of_decide_eq_true rfl⟩ ?_) | (refine Or.inl (And.intro (inK_i64 (by decide)) ?_)) | (refine gTf d1 ?_) | (refine gT d2 ?_))
          refine CallW.of (hlb _) ?_
          repeat (first | (refine And.intro (fun _ => ?_) (fun h => Go.Ai.tf h)) | (refine And.intro (fun _ => ?_) (fun h => Go.Ai.ft h)) | (refine And.intro (fun h => Go.Ai.ft h) (fun _ => ?_)) | (refine And.intro (fun h => Go.Ai.tf h) (fun _ => ?_)) | (refine And.intro ⟨of_decide_eq_true rfl, of_decide_eq_true rfl⟩ ?_) | (refine And.intro ⟨of_decide_eq_true rfl, of_decide_eq_true rfl, of_decide_eq_true rfl⟩ ?_) | (refine Or.inl (And.intro (inK_i64 (by decide)) ?_)) | (refine gTf d1 ?_) | (refine gT d2 ?_))
          exact ⟨rfl, rfl⟩
        · have dz : decide ([91, 123, 60] = [91, 123, z]) = false := decide_eq_false (by simpa using fun e => hz e.symm)
          refine ⟨-1, ?_⟩
          refine fn_wpN CF1 (by decide) (n := 143) (res := [.tmp 4]) (c := (codeOf Try.f35)) rfl ?_
          repeat (first | (refine And.intro (fun _ => ?_) (fun h => Go.Ai.tf h)) | (refine And.intro (fun _ => ?_) (fun h => Go.Ai.ft h)) | (refine And.intro (fun h => Go.Ai.ft h) (fun _ => ?_)) | (refine And.intro (fun h => Go.Ai.tf h) (fun _ => ?_)))
          try (refine cF d0 ?_)
          repeat (first | (refine And.intro (fun _ => ?_) (fun h => Go.Ai.tf h)) | (refine And.intro (fun _ => ?_) (fun h => Go.Ai.ft h)) | (refine And.intro (fun h => Go.Ai.ft h) (fun _ => ?_)) | (refine And.intro (fun h => Go.Ai.tf h) (fun _ => ?_)))
          refine gTf d1 ?_
          repeat (first | (refine And.intro (fun _ => ?_) (fun h => Go.Ai.tf h)) | (refine And.intro (fun _ => ?_) (fun h => Go.Ai.ft h)) | (refine And.intro (fun h => Go.Ai.ft h) (fun _ => ?_)) | (refine And.intro (fun h => Go.Ai.tf h) (fun _ => ?_)))
          refine And.intro ⟨of_decide_eq_true rfl, of_decide_eq_true rfl⟩ ?_
          refine And.intro ⟨of_decide_eq_true rfl, of_decide_eq_true rfl⟩ ?_
          refine Or.inl (And.intro (inK_i64 (show (-9223372036854775808 : Int) ≤ 4 - 3 ∧ (4 : Int) - 3 < 9223372036854775808 by omega)) ?_)
          refine Or.inl (And.intro (inK_i64 (show (-9223372036854775808 : Int) ≤ 4 - 3 + 1 ∧ (4 : Int) - 3 + 1 < 9223372036854775808 by omega)) ?_)
          refine TB.ofLB (LB.nextN CF1.tt (by decide) ?_)
          repeat (first | (refine And.intro (fun _ => ?_) (fun h => Go.Ai.tf h)) | (refine And.intro (fun _ => ?_) (fun h => Go.Ai.ft h)) | (refine And.intro (fun h => Go.Ai.ft h) (fun _ => ?_)) | (refine And.intro (fun h => Go.Ai.tf h) (fun _ => ?_)) | (refine And.intro ⟨of_decide_eq_true rfl, of_decide_eq_true rfl⟩ ?_) | (refine And.intro ⟨of_decide_eq_true rfl, of_decide_eq_true rfl, of_decide_eq_true rfl⟩ ?_) | (refine Or.inl (And.intro (inK_i64 (by decide)) ?_)) | (refine gTf d1 ?_) | (refine gT d2 ?_))
          refine CallW.of (hlb _) ?_
          repeat (first | (refine And.intro (fun _ => ?_) (fun h => Go.Ai.tf h)) | (refine And.intro (fun _ => ?_) (fun h => Go.Ai.ft h)) | (refine And.intro (fun h => Go.Ai.ft h) (fun _ => ?_)) | (refine And.intro (fun h => Go.Ai.tf h) (fun _ => ?_)) | (refine And.intro ⟨of_decide_eq_true rfl, of_decide_eq_true rfl⟩ ?_) | (refine And.intro ⟨of_decide_eq_true rfl, of_decide_eq_true rfl, of_decide_eq_true rfl⟩ ?_) | (refine Or.inl (And.intro (inK_i64 (by decide)) ?_)) | (refine gTf d1 ?_) | (refine gT d2 ?_))
          refine Or.inl (And.intro (inK_i64 (show (-9223372036854775808 : Int) ≤ 1 + 3 ∧ (1 : Int) + 3 < 9223372036854775808 by omega)) ?_)
          repeat (first | (refine And.intro (fun _ => ?_) (fun h => Go.Ai.tf h)) | (refine And.intro (fun _ => ?_) (fun h => Go.Ai.ft h)) | (refine And.intro (fun h => Go.Ai.ft h) (fun _ => ?_)) | (refine And.intro (fun h => Go.Ai.tf h) (fun _ => ?_)) | (refine And.intro ⟨of_decide_eq_true rfl, of_decide_eq_true rfl⟩ ?_) | (refine And.intro ⟨of_decide_eq_true rfl, of_decide_eq_true rfl, of_decide_eq_true rfl⟩ ?_) | (refine Or.inl (And.intro (inK_i64 (by decide)) ?_)) | (refine gTf d1 ?_) | (refine gT d2 ?_))
          refine cF dz ?_
          repeat (first | (refine And.intro (fun _ => ?_) (fun h => Go.Ai.tf h)) | (refine And.intro (fun _ => ?_) (fun h => Go.Ai.ft h)) | (refine And.intro (fun h => Go.Ai.ft h) (fun _ => ?_)) | (refine And.intro (fun h => Go.Ai.tf h) (fun _ => ?_)) | (refine And.intro ⟨of_decide_eq_true rfl, of_decide_eq_true rfl⟩ ?_) | (refine And.intro ⟨of_decide_eq_true rfl, of_decide_eq_true rfl, of_decide_eq_true rfl⟩ ?_) | (refine Or.inl (And.intro (inK_i64 (by decide)) ?_)) | (refine gTf d1 ?_) | (refine gT d2 ?_))
          refine LB.nextN CF1.tt (by decide) ?_
          repeat (first | (refine And.intro (fun _ => ?_) (fun h => Go.Ai.tf h)) | (refine And.intro (fun _ => ?_) (fun h => Go.Ai.ft h)) | (refine And.intro (fun h => Go.Ai.ft h) (fun _ => ?_)) | (refine And.intro (fun h => Go.Ai.tf h) (fun _ => ?_)) | (refine And.intro ⟨of_decide_eq_true rfl, of_decide_eq_true rfl⟩ ?_) | (refine And.intro ⟨of_decide_eq_true rfl, of_decide_eq_true rfl, of_decide_eq_true rfl⟩ ?_) | (refine Or.inl (And.intro (inK_i64 (by decide)) ?_)) | (refine gTf d1 ?_) | (refine gT d2 ?_))
          exact ⟨rfl, rfl⟩
      · have dy := dif 123 y hy
        refine ⟨-1, ?_⟩
        refine fn_wpN CF1 (by decide) (n := 143) (res := [.tmp 4]) (c := (codeOf Try.f35)) rfl ?_
        repeat (first | (refine And.intro (fun _ => ?_) (fun h => Go.Ai.tf h)) | (refine And.intro (fun _ => ?_) (fun h => Go.Ai.ft h)) | (refine And.intro (fun h => Go.Ai.ft h) (fun _ => ?_)) | (refine And.intro (fun h => Go.Ai.tf h) (fun _ => ?_)))
        try (refine cF d0 ?_)
        repeat (first | (refine And.intro (fun _ => ?_) (fun h => Go.Ai.tf h)) | (refine And.intro (fun _ => ?_) (fun h => Go.Ai.ft h)) | (refine And.intro (fun h => Go.Ai.ft h) (fun _ => ?_)) | (refine And.intro (fun h => Go.Ai.tf h) (fun _ => ?_)))
        refine gTf d1 ?_
        repeat (first | (refine And.intro (fun _ => ?_) (fun h => Go.Ai.tf h)) | (refine And.intro (fun _ => ?_) (fun h => Go.Ai.ft h)) | (refine And.intro (fun h => Go.Ai.ft h) (fun _ => ?_)) | (refine And.intro (fun h => Go.Ai.tf h) (fun _ => ?_)))
        refine And.intro ⟨of_decide_eq_true rfl, of_decide_eq_true rfl⟩ ?_
        refine And.intro ⟨of_decide_eq_true rfl, of_decide_eq_true rfl⟩ ?_
        refine Or.inl (And.intro (inK_i64 (show (-9223372036854775808 : Int) ≤ 4 - 3 ∧ (4 : Int) - 3 < 9223372036854775808 by omega)) ?_)
        refine Or.inl (And.intro (inK_i64 (show (-9223372036854775808 : Int) ≤ 4 - 3 + 1 ∧ (4 : Int) - 3 + 1 < 9223372036854775808 by omega)) ?_)
        refine TB.ofLB (LB.nextN CF1.tt (by decide) ?_)
        repeat (first | (refine And.intro (fun _ => ?_) (fun h => Go.Ai.tf h)) | (refine And.intro (fun _ => ?_) (fun h => Go.Ai.ft h)) | (refine And.intro (fun h => Go.Ai.ft h) (fun _ => ?_)) | (refine And.intro (fun h => Go.Ai.tf h) (fun _ => ?_)) | (refine And.intro ⟨of_decide_eq_true rfl, of_decide_eq_true rfl⟩ ?_) | (refine And.intro ⟨of_decide_eq_true rfl, of_decide_eq_true rfl, of_decide_eq_true rfl⟩ ?_) | (refine Or.inl (And.intro (inK_i64 (by decide)) ?_)) | (refine gTf d1 ?_) | (refine gT d2 ?_))
        refine CallW.of (hlb _) ?_
        repeat (first | (refine And.intro (fun _ => ?_) (fun h => Go.Ai.tf h)) | (refine And.intro (fun _ => ?_) (fun h => Go.Ai.ft h)) | (refine And.intro (fun h => Go.Ai.ft h) (fun _ => ?_)) | (refine And.intro (fun h => Go.Ai.tf h) (fun _ => ?_)) | (refine And.intro ⟨of_decide_eq_true rfl, of_decide_eq_true rfl⟩ ?_) | (refine And.intro ⟨of_decide_eq_true rfl, of_decide_eq_true rfl, of_decide_eq_true rfl⟩ ?_) | (refine Or.inl (And.intro (inK_i64 (by decide)) ?_)) | (refine gTf d1 ?_) | (refine gT d2 ?_))
        refine gTf dy ?_
        repeat (first | (refine And.intro (fun _ => ?_) (fun h => Go.Ai.tf h)) | (refine And.intro (fun _ => ?_) (fun h => Go.Ai.ft h)) | (refine And.intro (fun h => Go.Ai.ft h) (fun _ => ?_)) | (refine And.intro (fun h => Go.Ai.tf h) (fun _ => ?_)) | (refine And.intro ⟨of_decide_eq_true rfl, of_decide_eq_true rfl⟩ ?_) | (refine And.intro ⟨of_decide_eq_true rfl, of_decide_eq_true rfl, of_decide_eq_true rfl⟩ ?_) | (refine Or.inl (And.intro (inK_i64 (by decide)) ?_)) | (refine gTf d1 ?_) | (refine gT d2 ?_))
        refine LB.nextN CF1.tt (by decide) ?_
        repeat (first | (refine And.intro (fun _ => ?_) (fun h => Go.Ai.tf h)) | (refine And.intro (fun _ => ?_) (fun h => Go.Ai.ft h)) | (refine And.intro (fun h => Go.Ai.ft h) (fun _ => ?_)) | (refine And.intro (fun h => Go.Ai.tf h) (fun _ => ?_)) | (refine And.intro ⟨of_decide_eq_true rfl, of_decide_eq_true rfl⟩ ?_) | (refine And.intro ⟨of_decide_eq_true rfl, of_decide_eq_true rfl, of_decide_eq_true rfl⟩ ?_) | (refine Or.inl (And.intro (inK_i64 (by decide)) ?_)) | (refine gTf d1 ?_) | (refine gT d2 ?_))
        exact ⟨rfl, rfl⟩
    · have dx : (!decide (((40 : UInt8).toNat : Int) = (x.toNat : Nat))) = true := by rw [dif 40 x hx]; rfl
      have hib : Go.Lib.indexByte [91] x = -1 := ib_none (by simp [hx1])
      have hlb : ∀ h, CallOk Try.prog C1 41 [str [91], .int .u8 x.toNat] h (.ret (.int .i64 (-1)) h) := by
        intro h
        have := liteByte_ok [91] x h
        rw [hib] at this
        exact call_up rfl this
      refine ⟨-1, ?_⟩
      refine fn_wpN CF1 (by decide) (n := 143) (res := [.tmp 4]) (c := (codeOf Try.f35)) rfl ?_
      repeat (first | (refine And.intro (fun _ => ?_) (fun h => Go.Ai.tf h)) | (refine And.intro (fun _ => ?_) (fun h => Go.Ai.ft h)) | (refine And.intro (fun h => Go.Ai.ft h) (fun _ => ?_)) | (refine And.intro (fun h => Go.Ai.tf h) (fun _ => ?_)))
      try (refine cF d0 ?_)
      repeat (first | (refine And.intro (fun _ => ?_) (fun h => Go.Ai.tf h)) | (refine And.intro (fun _ => ?_) (fun h => Go.Ai.ft h)) | (refine And.intro (fun h => Go.Ai.ft h) (fun _ => ?_)) | (refine And.intro (fun h => Go.Ai.tf h) (fun _ => ?_)))
      refine gTf d1 ?_
      repeat (first | (refine And.intro (fun _ => ?_) (fun h => Go.Ai.tf h)) | (refine And.intro (fun _ => ?_) (fun h => Go.Ai.ft h)) | (refine And.intro (fun h => Go.Ai.ft h) (fun _ => ?_)) | (refine And.intro (fun h => Go.Ai.tf h) (fun _ => ?_)))
      refine And.intro ⟨of_decide_eq_true rfl, of_decide_eq_true rfl⟩ ?_
      refine And.intro ⟨of_decide_eq_true rfl, of_decide_eq_true rfl⟩ ?_
      refine Or.inl (And.intro (inK_i64 (show (-9223372036854775808 : Int) ≤ 4 - 3 ∧ (4 : Int) - 3 < 9223372036854775808 by omega)) ?_)
      refine Or.inl (And.intro (inK_i64 (show (-9223372036854775808 : Int) ≤ 4 - 3 + 1 ∧ (4 : Int) - 3 + 1 < 9223372036854775808 by omega)) ?_)
      refine TB.ofLB (LB.nextN CF1.tt (by decide) ?_)
      repeat (first | (refine And.intro (fun _ => ?_) (fun h => Go.Ai.tf h)) | (refine And.intro (fun _ => ?_) (fun h => Go.Ai.ft h)) | (refine And.intro (fun h => Go.Ai.ft h) (fun _ => ?_)) | (refine And.intro (fun h => Go.Ai.tf h) (fun _ => ?_)) | (refine And.intro ⟨of_decide_eq_true rfl, of_decide_eq_true rfl⟩ ?_) | (refine And.intro ⟨of_decide_eq_true rfl, of_decide_eq_true rfl, of_decide_eq_true rfl⟩ ?_) | (refine Or.inl (And.intro (inK_i64 (by decide)) ?_)) | (refine gTf d1 ?_) | (refine gT d2 ?_))
      refine cT dx ?_
      repeat (first | (refine And.intro (fun _ => ?_) (fun h => Go.Ai.tf h)) | (refine And.intro (fun _ => ?_) (fun h => Go.Ai.ft h)) | (refine And.intro (fun h => Go.Ai.ft h) (fun _ => ?_)) | (refine And.intro (fun h => Go.Ai.tf h) (fun _ => ?_)) | (refine And.intro ⟨of_decide_eq_true rfl, of_decide_eq_true rfl⟩ ?_) | (refine And.intro ⟨of_decide_eq_true rfl, of_decide_eq_true rfl, of_decide_eq_true rfl⟩ ?_) | (refine Or.inl (And.intro (inK_i64 (by decide)) ?_)) | (refine gTf d1 ?_) | (refine gT d2 ?_))
      refine CallW.of (hlb _) ?_
      repeat (first | (refine And.intro (fun _ => ?_) (fun h => Go.Ai.tf h)) | (refine And.intro (fun _ => ?_) (fun h => Go.Ai.ft h)) | (refine And.intro (fun h => Go.Ai.ft h) (fun _ => ?_)) | (refine And.intro (fun h => Go.Ai.tf h) (fun _ => ?_)) | (refine And.intro ⟨of_decide_eq_true rfl, of_decide_eq_true rfl⟩ ?_) | (refine And.intro ⟨of_decide_eq_true rfl, of_decide_eq_true rfl, of_decide_eq_true rfl⟩ ?_) | (refine Or.inl (And.intro (inK_i64 (by decide)) ?_)) | (refine gTf d1 ?_) | (refine gT d2 ?_))
      exact ⟨rfl, rfl⟩
end Go.Proofs.Ytbaoelfpmdmhjaa
set_option maxRecDepth 100000
set_option maxHeartbeats 2000000
namespace Go.Proofs.Ytbaoelfpmdmhjaa
open Go.Ai
/-! ### pair.All at kinds that are none -/
theorem index_wrap {kd : List UInt8} {v : Int} {m : Int} {e : TypeId} {fz : Nat} (h : CallOk Try.prog C1 35 [str [40, 91, 123, 60], str kd] (hM m e fz) (.ret (.int .i64 v) (hM m e fz))) :
    CallOk Try.prog C1 17 [str [40, 91, 123, 60], str kd] (hM m e fz) (.ret (.int .i64 v) (hM m e fz)) := by
  refine fn_wpN CF1 (by decide) (n := 8) (res := [.tmp 4]) (c := (codeOf Try.f17)) rfl ?_
  refine CallW.of h ?_
  exact ⟨rfl, rfl⟩
theorem lite4 (kd : List UInt8) (h4 : 4 ≤ kd.length) : ∀ h, CallOk Try.prog C 35 [str [40, 91, 123, 60], str kd] h (.ret (.int .i64 (if kd = [40, 91, 123, 60] then 0 else -1)) h) := by
  have d0 : decide (((kd.length : Nat) : Int) = 0) = false := decide_eq_false (by omega)
  have d1 : decide (((kd.length : Nat) : Int) = 1) = false := decide_eq_false (by omega)
  have d4 : decide ((4 : Int) ≤ ((kd.length : Nat) : Int)) = true := decide_eq_true (by omega)
  refine pure_wp CF rfl 6 3 (n := 143) (res := [.tmp 4]) (c := codeOf Try.f35) rfl rfl rfl ?_
  refine gF d0 ?_
  repeat (first | (refine And.intro (fun _ => ?_) (fun h => Go.Ai.tf h)) | (refine And.intro (fun _ => ?_) (fun h => Go.Ai.ft h)) | (refine And.intro (fun h => Go.Ai.ft h) (fun _ => ?_)) | (refine And.intro (fun h => Go.Ai.tf h) (fun _ => ?_)))
  refine And.intro (fun h1 => ?_) (fun h1 => ?_)
  · have h1 : kd = [40, 91, 123, 60] := of_decide_eq_true h1
    rw [if_pos h1]
    rfl
  · have h1 : ¬ kd = [40, 91, 123, 60] := of_decide_eq_false h1
    rw [if_neg h1]
    refine cF d1 ?_
    refine cT d4 ?_
    rfl
theorem lite0 : ∀ h, CallOk Try.prog C 35 [str [40, 91, 123, 60], str []] h (.ret (.int .i64 0) h) := by
  refine pure_wp CF rfl 6 3 (n := 143) (res := [.tmp 4]) (c := codeOf Try.f35) rfl rfl rfl ?_
  repeat (first | (refine And.intro (fun _ => ?_) (fun h => Go.Ai.tf h)) | (refine And.intro (fun _ => ?_) (fun h => Go.Ai.ft h)) | (refine And.intro (fun h => Go.Ai.ft h) (fun _ => ?_)) | (refine And.intro (fun h => Go.Ai.tf h) (fun _ => ?_)))
  rfl
theorem ib4 (x : UInt8) (h : ¬ ∃ i, i < 4 ∧ [x] = [opB i]) : Go.Lib.indexByte [40, 91, 123, 60] x = -1 := by
  refine ib_none fun hm => h ?_
  simp only [List.mem_cons, List.not_mem_nil, or_false] at hm
  rcases hm with rfl | rfl | rfl | rfl
  · exact ⟨0, by omega, rfl⟩
  · exact ⟨1, by omega, rfl⟩
  · exact ⟨2, by omega, rfl⟩
  · exact ⟨3, by omega, rfl⟩
theorem index_any (kd : List UInt8) (hbad : ¬ ∃ i, i < 4 ∧ kd = [opB i]) (m : Int) (e : TypeId) (fz : Nat) : ∃ v : Int, (kd.length = 1 → v < 0) ∧ CallOk Try.prog C1 17 [str [40, 91, 123, 60], str kd] (hM m e fz) (.ret (.int .i64 v) (hM m e fz)) := by
  rcases kd with _ | ⟨x, _ | ⟨y, _ | ⟨z, _ | ⟨w, r⟩⟩⟩⟩
  · exact ⟨0, fun h => (by simp at h), index_wrap (call_up rfl (lite0 _))⟩
  · refine ⟨-1, fun _ => by omega, ?_⟩
    have := liteIndex_one [40, 91, 123, 60] x (hM m e fz)
    rw [ib4 x hbad] at this
    exact index_wrap (call_up rfl this)
  · obtain ⟨v, hv⟩ := lite2 x y m e fz
    exact ⟨v, fun h => (by simp at h), index_wrap hv⟩
  · obtain ⟨v, hv⟩ := lite3 x y z m e fz
    exact ⟨v, fun h => (by simp at h), index_wrap hv⟩
  · exact ⟨_, fun h => (by simp at h), index_wrap (call_up rfl (lite4 (x :: y :: z :: w :: r) (by simp) _))⟩
theorem all_none (l kd : List UInt8) (hbad : ¬ ∃ i, i < 4 ∧ kd = [opB i]) (m : Int) (e : TypeId) (fz : Nat) : ∀ (h : H) (fam : Nat), h.bl.get 0 = some (.cells [.int .i64 m] e fam fz) → CallOk Try.prog C1 9 [str l, str kd] h (.ret (.slice none 0 0) h) := by
  obtain ⟨v, hv1, hv⟩ := index_any kd hbad m e fz
  refine pure_of1 (h' := hM m e fz) (k := 3) ?_ (show 0 < bigLow by decide) rfl rfl
  refine fn_wpN CF1 (by decide) (n := 58) (res := [.tmp 4]) (c := (codeOf Try.f9)) rfl ?_
  refine CallW.of hv ?_
  by_cases h1 : kd.length = 1
  · have d1 : (!decide (((kd.length : Nat) : Int) = 1)) = false := by rw [decide_eq_true (by omega)]; rfl
    have d2 : decide (v < 0) = true := decide_eq_true (hv1 h1)
    refine gF d1 ?_
    repeat (first | (refine And.intro (fun _ => ?_) (fun h => Go.Ai.tf h)) | (refine And.intro (fun _ => ?_) (fun h => Go.Ai.ft h)) | (refine And.intro (fun h => Go.Ai.ft h) (fun _ => ?_)) | (refine And.intro (fun h => Go.Ai.tf h) (fun _ => ?_)))
    refine gFs d2 ?_
    repeat (first | (refine And.intro (fun _ => ?_) (fun h => Go.Ai.tf h)) | (refine And.intro (fun _ => ?_) (fun h => Go.Ai.ft h)) | (refine And.intro (fun h => Go.Ai.ft h) (fun _ => ?_)) | (refine And.intro (fun h => Go.Ai.tf h) (fun _ => ?_)))
    exact ⟨rfl, rfl⟩
  · have d1 : (!decide (((kd.length : Nat) : Int) = 1)) = true := by rw [decide_eq_false (by omega)]; rfl
    refine gFs d1 ?_
    repeat (first | (refine And.intro (fun _ => ?_) (fun h => Go.Ai.tf h)) | (refine And.intro (fun _ => ?_) (fun h => Go.Ai.ft h)) | (refine And.intro (fun h => Go.Ai.ft h) (fun _ => ?_)) | (refine And.intro (fun h => Go.Ai.tf h) (fun _ => ?_)))
    exact ⟨rfl, rfl⟩
end Go.Proofs.Ytbaoelfpmdmhjaa
set_option maxRecDepth 100000
set_option maxHeartbeats 2000000
namespace Go.Proofs.Ytbaoelfpmdmhjaa
open Go.Ai
/-! ### the law PairAll -/
noncomputable def hSb (A : Array PP) : H := ⟨tree8 none (some (.cells (flatA A) 34 0 0)) (some (.cells (flatA A) 34 0 0)) none none none none none, 3, bigLow⟩
theorem same_two' (A : Array PP) (hA : A.size ≤ 500) : CallOk Try.prog C 8 [.slice (some ⟨1, 0, none⟩) A.size 4, .slice (some ⟨2, 0, none⟩) A.size 4] (hSb A) (.ret (.bool true) (hSb A)) := by
  refine fn_wp CF rfl (n := 26) (res := [.tmp 4]) (c := codeOf Try.f8) rfl ?_
  refine And.intro (fun h => ?_) (fun _ => ?_)
  · exact absurd h (by simp)
  refine loopV CF.tt rfl (fun i : Nat => ⟨tmOf 6 [(0, .slice (some ⟨1, 0, none⟩) A.size 4), (1, .slice (some ⟨2, 0, none⟩) A.size 4), (5, I i)], [], none, hSb A⟩) 0 (weak_live ⟨rfl, rfl, rfl, trivial⟩ rfl rfl rfl)
    (fun i => A.size - i) (fun i => i ≤ A.size) (Nat.zero_le _) ?_
  intro i hi
  refine And.intro (fun h1 => ?_) (fun h1 => ?_)
  · have h1 := of_decide_eq_true h1
    have hiA : i < A.size := by
      have : (i : Int) < (A.size : Nat) := h1
      omega
    apply nxW_of
    · exact idx_pair (i) rfl rfl rfl rfl rfl rfl (by first | omega | (simp only <;> omega) | (simp only [Array.size_setIfInBounds, Go.Ai.swp_size] <;> omega)) (by first | omega | (simp only <;> omega) | (simp only [Array.size_setIfInBounds, Go.Ai.swp_size] <;> omega))
    apply nxW_of
    · exact load_pair (A) (i) rfl rfl rfl rfl rfl (by first | omega | (simp only <;> omega) | (simp only [Array.size_setIfInBounds, Go.Ai.swp_size] <;> omega))
    apply nxW_of
    · exact idx_pair (i) rfl rfl rfl rfl rfl rfl (by first | omega | (simp only <;> omega) | (simp only [Array.size_setIfInBounds, Go.Ai.swp_size] <;> omega)) (by first | omega | (simp only <;> omega) | (simp only [Array.size_setIfInBounds, Go.Ai.swp_size] <;> omega))
    apply nxW_of
    · exact load_pair (A) (i) rfl rfl rfl rfl rfl (by first | omega | (simp only <;> omega) | (simp only [Array.size_setIfInBounds, Go.Ai.swp_size] <;> omega))
    apply rV_of (g := fun _ => False)
    · exact neq_pair A[i]! _ _
    repeat (first | (refine And.intro (fun _ => ?_) (fun h => Go.Ai.tf h)) | (refine And.intro (fun _ => ?_) (fun h => Go.Ai.ft h)) | (refine And.intro (fun h => Go.Ai.ft h) (fun _ => ?_)) | (refine And.intro (fun h => Go.Ai.tf h) (fun _ => ?_)))
    refine Or.inl (And.intro (inK_i64 (by first | omega | (simp only <;> omega) | (simp only [Array.size_setIfInBounds, Go.Ai.swp_size] <;> omega))) ?_)
    exact ⟨i + 1, by omega, weak_live ⟨rfl, rfl, (iv (by first | omega | (simp only <;> omega) | (simp only [Array.size_setIfInBounds, Go.Ai.swp_size] <;> omega))), trivial⟩ rfl rfl rfl, by omega⟩
  · exact ⟨rfl, rfl⟩
theorem same_b (D : Option (Array PP)) (hs : ∀ d, D = some d → d.size ≤ 500) (h : H) (K1 K2 : Nat) (hb : ∀ d, D = some d → K1 ≠ K2 ∧ (∃ f, h.bl.get K1 = some (.cells (flatA d) 34 f 0)) ∧ (∃ f, h.bl.get K2 = some (.cells (flatA d) 34 f 0))) :
    CallOk Try.prog C 8 [slO K1 D, slO K2 D] h (.ret (.bool true) h) := by
  cases D with
  | none => exact same_nil _ _ (.inl rfl) (.inl rfl) h
  | some A =>
    obtain ⟨hne, ⟨f1, hb1⟩, ⟨f2, hb2⟩⟩ := hb A rfl
    have key : ∀ j x0, (tree8 none (some (.cells (flatA A) 34 0 0)) (some (.cells (flatA A) 34 0 0)) none none none none none : T Blk).get j = some x0 → famOf j x0 = 0 := by
      intro j x0 hx
      have hlt := keysB_ok (cc := 3) (f := fun k => k) (t := tree8 none (some (.cells (flatA A) 34 0 0)) (some (.cells (flatA A) 34 0 0)) none none none none none) rfl j x0 hx
      rcases (by omega : j = 0 ∨ j = 1 ∨ j = 2) with rfl | rfl | rfl <;> cases hx <;> rfl
    refine call_read (L := [K1 + K2 + 1, K1, K2]) rfl (same_two' A (hs A rfl)) rfl rfl ⟨trivial, ?_, ?_, trivial⟩ rfl ?_ (fun j x0 hx => by rw [key j x0 hx]; exact (show 0 < bigLow by decide))
    · show (match h.bl.get K1 with | some y => BlkRn (nth [K1 + K2 + 1, K1, K2]) 3 (.cells (flatA A) 34 0 0) y ∧ ((famOf 1 (Blk.cells (flatA A) 34 0 0) ≤ 1) ∧ (famOf 1 (Blk.cells (flatA A) 34 0 0) = 1 → famOf K1 y = K1)) | none => False)
      rw [hb1]
      exact ⟨brO _ _ A _ _ _ rfl, Nat.zero_le _, fun h => (nomatch h)⟩
    · show (match h.bl.get K2 with | some y => BlkRn (nth [K1 + K2 + 1, K1, K2]) 3 (.cells (flatA A) 34 0 0) y ∧ ((famOf 2 (Blk.cells (flatA A) 34 0 0) ≤ 2) ∧ (famOf 2 (Blk.cells (flatA A) 34 0 0) = 2 → famOf K2 y = K2)) | none => False)
      rw [hb2]
      exact ⟨brO _ _ A _ _ _ rfl, Nat.zero_le _, fun h => (nomatch h)⟩
    · simp
      omega
theorem close_bad (kd : List UInt8) (hbad : ¬ ∃ i, i < 4 ∧ kd = [opB i]) : closeS kd = 0 := by
  unfold closeS
  rw [if_neg (fun (e : kd = [40]) => hbad ⟨0, by omega, e⟩), if_neg (fun (e : kd = [91]) => hbad ⟨1, by omega, e⟩), if_neg (fun (e : kd = [123]) => hbad ⟨2, by omega, e⟩), if_neg (fun (e : kd = [60]) => hbad ⟨3, by omega, e⟩)]
/-- any kind -/
theorem all_kind (l kd : List UInt8) (hl : l.length ≤ 500) (m : Int) (e : TypeId) (fz : Nat) : ∃ D, (∀ (h : H) (fam : Nat), h.bl.get 0 = some (.cells [.int .i64 m] e fam fz) → CallOk Try.prog C1 9 [str l, str kd] h (.ret (slO (nrmN (h.ctr + 1)) D) (moreO h D))) ∧
    (∀ h, CallOk Try.prog C1 10 [str l, str kd] h (.ret (slO (nrmN (h.ctr + 1)) D) (moreO h D))) ∧ (∀ d, D = some d → d.size ≤ 500) := by
  by_cases hb : ∃ i, i < 4 ∧ kd = [opB i]
  · obtain ⟨i, hi, rfl⟩ := hb
    obtain ⟨D, h1, h2, h3⟩ := all_same l hl i hi
    exact ⟨D, fun h _ _ => call_up rfl (h1 h), fun h => call_up rfl (h2 h), h3⟩
  · exact ⟨none, fun h fam hc => all_none l kd hb m e fz h fam hc, fun h => call_up rfl (refAll_none l kd (close_bad kd hb) h), fun d h => (nomatch h)⟩
theorem pairAll_wp (l kd : List UInt8) (m : Int) (e : TypeId) (fz : Nat) : wpC Try.prog C1 (hM m e fz) none (codeOf Try.f3) (RetW C1 [.tmp 4] fun v' h' => v' = .bool true ∧ 0 < h'.low) ⟨initT 33 [str l, str kd], [], none, hM m e fz⟩ := by
  refine And.intro (fun h1 => ?_) (fun h1 => ?_)
  · refine CallW.of (call_up rfl (lives_ok _)) ?_
    exact ⟨rfl, show 0 < bigLow by decide⟩
  · have h1 := of_decide_eq_false h1
    have hl : l.length ≤ 500 := by
      have : ¬ (500 : Int) < (l.length : Nat) := h1
      omega
    obtain ⟨D1, a1, r1, s1⟩ := all_kind l kd hl m e fz
    obtain ⟨D2, a2, r2, s2⟩ := all_same l hl 2 (by omega)
    obtain ⟨D3, a3, r3, s3⟩ := all_same l hl 3 (by omega)
    cases D1 with
    | none =>
      cases D2 with
      | none =>
        cases D3 with
        | none =>
          refine CallW.of (a1 _ 0 rfl) ?_
          repeat (first | (refine And.intro (fun _ => ?_) (fun h => Go.Ai.tf h)) | (refine And.intro (fun _ => ?_) (fun h => Go.Ai.ft h)) | (refine And.intro (fun h => Go.Ai.ft h) (fun _ => ?_)) | (refine And.intro (fun h => Go.Ai.tf h) (fun _ => ?_)))
          refine CallW.of (r1 _) ?_
          repeat (first | (refine And.intro (fun _ => ?_) (fun h => Go.Ai.tf h)) | (refine And.intro (fun _ => ?_) (fun h => Go.Ai.ft h)) | (refine And.intro (fun h => Go.Ai.ft h) (fun _ => ?_)) | (refine And.intro (fun h => Go.Ai.tf h) (fun _ => ?_)))
          refine CallW.of (call_up rfl (same_b _ s1 _ _ _ (fun d' e => by cases e <;> exact ⟨Nat.ne_of_beq_eq_false rfl, ⟨_, rfl⟩, ⟨_, rfl⟩⟩))) ?_
          repeat (first | (refine And.intro (fun _ => ?_) (fun h => Go.Ai.tf h)) | (refine And.intro (fun _ => ?_) (fun h => Go.Ai.ft h)) | (refine And.intro (fun h => Go.Ai.ft h) (fun _ => ?_)) | (refine And.intro (fun h => Go.Ai.tf h) (fun _ => ?_)))
          refine CallW.of (call_up rfl (a2 _)) ?_
          repeat (first | (refine And.intro (fun _ => ?_) (fun h => Go.Ai.tf h)) | (refine And.intro (fun _ => ?_) (fun h => Go.Ai.ft h)) | (refine And.intro (fun h => Go.Ai.ft h) (fun _ => ?_)) | (refine And.intro (fun h => Go.Ai.tf h) (fun _ => ?_)))
          refine CallW.of (call_up rfl (r2 _)) ?_
          repeat (first | (refine And.intro (fun _ => ?_) (fun h => Go.Ai.tf h)) | (refine And.intro (fun _ => ?_) (fun h => Go.Ai.ft h)) | (refine And.intro (fun h => Go.Ai.ft h) (fun _ => ?_)) | (refine And.intro (fun h => Go.Ai.tf h) (fun _ => ?_)))
          refine CallW.of (call_up rfl (same_b _ s2 _ _ _ (fun d' e => by cases e <;> exact ⟨Nat.ne_of_beq_eq_false rfl, ⟨_, rfl⟩, ⟨_, rfl⟩⟩))) ?_
          repeat (first | (refine And.intro (fun _ => ?_) (fun h => Go.Ai.tf h)) | (refine And.intro (fun _ => ?_) (fun h => Go.Ai.ft h)) | (refine And.intro (fun h => Go.Ai.ft h) (fun _ => ?_)) | (refine And.intro (fun h => Go.Ai.tf h) (fun _ => ?_)))
          refine CallW.of (call_up rfl (a3 _)) ?_
          repeat (first | (refine And.intro (fun _ => ?_) (fun h => Go.Ai.tf h)) | (refine And.intro (fun _ => ?_) (fun h => Go.Ai.ft h)) | (refine And.intro (fun h => Go.Ai.ft h) (fun _ => ?_)) | (refine And.intro (fun h => Go.Ai.tf h) (fun _ => ?_)))
          refine CallW.of (call_up rfl (r3 _)) ?_
          repeat (first | (refine And.intro (fun _ => ?_) (fun h => Go.Ai.tf h)) | (refine And.intro (fun _ => ?_) (fun h => Go.Ai.ft h)) | (refine And.intro (fun h => Go.Ai.ft h) (fun _ => ?_)) | (refine And.intro (fun h => Go.Ai.tf h) (fun _ => ?_)))
          refine CallW.of (call_up rfl (same_b _ s3 _ _ _ (fun d' e => by cases e <;> exact ⟨Nat.ne_of_beq_eq_false rfl, ⟨_, rfl⟩, ⟨_, rfl⟩⟩))) ?_
          repeat (first | (refine And.intro (fun _ => ?_) (fun h => Go.Ai.tf h)) | (refine And.intro (fun _ => ?_) (fun h => Go.Ai.ft h)) | (refine And.intro (fun h => Go.Ai.ft h) (fun _ => ?_)) | (refine And.intro (fun h => Go.Ai.tf h) (fun _ => ?_)))
          refine CallW.of (call_up rfl (lives_ok _)) ?_
          repeat (first | (refine And.intro (fun _ => ?_) (fun h => Go.Ai.tf h)) | (refine And.intro (fun _ => ?_) (fun h => Go.Ai.ft h)) | (refine And.intro (fun h => Go.Ai.ft h) (fun _ => ?_)) | (refine And.intro (fun h => Go.Ai.tf h) (fun _ => ?_)))
          exact ⟨rfl, show 0 < bigLow by decide⟩
        | some d3 =>
          refine CallW.of (a1 _ 0 rfl) ?_
          repeat (first | (refine And.intro (fun _ => ?_) (fun h => Go.Ai.tf h)) | (refine And.intro (fun _ => ?_) (fun h => Go.Ai.ft h)) | (refine And.intro (fun h => Go.Ai.ft h) (fun _ => ?_)) | (refine And.intro (fun h => Go.Ai.tf h) (fun _ => ?_)))
          refine CallW.of (r1 _) ?_
          repeat (first | (refine And.intro (fun _ => ?_) (fun h => Go.Ai.tf h)) | (refine And.intro (fun _ => ?_) (fun h => Go.Ai.ft h)) | (refine And.intro (fun h => Go.Ai.ft h) (fun _ => ?_)) | (refine And.intro (fun h => Go.Ai.tf h) (fun _ => ?_)))
          refine CallW.of (call_up rfl (same_b _ s1 _ _ _ (fun d' e => by cases e <;> exact ⟨Nat.ne_of_beq_eq_false rfl, ⟨_, rfl⟩, ⟨_, rfl⟩⟩))) ?_
          repeat (first | (refine And.intro (fun _ => ?_) (fun h => Go.Ai.tf h)) | (refine And.intro (fun _ => ?_) (fun h => Go.Ai.ft h)) | (refine And.intro (fun h => Go.Ai.ft h) (fun _ => ?_)) | (refine And.intro (fun h => Go.Ai.tf h) (fun _ => ?_)))
          refine CallW.of (call_up rfl (a2 _)) ?_
          repeat (first | (refine And.intro (fun _ => ?_) (fun h => Go.Ai.tf h)) | (refine And.intro (fun _ => ?_) (fun h => Go.Ai.ft h)) | (refine And.intro (fun h => Go.Ai.ft h) (fun _ => ?_)) | (refine And.intro (fun h => Go.Ai.tf h) (fun _ => ?_)))
          refine CallW.of (call_up rfl (r2 _)) ?_
          repeat (first | (refine And.intro (fun _ => ?_) (fun h => Go.Ai.tf h)) | (refine And.intro (fun _ => ?_) (fun h => Go.Ai.ft h)) | (refine And.intro (fun h => Go.Ai.ft h) (fun _ => ?_)) | (refine And.intro (fun h => Go.Ai.tf h) (fun _ => ?_)))
          refine CallW.of (call_up rfl (same_b _ s2 _ _ _ (fun d' e => by cases e <;> exact ⟨Nat.ne_of_beq_eq_false rfl, ⟨_, rfl⟩, ⟨_, rfl⟩⟩))) ?_
          repeat (first | (refine And.intro (fun _ => ?_) (fun h => Go.Ai.tf h)) | (refine And.intro (fun _ => ?_) (fun h => Go.Ai.ft h)) | (refine And.intro (fun h => Go.Ai.ft h) (fun _ => ?_)) | (refine And.intro (fun h => Go.Ai.tf h) (fun _ => ?_)))
          refine CallW.of (call_up rfl (a3 _)) ?_
          repeat (first | (refine And.intro (fun _ => ?_) (fun h => Go.Ai.tf h)) | (refine And.intro (fun _ => ?_) (fun h => Go.Ai.ft h)) | (refine And.intro (fun h => Go.Ai.ft h) (fun _ => ?_)) | (refine And.intro (fun h => Go.Ai.tf h) (fun _ => ?_)))
          refine CallW.of (call_up rfl (r3 _)) ?_
          repeat (first | (refine And.intro (fun _ => ?_) (fun h => Go.Ai.tf h)) | (refine And.intro (fun _ => ?_) (fun h => Go.Ai.ft h)) | (refine And.intro (fun h => Go.Ai.ft h) (fun _ => ?_)) | (refine And.intro (fun h => Go.Ai.tf h) (fun _ => ?_)))
          refine CallW.of (call_up rfl (same_b _ s3 _ _ _ (fun d' e => by cases e <;> exact ⟨Nat.ne_of_beq_eq_false rfl, ⟨_, rfl⟩, ⟨_, rfl⟩⟩))) ?_
          repeat (first | (refine And.intro (fun _ => ?_) (fun h => Go.Ai.tf h)) | (refine And.intro (fun _ => ?_) (fun h => Go.Ai.ft h)) | (refine And.intro (fun h => Go.Ai.ft h) (fun _ => ?_)) | (refine And.intro (fun h => Go.Ai.tf h) (fun _ => ?_)))
          refine CallW.of (call_up rfl (lives_ok _)) ?_
          repeat (first | (refine And.intro (fun _ => ?_) (fun h => Go.Ai.tf h)) | (refine And.intro (fun _ => ?_) (fun h => Go.Ai.ft h)) | (refine And.intro (fun h => Go.Ai.ft h) (fun _ => ?_)) | (refine And.intro (fun h => Go.Ai.tf h) (fun _ => ?_)))
          exact ⟨rfl, show 0 < bigLow by decide⟩
      | some d2 =>
        cases D3 with
        | none =>
          refine CallW.of (a1 _ 0 rfl) ?_
          repeat (first | (refine And.intro (fun _ => ?_) (fun h => Go.Ai.tf h)) | (refine And.intro (fun _ => ?_) (fun h => Go.Ai.ft h)) | (refine And.intro (fun h => Go.Ai.ft h) (fun _ => ?_)) | (refine And.intro (fun h => Go.Ai.tf h) (fun _ => ?_)))
          refine CallW.of (r1 _) ?_
          repeat (first | (refine And.intro (fun _ => ?_) (fun h => Go.Ai.tf h)) | (refine And.intro (fun _ => ?_) (fun h => Go.Ai.ft h)) | (refine And.intro (fun h => Go.Ai.ft h) (fun _ => ?_)) | (refine And.intro (fun h => Go.Ai.tf h) (fun _ => ?_)))
          refine CallW.of (call_up rfl (same_b _ s1 _ _ _ (fun d' e => by cases e <;> exact ⟨Nat.ne_of_beq_eq_false rfl, ⟨_, rfl⟩, ⟨_, rfl⟩⟩))) ?_
          repeat (first | (refine And.intro (fun _ => ?_) (fun h => Go.Ai.tf h)) | (refine And.intro (fun _ => ?_) (fun h => Go.Ai.ft h)) | (refine And.intro (fun h => Go.Ai.ft h) (fun _ => ?_)) | (refine And.intro (fun h => Go.Ai.tf h) (fun _ => ?_)))
          refine CallW.of (call_up rfl (a2 _)) ?_
          repeat (first | (refine And.intro (fun _ => ?_) (fun h => Go.Ai.tf h)) | (refine And.intro (fun _ => ?_) (fun h => Go.Ai.ft h)) | (refine And.intro (fun h => Go.Ai.ft h) (fun _ => ?_)) | (refine And.intro (fun h => Go.Ai.tf h) (fun _ => ?_)))
          refine CallW.of (call_up rfl (r2 _)) ?_
          repeat (first | (refine And.intro (fun _ => ?_) (fun h => Go.Ai.tf h)) | (refine And.intro (fun _ => ?_) (fun h => Go.Ai.ft h)) | (refine And.intro (fun h => Go.Ai.ft h) (fun _ => ?_)) | (refine And.intro (fun h => Go.Ai.tf h) (fun _ => ?_)))
          refine CallW.of (call_up rfl (same_b _ s2 _ _ _ (fun d' e => by cases e <;> exact ⟨Nat.ne_of_beq_eq_false rfl, ⟨_, rfl⟩, ⟨_, rfl⟩⟩))) ?_
          repeat (first | (refine And.intro (fun _ => ?_) (fun h => Go.Ai.tf h)) | (refine And.intro (fun _ => ?_) (fun h => Go.Ai.ft h)) | (refine And.intro (fun h => Go.Ai.ft h) (fun _ => ?_)) | (refine And.intro (fun h => Go.Ai.tf h) (fun _ => ?_)))
          refine CallW.of (call_up rfl (a3 _)) ?_
          repeat (first | (refine And.intro (fun _ => ?_) (fun h => Go.Ai.tf h)) | (refine And.intro (fun _ => ?_) (fun h => Go.Ai.ft h)) | (refine And.intro (fun h => Go.Ai.ft h) (fun _ => ?_)) | (refine And.intro (fun h => Go.Ai.tf h) (fun _ => ?_)))
          refine CallW.of (call_up rfl (r3 _)) ?_
          repeat (first | (refine And.intro (fun _ => ?_) (fun h => Go.Ai.tf h)) | (refine And.intro (fun _ => ?_) (fun h => Go.Ai.ft h)) | (refine And.intro (fun h => Go.Ai.ft h) (fun _ => ?_)) | (refine And.intro (fun h => Go.Ai.tf h) (fun _ => ?_)))
          refine CallW.of (call_up rfl (same_b _ s3 _ _ _ (fun d' e => by cases e <;> exact ⟨Nat.ne_of_beq_eq_false rfl, ⟨_, rfl⟩, ⟨_, rfl⟩⟩))) ?_
          repeat (first | (refine And.intro (fun _ => ?_) (fun h => Go.Ai.tf h)) | (refine And.intro (fun _ => ?_) (fun h => Go.Ai.ft h)) | (refine And.intro (fun h => Go.Ai.ft h) (fun _ => ?_)) | (refine And.intro (fun h => Go.Ai.tf h) (fun _ => ?_)))
          refine CallW.of (call_up rfl (lives_ok _)) ?_
          repeat (first | (refine And.intro (fun _ => ?_) (fun h => Go.Ai.tf h)) | (refine And.intro (fun _ => ?_) (fun h => Go.Ai.ft h)) | (refine And.intro (fun h => Go.Ai.ft h) (fun _ => ?_)) | (refine And.intro (fun h => Go.Ai.tf h) (fun _ => ?_)))
          exact ⟨rfl, show 0 < bigLow by decide⟩
        | some d3 =>
          refine CallW.of (a1 _ 0 rfl) ?_
          repeat (first | (refine And.intro (fun _ => ?_) (fun h => Go.Ai.tf h)) | (refine And.intro (fun _ => ?_) (fun h => Go.Ai.ft h)) | (refine And.intro (fun h => Go.Ai.ft h) (fun _ => ?_)) | (refine And.intro (fun h => Go.Ai.tf h) (fun _ => ?_)))
          refine CallW.of (r1 _) ?_
          repeat (first | (refine And.intro (fun _ => ?_) (fun h => Go.Ai.tf h)) | (refine And.intro (fun _ => ?_) (fun h => Go.Ai.ft h)) | (refine And.intro (fun h => Go.Ai.ft h) (fun _ => ?_)) | (refine And.intro (fun h => Go.Ai.tf h) (fun _ => ?_)))
          refine CallW.of (call_up rfl (same_b _ s1 _ _ _ (fun d' e => by cases e <;> exact ⟨Nat.ne_of_beq_eq_false rfl, ⟨_, rfl⟩, ⟨_, rfl⟩⟩))) ?_
          repeat (first | (refine And.intro (fun _ => ?_) (fun h => Go.Ai.tf h)) | (refine And.intro (fun _ => ?_) (fun h => Go.Ai.ft h)) | (refine And.intro (fun h => Go.Ai.ft h) (fun _ => ?_)) | (refine And.intro (fun h => Go.Ai.tf h) (fun _ => ?_)))
          refine CallW.of (call_up rfl (a2 _)) ?_
          repeat (first | (refine And.intro (fun _ => ?_) (fun h => Go.Ai.tf h)) | (refine And.intro (fun _ => ?_) (fun h => Go.Ai.ft h)) | (refine And.intro (fun h => Go.Ai.ft h) (fun _ => ?_)) | (refine And.intro (fun h => Go.Ai.tf h) (fun _ => ?_)))
          refine CallW.of (call_up rfl (r2 _)) ?_
          repeat (first | (refine And.intro (fun _ => ?_) (fun h => Go.Ai.tf h)) | (refine And.intro (fun _ => ?_) (fun h => Go.Ai.ft h)) | (refine And.intro (fun h => Go.Ai.ft h) (fun _ => ?_)) | (refine And.intro (fun h => Go.Ai.tf h) (fun _ => ?_)))
          refine CallW.of (call_up rfl (same_b _ s2 _ _ _ (fun d' e => by cases e <;> exact ⟨Nat.ne_of_beq_eq_false rfl, ⟨_, rfl⟩, ⟨_, rfl⟩⟩))) ?_
          repeat (first | (refine And.intro (fun _ => ?_) (fun h => Go.Ai.tf h)) | (refine And.intro (fun _ => ?_) (fun h => Go.Ai.ft h)) | (refine And.intro (fun h => Go.Ai.ft h) (fun _ => ?_)) | (refine And.intro (fun h => Go.Ai.tf h) (fun _ => ?_)))
          refine CallW.of (call_up rfl (a3 _)) ?_
          repeat (first | (refine And.intro (fun _ => ?_) (fun h => Go.Ai.tf h)) | (refine And.intro (fun _ => ?_) (fun h => Go.Ai.ft h)) | (refine And.intro (fun h => Go.Ai.ft h) (fun _ => ?_)) | (refine And.intro (fun h => Go.Ai.tf h) (fun _ => ?_)))
          refine CallW.of (call_up rfl (r3 _)) ?_
          repeat (first | (refine And.intro (fun _ => ?_) (fun h => Go.Ai.tf h)) | (refine And.intro (fun _ => ?_) (fun h => Go.Ai.ft h)) | (refine And.intro (fun h => Go.Ai.ft h) (fun _ => ?_)) | (refine And.intro (fun h => Go.Ai.tf h) (fun _ => ?_)))
          refine CallW.of (call_up rfl (same_b _ s3 _ _ _ (fun d' e => by cases e <;> exact ⟨Nat.ne_of_beq_eq_false rfl, ⟨_, rfl⟩, ⟨_, rfl⟩⟩))) ?_
          repeat (first | (refine And.intro (fun _ => ?_) (fun h => Go.Ai.tf h)) | (refine And.intro (fun _ => ?_) (fun h => Go.Ai.ft h)) | (refine And.intro (fun h => Go.Ai.ft h) (fun _ => ?_)) | (refine And.intro (fun h => Go.Ai.tf h) (fun _ => ?_)))
          refine CallW.of (call_up rfl (lives_ok _)) ?_
          repeat (first | (refine And.intro (fun _ => ?_) (fun h => Go.Ai.tf h)) | (refine And.intro (fun _ => ?_) (fun h => Go.Ai.ft h)) | (refine And.intro (fun h => Go.Ai.ft h) (fun _ => ?_)) | (refine And.intro (fun h => Go.Ai.tf h) (fun _ => ?_)))
          exact ⟨rfl, show 0 < bigLow by decide⟩
    | some d1 =>
      cases D2 with
      | none =>
        cases D3 with
        | none =>
          refine CallW.of (a1 _ 0 rfl) ?_
          repeat (first | (refine And.intro (fun _ => ?_) (fun h => Go.Ai.tf h)) | (refine And.intro (fun _ => ?_) (fun h => Go.Ai.ft h)) | (refine And.intro (fun h => Go.Ai.ft h) (fun _ => ?_)) | (refine And.intro (fun h => Go.Ai.tf h) (fun _ => ?_)))
          refine CallW.of (r1 _) ?_
          repeat (first | (refine And.intro (fun _ => ?_) (fun h => Go.Ai.tf h)) | (refine And.intro (fun _ => ?_) (fun h => Go.Ai.ft h)) | (refine And.intro (fun h => Go.Ai.ft h) (fun _ => ?_)) | (refine And.intro (fun h => Go.Ai.tf h) (fun _ => ?_)))
          refine CallW.of (call_up rfl (same_b _ s1 _ _ _ (fun d' e => by cases e <;> exact ⟨Nat.ne_of_beq_eq_false rfl, ⟨_, rfl⟩, ⟨_, rfl⟩⟩))) ?_
          repeat (first | (refine And.intro (fun _ => ?_) (fun h => Go.Ai.tf h)) | (refine And.intro (fun _ => ?_) (fun h => Go.Ai.ft h)) | (refine And.intro (fun h => Go.Ai.ft h) (fun _ => ?_)) | (refine And.intro (fun h => Go.Ai.tf h) (fun _ => ?_)))
          refine CallW.of (call_up rfl (a2 _)) ?_
          repeat (first | (refine And.intro (fun _ => ?_) (fun h => Go.Ai.tf h)) | (refine And.intro (fun _ => ?_) (fun h => Go.Ai.ft h)) | (refine And.intro (fun h => Go.Ai.ft h) (fun _ => ?_)) | (refine And.intro (fun h => Go.Ai.tf h) (fun _ => ?_)))
          refine CallW.of (call_up rfl (r2 _)) ?_
          repeat (first | (refine And.intro (fun _ => ?_) (fun h => Go.Ai.tf h)) | (refine And.intro (fun _ => ?_) (fun h => Go.Ai.ft h)) | (refine And.intro (fun h => Go.Ai.ft h) (fun _ => ?_)) | (refine And.intro (fun h => Go.Ai.tf h) (fun _ => ?_)))
          refine CallW.of (call_up rfl (same_b _ s2 _ _ _ (fun d' e => by cases e <;> exact ⟨Nat.ne_of_beq_eq_false rfl, ⟨_, rfl⟩, ⟨_, rfl⟩⟩))) ?_
          repeat (first | (refine And.intro (fun _ => ?_) (fun h => Go.Ai.tf h)) | (refine And.intro (fun _ => ?_) (fun h => Go.Ai.ft h)) | (refine And.intro (fun h => Go.Ai.ft h) (fun _ => ?_)) | (refine And.intro (fun h => Go.Ai.tf h) (fun _ => ?_)))
          refine CallW.of (call_up rfl (a3 _)) ?_
          repeat (first | (refine And.intro (fun _ => ?_) (fun h => Go.Ai.tf h)) | (refine And.intro (fun _ => ?_) (fun h => Go.Ai.ft h)) | (refine And.intro (fun h => Go.Ai.ft h) (fun _ => ?_)) | (refine And.intro (fun h => Go.Ai.tf h) (fun _ => ?_)))
          refine CallW.of (call_up rfl (r3 _)) ?_
          repeat (first | (refine And.intro (fun _ => ?_) (fun h => Go.Ai.tf h)) | (refine And.intro (fun _ => ?_) (fun h => Go.Ai.ft h)) | (refine And.intro (fun h => Go.Ai.ft h) (fun _ => ?_)) | (refine And.intro (fun h => Go.Ai.tf h) (fun _ => ?_)))
          refine CallW.of (call_up rfl (same_b _ s3 _ _ _ (fun d' e => by cases e <;> exact ⟨Nat.ne_of_beq_eq_false rfl, ⟨_, rfl⟩, ⟨_, rfl⟩⟩))) ?_
          repeat (first | (refine And.intro (fun _ => ?_) (fun h => Go.Ai.tf h)) | (refine And.intro (fun _ => ?_) (fun h => Go.Ai.ft h)) | (refine And.intro (fun h => Go.Ai.ft h) (fun _ => ?_)) | (refine And.intro (fun h => Go.Ai.tf h) (fun _ => ?_)))
          refine CallW.of (call_up rfl (lives_ok _)) ?_
          repeat (first | (refine And.intro (fun _ => ?_) (fun h => Go.Ai.tf h)) | (refine And.intro (fun _ => ?_) (fun h => Go.Ai.ft h)) | (refine And.intro (fun h => Go.Ai.ft h) (fun _ => ?_)) | (refine And.intro (fun h => Go.Ai.tf h) (fun _ => ?_)))
          exact ⟨rfl, show 0 < bigLow by decide⟩
        | some d3 =>
          refine CallW.of (a1 _ 0 rfl) ?_
          repeat (first | (refine And.intro (fun _ => ?_) (fun h => Go.Ai.tf h)) | (refine And.intro (fun _ => ?_) (fun h => Go.Ai.ft h)) | (refine And.intro (fun h => Go.Ai.ft h) (fun _ => ?_)) | (refine And.intro (fun h => Go.Ai.tf h) (fun _ => ?_)))
          refine CallW.of (r1 _) ?_
          repeat (first | (refine And.intro (fun _ => ?_) (fun h => Go.Ai.tf h)) | (refine And.intro (fun _ => ?_) (fun h => Go.Ai.ft h)) | (refine And.intro (fun h => Go.Ai.ft h) (fun _ => ?_)) | (refine And.intro (fun h => Go.Ai.tf h) (fun _ => ?_)))
          refine CallW.of (call_up rfl (same_b _ s1 _ _ _ (fun d' e => by cases e <;> exact ⟨Nat.ne_of_beq_eq_false rfl, ⟨_, rfl⟩, ⟨_, rfl⟩⟩))) ?_
          repeat (first | (refine And.intro (fun _ => ?_) (fun h => Go.Ai.tf h)) | (refine And.intro (fun _ => ?_) (fun h => Go.Ai.ft h)) | (refine And.intro (fun h => Go.Ai.ft h) (fun _ => ?_)) | (refine And.intro (fun h => Go.Ai.tf h) (fun _ => ?_)))
          refine CallW.of (call_up rfl (a2 _)) ?_
          repeat (first | (refine And.intro (fun _ => ?_) (fun h => Go.Ai.tf h)) | (refine And.intro (fun _ => ?_) (fun h => Go.Ai.ft h)) | (refine And.intro (fun h => Go.Ai.ft h) (fun _ => ?_)) | (refine And.intro (fun h => Go.Ai.tf h) (fun _ => ?_)))
          refine CallW.of (call_up rfl (r2 _)) ?_
          repeat (first | (refine And.intro (fun _ => ?_) (fun h => Go.Ai.tf h)) | (refine And.intro (fun _ => ?_) (fun h => Go.Ai.ft h)) | (refine And.intro (fun h => Go.Ai.ft h) (fun _ => ?_)) | (refine And.intro (fun h => Go.Ai.tf h) (fun _ => ?_)))
          refine CallW.of (call_up rfl (same_b _ s2 _ _ _ (fun d' e => by cases e <;> exact ⟨Nat.ne_of_beq_eq_false rfl, ⟨_, rfl⟩, ⟨_, rfl⟩⟩))) ?_
          repeat (first | (refine And.intro (fun _ => ?_) (fun h => Go.Ai.tf h)) | (refine And.intro (fun _ => ?_) (fun h => Go.Ai.ft h)) | (refine And.intro (fun h => Go.Ai.ft h) (fun _ => ?_)) | (refine And.intro (fun h => Go.Ai.tf h) (fun _ => ?_)))
          refine CallW.of (call_up rfl (a3 _)) ?_
          repeat (first | (refine And.intro (fun _ => ?_) (fun h => Go.Ai.tf h)) | (refine And.intro (fun _ => ?_) (fun h => Go.Ai.ft h)) | (refine And.intro (fun h => Go.Ai.ft h) (fun _ => ?_)) | (refine And.intro (fun h => Go.Ai.tf h) (fun _ => ?_)))
          refine CallW.of (call_up rfl (r3 _)) ?_
          repeat (first | (refine And.intro (fun _ => ?_) (fun h => Go.Ai.tf h)) | (refine And.intro (fun _ => ?_) (fun h => Go.Ai.ft h)) | (refine And.intro (fun h => Go.Ai.ft h) (fun _ => ?_)) | (refine And.intro (fun h => Go.Ai.tf h) (fun _ => ?_)))
          refine CallW.of (call_up rfl (same_b _ s3 _ _ _ (fun d' e => by cases e <;> exact ⟨Nat.ne_of_beq_eq_false rfl, ⟨_, rfl⟩, ⟨_, rfl⟩⟩))) ?_
          repeat (first | (refine And.intro (fun _ => ?_) (fun h => Go.Ai.tf h)) | (refine And.intro (fun _ => ?_) (fun h => Go.Ai.ft h)) | (refine And.intro (fun h => Go.Ai.ft h) (fun _ => ?_)) | (refine And.intro (fun h => Go.Ai.tf h) (fun _ => ?_)))
          refine CallW.of (call_up rfl (lives_ok _)) ?_
          repeat (first | (refine And.intro (fun _ => ?_) (fun h => Go.Ai.tf h)) | (refine And.intro (fun _ => ?_) (fun h => Go.Ai.ft h)) | (refine And.intro (fun h => Go.Ai.ft h) (fun _ => ?_)) | (refine And.intro (fun h => Go.Ai.tf h) (fun _ => ?_)))
          exact ⟨rfl, show 0 < bigLow by decide⟩
      | some d2 =>
        cases D3 with
        | none =>
          refine CallW.of (a1 _ 0 rfl) ?_
          repeat (first | (refine And.intro (fun _ => ?_) (fun h => Go.Ai.tf h)) | (refine And.intro (fun _ => ?_) (fun h => Go.Ai.ft h)) | (refine And.intro (fun h => Go.Ai.ft h) (fun _ => ?_)) | (refine And.intro (fun h => Go.Ai.tf h) (fun _ => ?_)))
          refine CallW.of (r1 _) ?_
          repeat (first | (refine And.intro (fun _ => ?_) (fun h => Go.Ai.tf h)) | (refine And.intro (fun _ => ?_) (fun h => Go.Ai.ft h)) | (refine And.intro (fun h => Go.Ai.ft h) (fun _ => ?_)) | (refine And.intro (fun h => Go.Ai.tf h) (fun _ => ?_)))
          refine CallW.of (call_up rfl (same_b _ s1 _ _ _ (fun d' e => by cases e <;> exact ⟨Nat.ne_of_beq_eq_false rfl, ⟨_, rfl⟩, ⟨_, rfl⟩⟩))) ?_
          repeat (first | (refine And.intro (fun _ => ?_) (fun h => Go.Ai.tf h)) | (refine And.intro (fun _ => ?_) (fun h => Go.Ai.ft h)) | (refine And.intro (fun h => Go.Ai.ft h) (fun _ => ?_)) | (refine And.intro (fun h => Go.Ai.tf h) (fun _ => ?_)))
          refine CallW.of (call_up rfl (a2 _)) ?_
          repeat (first | (refine And.intro (fun _ => ?_) (fun h => Go.Ai.tf h)) | (refine And.intro (fun _ => ?_) (fun h => Go.Ai.ft h)) | (refine And.intro (fun h => Go.Ai.ft h) (fun _ => ?_)) | (refine And.intro (fun h => Go.Ai.tf h) (fun _ => ?_)))
          refine CallW.of (call_up rfl (r2 _)) ?_
          repeat (first | (refine And.intro (fun _ => ?_) (fun h => Go.Ai.tf h)) | (refine And.intro (fun _ => ?_) (fun h => Go.Ai.ft h)) | (refine And.intro (fun h => Go.Ai.ft h) (fun _ => ?_)) | (refine And.intro (fun h => Go.Ai.tf h) (fun _ => ?_)))
          refine CallW.of (call_up rfl (same_b _ s2 _ _ _ (fun d' e => by cases e <;> exact ⟨Nat.ne_of_beq_eq_false rfl, ⟨_, rfl⟩, ⟨_, rfl⟩⟩))) ?_
          repeat (first | (refine And.intro (fun _ => ?_) (fun h => Go.Ai.tf h)) | (refine And.intro (fun _ => ?_) (fun h => Go.Ai.ft h)) | (refine And.intro (fun h => Go.Ai.ft h) (fun _ => ?_)) | (refine And.intro (fun h => Go.Ai.tf h) (fun _ => ?_)))
          refine CallW.of (call_up rfl (a3 _)) ?_
          repeat (first | (refine And.intro (fun _ => ?_) (fun h => Go.Ai.tf h)) | (refine And.intro (fun _ => ?_) (fun h => Go.Ai.ft h)) | (refine And.intro (fun h => Go.Ai.ft h) (fun _ => ?_)) | (refine And.intro (fun h => Go.Ai.tf h) (fun _ => ?_)))
          refine CallW.of (call_up rfl (r3 _)) ?_
          repeat (first | (refine And.intro (fun _ => ?_) (fun h => Go.Ai.tf h)) | (refine And.intro (fun _ => ?_) (fun h => Go.Ai.ft h)) | (refine And.intro (fun h => Go.Ai.ft h) (fun _ => ?_)) | (refine And.intro (fun h => Go.Ai.tf h) (fun _ => ?_)))
          refine CallW.of (call_up rfl (same_b _ s3 _ _ _ (fun d' e => by cases e <;> exact ⟨Nat.ne_of_beq_eq_false rfl, ⟨_, rfl⟩, ⟨_, rfl⟩⟩))) ?_
          repeat (first | (refine And.intro (fun _ => ?_) (fun h => Go.Ai.tf h)) | (refine And.intro (fun _ => ?_) (fun h => Go.Ai.ft h)) | (refine And.intro (fun h => Go.Ai.ft h) (fun _ => ?_)) | (refine And.intro (fun h => Go.Ai.tf h) (fun _ => ?_)))
          refine CallW.of (call_up rfl (lives_ok _)) ?_
          repeat (first | (refine And.intro (fun _ => ?_) (fun h => Go.Ai.tf h)) | (refine And.intro (fun _ => ?_) (fun h => Go.Ai.ft h)) | (refine And.intro (fun h => Go.Ai.ft h) (fun _ => ?_)) | (refine And.intro (fun h => Go.Ai.tf h) (fun _ => ?_)))
          exact ⟨rfl, show 0 < bigLow by decide⟩
        | some d3 =>
          refine CallW.of (a1 _ 0 rfl) ?_
          repeat (first | (refine And.intro (fun _ => ?_) (fun h => Go.Ai.tf h)) | (refine And.intro (fun _ => ?_) (fun h => Go.Ai.ft h)) | (refine And.intro (fun h => Go.Ai.ft h) (fun _ => ?_)) | (refine And.intro (fun h => Go.Ai.tf h) (fun _ => ?_)))
          refine CallW.of (r1 _) ?_
          repeat (first | (refine And.intro (fun _ => ?_) (fun h => Go.Ai.tf h)) | (refine And.intro (fun _ => ?_) (fun h => Go.Ai.ft h)) | (refine And.intro (fun h => Go.Ai.ft h) (fun _ => ?_)) | (refine And.intro (fun h => Go.Ai.tf h) (fun _ => ?_)))
          refine CallW.of (call_up rfl (same_b _ s1 _ _ _ (fun d' e => by cases e <;> exact ⟨Nat.ne_of_beq_eq_false rfl, ⟨_, rfl⟩, ⟨_, rfl⟩⟩))) ?_
          repeat (first | (refine And.intro (fun _ => ?_) (fun h => Go.Ai.tf h)) | (refine And.intro (fun _ => ?_) (fun h => Go.Ai.ft h)) | (refine And.intro (fun h => Go.Ai.ft h) (fun _ => ?_)) | (refine And.intro (fun h => Go.Ai.tf h) (fun _ => ?_)))
          refine CallW.of (call_up rfl (a2 _)) ?_
          repeat (first | (refine And.intro (fun _ => ?_) (fun h => Go.Ai.tf h)) | (refine And.intro (fun _ => ?_) (fun h => Go.Ai.ft h)) | (refine And.intro (fun h => Go.Ai.ft h) (fun _ => ?_)) | (refine And.intro (fun h => Go.Ai.tf h) (fun _ => ?_)))
          refine CallW.of (call_up rfl (r2 _)) ?_
          repeat (first | (refine And.intro (fun _ => ?_) (fun h => Go.Ai.tf h)) | (refine And.intro (fun _ => ?_) (fun h => Go.Ai.ft h)) | (refine And.intro (fun h => Go.Ai.ft h) (fun _ => ?_)) | (refine And.intro (fun h => Go.Ai.tf h) (fun _ => ?_)))
          refine CallW.of (call_up rfl (same_b _ s2 _ _ _ (fun d' e => by cases e <;> exact ⟨Nat.ne_of_beq_eq_false rfl, ⟨_, rfl⟩, ⟨_, rfl⟩⟩))) ?_
          repeat (first | (refine And.intro (fun _ => ?_) (fun h => Go.Ai.tf h)) | (refine And.intro (fun _ => ?_) (fun h => Go.Ai.ft h)) | (refine And.intro (fun h => Go.Ai.ft h) (fun _ => ?_)) | (refine And.intro (fun h => Go.Ai.tf h) (fun _ => ?_)))
          refine CallW.of (call_up rfl (a3 _)) ?_
          repeat (first | (refine And.intro (fun _ => ?_) (fun h => Go.Ai.tf h)) | (refine And.intro (fun _ => ?_) (fun h => Go.Ai.ft h)) | (refine And.intro (fun h => Go.Ai.ft h) (fun _ => ?_)) | (refine And.intro (fun h => Go.Ai.tf h) (fun _ => ?_)))
          refine CallW.of (call_up rfl (r3 _)) ?_
          repeat (first | (refine And.intro (fun _ => ?_) (fun h => Go.Ai.tf h)) | (refine And.intro (fun _ => ?_) (fun h => Go.Ai.ft h)) | (refine And.intro (fun h => Go.Ai.ft h) (fun _ => ?_)) | (refine And.intro (fun h => Go.Ai.tf h) (fun _ => ?_)))
          refine CallW.of (call_up rfl (same_b _ s3 _ _ _ (fun d' e => by cases e <;> exact ⟨Nat.ne_of_beq_eq_false rfl, ⟨_, rfl⟩, ⟨_, rfl⟩⟩))) ?_
          repeat (first | (refine And.intro (fun _ => ?_) (fun h => Go.Ai.tf h)) | (refine And.intro (fun _ => ?_) (fun h => Go.Ai.ft h)) | (refine And.intro (fun h => Go.Ai.ft h) (fun _ => ?_)) | (refine And.intro (fun h => Go.Ai.tf h) (fun _ => ?_)))
          refine CallW.of (call_up rfl (lives_ok _)) ?_
          repeat (first | (refine And.intro (fun _ => ?_) (fun h => Go.Ai.tf h)) | (refine And.intro (fun _ => ?_) (fun h => Go.Ai.ft h)) | (refine And.intro (fun h => Go.Ai.ft h) (fun _ => ?_)) | (refine And.intro (fun h => Go.Ai.tf h) (fun _ => ?_)))
          exact ⟨rfl, show 0 < bigLow by decide⟩
end Go.Proofs.Ytbaoelfpmdmhjaa
