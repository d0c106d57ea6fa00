/- Contracts of Around and of the law PairNests. Conditions: as each theorem says. -/
import Derived.Test.YtbaoelfpmdmhjaaEngineD
import Derived.Test.YtbaoelfpmdmhjaaWalkD
namespace Go.Ai
theorem nth_id (b : Nat) : (fun b : Nat => b) b = b := rfl
/-- a block that leads nowhere from number n on -/
def Stay (n : Nat) : Blk → Prop
  | .cells cs _ _ _ => ∀ v ∈ cs, rnV (fun b => b) n 3 v = some v
  | .loop _ _ tm _ _ _ dfs => (∀ i v, tm.get i = some v → rnV (fun b => b) n 3 v = some v) ∧ dfs < n
  | .defd _ => True
  | .bytes _ _ _ _ => True
  | _ => False
theorem BR_stay {ρ : Mp} {w : World} {p : Pl} {n : Nat} {x : Blk} (h : BR ρ w p x) (hs : Stay n x) : BR (ρ.ren (fun b => b) n) w p x := by
  cases h with
  | cells hw hn hl hc hf => exact .cells hw hn hl (fun j v hv => by
      obtain ⟨v', k1, k2⟩ := hc j v hv
      exact ⟨v', k1, rnV_ok 3 _ _ _ (hs v (List.mem_of_getElem? hv)) k2⟩) hf
  | bytes hw hn hl hc hf => exact .bytes hw hn hl hc hf
  | map _ _ => exact hs.elim
  | iter _ _ => exact hs.elim
  | mapIter _ _ _ => exact hs.elim
  | loop hw ht hd hk => exact .loop hw (fun i v hv => by
      obtain ⟨v', k1, k2⟩ := ht i v hv
      exact ⟨v', k1, rnV_ok 3 _ _ _ (hs.1 i v hv) k2⟩) (ren_at hs.2 hd) hk
  | defd hw => exact .defd hw
section
variable {P : Program} {C : Ctx}
/-- what a round has laid besides is let go -/
theorem round_drop {l : Nat} {args : List Value} {h h1 h2 : H} {v : Value} (hr : RoundOk P C l args h (.ret v h1)) (hv : flat 3 v = true) (hsub : ∀ b x, h2.bl.get b = some x → b < h.ctr ∧ Stay h.ctr x)
    (hall : ∀ b, b < h.ctr → h2.bl.get b = h1.bl.get b) (hctr : h2.ctr = h.ctr) (hlow : h2.low = h1.low) : RoundOk P C l args h (.ret v h2) := by
  intro ρ w p args' c cs hp hva hh hg
  obtain ⟨v0, h0', ρ', v', w', he, k2, k3, k4, rest⟩ := hr ρ w p args' c cs hp hva hh hg
  cases he
  have hren : ∀ b q, ρ'.ren (fun b => b) h.ctr b = some q → b < h.ctr ∧ ρ' b = some q := by
    intro b q hq
    unfold Mp.ren at hq
    split at hq
    · exact ⟨by assumption, hq⟩
    · cases hq
  have hget : ∀ b x, h2.bl.get b = some x → h1.bl.get b = some x := fun b x hx => by rw [← hall b (hsub b x hx).1]; exact hx
  have hveq := VR_flat_eq 3 _ hv k2
  subst hveq
  refine ⟨v, h2, ρ'.ren (fun b => b) h.ctr, v, w', rfl, flat_VR _ _ _ hv, ⟨?_, ?_, ?_, ?_, ?_, ?_⟩, ?_, rest⟩
  · intro b q hq
    obtain ⟨q1, q2⟩ := hren b q hq
    exact ⟨by rw [hctr]; exact q1, (k3.dom b q q2).2⟩
  · intro b x hx; rw [hctr]; exact (hsub b x hx).1
  · intro b x q hx hq
    exact BR_stay (k3.con b x q (hget b x hx) (hren b q hq).2) (hsub b x hx).2
  · intro b b' x x' q q' hx hx' hq hq' he
    exact k3.inj _ _ _ _ _ _ (hget b x hx) (hget b' x' hx') (hren b q hq).2 (hren b' q' hq').2 he
  · intro b x hx; exact k3.fam b x (hget b x hx)
  · intro b x q hx hq hf; exact k3.own b x q (hget b x hx) (hren b q hq).2 hf
  · refine { le := fun b q hq => ren_at (hh.dom b q hq).1 (k4.le b q hq), ctr := by rw [hctr]; exact Nat.le_refl _, low := by rw [hlow]; exact k4.low, os := k4.os, tape := k4.tape, output := k4.output, size := k4.size,
             new := fun b q hq => k4.new b q (hren b q hq).2, keep := by rw [hlow]; exact k4.keep, back := ?_, abs := ?_, full := ?_ }
    · intro b x q hx hq hlt
      exact k4.back b x q (hget b x hx) (hren b q hq).2 hlt
    · intro b hb hf
      rw [hall b hb]
      exact k4.abs b hb (by rw [← hlow]; exact hf)
    · intro b x hx h1' h2'
      rw [hctr] at h2'
      exact absurd h2' (Nat.not_lt.2 h1')
end
end Go.Ai
set_option maxRecDepth 100000
set_option maxHeartbeats 2000000
namespace Go.Proofs.Ytbaoelfpmdmhjaa
open Go.Ai
/-! ### pair.Around -/
noncomputable def tmG : T Value := tmOf 7 [(4, ptr 0), (6, ptr 1), (7, ptr 2), (8, ptr 3), (20, .func (.func 44) #[] #[ptr 5])]
noncomputable def hG (p : Int) (d : Array PP) (a b : Int) (ok : Bool) (st : LoopState) (pe : Option Code) : H :=
  ⟨tree8 (some (.cells [.int .i64 p] 3 0 0)) (some (.cells [.int .i64 a] 3 1 0)) (some (.cells [.int .i64 b] 3 2 0)) (some (.cells [.bool ok] 4 3 0)) (some (.cells (flatA d) 34 0 0)) (some (.cells [.slice (some ⟨4, 0, none⟩) d.size 4] 24 5 0)) (some (.defd true))
    (some (.loop st pe tmG [21, 22] (asgIn (codeOf Try.f13)) (bdyIn (codeOf Try.f13)) 6)), 8, 0⟩
theorem flatA_I (d : Array PP) : ∀ v ∈ flatA d, ∃ n, v = I n := by
  intro v hv
  unfold flatA flatL at hv
  rw [List.mem_flatMap] at hv
  obtain ⟨x, _, hx⟩ := hv
  simp [encP] at hx
  rcases hx with rfl | rfl
  · exact ⟨_, rfl⟩
  · exact ⟨_, rfl⟩
theorem hG_stay (p : Int) (d : Array PP) (a b : Int) (ok : Bool) (st : LoopState) (pe : Option Code) : ∀ k x, (hG p d a b ok st pe).bl.get k = some x → k < 8 ∧ Stay 8 x := by
  intro k x hx
  have hk := keysB_ok (cc := 8) (f := fun k => k) (t := (hG p d a b ok st pe).bl) rfl k x hx
  refine ⟨hk, ?_⟩
  rcases (by omega : k = 0 ∨ k = 1 ∨ k = 2 ∨ k = 3 ∨ k = 4 ∨ k = 5 ∨ k = 6 ∨ k = 7) with rfl | rfl | rfl | rfl | rfl | rfl | rfl | rfl <;> cases hx
  · intro v hv; rw [List.mem_singleton.1 hv]; rfl
  · intro v hv; rw [List.mem_singleton.1 hv]; rfl
  · intro v hv; rw [List.mem_singleton.1 hv]; rfl
  · intro v hv; rw [List.mem_singleton.1 hv]; rfl
  · intro v hv; obtain ⟨n, rfl⟩ := flatA_I d v hv; rfl
  · intro v hv; rw [List.mem_singleton.1 hv]; rfl
  · trivial
  · refine ⟨fun i v hv => ?_, by decide⟩
    have := tmOf_get hv
    simp only [List.mem_cons, Prod.mk.injEq, List.not_mem_nil, or_false] at this
    rcases this with ⟨_, rfl⟩ | ⟨_, rfl⟩ | ⟨_, rfl⟩ | ⟨_, rfl⟩ | ⟨_, rfl⟩ <;> rfl
theorem hG_set (p : Int) (d : Array PP) (a b : Int) (ok : Bool) (st : LoopState) (pe : Option Code) (y : Option Blk) (k : Nat) (hk : k < 8) : (hG p d a b ok st pe).bl.get k = ((hG p d a b ok st pe).bl.set 8 y).get k := (T.get_set_ne _ _ (by omega)).symm
def inP (p : Int) (x : PP) : Bool := decide ((x.a : Int) ≤ p) && decide (p ≤ x.b)
theorem roundG_no (p : Int) (d : Array PP) (x : PP) (k : Value) (hk : ∃ n, k = I n) (hno : inP p x = false) : RoundOk Try.prog C 7 [k, V2P x] (hG p d 0 0 false .ready none) (.ret (.bool true) (hG p d 0 0 false .ready none)) := by
  obtain ⟨n, rfl⟩ := hk
  refine round_drop (h1 := ⟨(hG p d 0 0 false .ready none).bl.set 8 (some (.cells (encP x) 34 8 0)), 9, 0⟩) (roundW_ok CF.tt (Nat.zero_le _) ?_) rfl (hG_stay p d 0 0 false .ready none) (fun b hb => hG_set p d 0 0 false .ready none _ b hb) rfl rfl
  refine And.intro (fun h1 => ?_) (fun h1 => ?_)
  · repeat (first | (refine And.intro (fun _ => ?_) (fun h => Go.Ai.tf h)) | (refine And.intro (fun _ => ?_) (fun h => Go.Ai.ft h)) | (refine And.intro (fun h => Go.Ai.ft h) (fun _ => ?_)) | (refine And.intro (fun h => Go.Ai.tf h) (fun _ => ?_)))
    refine And.intro (fun h2 => ?_) (fun h2 => ?_)
    · exfalso
      have h1 := of_decide_eq_true h1
      have h2 := of_decide_eq_true h2
      unfold inP at hno
      rw [decide_eq_true h1, decide_eq_true h2] at hno
      cases hno
    · exact ⟨rfl, rfl⟩
  · repeat (first | (refine And.intro (fun _ => ?_) (fun h => Go.Ai.tf h)) | (refine And.intro (fun _ => ?_) (fun h => Go.Ai.ft h)) | (refine And.intro (fun h => Go.Ai.ft h) (fun _ => ?_)) | (refine And.intro (fun h => Go.Ai.tf h) (fun _ => ?_)))
    exact ⟨rfl, rfl⟩
theorem roundG_yes (p : Int) (d : Array PP) (x : PP) (k : Value) (hk : ∃ n, k = I n) (hyes : inP p x = true) : RoundOk Try.prog C 7 [k, V2P x] (hG p d 0 0 false .ready none) (.ret (.bool false) (hG p d x.a x.b true .done (some .ret))) := by
  obtain ⟨n, rfl⟩ := hk
  refine round_drop (h1 := ⟨(hG p d x.a x.b true .done (some .ret)).bl.set 8 (some (.cells (encP x) 34 8 0)), 9, 0⟩) (roundW_ok CF.tt (Nat.zero_le _) ?_) rfl (hG_stay p d x.a x.b true .done (some .ret)) (fun b hb => hG_set p d x.a x.b true .done (some .ret) _ b hb) rfl rfl
  unfold inP at hyes
  rw [Bool.and_eq_true] at hyes
  have g1 := of_decide_eq_true hyes.1
  have g2 := of_decide_eq_true hyes.2
  refine And.intro (fun h1 => ?_) (fun h1 => ?_)
  · repeat (first | (refine And.intro (fun _ => ?_) (fun h => Go.Ai.tf h)) | (refine And.intro (fun _ => ?_) (fun h => Go.Ai.ft h)) | (refine And.intro (fun h => Go.Ai.ft h) (fun _ => ?_)) | (refine And.intro (fun h => Go.Ai.tf h) (fun _ => ?_)))
    refine And.intro (fun h2 => ?_) (fun h2 => ?_)
    · exact ⟨rfl, rfl⟩
    · have h2 := of_decide_eq_false h2
      exact absurd g2 h2
  · have h1 := of_decide_eq_false h1
    exact absurd g1 h1
/-- the last one around a place -/
def aroundS (p : Int) (L : List PP) : Option PP := L.reverse.find? (inP p)
noncomputable def endG (p : Int) (d : Array PP) : Option PP → H
  | none => hG p d 0 0 false .ready none
  | some x => hG p d x.a x.b true .done (some .ret)
theorem backLoop_ok (p : Int) (d : Array PP) (hd : d.size ≤ 250) :
    CallOk Try.prog C 44 [.func (.yield 7) #[] #[], ptr 5] (hG p d 0 0 false .ready none) (.ret (.tuple #[]) (endG p d (aroundS p d.toList))) := by
  refine fn_wp CF rfl (n := 19) (res := []) (c := codeOf Try.f44) rfl ?_
  refine Or.inl (And.intro (inK_i64 (by first | omega | (simp only <;> omega) | (simp only [Array.size_setIfInBounds, Go.Ai.swp_size] <;> omega))) ?_)
  refine loopV CF.tt rfl (fun x : Nat => ⟨tmOf 6 [(0, .func (.yield 7) #[] #[]), (1, ptr 5), (3, less1 x)], [], none, hG p d 0 0 false .ready none⟩) d.size (weak_live ⟨rfl, rfl, less1_eq rfl, trivial⟩ rfl rfl rfl)
    (fun x => x) (fun x => x ≤ d.size ∧ aroundS p (d.toList.take x) = aroundS p d.toList) ⟨Nat.le_refl _, by rw [List.take_of_length_le (by simp)]⟩ ?_
  rintro x ⟨hx, hr⟩
  cases x with
  | zero =>
    repeat (first | (refine And.intro (fun _ => ?_) (fun h => Go.Ai.tf h)) | (refine And.intro (fun _ => ?_) (fun h => Go.Ai.ft h)) | (refine And.intro (fun h => Go.Ai.ft h) (fun _ => ?_)) | (refine And.intro (fun h => Go.Ai.tf h) (fun _ => ?_)))
    have : aroundS p d.toList = none := by rw [← hr]; rfl
    rw [this]
    exact ⟨rfl, rfl⟩
  | succ k =>
    have hk : k < d.size := by omega
    have ht : d.toList.take (k + 1) = d.toList.take k ++ [d[k]!] := by
      rw [List.take_succ_eq_append_getElem (by simpa using hk), getElem!_pos d k hk]
      simp
    have hs : aroundS p (d.toList.take (k + 1)) = if inP p d[k]! then some d[k]! else aroundS p (d.toList.take k) := by
      unfold aroundS
      rw [ht, List.reverse_append, List.reverse_singleton, List.singleton_append, List.find?_cons]
      cases inP p d[k]! <;> rfl
    rw [hs] at hr
    refine And.intro (fun h1 => ?_) (fun h1 => ?_)
    · have h1 := of_decide_eq_true h1
      apply nxW_of
      · exact idx_pair (k) rfl rfl rfl rfl rfl rfl (by first | omega | (simp only <;> omega) | (simp only [Array.size_setIfInBounds, Go.Ai.swp_size] <;> omega)) (by first | omega | (simp only <;> omega) | (simp only [Array.size_setIfInBounds, Go.Ai.swp_size] <;> omega))
      apply nxW_of
      · exact load_pair (d) (k) rfl rfl rfl rfl rfl (by first | omega | (simp only <;> omega) | (simp only [Array.size_setIfInBounds, Go.Ai.swp_size] <;> omega))
      cases hin : inP p d[k]! with
      | true =>
        rw [hin, if_pos rfl] at hr
        rw [← hr]
        refine ⟨_, _, roundG_yes p d d[k]! _ ⟨k, rfl⟩ hin, ?_⟩
        repeat (first | (refine And.intro (fun _ => ?_) (fun h => Go.Ai.tf h)) | (refine And.intro (fun _ => ?_) (fun h => Go.Ai.ft h)) | (refine And.intro (fun h => Go.Ai.ft h) (fun _ => ?_)) | (refine And.intro (fun h => Go.Ai.tf h) (fun _ => ?_)))
        exact ⟨rfl, rfl⟩
      | false =>
        rw [hin, if_neg (by simp)] at hr
        refine ⟨_, _, roundG_no p d d[k]! _ ⟨k, rfl⟩ hin, ?_⟩
        repeat (first | (refine And.intro (fun _ => ?_) (fun h => Go.Ai.tf h)) | (refine And.intro (fun _ => ?_) (fun h => Go.Ai.ft h)) | (refine And.intro (fun h => Go.Ai.ft h) (fun _ => ?_)) | (refine And.intro (fun h => Go.Ai.tf h) (fun _ => ?_)))
        refine Or.inl (And.intro (inK_i64 (by first | omega | (simp only <;> omega) | (simp only [Array.size_setIfInBounds, Go.Ai.swp_size] <;> omega))) ?_)
        exact ⟨k, ⟨by omega, hr⟩, weak_live ⟨rfl, rfl, less1_eq rfl, trivial⟩ rfl rfl rfl, Nat.lt_succ_self _⟩
    · have h1 := of_decide_eq_false h1
      exfalso
      omega
def AllCk (l kd : List UInt8) : Option (Array PP) → Prop
  | none => ∀ h, CallOk Try.prog C 9 [str l, str kd] h (.ret (.slice none 0 0) h)
  | some d => ∀ h, CallOk Try.prog C 9 [str l, str kd] h (.ret (.slice (some ⟨nrmN (h.ctr + 1), 0, none⟩) d.size 4) (moreC h (flatA d) 34))
theorem AllCk_of {l : List UInt8} {i : Nat} {D : Option (Array PP)} (h : AllC l i D) : AllCk l [opB i] D := by cases D <;> exact h
def aroundV : Option PP → Value
  | none => .tuple #[I 0, I 0, .bool false]
  | some x => .tuple #[I x.a, I x.b, .bool true]
theorem aroundV_flat (r : Option PP) : flat 3 (aroundV r) = true := by cases r <;> rfl
theorem backward_ok (v : Value) (h : H) (hz : vcells v = [v]) : CallOk Try.prog C 32 [v] h (.ret (.func (.func 44) #[] #[.pointer (some ⟨h.ctr, 0, none⟩)]) (nrm (newCells h [v] 24))) := by
  refine fn_wp CF rfl (n := 4) (res := [.tmp 2]) (c := codeOf Try.f32) rfl ?_
  refine ⟨rfl, ?_⟩
  simp only [nrm_eq, hz]
noncomputable def hN (p : Int) : H :=
  ⟨tree8 (some (.cells [.int .i64 p] 3 0 0)) (some (.cells [.int .i64 0] 3 1 0)) (some (.cells [.int .i64 0] 3 2 0)) (some (.cells [.bool false] 4 3 0)) (some (.cells [.slice none 0 0] 24 4 0)) (some (.defd true))
    (some (.loop .ready none (tmOf 7 [(4, ptr 0), (6, ptr 1), (7, ptr 2), (8, ptr 3), (20, .func (.func 44) #[] #[ptr 4])]) [21, 22] (asgIn (codeOf Try.f13)) (bdyIn (codeOf Try.f13)) 5)) none, 7, 0⟩
theorem backNil_ok (p : Int) : CallOk Try.prog C 44 [.func (.yield 6) #[] #[], ptr 4] (hN p) (.ret (.tuple #[]) (hN p)) := by
  refine fn_wp CF rfl (n := 19) (res := []) (c := codeOf Try.f44) rfl ?_
  refine Or.inl (And.intro (inK_i64 (by first | omega | (simp only <;> omega) | (simp only [Array.size_setIfInBounds, Go.Ai.swp_size] <;> omega))) ?_)
  refine TB.ofLB (LB.nextW CF.tt rfl ?_)
  repeat (first | (refine And.intro (fun _ => ?_) (fun h => Go.Ai.tf h)) | (refine And.intro (fun _ => ?_) (fun h => Go.Ai.ft h)) | (refine And.intro (fun h => Go.Ai.ft h) (fun _ => ?_)) | (refine And.intro (fun h => Go.Ai.tf h) (fun _ => ?_)))
  exact ⟨rfl, rfl⟩
theorem around_ok (l kd : List UInt8) (D : Option (Array PP)) (hAC : AllCk l kd D) (hsz : ∀ d, D = some d → d.size ≤ 250) (p : Int) (hl : l.length < 4611686018427387904) :
    ∀ h, CallOk Try.prog C 13 [str l, .int .i64 p, str kd] h (.ret (aroundV (if placeS l p then aroundS p (lstO D) else none)) h) := by
  refine pure_wp CF rfl 4 3 (n := 37) (res := [.cell 6 3, .cell 7 3, .cell 8 4]) (c := (codeOf Try.f13)) rfl rfl (aroundV_flat _) ?_
  refine CallW.of (place_ok l p hl _) ?_
  cases hp : placeS l p with
  | false =>
    repeat (first | (refine And.intro (fun _ => ?_) (fun h => Go.Ai.tf h)) | (refine And.intro (fun _ => ?_) (fun h => Go.Ai.ft h)) | (refine And.intro (fun h => Go.Ai.ft h) (fun _ => ?_)) | (refine And.intro (fun h => Go.Ai.tf h) (fun _ => ?_)))
    rfl
  | true =>
    rw [if_pos rfl]
    repeat (first | (refine And.intro (fun _ => ?_) (fun h => Go.Ai.tf h)) | (refine And.intro (fun _ => ?_) (fun h => Go.Ai.ft h)) | (refine And.intro (fun h => Go.Ai.ft h) (fun _ => ?_)) | (refine And.intro (fun h => Go.Ai.tf h) (fun _ => ?_)))
    cases D with
    | none =>
      refine CallW.of (hAC _) ?_
      refine CallW.of (backward_ok _ _ rfl) ?_
      refine TB.weak (weak_ren (e := 7) (l := [(4, ptr 0), (6, ptr 1), (7, ptr 2), (8, ptr 3), (20, .func (.func 44) #[] #[ptr 4])]) (L := [0, 1, 2, 3, 4]) (low := 0)
        (t := tree8 (some (.cells [.int .i64 p] 3 0 0)) (some (.cells [.int .i64 0] 3 1 0)) (some (.cells [.int .i64 0] 3 2 0)) (some (.cells [.bool false] 4 3 0)) (some (.cells [.slice none 0 0] 24 4 0)) none none none)
        ⟨⟨_, rfl, rfl⟩, ⟨_, rfl, rfl⟩, ⟨_, rfl, rfl⟩, ⟨_, rfl, rfl⟩, ⟨_, rfl, rfl⟩, trivial⟩ ⟨⟨⟨⟨rfl, rfl⟩, .inr rfl⟩, Nat.le_refl _, fun _ => rfl⟩, ⟨⟨⟨rfl, rfl⟩, .inr rfl⟩, Nat.le_refl _, fun _ => rfl⟩, ⟨⟨⟨rfl, rfl⟩, .inr rfl⟩, Nat.le_refl _, fun _ => rfl⟩, ⟨⟨⟨rfl, rfl⟩, .inr rfl⟩, Nat.le_refl _, fun _ => rfl⟩, ⟨⟨⟨rfl, rfl⟩, .inr rfl⟩, Nat.le_refl _, fun _ => rfl⟩, trivial⟩ rfl (by decide) rfl rfl (Nat.zero_le _)) ?_
      refine TB.range ?_
      refine CallW.of (backNil_ok p) ?_
      rfl
    | some d =>
      have hsz := hsz d rfl
      have hb := backLoop_ok p d hsz
      obtain ⟨r, hr⟩ : ∃ r, aroundS p d.toList = r := ⟨_, rfl⟩
      rw [hr] at hb
      rw [show aroundS p (lstO (some d)) = r from hr]
      refine CallW.of (hAC _) ?_
      refine CallW.of (backward_ok _ _ rfl) ?_
      refine TB.weak (weak_ren (e := 7) (l := [(4, ptr 0), (6, ptr 1), (7, ptr 2), (8, ptr 3), (20, .func (.func 44) #[] #[ptr 5])]) (L := [0, 1, 2, 3, 5, 6]) (low := 0)
        (t := tree8 (some (.cells [.int .i64 p] 3 0 0)) (some (.cells [.int .i64 0] 3 1 0)) (some (.cells [.int .i64 0] 3 2 0)) (some (.cells [.bool false] 4 3 0)) (some (.cells (flatA d) 34 0 0)) (some (.cells [.slice (some ⟨4, 0, none⟩) d.size 4] 24 5 0)) none none)
        ⟨⟨_, rfl, rfl⟩, ⟨_, rfl, rfl⟩, ⟨_, rfl, rfl⟩, ⟨_, rfl, rfl⟩, ⟨_, rfl, rfl⟩, trivial⟩ ⟨⟨⟨⟨rfl, rfl⟩, .inr rfl⟩, Nat.le_refl _, fun _ => rfl⟩, ⟨⟨⟨rfl, rfl⟩, .inr rfl⟩, Nat.le_refl _, fun _ => rfl⟩, ⟨⟨⟨rfl, rfl⟩, .inr rfl⟩, Nat.le_refl _, fun _ => rfl⟩, ⟨⟨⟨rfl, rfl⟩, .inr rfl⟩, Nat.le_refl _, fun _ => rfl⟩, ⟨brO _ _ d _ _ _ rfl, Nat.zero_le _, fun h => (nomatch h)⟩, ⟨⟨⟨rfl, rfl⟩, .inr rfl⟩, Nat.le_refl _, fun _ => rfl⟩, trivial⟩ rfl (by decide) rfl rfl (Nat.zero_le _)) ?_
      refine TB.range ?_
      refine CallW.of hb ?_
      cases r with
      | none => rfl
      | some x => rfl
end Go.Proofs.Ytbaoelfpmdmhjaa
set_option maxRecDepth 100000
set_option maxHeartbeats 2000000
namespace Go.Proofs.Ytbaoelfpmdmhjaa
open Go.Ai
/-! ### PairNests -/
theorem gF {b : Bool} {A B : Prop} (h : b = false) (a : A) : (b = false → A) ∧ (b = !false → B) := ⟨fun _ => a, fun e => by rw [h] at e; cases e⟩
theorem gT {b : Bool} {A B : Prop} (h : b = true) (a : A) : (b = true → A) ∧ (b = !true → B) := ⟨fun _ => a, fun e => by rw [h] at e; cases e⟩
theorem cF {b : Bool} {A B : Prop} (h : b = false) (a : B) : (b = true → A) ∧ (b = false → B) := ⟨fun e => (by rw [h] at e; cases e), fun _ => a⟩
def rA : Option PP → Nat
  | none => 0
  | some x => x.a
def rB : Option PP → Nat
  | none => 0
  | some x => x.b
def rOk : Option PP → Bool
  | none => false
  | some _ => true
theorem aroundV_eq (r : Option PP) : aroundV r = .tuple #[I (rA r), I (rB r), .bool (rOk r)] := by cases r <;> rfl
noncomputable def anyS (l : List UInt8) (p : Int) (d : Array PP) (i : Nat) : Bool := placeS l p && (d.toList.take i).any (inP p)
theorem any_find {α : Type} (f : α → Bool) : ∀ L : List α, L.any f = (L.find? f).isSome
  | [] => rfl
  | x :: L => by
    rw [List.any_cons, List.find?_cons, any_find f L]
    cases f x <;> simp
theorem anyS_succ (l : List UInt8) (p : Int) (d : Array PP) (i : Nat) (hi : i < d.size) : anyS l p d (i + 1) = (anyS l p d i || (placeS l p && inP p d[i]!)) := by
  unfold anyS
  rw [List.take_succ_eq_append_getElem (by simpa using hi), List.any_append, getElem!_pos d i hi]
  cases placeS l p <;> simp
theorem around_last {o c : UInt8} {l : List UInt8} {L : List PP} (h : Lst o c l L) {p : Int} {x y : PP} (hx : x ∈ L) (hin : inP p x = true) (hy : aroundS p L = some y) : x.a ≤ y.a ∧ y.b ≤ x.b := by
  unfold aroundS at hy
  obtain ⟨hyp, l1, l2, he, has⟩ := List.find?_eq_some_iff_append.1 hy
  have hyL : y ∈ L := by
    have : y ∈ L.reverse := by rw [he]; simp
    simpa using this
  have hle : x.a ≤ y.a := by
    have hxr : x ∈ L.reverse := by simpa using hx
    rw [he] at hxr
    rcases List.mem_append.1 hxr with hxa | hxb
    · have := has x hxa
      rw [hin] at this
      cases this
    · rcases List.mem_cons.1 hxb with rfl | hxb
      · exact Nat.le_refl _
      · have hp := List.pairwise_reverse.2 h.asc
        rw [he] at hp
        have := (List.pairwise_cons.1 (List.pairwise_append.1 hp).2.1).1 x hxb
        omega
  refine ⟨hle, ?_⟩
  rcases Nat.eq_or_lt_of_le hle with e | hlt
  · rw [inj_nodup PP.a L h.na x hx y hyL e]
    exact Nat.le_refl _
  · unfold inP at hin hyp
    rw [Bool.and_eq_true] at hin hyp
    have g1 := of_decide_eq_true hin.2
    have g2 := of_decide_eq_true hyp.1
    rcases h.la y hyL x hx hlt with h1 | h1
    · omega
    · omega
theorem nests_ok (l : List UInt8) (p : Int) : ∀ h, CallOk Try.prog C 6 [str l, .int .i64 p] h (.ret (.bool true) h) := by
  refine pure_wp CF rfl 4 3 (n := 143) (res := [.tmp 4]) (c := codeOf Try.f6) rfl rfl rfl ?_
  refine And.intro (fun h1 => ?_) (fun h1 => ?_)
  · have h1 := of_decide_eq_false h1
    have hl : l.length ≤ 300 := by
      have : ¬ (300 : Int) < (l.length : Nat) := h1
      omega
    repeat (first | (refine And.intro (fun _ => ?_) (fun h => Go.Ai.tf h)) | (refine And.intro (fun _ => ?_) (fun h => Go.Ai.ft h)) | (refine And.intro (fun h => Go.Ai.ft h) (fun _ => ?_)) | (refine And.intro (fun h => Go.Ai.tf h) (fun _ => ?_)))
    refine CallW.of (valid_ok l (by omega) _) ?_
    cases hv : validS l with
    | false =>
      repeat (first | (refine And.intro (fun _ => ?_) (fun h => Go.Ai.tf h)) | (refine And.intro (fun _ => ?_) (fun h => Go.Ai.ft h)) | (refine And.intro (fun h => Go.Ai.ft h) (fun _ => ?_)) | (refine And.intro (fun h => Go.Ai.tf h) (fun _ => ?_)))
      refine CallW.of (lives_ok _) ?_
      rfl
    | true =>
      repeat (first | (refine And.intro (fun _ => ?_) (fun h => Go.Ai.tf h)) | (refine And.intro (fun _ => ?_) (fun h => Go.Ai.ft h)) | (refine And.intro (fun h => Go.Ai.ft h) (fun _ => ?_)) | (refine And.intro (fun h => Go.Ai.tf h) (fun _ => ?_)))
      obtain ⟨hAD, -, hAC⟩ := AllF_spec (l := l) (i := 0) (by omega) (by omega)
      have L := lstF hv (by omega) (i := 0) (by omega)
      have hsz : ∀ d, AllF l 0 = some d → d.size ≤ 250 := fun d h => AllF_size (by omega) (by omega) h
      revert hAC hsz L
      generalize AllF l 0 = D
      intro hAC L hsz
      have hAr := around_ok l [40] D (AllCk_of hAC) hsz p (by omega)
      obtain ⟨r, hr⟩ : ∃ r, (if placeS l p then aroundS p (lstO D) else none) = r := ⟨_, rfl⟩
      rw [hr, aroundV_eq] at hAr
      cases D with
      | none =>
        have hrn : r = none := by rw [← hr]; cases placeS l p <;> rfl
        subst hrn
        refine CallW.of (hAC _) ?_
        refine CallW.of (hAr _) ?_
        refine TB.ofLB (LB.nextW CF.tt rfl ?_)
        repeat (first | (refine And.intro (fun _ => ?_) (fun h => Go.Ai.tf h)) | (refine And.intro (fun _ => ?_) (fun h => Go.Ai.ft h)) | (refine And.intro (fun h => Go.Ai.ft h) (fun _ => ?_)) | (refine And.intro (fun h => Go.Ai.tf h) (fun _ => ?_)))
        refine CallW.of (lives_ok _) ?_
        repeat (first | (refine And.intro (fun _ => ?_) (fun h => Go.Ai.tf h)) | (refine And.intro (fun _ => ?_) (fun h => Go.Ai.ft h)) | (refine And.intro (fun h => Go.Ai.ft h) (fun _ => ?_)) | (refine And.intro (fun h => Go.Ai.tf h) (fun _ => ?_)))
        rfl
      | some d =>
        refine CallW.of (hAC _) ?_
        refine CallW.of (hAr _) ?_
        have hsz := hsz d rfl
        have hrP : rOk r = (placeS l p && d.toList.any (inP p)) := by
          rw [← hr]
          cases placeS l p with
          | false => rfl
          | true =>
            rw [if_pos rfl]
            show rOk (aroundS p d.toList) = _
            unfold aroundS
            rw [← List.any_reverse, any_find, Bool.true_and]
            cases d.toList.reverse.find? (inP p) <;> rfl
        refine loopV CF.tt rfl (fun i : Nat => ⟨tmOf 9 [(0, str l), (1, .int .i64 p), (5, .slice (some ⟨1, 0, none⟩) d.size 4), (6, I (rA r)), (7, I (rB r)), (8, .bool (rOk r)), (9, .bool (anyS l p d i)), (10, I i)], [], none, hOne (flatA d) 34 0⟩) 0
          (weak_ren (L := [0, 1]) ⟨⟨_, rfl, rfl⟩, ⟨_, rfl, rfl⟩, ⟨_, rfl, rfl⟩, ⟨_, rfl, rfl⟩, ⟨_, rfl, rfl⟩, ⟨_, rfl, rfl⟩, ⟨.bool false, rfl, ?_⟩, ⟨_, rfl, rfl⟩, trivial⟩ ⟨trivial, ⟨brO _ _ d _ _ _ rfl, Nat.zero_le _, fun h => (nomatch h)⟩, trivial⟩ rfl (by decide) rfl rfl (Nat.zero_le _))
          (fun i => d.size - i) (fun i => i ≤ d.size) (Nat.zero_le _) ?_
        · have : anyS l p d 0 = false := by unfold anyS; simp
          rw [this]
          rfl
        intro i hi
        refine And.intro (fun h2 => ?_) (fun h2 => ?_)
        · have h2 := of_decide_eq_true h2
          have hid : i < d.size := by omega
          have hmem : d[i]! ∈ d.toList := by rw [getElem!_pos d i hid]; simp
          obtain ⟨x1, x2, x3, x4⟩ := L.x _ hmem
          apply nxW_of
          · exact idx_pair (i) rfl rfl rfl rfl rfl rfl (by first | omega | (simp only <;> omega) | (simp only [Array.size_setIfInBounds, Go.Ai.swp_size] <;> omega)) (by first | omega | (simp only <;> omega) | (simp only [Array.size_setIfInBounds, Go.Ai.swp_size] <;> omega))
          apply nxW_of
          · exact load_pair (d) (i) rfl rfl rfl rfl rfl (by first | omega | (simp only <;> omega) | (simp only [Array.size_setIfInBounds, Go.Ai.swp_size] <;> omega))
          obtain ⟨x, hx⟩ : ∃ x, d[i]! = x := ⟨_, rfl⟩
          rw [hx] at x1 x2 x3 x4 hmem
          rw [hx]
          have c1 : decide ((x.a : Int) < 0) = false := decide_eq_false (by omega)
          have c2 : decide ((x.b : Int) ≤ x.a) = false := decide_eq_false (by omega)
          have c3 : decide (((l.length : Nat) : Int) ≤ x.b) = false := decide_eq_false (by omega)
          have c4 : (!decide (((l.getD x.a 0).toNat : Int) = 40)) = false := by rw [x3]; rfl
          have c5 : (!decide (((l.getD x.b 0).toNat : Int) = 41)) = false := by rw [x4]; rfl
          refine gF c1 ?_
          repeat (first | (refine And.intro (fun _ => ?_) (fun h => Go.Ai.tf h)) | (refine And.intro (fun _ => ?_) (fun h => Go.Ai.ft h)) | (refine And.intro (fun h => Go.Ai.ft h) (fun _ => ?_)) | (refine And.intro (fun h => Go.Ai.tf h) (fun _ => ?_)))
          refine gF c2 ?_
          repeat (first | (refine And.intro (fun _ => ?_) (fun h => Go.Ai.tf h)) | (refine And.intro (fun _ => ?_) (fun h => Go.Ai.ft h)) | (refine And.intro (fun h => Go.Ai.ft h) (fun _ => ?_)) | (refine And.intro (fun h => Go.Ai.tf h) (fun _ => ?_)))
          refine gF c3 ?_
          repeat (first | (refine And.intro (fun _ => ?_) (fun h => Go.Ai.tf h)) | (refine And.intro (fun _ => ?_) (fun h => Go.Ai.ft h)) | (refine And.intro (fun h => Go.Ai.ft h) (fun _ => ?_)) | (refine And.intro (fun h => Go.Ai.tf h) (fun _ => ?_)))
          refine And.intro (show (0 : Int) ≤ x.a ∧ (x.a : Int) < (l.length : Nat) by omega) ?_
          repeat (first | (refine And.intro (fun _ => ?_) (fun h => Go.Ai.tf h)) | (refine And.intro (fun _ => ?_) (fun h => Go.Ai.ft h)) | (refine And.intro (fun h => Go.Ai.ft h) (fun _ => ?_)) | (refine And.intro (fun h => Go.Ai.tf h) (fun _ => ?_)))
          refine gF c4 ?_
          repeat (first | (refine And.intro (fun _ => ?_) (fun h => Go.Ai.tf h)) | (refine And.intro (fun _ => ?_) (fun h => Go.Ai.ft h)) | (refine And.intro (fun h => Go.Ai.ft h) (fun _ => ?_)) | (refine And.intro (fun h => Go.Ai.tf h) (fun _ => ?_)))
          refine And.intro (show (0 : Int) ≤ x.b ∧ (x.b : Int) < (l.length : Nat) by omega) ?_
          repeat (first | (refine And.intro (fun _ => ?_) (fun h => Go.Ai.tf h)) | (refine And.intro (fun _ => ?_) (fun h => Go.Ai.ft h)) | (refine And.intro (fun h => Go.Ai.ft h) (fun _ => ?_)) | (refine And.intro (fun h => Go.Ai.tf h) (fun _ => ?_)))
          refine cF c5 ?_
          refine loopV CF.tt rfl (fun k : Nat => ⟨tmOf 9 [(0, str l), (1, .int .i64 p), (5, .slice (some ⟨1, 0, none⟩) d.size 4), (6, I (rA r)), (7, I (rB r)), (8, .bool (rOk r)), (9, .bool (anyS l p d i)), (10, I i), (11, ptr 2), (12, I k)], [], none, ⟨tree8 none (some (.cells (flatA d) 34 0 0)) (some (.cells (encP x) 34 0 0)) none none none none none, 3, 0⟩⟩) 0
            (weak_ren (L := [0, 1, 2]) ⟨⟨_, rfl, rfl⟩, ⟨_, rfl, rfl⟩, ⟨_, rfl, rfl⟩, ⟨_, rfl, rfl⟩, ⟨_, rfl, rfl⟩, ⟨_, rfl, rfl⟩, ⟨_, rfl, rfl⟩, ⟨_, rfl, rfl⟩, ⟨_, rfl, rfl⟩, ⟨_, rfl, rfl⟩, trivial⟩ ⟨trivial, ⟨brO _ _ d _ _ _ rfl, Nat.zero_le _, fun h => (nomatch h)⟩, ⟨⟨⟨rfl, rfl⟩, .inr rfl⟩, Nat.zero_le _, fun h => (nomatch h)⟩, trivial⟩ rfl (by decide) rfl rfl (Nat.zero_le _))
            (fun k => i - k) (fun k => k ≤ i) (Nat.zero_le _) ?_
          intro k hk
          refine And.intro (fun h3 => ?_) (fun h3 => ?_)
          · have h3 := of_decide_eq_true h3
            have hkd : k < d.size := by omega
            have hki : k < i := by omega
            have hmy : d[k]! ∈ d.toList := by rw [getElem!_pos d k hkd]; simp
            have hasc : d[k]!.a < x.a := by
              have := List.pairwise_iff_getElem.1 L.asc k i (by simpa [lstO] using hkd) (by simpa [lstO] using hid) hki
              rw [← hx, getElem!_pos d k hkd, getElem!_pos d i hid]
              simpa [lstO] using this
            have hla := L.la x hmem _ hmy hasc
            have hnb : d[k]!.b ≠ x.b := by
              intro e
              have := inj_nodup PP.b _ L.nb _ hmy _ hmem e
              rw [this] at hasc
              omega
            apply nxW_of
            · exact idx_pair (k) rfl rfl rfl rfl rfl rfl (by first | omega | (simp only <;> omega) | (simp only [Array.size_setIfInBounds, Go.Ai.swp_size] <;> omega)) (by first | omega | (simp only <;> omega) | (simp only [Array.size_setIfInBounds, Go.Ai.swp_size] <;> omega))
            apply nxW_of
            · exact load_pair (d) (k) rfl rfl rfl rfl rfl (by first | omega | (simp only <;> omega) | (simp only [Array.size_setIfInBounds, Go.Ai.swp_size] <;> omega))
            obtain ⟨y, hy⟩ : ∃ y, d[k]! = y := ⟨_, rfl⟩
            rw [hy] at hasc hla hnb
            rw [hy]
            have e1 : decide ((x.a : Int) ≤ y.a) = false := decide_eq_false (by omega)
            refine gF e1 ?_
            repeat (first | (refine And.intro (fun _ => ?_) (fun h => Go.Ai.tf h)) | (refine And.intro (fun _ => ?_) (fun h => Go.Ai.ft h)) | (refine And.intro (fun h => Go.Ai.ft h) (fun _ => ?_)) | (refine And.intro (fun h => Go.Ai.tf h) (fun _ => ?_)))
            have e3 : decide ((y.b : Int) = x.b) = false := decide_eq_false (by omega)
            refine And.intro (fun h4 => ?_) (fun h4 => ?_)
            · have h4 := of_decide_eq_true h4
              have e2 : decide ((y.b : Int) < x.b) = false := decide_eq_false (by omega)
              repeat (first | (refine And.intro (fun _ => ?_) (fun h => Go.Ai.tf h)) | (refine And.intro (fun _ => ?_) (fun h => Go.Ai.ft h)) | (refine And.intro (fun h => Go.Ai.ft h) (fun _ => ?_)) | (refine And.intro (fun h => Go.Ai.tf h) (fun _ => ?_)))
              refine gF e2 ?_
              repeat (first | (refine And.intro (fun _ => ?_) (fun h => Go.Ai.tf h)) | (refine And.intro (fun _ => ?_) (fun h => Go.Ai.ft h)) | (refine And.intro (fun h => Go.Ai.ft h) (fun _ => ?_)) | (refine And.intro (fun h => Go.Ai.tf h) (fun _ => ?_)))
              refine cF e3 ?_
              refine Or.inl (And.intro (inK_i64 (by first | omega | (simp only <;> omega) | (simp only [Array.size_setIfInBounds, Go.Ai.swp_size] <;> omega))) ?_)
              exact ⟨k + 1, by omega, weak_ren (L := [0, 1, 2]) ⟨⟨_, rfl, rfl⟩, ⟨_, rfl, rfl⟩, ⟨_, rfl, rfl⟩, ⟨_, rfl, rfl⟩, ⟨_, rfl, rfl⟩, ⟨_, rfl, rfl⟩, ⟨_, rfl, rfl⟩, ⟨_, rfl, rfl⟩, ⟨_, rfl, rfl⟩, ⟨_, rfl, rfl⟩, trivial⟩ ⟨trivial, ⟨brO _ _ d _ _ _ rfl, Nat.zero_le _, fun h => (nomatch h)⟩, ⟨⟨⟨rfl, rfl⟩, .inr rfl⟩, Nat.zero_le _, fun h => (nomatch h)⟩, trivial⟩ rfl (by decide) rfl rfl (Nat.zero_le _), by omega⟩
            · repeat (first | (refine And.intro (fun _ => ?_) (fun h => Go.Ai.tf h)) | (refine And.intro (fun _ => ?_) (fun h => Go.Ai.ft h)) | (refine And.intro (fun h => Go.Ai.ft h) (fun _ => ?_)) | (refine And.intro (fun h => Go.Ai.tf h) (fun _ => ?_)))
              refine cF e3 ?_
              refine Or.inl (And.intro (inK_i64 (by first | omega | (simp only <;> omega) | (simp only [Array.size_setIfInBounds, Go.Ai.swp_size] <;> omega))) ?_)
              exact ⟨k + 1, by omega, weak_ren (L := [0, 1, 2]) ⟨⟨_, rfl, rfl⟩, ⟨_, rfl, rfl⟩, ⟨_, rfl, rfl⟩, ⟨_, rfl, rfl⟩, ⟨_, rfl, rfl⟩, ⟨_, rfl, rfl⟩, ⟨_, rfl, rfl⟩, ⟨_, rfl, rfl⟩, ⟨_, rfl, rfl⟩, ⟨_, rfl, rfl⟩, trivial⟩ ⟨trivial, ⟨brO _ _ d _ _ _ rfl, Nat.zero_le _, fun h => (nomatch h)⟩, ⟨⟨⟨rfl, rfl⟩, .inr rfl⟩, Nat.zero_le _, fun h => (nomatch h)⟩, trivial⟩ rfl (by decide) rfl rfl (Nat.zero_le _), by omega⟩
          · have h3 := of_decide_eq_false h3
            refine CallW.of (place_ok l p (by omega) _) ?_
            have hsu := anyS_succ l p d i hid
            rw [hx] at hsu
            refine And.intro (fun h5 => ?_) (fun h5 => ?_)
            · repeat (first | (refine And.intro (fun _ => ?_) (fun h => Go.Ai.tf h)) | (refine And.intro (fun _ => ?_) (fun h => Go.Ai.ft h)) | (refine And.intro (fun h => Go.Ai.ft h) (fun _ => ?_)) | (refine And.intro (fun h => Go.Ai.tf h) (fun _ => ?_)))
              refine And.intro (fun h6 => ?_) (fun h6 => ?_)
              · have h6 := of_decide_eq_true h6
                repeat (first | (refine And.intro (fun _ => ?_) (fun h => Go.Ai.tf h)) | (refine And.intro (fun _ => ?_) (fun h => Go.Ai.ft h)) | (refine And.intro (fun h => Go.Ai.ft h) (fun _ => ?_)) | (refine And.intro (fun h => Go.Ai.tf h) (fun _ => ?_)))
                refine And.intro (fun h7 => ?_) (fun h7 => ?_)
                · have h7 := of_decide_eq_true h7
                  have hin : inP p x = true := by unfold inP; rw [decide_eq_true h6, decide_eq_true h7]; rfl
                  have hany : d.toList.any (inP p) = true := List.any_eq_true.2 ⟨x, hmem, hin⟩
                  rw [h5, hany] at hrP
                  rw [h5, hin, Bool.and_self, Bool.or_true] at hsu
                  cases r with
                  | none => cases hrP
                  | some y =>
                    rw [h5, if_pos rfl] at hr
                    obtain ⟨g1, g2⟩ := around_last L hmem hin hr
                    have f1 : decide ((y.a : Int) < x.a) = false := decide_eq_false (by omega)
                    have f2 : decide ((x.b : Int) < y.b) = false := decide_eq_false (by omega)
                    repeat (first | (refine And.intro (fun _ => ?_) (fun h => Go.Ai.tf h)) | (refine And.intro (fun _ => ?_) (fun h => Go.Ai.ft h)) | (refine And.intro (fun h => Go.Ai.ft h) (fun _ => ?_)) | (refine And.intro (fun h => Go.Ai.tf h) (fun _ => ?_)))
                    refine gF f1 ?_
                    repeat (first | (refine And.intro (fun _ => ?_) (fun h => Go.Ai.tf h)) | (refine And.intro (fun _ => ?_) (fun h => Go.Ai.ft h)) | (refine And.intro (fun h => Go.Ai.ft h) (fun _ => ?_)) | (refine And.intro (fun h => Go.Ai.tf h) (fun _ => ?_)))
                    refine cF f2 ?_
                    refine Or.inl (And.intro (inK_i64 (by first | omega | (simp only <;> omega) | (simp only [Array.size_setIfInBounds, Go.Ai.swp_size] <;> omega))) ?_)
                    exact ⟨i + 1, by omega, weak_ren (L := [0, 1]) ⟨⟨_, rfl, rfl⟩, ⟨_, rfl, rfl⟩, ⟨_, rfl, rfl⟩, ⟨_, rfl, rfl⟩, ⟨_, rfl, rfl⟩, ⟨_, rfl, rfl⟩, ⟨_, rfl, by rw [hsu]; rfl⟩, ⟨_, rfl, rfl⟩, trivial⟩ ⟨trivial, ⟨brO _ _ d _ _ _ rfl, Nat.zero_le _, fun h => (nomatch h)⟩, trivial⟩ rfl (by decide) rfl rfl (Nat.zero_le _), by omega⟩
                · have h7 := of_decide_eq_false h7
                  have hin : inP p x = false := by unfold inP; rw [decide_eq_false h7, Bool.and_false]
                  rw [hin, Bool.and_false, Bool.or_false] at hsu
                  refine Or.inl (And.intro (inK_i64 (by first | omega | (simp only <;> omega) | (simp only [Array.size_setIfInBounds, Go.Ai.swp_size] <;> omega))) ?_)
                  exact ⟨i + 1, by omega, weak_ren (L := [0, 1]) ⟨⟨_, rfl, rfl⟩, ⟨_, rfl, rfl⟩, ⟨_, rfl, rfl⟩, ⟨_, rfl, rfl⟩, ⟨_, rfl, rfl⟩, ⟨_, rfl, rfl⟩, ⟨_, rfl, by rw [hsu]; rfl⟩, ⟨_, rfl, rfl⟩, trivial⟩ ⟨trivial, ⟨brO _ _ d _ _ _ rfl, Nat.zero_le _, fun h => (nomatch h)⟩, trivial⟩ rfl (by decide) rfl rfl (Nat.zero_le _), by omega⟩
              · have h6 := of_decide_eq_false h6
                have hin : inP p x = false := by unfold inP; rw [decide_eq_false h6, Bool.false_and]
                rw [hin, Bool.and_false, Bool.or_false] at hsu
                repeat (first | (refine And.intro (fun _ => ?_) (fun h => Go.Ai.tf h)) | (refine And.intro (fun _ => ?_) (fun h => Go.Ai.ft h)) | (refine And.intro (fun h => Go.Ai.ft h) (fun _ => ?_)) | (refine And.intro (fun h => Go.Ai.tf h) (fun _ => ?_)))
                refine Or.inl (And.intro (inK_i64 (by first | omega | (simp only <;> omega) | (simp only [Array.size_setIfInBounds, Go.Ai.swp_size] <;> omega))) ?_)
                exact ⟨i + 1, by omega, weak_ren (L := [0, 1]) ⟨⟨_, rfl, rfl⟩, ⟨_, rfl, rfl⟩, ⟨_, rfl, rfl⟩, ⟨_, rfl, rfl⟩, ⟨_, rfl, rfl⟩, ⟨_, rfl, rfl⟩, ⟨_, rfl, by rw [hsu]; rfl⟩, ⟨_, rfl, rfl⟩, trivial⟩ ⟨trivial, ⟨brO _ _ d _ _ _ rfl, Nat.zero_le _, fun h => (nomatch h)⟩, trivial⟩ rfl (by decide) rfl rfl (Nat.zero_le _), by omega⟩
            · have h5 : placeS l p = false := h5
              rw [h5, Bool.false_and, Bool.or_false] at hsu
              repeat (first | (refine And.intro (fun _ => ?_) (fun h => Go.Ai.tf h)) | (refine And.intro (fun _ => ?_) (fun h => Go.Ai.ft h)) | (refine And.intro (fun h => Go.Ai.ft h) (fun _ => ?_)) | (refine And.intro (fun h => Go.Ai.tf h) (fun _ => ?_)))
              refine Or.inl (And.intro (inK_i64 (by first | omega | (simp only <;> omega) | (simp only [Array.size_setIfInBounds, Go.Ai.swp_size] <;> omega))) ?_)
              exact ⟨i + 1, by omega, weak_ren (L := [0, 1]) ⟨⟨_, rfl, rfl⟩, ⟨_, rfl, rfl⟩, ⟨_, rfl, rfl⟩, ⟨_, rfl, rfl⟩, ⟨_, rfl, rfl⟩, ⟨_, rfl, rfl⟩, ⟨_, rfl, by rw [hsu]; rfl⟩, ⟨_, rfl, rfl⟩, trivial⟩ ⟨trivial, ⟨brO _ _ d _ _ _ rfl, Nat.zero_le _, fun h => (nomatch h)⟩, trivial⟩ rfl (by decide) rfl rfl (Nat.zero_le _), by omega⟩
        · have h2 := of_decide_eq_false h2
          have hid : i = d.size := by omega
          subst hid
          have hany : anyS l p d d.size = rOk r := by
            rw [hrP]
            unfold anyS
            rw [List.take_of_length_le (by simp)]
          rw [hany]
          cases rOk r with
          | false =>
            repeat (first | (refine And.intro (fun _ => ?_) (fun h => Go.Ai.tf h)) | (refine And.intro (fun _ => ?_) (fun h => Go.Ai.ft h)) | (refine And.intro (fun h => Go.Ai.ft h) (fun _ => ?_)) | (refine And.intro (fun h => Go.Ai.tf h) (fun _ => ?_)))
            refine CallW.of (lives_ok _) ?_
            repeat (first | (refine And.intro (fun _ => ?_) (fun h => Go.Ai.tf h)) | (refine And.intro (fun _ => ?_) (fun h => Go.Ai.ft h)) | (refine And.intro (fun h => Go.Ai.ft h) (fun _ => ?_)) | (refine And.intro (fun h => Go.Ai.tf h) (fun _ => ?_)))
            rfl
          | true =>
            repeat (first | (refine And.intro (fun _ => ?_) (fun h => Go.Ai.tf h)) | (refine And.intro (fun _ => ?_) (fun h => Go.Ai.ft h)) | (refine And.intro (fun h => Go.Ai.ft h) (fun _ => ?_)) | (refine And.intro (fun h => Go.Ai.tf h) (fun _ => ?_)))
            refine CallW.of (lives_ok _) ?_
            repeat (first | (refine And.intro (fun _ => ?_) (fun h => Go.Ai.tf h)) | (refine And.intro (fun _ => ?_) (fun h => Go.Ai.ft h)) | (refine And.intro (fun h => Go.Ai.ft h) (fun _ => ?_)) | (refine And.intro (fun h => Go.Ai.tf h) (fun _ => ?_)))
            rfl
  · repeat (first | (refine And.intro (fun _ => ?_) (fun h => Go.Ai.tf h)) | (refine And.intro (fun _ => ?_) (fun h => Go.Ai.ft h)) | (refine And.intro (fun h => Go.Ai.ft h) (fun _ => ?_)) | (refine And.intro (fun h => Go.Ai.tf h) (fun _ => ?_)))
    refine CallW.of (lives_ok _) ?_
    rfl
end Go.Proofs.Ytbaoelfpmdmhjaa
