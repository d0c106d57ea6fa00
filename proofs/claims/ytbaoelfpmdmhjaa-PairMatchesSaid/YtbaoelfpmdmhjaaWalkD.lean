/- Contracts of All and Match, and the plain law of PairBack. Conditions: as each theorem says. -/
import Derived.Test.YtbaoelfpmdmhjaaWalkC
import Derived.Test.YtbaoelfpmdmhjaaEngineD
set_option maxRecDepth 100000
set_option maxHeartbeats 2000000
namespace Go.Proofs.Ytbaoelfpmdmhjaa
open Go.Ai
/-! ### pair.All: the loop -/
def opB (i : Nat) : UInt8 := [40, 91, 123, 60].getD i 0
def clB (i : Nat) : UInt8 := [41, 93, 125, 62].getD i 0
def mkP (a b : Nat) : PP := if h : a < 4611686018427387904 then ⟨a, b, h⟩ else default
theorem mkP_enc {a : Nat} (b : Nat) (h : a < 4611686018427387904) : encP (mkP a b) = [I a, I b] := by unfold mkP; rw [dif_pos h]; rfl
def slS : Option (List Nat) → Value
  | none => .slice none 0 0
  | some S => .slice (some ⟨1, 0, none⟩) S.length 2
def blS : Option (List Nat) → Option Blk
  | none => none
  | some S => some (.cells (S.map I) 3 0 0)
def slO (k : Nat) : Option (Array PP) → Value
  | none => .slice none 0 0
  | some O => .slice (some ⟨k, 0, none⟩) O.size 4
def blO : Option (Array PP) → Option Blk
  | none => none
  | some O => some (.cells (flatA O) 34 0 0)
noncomputable def hA (S : Option (List Nat)) (O : Option (Array PP)) : H :=
  ⟨tree8 (some (.cells [slS S] 38 0 0)) (blS S) (blO O) none none none none none, 3, 0⟩
def stepS (o c b : UInt8) (p : Nat) (st : Option (List Nat) × Option (Array PP)) : Option (List Nat) × Option (Array PP) :=
  if b = o then (some (st.1.getD [] ++ [p]), st.2) else if b = c then (match (st.1.getD []).getLast? with
    | none => st
    | some a => (some (st.1.getD []).dropLast, some ((st.2.getD #[]).push (mkP a p)))) else st
def runS (o c : UInt8) (l : List UInt8) : Nat → Option (List Nat) × Option (Array PP)
  | 0 => (none, none)
  | p + 1 => stepS o c (l.getD p 0) p (runS o c l p)
/-- what holds at each round's head -/
def InvS (p : Nat) (st : Option (List Nat) × Option (Array PP)) : Prop := 2 * (st.2.getD #[]).size + (st.1.getD []).length ≤ p ∧ ∀ x ∈ st.1.getD [], x < p
theorem runS_inv (o c : UInt8) (l : List UInt8) : ∀ p, InvS p (runS o c l p)
  | 0 => ⟨Nat.le_refl _, fun x h => by simp [runS] at h⟩
  | p + 1 => by
    obtain ⟨h1, h2⟩ := runS_inv o c l p
    have e : runS o c l (p + 1) = stepS o c (l.getD p 0) p (runS o c l p) := rfl
    rw [e]
    revert h1 h2
    generalize runS o c l p = st
    obtain ⟨S, O⟩ := st
    intro h1 h2
    simp only at h1 h2
    unfold stepS
    split
    · refine ⟨by simp only [Option.getD_some, List.length_append, List.length_singleton]; omega, fun x hx => ?_⟩
      simp only [Option.getD_some, List.mem_append, List.mem_singleton] at hx
      rcases hx with hx | hx
      · have := h2 x hx; omega
      · omega
    · split
      · split
        · exact ⟨by simp only; omega, fun x hx => by have := h2 x hx; omega⟩
        · rename_i a ha
          have hne : S.getD [] ≠ [] := fun e => by rw [e] at ha; cases ha
          have hpos : 0 < (S.getD []).length := List.length_pos_iff.2 hne
          refine ⟨by simp only [Option.getD_some, Array.size_push, List.length_dropLast]; omega, fun x hx => ?_⟩
          simp only [Option.getD_some] at hx
          have := h2 x (List.dropLast_subset _ hx)
          omega
      · exact ⟨by simp only; omega, fun x hx => by have := h2 x hx; omega⟩
noncomputable def sA (l : List UInt8) (i p : Nat) (st : Option (List Nat) × Option (Array PP)) : St := ⟨tmOf 7 [(0, str l), (5, I i), (6, ptr 0), (7, slO 2 st.2), (26, I l.length), (27, I p)], [], none, hA st.1 st.2⟩
theorem oneC_flatA (d : Array PP) : (flatA d).all oneC = true := by
  rw [List.all_eq_true]; intro v hv
  unfold flatA flatL at hv
  rw [List.mem_flatMap] at hv
  obtain ⟨x, _, hx⟩ := hv
  simp [encP] at hx
  rcases hx with rfl | rfl <;> rfl
theorem flatI (S : List Nat) : ∀ v ∈ S.map I, flat 3 v = true := by
  intro v hv
  obtain ⟨x, _, rfl⟩ := List.mem_map.1 hv
  rfl
theorem brS (σ : Nat → Nat) (cc : Nat) (S : List Nat) (cs : List Value) (f f' : Nat) (rest : List Value) (h : cs = S.map I ++ rest) : BlkRn σ cc (.cells (S.map I) 3 f 0) (.cells cs 3 f' 0) := ⟨⟨rfl, rfl⟩, .inl ⟨⟨rest, h⟩, flatI S⟩⟩
theorem brO (σ : Nat → Nat) (cc : Nat) (O : Array PP) (cs : List Value) (f f' : Nat) (h : cs = flatA O) : BlkRn σ cc (.cells (flatA O) 34 f 0) (.cells cs 34 f' 0) := ⟨⟨rfl, rfl⟩, .inl ⟨⟨[], by rw [h]; simp⟩, flatA_flat O⟩⟩
theorem cutLast (T : List Nat) (a : Nat) : cut ((T ++ [a]).map I) T.length 1 = [I a] := by
  unfold cut
  rw [List.map_append, List.drop_append_of_le_length (by simp), List.drop_of_length_le (by simp)]
  rfl
theorem idx_cell {t : TypeId} {x i : Operand} {tm : T Value} {h : H} {ti ei : TI} {e : TypeId} {b n c : Nat} {k : IntKind} {m : Int} (j : Nat) (hx : ev C.ng tm x = some (.slice (some ⟨b, 0, none⟩) n c)) (hi : ev C.ng tm i = some (.int k m)) (hti : tinfo C t = some ti) (hd : ti.desc = .slice e) (hei : tinfo C e = some ei) (hs : ei.size = 1) (hm : m = j) (hj : j < n) :
    aOp (.indexAddr t x i) C tm h = some (.val (.pointer (some ⟨b, j, none⟩)) h) := by
  rw [idx_val j hx hi hti hd hei hm hj, hs]
  congr 4
  unfold Addr.add
  rw [Nat.mul_one]
  by_cases h0 : j = 0
  · subst h0; rfl
  · rw [if_neg h0]; simp
theorem pushO (O : Array PP) {a : Nat} (p : Nat) (ha : a < 4611686018427387904) : flatA O ++ [I a, I p] = flatA (O.push (mkP a p)) := by
  unfold flatA flatL
  rw [Array.toList_push, List.flatMap_append]
  simp [mkP_enc p ha]
theorem cutO (O : Array PP) {a : Nat} (p : Nat) (ha : a < 4611686018427387904) : cut (flatA O) 0 (O.size * 2) ++ [I a, I p] = flatA (O.push (mkP a p)) := by
  rw [← pushO O p ha]
  unfold cut
  rw [List.drop_zero, List.take_of_length_le (by rw [flatA_len]; exact Nat.le_refl _)]
theorem cutS (S : List Nat) (p : Nat) : cut (S.map I) 0 (S.length * 1) ++ [I p] = (S ++ [p]).map I ++ [] := by
  rw [Nat.mul_one, List.append_nil, List.map_append]
  unfold cut
  rw [List.drop_zero, List.take_of_length_le (by simp)]
  rfl
noncomputable def hB (T : List Nat) (a : Nat) (O : Option (Array PP)) : H :=
  ⟨tree8 (some (.cells [.slice (some ⟨1, 0, none⟩) T.length 2] 38 0 0)) (some (.cells ((T ++ [a]).map I) 3 0 0)) (blO O) none none none none none, 3, 0⟩
theorem hp_ofB {h : H} {T : List Nat} {a : Nat} {O : Option (Array PP)} (h1 : h.bl = tree8 (some (.cells [.slice (some ⟨1, 0, none⟩) T.length 2] 38 0 0)) (some (.cells ((T ++ [a]).map I) 3 0 0)) (blO O) none none none none none) (h2 : h.ctr = 3) (h3 : h.low = 0) : h = hB T a O := by cases h; simp only at h1 h2 h3; subst h1; subst h2; subst h3; rfl
theorem pop_ok (T : List Nat) (a : Nat) (O : Option (Array PP)) (hT : T.length < 1000) : CallOk Try.prog C 19 [ptr 0] (hA (some (T ++ [a])) O) (.ret (.tuple #[I a, .bool true]) (hB T a O)) := by
  have hlen : (T ++ [a]).length = T.length + 1 := by simp
  refine fn_wp CF rfl (n := 39) (res := [.tmp 2, .tmp 3]) (c := codeOf Try.f19) rfl ?_
  refine And.intro (fun h3 => ?_) (fun h3 => ?_)
  · have h3 := of_decide_eq_true h3
    simp at h3
    omega
  · refine Or.inl (And.intro (inK_i64 (by rw [hlen]; omega)) ?_)
    refine nxW_of (idx_cell T.length rfl rfl rfl rfl rfl rfl (by rw [hlen]; omega) (by rw [hlen]; omega)) ?_
    refine nxW_of (load_val (v := I a) rfl rfl rfl (by rw [List.length_map, hlen]; exact Nat.le_refl _) (by exact congrArg (ofCells _) (cutLast T a))) ?_
    refine Or.inl (And.intro (inK_i64 (by rw [hlen]; omega)) ?_)
    apply rV_of (g := fun _ => False)
    · exact slice_val 0 T.length rfl rfl rfl rfl rfl (.inr ⟨rfl, rfl⟩) (.inl ⟨.i64, by rw [hlen]; exact iv (by omega)⟩) (Nat.zero_le _) (by rw [hlen]; omega)
    refine And.intro ?_ ?_
    · exact rfl
    · exact hp_ofB rfl rfl rfl
/-- one round -/
theorem all_round (l : List UInt8) (i p : Nat) (hi : i < 4) (hp : p < l.length) (hl : l.length ≤ 500) (S : Option (List Nat)) (O : Option (Array PP)) (hI : InvS p (S, O)) {Q : Ex → St → Prop}
    (hq : ∀ s, Weak C (h00 4) none (sA l i p (stepS (opB i) (clB i) (l.getD p 0) p (S, O))) s → Q .normal s) :
    TB Try.prog C (h00 4) none (match loopBd (codeOf Try.f9) with | .seq _ (.seq _ (.seq (.block _ c) _)) => c | _ => .skip) (sA l i p (S, O)) Q := by
  have hbo : ((l.getD p 0).toNat : Int) = ((opB i).toNat : Int) → l.getD p 0 = opB i := fun h => UInt8.toNat_inj.1 (by omega)
  have hbc : ((l.getD p 0).toNat : Int) = ((clB i).toNat : Int) → l.getD p 0 = clB i := fun h => UInt8.toNat_inj.1 (by omega)
  obtain ⟨hI1, hI2⟩ := hI
  simp only at hI1 hI2
  refine tb_wp CF.tt rfl ?_
  refine And.intro (show (0 : Int) ≤ p ∧ (p : Int) < (l.length : Nat) by omega) ?_
  refine And.intro (show (0 : Int) ≤ i ∧ (i : Int) < 4 by omega) ?_
  refine And.intro (fun h1 => ?_) (fun h1 => ?_)
  · have h1 := hbo (of_decide_eq_true h1)
    refine CallW.inline CF rfl (n := 14) (res := []) (c := (codeOf Try.f18)) rfl ?_
    cases S with
    | none =>
      have hst : stepS (opB i) (clB i) (l.getD p 0) p (none, O) = (some [p], O) := by unfold stepS; rw [if_pos h1]; rfl
      rw [hst] at hq
      refine hq _ ?_
      cases O with
      | none => exact weak_ren (L := [0, 4, 9]) ⟨⟨_, rfl, rfl⟩, ⟨_, rfl, rfl⟩, ⟨_, rfl, rfl⟩, ⟨_, rfl, rfl⟩, ⟨_, rfl, rfl⟩, ⟨_, rfl, rfl⟩, trivial⟩ ⟨⟨⟨⟨rfl, rfl⟩, .inr rfl⟩, Nat.zero_le _, fun _ => rfl⟩, ⟨brS _ _ [p] _ _ _ [] rfl, Nat.zero_le _, fun h => (nomatch h)⟩, trivial, trivial⟩ rfl (by decide) rfl rfl (Nat.zero_le _)
      | some O => exact weak_ren (L := [0, 4, 2]) ⟨⟨_, rfl, rfl⟩, ⟨_, rfl, rfl⟩, ⟨_, rfl, rfl⟩, ⟨_, rfl, rfl⟩, ⟨_, rfl, rfl⟩, ⟨_, rfl, rfl⟩, trivial⟩ ⟨⟨⟨⟨rfl, rfl⟩, .inr rfl⟩, Nat.zero_le _, fun _ => rfl⟩, ⟨brS _ _ [p] _ _ _ [] rfl, Nat.zero_le _, fun h => (nomatch h)⟩, ⟨brO _ _ O _ _ _ rfl, Nat.zero_le _, fun h => (nomatch h)⟩, trivial⟩ rfl (by decide) rfl rfl (Nat.zero_le _)
    | some S =>
      have hst : stepS (opB i) (clB i) (l.getD p 0) p (some S, O) = (some (S ++ [p]), O) := by unfold stepS; rw [if_pos h1]; rfl
      have es : slS (some (S ++ [p])) = .slice (some ⟨1, 0, none⟩) (S.length + 1) 2 := by simp [slS]
      rw [hst] at hq
      simp only [Option.getD_some] at hI1
      refine nxW_of (app_val rfl rfl rfl (aAppend_cells (n := 1) (new := [I p]) (cs := S.map I) (fam := 0) (fz := 0) rfl rfl rfl rfl rfl rfl rfl (by decide) rfl (by show (S.length + 1) * 9 ≤ _; omega) rfl rfl rfl (by rw [List.length_map]; exact Nat.le_of_eq (show 0 + S.length * 1 = S.length by omega)) (fzle_zero _))) ?_
      refine hq _ ?_
      cases O with
      | none => exact weak_ren (L := [0, 4, 9]) ⟨⟨_, rfl, rfl⟩, ⟨_, rfl, rfl⟩, ⟨_, rfl, rfl⟩, ⟨_, rfl, rfl⟩, ⟨_, rfl, rfl⟩, ⟨_, rfl, rfl⟩, trivial⟩ ⟨⟨⟨⟨rfl, rfl⟩, .inr (by rw [es]; rfl)⟩, Nat.zero_le _, fun _ => rfl⟩, ⟨brS _ _ (S ++ [p]) _ _ _ [] (cutS S p), Nat.zero_le _, fun h => (nomatch h)⟩, trivial, trivial⟩ rfl (by decide) rfl rfl (Nat.zero_le _)
      | some O => exact weak_ren (L := [0, 4, 2]) ⟨⟨_, rfl, rfl⟩, ⟨_, rfl, rfl⟩, ⟨_, rfl, rfl⟩, ⟨_, rfl, rfl⟩, ⟨_, rfl, rfl⟩, ⟨_, rfl, rfl⟩, trivial⟩ ⟨⟨⟨⟨rfl, rfl⟩, .inr (by rw [es]; rfl)⟩, Nat.zero_le _, fun _ => rfl⟩, ⟨brS _ _ (S ++ [p]) _ _ _ [] (cutS S p), Nat.zero_le _, fun h => (nomatch h)⟩, ⟨brO _ _ O _ _ _ rfl, Nat.zero_le _, fun h => (nomatch h)⟩, trivial⟩ rfl (by decide) rfl rfl (Nat.zero_le _)
  · have h1 := of_decide_eq_false h1
    have h1 : ¬ l.getD p 0 = opB i := fun e => h1 (by show ((l.getD p 0).toNat : Int) = ((opB i).toNat : Int); rw [e])
    refine And.intro (show (0 : Int) ≤ i ∧ (i : Int) < 4 by omega) ?_
    refine And.intro (fun h2 => ?_) (fun h2 => ?_)
    · have h2 := hbc (of_decide_eq_true h2)
      cases S with
      | none =>
        have hst : stepS (opB i) (clB i) (l.getD p 0) p (none, O) = (none, O) := by unfold stepS; rw [if_neg h1, if_pos h2]; rfl
        rw [hst] at hq
        refine CallW.inline CF rfl (n := 39) (res := [.tmp 2, .tmp 3]) (c := (codeOf Try.f19)) rfl ?_
        repeat (first | (refine And.intro (fun _ => ?_) (fun h => Go.Ai.tf h)) | (refine And.intro (fun _ => ?_) (fun h => Go.Ai.ft h)) | (refine And.intro (fun h => Go.Ai.ft h) (fun _ => ?_)) | (refine And.intro (fun h => Go.Ai.tf h) (fun _ => ?_)))
        exact hq _ (weak_live ⟨rfl, rfl, rfl, rfl, rfl, rfl, trivial⟩ rfl rfl rfl)
      | some S =>
        rcases List.eq_nil_or_concat S with rfl | ⟨T, a, rfl⟩
        · have hst : stepS (opB i) (clB i) (l.getD p 0) p (some [], O) = (some [], O) := by unfold stepS; rw [if_neg h1, if_pos h2]; rfl
          rw [hst] at hq
          refine CallW.inline CF rfl (n := 39) (res := [.tmp 2, .tmp 3]) (c := (codeOf Try.f19)) rfl ?_
          repeat (first | (refine And.intro (fun _ => ?_) (fun h => Go.Ai.tf h)) | (refine And.intro (fun _ => ?_) (fun h => Go.Ai.ft h)) | (refine And.intro (fun h => Go.Ai.ft h) (fun _ => ?_)) | (refine And.intro (fun h => Go.Ai.tf h) (fun _ => ?_)))
          exact hq _ (weak_live ⟨rfl, rfl, rfl, rfl, rfl, rfl, trivial⟩ rfl rfl rfl)
        · have hst : stepS (opB i) (clB i) (l.getD p 0) p (some (T ++ [a]), O) = (some T, some ((O.getD #[]).push (mkP a p))) := by
            unfold stepS
            rw [if_neg h1, if_pos h2]
            simp
          rw [List.concat_eq_append] at *
          rw [hst] at hq
          simp only [Option.getD_some, List.length_append, List.length_singleton] at hI1
          have ha : a < p := hI2 a (by simp)
          have ha' : a < 4611686018427387904 := by omega
          refine CallW.of (pop_ok T a O (by omega)) ?_
          repeat (first | (refine And.intro (fun _ => ?_) (fun h => Go.Ai.tf h)) | (refine And.intro (fun _ => ?_) (fun h => Go.Ai.ft h)) | (refine And.intro (fun h => Go.Ai.ft h) (fun _ => ?_)) | (refine And.intro (fun h => Go.Ai.tf h) (fun _ => ?_)))
          cases O with
          | none =>
            refine hq _ ?_
            exact weak_ren (L := [0, 1, 4]) ⟨⟨_, rfl, rfl⟩, ⟨_, rfl, rfl⟩, ⟨_, rfl, rfl⟩, ⟨_, rfl, rfl⟩, ⟨_, rfl, rfl⟩, ⟨_, rfl, rfl⟩, trivial⟩ ⟨⟨⟨⟨rfl, rfl⟩, .inr rfl⟩, Nat.zero_le _, fun _ => rfl⟩, ⟨brS _ _ T _ _ _ [I a] (by simp), Nat.zero_le _, fun h => (nomatch h)⟩, ⟨brO _ _ _ _ _ _ (pushO #[] p ha'), Nat.zero_le _, fun h => (nomatch h)⟩, trivial⟩ rfl (by decide) rfl rfl (Nat.zero_le _)
          | some O =>
            have es : slO 2 (some (O.push (mkP a p))) = .slice (some ⟨2, 0, none⟩) (O.size + 1) 4 := by simp [slO]
            simp only [Option.getD_some] at hI1 hq
            refine nxW_of (app_val rfl rfl rfl (aAppend_cells (n := 1) (new := [I a, I p]) (cs := flatA O) (fam := 0) (fz := 0) rfl rfl rfl rfl rfl rfl rfl (by decide) rfl (by show (O.size + 1) * 17 ≤ _; omega) rfl rfl rfl (by rw [flatA_len]; exact Nat.le_of_eq (show 0 + O.size * 2 = O.size * 2 by omega)) (fzle_zero _))) ?_
            refine hq _ ?_
            exact weak_ren (L := [0, 1, 4]) ⟨⟨_, rfl, rfl⟩, ⟨_, rfl, rfl⟩, ⟨_, rfl, rfl⟩, ⟨_, rfl, by rw [es]; rfl⟩, ⟨_, rfl, rfl⟩, ⟨_, rfl, rfl⟩, trivial⟩ ⟨⟨⟨⟨rfl, rfl⟩, .inr rfl⟩, Nat.zero_le _, fun _ => rfl⟩, ⟨brS _ _ T _ _ _ [I a] (by simp), Nat.zero_le _, fun h => (nomatch h)⟩, ⟨brO _ _ _ _ _ _ (cutO O p ha'), Nat.zero_le _, fun h => (nomatch h)⟩, trivial⟩ rfl (by decide) rfl rfl (Nat.zero_le _)
    · have h2 := of_decide_eq_false h2
      have h2 : ¬ l.getD p 0 = clB i := fun e => h2 (by show ((l.getD p 0).toNat : Int) = ((clB i).toNat : Int); rw [e])
      have hst : stepS (opB i) (clB i) (l.getD p 0) p (S, O) = (S, O) := by unfold stepS; rw [if_neg h1, if_neg h2]
      rw [hst] at hq
      exact hq _ (weak_live ⟨rfl, rfl, rfl, rfl, rfl, rfl, trivial⟩ rfl rfl rfl)
end Go.Proofs.Ytbaoelfpmdmhjaa
set_option maxRecDepth 100000
set_option maxHeartbeats 2000000
namespace Go.Proofs.Ytbaoelfpmdmhjaa
open Go.Ai
open Go.Sort (PermIn SortedIn)
/-! ### pair.All -/
theorem sort_nil (h : H) : CallOk Try.prog C 20 [.slice none 0 0, cmpF] h (.ret (.tuple #[]) ⟨h.bl, h.ctr, 0⟩) := by
  have hx : ∃ h', go C 500 (.call 20 [.slice none 0 0, cmpF] (h00 4)) = some (.ret (.tuple #[]) h') := by
    have hb : (match go C 500 (.call 20 [.slice none 0 0, cmpF] (h00 4)) with | some (.ret (.tuple ⟨[]⟩) _) => true | _ => false) = true := by kernel_rfl
    revert hb
    generalize go C 500 (.call 20 [.slice none 0 0, cmpF] (h00 4)) = r
    intro hb
    split at hb
    · exact ⟨_, rfl⟩
    · cases hb
  obtain ⟨⟨t', c', l'⟩, hgo⟩ := hx
  have hc := sound CF (Nat.zero_le _) 500 _ _ hgo
  exact call_frame rfl (L := []) (t := T.mk 4) (low := bigLow) hc rfl rfl trivial rfl List.nodup_nil rfl rfl (fun _ _ => rfl) (fun j _ hj _ => absurd hj (Nat.not_lt_zero _))
/-- what All lists: none, or a sorted permutation of what the stack gives -/
def AllD (o c : UInt8) (l : List UInt8) (D : Option (Array PP)) : Prop := match (runS o c l l.length).2 with
  | none => D = none
  | some A => ∃ d, D = some d ∧ PermIn 0 A.size A d ∧ SortedIn ltP 0 A.size d
theorem idx_kind (i : Nat) (hi : i < 4) : Go.Lib.indexByte [40, 91, 123, 60] (opB i) = (i : Nat) := by
  rcases (by omega : i = 0 ∨ i = 1 ∨ i = 2 ∨ i = 3) with rfl | rfl | rfl | rfl <;> rfl
theorem pairAll_at (l : List UInt8) (i : Nat) (hi : i < 4) (hl : l.length ≤ 500) (hv : validS l = true) :
    ∃ D S, AllD (opB i) (clB i) l D ∧ CallOk Try.prog C 9 [str l, str [opB i]] (h00 4) (.ret (slO 2 D) (hA S D)) := by
  obtain ⟨D, hD, hsort⟩ : ∃ D, AllD (opB i) (clB i) l D ∧ ∀ S, CallOk Try.prog C 20 [slO 2 (runS (opB i) (clB i) l l.length).2, cmpF] (hA S (runS (opB i) (clB i) l l.length).2) (.ret (.tuple #[]) (hA S D)) := by
    have hI := runS_inv (opB i) (clB i) l l.length
    revert hI
    unfold AllD
    generalize runS (opB i) (clB i) l l.length = st
    obtain ⟨S0, O⟩ := st
    intro hI
    cases O with
    | none => exact ⟨none, rfl, fun S => sort_nil _⟩
    | some A =>
      have h1 := hI.1
      simp only [Option.getD_some] at h1
      obtain ⟨d, p1, p2, p3⟩ := sort_ok A (by omega)
      exact ⟨some d, ⟨d, rfl, p1, p2⟩, fun S => frame1 rfl p3 rfl (flatA_flat A) (flatA_flat d) (h := hA S (some A)) (B := 2) (fam := 0) rfl rfl⟩
  have hsz : slO 2 (runS (opB i) (clB i) l l.length).2 = slO 2 D := by
    revert hD
    unfold AllD
    generalize (runS (opB i) (clB i) l l.length).2 = O
    cases O with
    | none => rintro rfl; rfl
    | some A => rintro ⟨d, rfl, p1, _⟩; simp [slO, p1.1]
  refine ⟨D, (runS (opB i) (clB i) l l.length).1, hD, ?_⟩
  have hidx := index_one [40, 91, 123, 60] (opB i)
  rw [idx_kind i hi] at hidx
  refine fn_wp CF rfl (n := 58) (res := [.tmp 4]) (c := codeOf Try.f9) rfl ?_
  refine CallW.of (hidx _) ?_
  repeat (first | (refine And.intro (fun _ => ?_) (fun h => Go.Ai.tf h)) | (refine And.intro (fun _ => ?_) (fun h => Go.Ai.ft h)) | (refine And.intro (fun h => Go.Ai.ft h) (fun _ => ?_)) | (refine And.intro (fun h => Go.Ai.tf h) (fun _ => ?_)))
  refine CallW.of (valid_ok l (by omega) _) ?_
  rw [hv]
  repeat (first | (refine And.intro (fun _ => ?_) (fun h => Go.Ai.tf h)) | (refine And.intro (fun _ => ?_) (fun h => Go.Ai.ft h)) | (refine And.intro (fun h => Go.Ai.ft h) (fun _ => ?_)) | (refine And.intro (fun h => Go.Ai.tf h) (fun _ => ?_)))
  refine loopT (fun p => sA l i p (runS (opB i) (clB i) l p)) 0 (weak_ren (L := [0, 5, 6]) ⟨⟨_, rfl, rfl⟩, ⟨_, rfl, rfl⟩, ⟨_, rfl, rfl⟩, ⟨_, rfl, rfl⟩, ⟨_, rfl, rfl⟩, ⟨_, rfl, rfl⟩, trivial⟩ ⟨⟨⟨⟨rfl, rfl⟩, .inr rfl⟩, Nat.zero_le _, fun _ => rfl⟩, trivial, trivial, trivial⟩ rfl (by decide) rfl rfl (Nat.zero_le _))
    (fun p => l.length - p) (fun p => p ≤ l.length) (Nat.zero_le _) ?_
  intro p hp
  refine TB.seq (tb_wp CF.tt rfl ?_)
  refine TB.seq (tb_wp CF.tt rfl ?_)
  refine And.intro (fun h1 => ?_) (fun h1 => ?_)
  · have h1 := of_decide_eq_true h1
    refine TB.seq (TB.block ?_)
    refine TB.weak (s1 := sA l i p (runS (opB i) (clB i) l p)) (weak_live ⟨rfl, rfl, rfl, rfl, rfl, rfl, trivial⟩ rfl rfl rfl) ?_
    refine all_round l i p hi (by omega) hl _ _ (runS_inv _ _ _ p) ?_
    intro s hw
    refine TB.weak hw ?_
    refine tb_wp CF.tt rfl ?_
    refine Or.inl (And.intro (inK_i64 (by first | omega | (simp only <;> omega) | (simp only [Array.size_setIfInBounds, Go.Ai.swp_size] <;> omega))) ?_)
    exact ⟨p + 1, by omega, weak_live ⟨rfl, rfl, rfl, rfl, rfl, (iv (by first | omega | (simp only <;> omega) | (simp only [Array.size_setIfInBounds, Go.Ai.swp_size] <;> omega))), trivial⟩ rfl rfl rfl, by omega⟩
  · have h1 := of_decide_eq_false h1
    have hpl : p = l.length := by omega
    subst hpl
    refine CallW.of (hsort _) ?_
    refine And.intro ?_ ?_
    · exact hsz
    · rfl
end Go.Proofs.Ytbaoelfpmdmhjaa
set_option maxRecDepth 100000
set_option maxHeartbeats 2000000
namespace Go.Proofs.Ytbaoelfpmdmhjaa
open Go.Ai
open Go.Sort (PermIn SortedIn)
/-! ### pair.All, wherever it is called -/
def AllC (l : List UInt8) (i : Nat) : Option (Array PP) → Prop
  | none => ∀ h, CallOk Try.prog C 9 [str l, str [opB i]] h (.ret (.slice none 0 0) h)
  | some d => ∀ h, CallOk Try.prog C 9 [str l, str [opB i]] h (.ret (.slice (some ⟨nrmN (h.ctr + 1), 0, none⟩) d.size 4) (moreC h (flatA d) 34))
theorem all_bad (l : List UInt8) (i : Nat) (hi : i < 4) (hl : l.length ≤ 500) (hv : validS l = false) : ∀ h, CallOk Try.prog C 9 [str l, str [opB i]] h (.ret (.slice none 0 0) h) := by
  have hidx := index_one [40, 91, 123, 60] (opB i)
  rw [idx_kind i hi] at hidx
  refine pure_wp CF rfl 4 3 (n := 58) (res := [.tmp 4]) (c := codeOf Try.f9) rfl rfl rfl ?_
  refine CallW.of (hidx _) ?_
  repeat (first | (refine And.intro (fun _ => ?_) (fun h => Go.Ai.tf h)) | (refine And.intro (fun _ => ?_) (fun h => Go.Ai.ft h)) | (refine And.intro (fun h => Go.Ai.ft h) (fun _ => ?_)) | (refine And.intro (fun h => Go.Ai.tf h) (fun _ => ?_)))
  refine CallW.of (valid_ok l (by omega) _) ?_
  rw [hv]
  repeat (first | (refine And.intro (fun _ => ?_) (fun h => Go.Ai.tf h)) | (refine And.intro (fun _ => ?_) (fun h => Go.Ai.ft h)) | (refine And.intro (fun h => Go.Ai.ft h) (fun _ => ?_)) | (refine And.intro (fun h => Go.Ai.tf h) (fun _ => ?_)))
  rfl
theorem all_any (l : List UInt8) (i : Nat) (hi : i < 4) (hl : l.length ≤ 500) : ∃ D, (validS l = true → AllD (opB i) (clB i) l D) ∧ (validS l = false → D = none) ∧ AllC l i D := by
  cases hv : validS l with
  | false => exact ⟨none, fun h => (nomatch h), fun _ => rfl, all_bad l i hi hl hv⟩
  | true =>
    obtain ⟨D, S, h1, h2⟩ := pairAll_at l i hi hl hv
    refine ⟨D, fun _ => h1, fun h => (nomatch h), ?_⟩
    cases D with
    | none => exact pure_of rfl (k := 3) h2 rfl rfl
    | some d => exact alloc_of rfl (k := 3) (b := 2) (fam := 0) h2 rfl rfl (flatA_flat d)
end Go.Proofs.Ytbaoelfpmdmhjaa
set_option maxRecDepth 100000
set_option maxHeartbeats 2000000
namespace Go.Proofs.Ytbaoelfpmdmhjaa
open Go.Ai
open Go.Sort (PermIn SortedIn)
/-! ### pair.Match -/
noncomputable def AllF (l : List UInt8) (i : Nat) : Option (Array PP) := open Classical in if h : i < 4 ∧ l.length ≤ 500 then (all_any l i h.1 h.2).choose else none
theorem AllF_spec {l : List UInt8} {i : Nat} (hi : i < 4) (hl : l.length ≤ 500) : (validS l = true → AllD (opB i) (clB i) l (AllF l i)) ∧ (validS l = false → AllF l i = none) ∧ AllC l i (AllF l i) := by
  have h : i < 4 ∧ l.length ≤ 500 := ⟨hi, hl⟩
  unfold AllF
  rw [dif_pos h]
  exact (all_any l i h.1 h.2).choose_spec
theorem AllD_size {o c : UInt8} {l : List UInt8} {d : Array PP} (h : AllD o c l (some d)) : 2 * d.size ≤ l.length := by
  have hI := (runS_inv o c l l.length).1
  unfold AllD at h
  revert hI h
  generalize (runS o c l l.length).2 = O
  cases O with
  | none => intro h _; cases h
  | some A =>
    rintro ⟨d', e, p, _⟩ hI
    cases e
    simp only [Option.getD_some] at hI
    rw [p.1]
    omega
theorem AllF_size {l : List UInt8} {i : Nat} (hi : i < 4) (hl : l.length ≤ 500) {d : Array PP} (h : AllF l i = some d) : d.size ≤ 250 := by
  obtain ⟨h1, h2, _⟩ := AllF_spec hi hl
  cases hv : validS l with
  | false => rw [h2 hv] at h; cases h
  | true =>
    have := h1 hv
    rw [h] at this
    have := AllD_size this
    omega
def findL (q : Nat) : List PP → Option Nat
  | [] => none
  | x :: r => if q = x.a then some x.b else if q = x.b then some x.a else findL q r
theorem findL_cons (q : Nat) (x : PP) (r : List PP) : findL q (x :: r) = if q = x.a then some x.b else if q = x.b then some x.a else findL q r := rfl
def kindOf (b : UInt8) : Nat := if b = 40 ∨ b = 41 then 0 else if b = 91 ∨ b = 93 then 1 else 2
def lstO : Option (Array PP) → List PP
  | none => []
  | some d => d.toList
noncomputable def matchS (l : List UInt8) (p : Int) : Option Nat :=
  if placeS l p = false then none else
    match ((l.drop p.toNat).take (eol l p.toNat - p.toNat)).findIdx? isBr with
    | none => none
    | some n => findL (p.toNat + n) (lstO (AllF l (kindOf (l.getD (p.toNat + n) 0))))
def matchV : Option Nat → Value
  | none => .tuple #[I 0, .bool false]
  | some r => .tuple #[I r, .bool true]
theorem matchV_flat (r : Option Nat) : flat 3 (matchV r) = true := by cases r <;> rfl
theorem kind_tab : ((List.range 256).all fun n => !isBr (UInt8.ofNat n) || (decide (kindOf (UInt8.ofNat n) < 3) && decide ((max (Go.Lib.indexByte [40, 91, 123, 60] (UInt8.ofNat n)) (Go.Lib.indexByte [41, 93, 125, 62] (UInt8.ofNat n))) = (kindOf (UInt8.ofNat n) : Int)))) = true := by decide
theorem kind_ok (b : UInt8) (hb : isBr b = true) : kindOf b < 3 ∧ max (Go.Lib.indexByte [40, 91, 123, 60] b) (Go.Lib.indexByte [41, 93, 125, 62] b) = (kindOf b : Int) := by
  have := List.all_eq_true.1 kind_tab b.toNat (List.mem_range.2 b.toNat_lt)
  rw [UInt8.ofNat_toNat, hb] at this
  simpa using this
theorem match_ok (l : List UInt8) (p : Int) (hl : l.length ≤ 500) : ∀ h, CallOk Try.prog C 11 [str l, .int .i64 p] h (.ret (matchV (matchS l p)) h) := by
  refine pure_call CF rfl (d := 4) (k := 3) (n := 67) (res := [.tmp 4, .tmp 5]) (c := (codeOf Try.f11)) rfl rfl (matchV_flat _) ?_
  refine TB.seq (tb_wp CF.tt rfl ?_)
  refine TB.seq (tb_wp CF.tt rfl ?_)
  refine CallW.of (place_ok l p (by omega) _) ?_
  cases hp : placeS l p with
  | false =>
    repeat (first | (refine And.intro (fun _ => ?_) (fun h => Go.Ai.tf h)) | (refine And.intro (fun _ => ?_) (fun h => Go.Ai.ft h)) | (refine And.intro (fun h => Go.Ai.ft h) (fun _ => ?_)) | (refine And.intro (fun h => Go.Ai.tf h) (fun _ => ?_)))
    show _ = matchV (matchS l p)
    unfold matchS
    rw [if_pos hp]
    rfl
  | true =>
    have hpl := hp
    simp only [placeS, Bool.and_eq_true, decide_eq_true_eq] at hpl
    obtain ⟨hp0, hp1, _, hv⟩ := hpl
    obtain ⟨a, rfl⟩ : ∃ a : Nat, p = a := ⟨p.toNat, by omega⟩
    repeat (first | (refine And.intro (fun _ => ?_) (fun h => Go.Ai.tf h)) | (refine And.intro (fun _ => ?_) (fun h => Go.Ai.ft h)) | (refine And.intro (fun h => Go.Ai.ft h) (fun _ => ?_)) | (refine And.intro (fun h => Go.Ai.tf h) (fun _ => ?_)))
    refine TB.seq (tb_wp CF.tt rfl ?_)
    refine CallW.of (of_ok l a (by omega) hp0 hp1 hv _) ?_
    obtain ⟨he1, he2⟩ := eol_le l (p := a) (by omega)
    refine CallW.of (end_ok l a (by omega) (by omega) hv _) ?_
    refine TB.seq (tb_wp CF.tt rfl ?_)
    refine And.intro (show (0 : Int) ≤ a ∧ (a : Int) ≤ (eol l a : Nat) ∧ ((eol l a : Nat) : Int) ≤ (l.length : Nat) by omega) ?_
    refine And.intro (show (0 : Int) ≤ 0 ∧ (0 : Int) ≤ 3 ∧ (3 : Int) ≤ (4 : Nat) by omega) ?_
    refine And.intro (show (0 : Int) ≤ 0 ∧ (0 : Int) ≤ 3 ∧ (3 : Int) ≤ (4 : Nat) by omega) ?_
    refine And.intro (show 3 + 3 < 9223372036854775808 by omega) ?_
    obtain ⟨s, hs⟩ : ∃ s, (l.drop a).take (eol l a - a) = s := ⟨_, rfl⟩
    have hany := anyAt_ok ((l.drop a).take (eol l a - a)) (by simp; omega)
    have hm : matchS l a = match s.findIdx? isBr with
        | none => none
        | some n => findL (a + n) (lstO (AllF l (kindOf (l.getD (a + n) 0)))) := by
      unfold matchS
      rw [if_neg (by rw [hp]; simp), ← hs]
      rfl
    cases hf : s.findIdx? isBr with
    | none =>
      rw [hf] at hm
      simp only at hm
      rw [hm]
      have hb : brIdx ((l.drop a).take (eol l a - a)) = -1 := by rw [hs]; unfold brIdx; rw [hf]
      rw [hb] at hany
      refine CallW.of (hany _) ?_
      refine TB.seq (tb_wp CF.tt rfl ?_)
      repeat (first | (refine And.intro (fun _ => ?_) (fun h => Go.Ai.tf h)) | (refine And.intro (fun _ => ?_) (fun h => Go.Ai.ft h)) | (refine And.intro (fun h => Go.Ai.ft h) (fun _ => ?_)) | (refine And.intro (fun h => Go.Ai.tf h) (fun _ => ?_)))
      rfl
    | some n =>
      rw [hf] at hm
      simp only at hm
      rw [hm]
      have hb : brIdx ((l.drop a).take (eol l a - a)) = n := by rw [hs]; unfold brIdx; rw [hf]
      rw [hb] at hany
      refine CallW.of (hany _) ?_
      refine TB.seq (tb_wp CF.tt rfl ?_)
      obtain ⟨hn, hbr, _⟩ := List.findIdx?_eq_some_iff_getElem.1 hf
      have hsl : s.length = eol l a - a := by rw [← hs]; simp; omega
      have hq : a + n < l.length := by omega
      have hbq : isBr (l.getD (a + n) 0) = true := by
        rw [← hbr]
        congr 1
        subst hs
        rw [List.getElem_take, List.getElem_drop, List.getD_eq_getElem?_getD, List.getElem?_eq_getElem hq]
        rfl
      obtain ⟨hk3, hkm⟩ := kind_ok _ hbq
      repeat (first | (refine And.intro (fun _ => ?_) (fun h => Go.Ai.tf h)) | (refine And.intro (fun _ => ?_) (fun h => Go.Ai.ft h)) | (refine And.intro (fun h => Go.Ai.ft h) (fun _ => ?_)) | (refine And.intro (fun h => Go.Ai.tf h) (fun _ => ?_)))
      refine TB.seq (tb_wp CF.tt rfl ?_)
      refine Or.inl (And.intro (inK_i64 (by first | omega | (simp only <;> omega) | (simp only [Array.size_setIfInBounds, Go.Ai.swp_size] <;> omega))) ?_)
      refine cut_at (fun _ : Unit => ⟨tmOf 8 [(0, str l), (1, I (a + n)), (8, I (kindOf (l.getD (a + n) 0)))], [], none, h00 4⟩) (fun _ => True) (tb_wp CF.tt rfl ?_) ?_
      · refine And.intro (show (0 : Int) ≤ (a : Int) + n ∧ (a : Int) + n < (l.length : Nat) by omega) ?_
        refine CallW.of (stringsByte_ok _ _ _) ?_
        refine And.intro (show (0 : Int) ≤ (a : Int) + n ∧ (a : Int) + n < (l.length : Nat) by omega) ?_
        refine CallW.of (stringsByte_ok _ _ _) ?_
        refine ⟨(), trivial, weak_live ⟨rfl, (iv (by first | omega | (simp only <;> omega) | (simp only [Array.size_setIfInBounds, Go.Ai.swp_size] <;> omega))), iv ?_, trivial⟩ rfl rfl rfl⟩
        rw [← hkm, Int.max_def]
        show (if Go.Lib.indexByte [41, 93, 125, 62] (l.getD (a + n) 0) > Go.Lib.indexByte [40, 91, 123, 60] (l.getD (a + n) 0) then _ else _) = _
        by_cases hgt : Go.Lib.indexByte [41, 93, 125, 62] (l.getD (a + n) 0) > Go.Lib.indexByte [40, 91, 123, 60] (l.getD (a + n) 0)
        · rw [if_pos hgt, if_pos (by omega)]
          rfl
        · rw [if_neg hgt]
          by_cases hle : Go.Lib.indexByte [40, 91, 123, 60] (l.getD (a + n) 0) ≤ Go.Lib.indexByte [41, 93, 125, 62] (l.getD (a + n) 0)
          · rw [if_pos hle]
            show Go.Lib.indexByte [40, 91, 123, 60] (l.getD (a + n) 0) = _
            omega
          · rw [if_neg hle]
            rfl
      rintro ⟨⟩ -
      revert hk3
      generalize kindOf (l.getD (a + n) 0) = i
      intro hk3
      obtain ⟨-, -, hAC⟩ := AllF_spec (l := l) (i := i) (by omega) hl
      have hsz : ∀ d, AllF l i = some d → d.size ≤ 250 := fun d h => AllF_size (by omega) hl h
      revert hAC hsz
      generalize AllF l i = D
      intro hAC hsz
      cases D with
      | none =>
        have hA : ∀ h, CallOk Try.prog C 9 [str l, str (([40, 91, 123, 60].drop (i : Int).toNat).take ((((i : Int) + 1).toNat) - (i : Int).toNat))] h (.ret (.slice none 0 0) h) := by
          rcases (by omega : i = 0 ∨ i = 1 ∨ i = 2) with rfl | rfl | rfl <;> exact hAC
        refine tb_wp CF.tt rfl ?_
        refine Or.inl (And.intro (inK_i64 (by first | omega | (simp only <;> omega) | (simp only [Array.size_setIfInBounds, Go.Ai.swp_size] <;> omega))) ?_)
        refine And.intro (show (0 : Int) ≤ i ∧ (i : Int) ≤ (i : Int) + 1 ∧ (i : Int) + 1 ≤ 4 by omega) ?_
        refine CallW.of (hA _) ?_
        refine TB.ofLB (LB.nextW CF.tt rfl ?_)
        repeat (first | (refine And.intro (fun _ => ?_) (fun h => Go.Ai.tf h)) | (refine And.intro (fun _ => ?_) (fun h => Go.Ai.ft h)) | (refine And.intro (fun h => Go.Ai.ft h) (fun _ => ?_)) | (refine And.intro (fun h => Go.Ai.tf h) (fun _ => ?_)))
        rfl
      | some d =>
        have hsz := hsz d rfl
        have hA : ∀ h, CallOk Try.prog C 9 [str l, str (([40, 91, 123, 60].drop (i : Int).toNat).take ((((i : Int) + 1).toNat) - (i : Int).toNat))] h (.ret (.slice (some ⟨nrmN (h.ctr + 1), 0, none⟩) d.size 4) (moreC h (flatA d) 34)) := by
          rcases (by omega : i = 0 ∨ i = 1 ∨ i = 2) with rfl | rfl | rfl <;> exact hAC
        refine tb_wp CF.tt rfl ?_
        refine Or.inl (And.intro (inK_i64 (by first | omega | (simp only <;> omega) | (simp only [Array.size_setIfInBounds, Go.Ai.swp_size] <;> omega))) ?_)
        refine And.intro (show (0 : Int) ≤ i ∧ (i : Int) ≤ (i : Int) + 1 ∧ (i : Int) + 1 ≤ 4 by omega) ?_
        refine CallW.of (hA _) ?_
        refine loopV CF.tt rfl (fun j : Nat => ⟨tmOf 8 [(1, I (a + n)), (47, .slice (some ⟨1, 0, none⟩) d.size 4), (48, I d.size), (49, I j)], [], none, hOne (flatA d) 34 0⟩) 0
          (weak_ren (L := [0, 1]) ⟨⟨_, rfl, rfl⟩, ⟨_, rfl, rfl⟩, ⟨_, rfl, rfl⟩, ⟨_, rfl, rfl⟩, trivial⟩ ⟨trivial, ⟨brO _ _ d _ _ _ rfl, Nat.zero_le _, fun h => (nomatch h)⟩, trivial⟩ rfl (by decide) rfl rfl (Nat.zero_le _))
          (fun j => d.size - j) (fun j => j ≤ d.size ∧ findL (a + n) (d.toList.drop j) = findL (a + n) d.toList) ⟨Nat.zero_le _, rfl⟩ ?_
        rintro j ⟨hj, hfl⟩
        refine And.intro (fun h1 => ?_) (fun h1 => ?_)
        · have h1 := of_decide_eq_true h1
          have hjd : j < d.size := by omega
          have hdj : d.toList.drop j = d[j]! :: d.toList.drop (j + 1) := by
            rw [List.drop_eq_getElem_cons (by simpa using hjd), getElem!_pos d j hjd]
            simp
          rw [hdj] at hfl
          apply nxW_of
          · exact idx_pair (j) rfl rfl rfl rfl rfl rfl (by first | omega | (simp only <;> omega) | (simp only [Array.size_setIfInBounds, Go.Ai.swp_size] <;> omega)) (by first | omega | (simp only <;> omega) | (simp only [Array.size_setIfInBounds, Go.Ai.swp_size] <;> omega))
          apply nxW_of
          · exact load_pair (d) (j) rfl rfl rfl rfl rfl (by first | omega | (simp only <;> omega) | (simp only [Array.size_setIfInBounds, Go.Ai.swp_size] <;> omega))
          refine And.intro (fun h2 => ?_) (fun h2 => ?_)
          · have h2 := of_decide_eq_true h2
            have e1 : a + n = d[j]!.a := by omega
            rw [findL_cons] at hfl
            rw [if_pos e1] at hfl
            show _ = matchV (findL (a + n) d.toList)
            rw [← hfl]
            rfl
          · have h2 := of_decide_eq_false h2
            have e1 : ¬ a + n = d[j]!.a := by omega
            rw [findL_cons] at hfl
            rw [if_neg e1] at hfl
            refine And.intro (fun h3 => ?_) (fun h3 => ?_)
            · have h3 := of_decide_eq_true h3
              have e2 : a + n = d[j]!.b := by omega
              rw [if_pos e2] at hfl
              show _ = matchV (findL (a + n) d.toList)
              rw [← hfl]
              rfl
            · have h3 := of_decide_eq_false h3
              have e2 : ¬ a + n = d[j]!.b := by omega
              rw [if_neg e2] at hfl
              refine Or.inl (And.intro (inK_i64 (by first | omega | (simp only <;> omega) | (simp only [Array.size_setIfInBounds, Go.Ai.swp_size] <;> omega))) ?_)
              exact ⟨j + 1, ⟨by omega, hfl⟩, weak_ren (L := [0, 1]) ⟨⟨_, rfl, rfl⟩, ⟨_, rfl, rfl⟩, ⟨_, rfl, rfl⟩, ⟨_, rfl, rfl⟩, trivial⟩ ⟨trivial, ⟨brO _ _ d _ _ _ rfl, Nat.zero_le _, fun h => (nomatch h)⟩, trivial⟩ rfl (by decide) rfl rfl (Nat.zero_le _), by omega⟩
        · have h1 := of_decide_eq_false h1
          have hjd : j = d.size := by omega
          subst hjd
          have : d.toList.drop d.size = [] := by rw [List.drop_of_length_le (by simp)]
          rw [this] at hfl
          show _ = matchV (findL (a + n) d.toList)
          rw [← hfl]
          rfl
end Go.Proofs.Ytbaoelfpmdmhjaa
set_option maxRecDepth 100000
namespace Go.Proofs.Ytbaoelfpmdmhjaa
open Go.Ai
open Go.Sort (PermIn SortedIn)
/-! ### the stack's pairs -/
structure Jn (o c : UInt8) (l : List UInt8) (p : Nat) (S : List Nat) (O : List PP) : Prop where
  s : ∀ s ∈ S, s < p ∧ l.getD s 0 = o
  x : ∀ x ∈ O, x.a < x.b ∧ x.b < p ∧ l.getD x.a 0 = o ∧ l.getD x.b 0 = c
  na : (S ++ O.map PP.a).Nodup
  nb : (O.map PP.b).Nodup
  ap : ∀ s ∈ S, ∀ x ∈ O, s < x.a ∨ x.b < s
  so : S.Pairwise (· < ·)
  la : ∀ x ∈ O, ∀ y ∈ O, y.a < x.a → y.b < x.a ∨ x.b < y.b
theorem Jn.next {o c : UInt8} {l : List UInt8} {p : Nat} {S : List Nat} {O : List PP} (h : Jn o c l p S O) : Jn o c l (p + 1) S O :=
  ⟨fun s hs => ⟨by have := (h.s s hs).1; omega, (h.s s hs).2⟩, fun x hx => ⟨(h.x x hx).1, by have := (h.x x hx).2.1; omega, (h.x x hx).2.2⟩, h.na, h.nb, h.ap, h.so, h.la⟩
theorem Jn.push {o c : UInt8} {l : List UInt8} {p : Nat} {S : List Nat} {O : List PP} (h : Jn o c l p S O) (hp : l.getD p 0 = o) : Jn o c l (p + 1) (S ++ [p]) O := by
  refine ⟨fun s hs => ?_, h.next.x, ?_, h.nb, fun s hs x hx => ?_, ?_, h.la⟩
  · rcases List.mem_append.1 hs with hs | hs
    · exact h.next.s s hs
    · rw [List.mem_singleton.1 hs]; exact ⟨Nat.lt_succ_self _, hp⟩
  · have : (S ++ [p] ++ O.map PP.a).Perm (p :: (S ++ O.map PP.a)) := by
      rw [List.append_assoc]
      exact List.perm_middle
    rw [this.nodup_iff, List.nodup_cons]
    refine ⟨fun hm => ?_, h.na⟩
    rcases List.mem_append.1 hm with hm | hm
    · have := (h.s p hm).1; omega
    · obtain ⟨x, hx, e⟩ := List.mem_map.1 hm
      have := h.x x hx; omega
  · rcases List.mem_append.1 hs with hs | hs
    · exact h.ap s hs x hx
    · rw [List.mem_singleton.1 hs]; exact .inr (h.x x hx).2.1
  · rw [List.pairwise_append]
    exact ⟨h.so, List.pairwise_singleton _ _, fun s hs q hq => by rw [List.mem_singleton.1 hq]; exact (h.s s hs).1⟩
theorem mkP_a {a b : Nat} (h : a < 4611686018427387904) : (mkP a b).a = a := by unfold mkP; rw [dif_pos h]
theorem mkP_b {a b : Nat} (h : a < 4611686018427387904) : (mkP a b).b = b := by unfold mkP; rw [dif_pos h]
theorem Jn.pop {o c : UInt8} {l : List UInt8} {p a : Nat} {S : List Nat} {O : List PP} (h : Jn o c l p (S ++ [a]) O) (hp : l.getD p 0 = c) (hlt : p < 4611686018427387904) : Jn o c l (p + 1) S (O ++ [mkP a p]) := by
  have ha := h.s a (by simp)
  have e1 : (mkP a p).a = a := mkP_a (by omega)
  have e2 : (mkP a p).b = p := mkP_b (by omega)
  have hS : ∀ s ∈ S, s ∈ S ++ [a] := fun s hs => List.mem_append_left _ hs
  refine ⟨fun s hs => h.next.s s (hS s hs), fun x hx => ?_, ?_, ?_, fun s hs x hx => ?_, ?_, fun x hx y hy hlt => ?_⟩
  · rcases List.mem_append.1 hx with hx | hx
    · exact h.next.x x hx
    · rw [List.mem_singleton.1 hx, e1, e2]; exact ⟨ha.1, Nat.lt_succ_self _, ha.2, hp⟩
  · have : (S ++ (O ++ [mkP a p]).map PP.a).Perm (S ++ [a] ++ O.map PP.a) := by
      rw [List.map_append, List.map_singleton, e1, List.append_assoc]
      exact List.Perm.append_left S List.perm_append_comm
    rw [this.nodup_iff]; exact h.na
  · rw [List.map_append, List.map_singleton, e2]
    have : (O.map PP.b ++ [p]).Perm (p :: O.map PP.b) := List.perm_append_comm
    rw [this.nodup_iff, List.nodup_cons]
    refine ⟨fun hm => ?_, h.nb⟩
    obtain ⟨x, hx, e⟩ := List.mem_map.1 hm
    have := h.x x hx; omega
  · rcases List.mem_append.1 hx with hx | hx
    · exact h.ap s (hS s hs) x hx
    · rw [List.mem_singleton.1 hx, e1, e2]
      have hso := List.pairwise_append.1 h.so
      exact .inl (hso.2.2 s hs a (by simp))
  · exact (List.pairwise_append.1 h.so).1
  · rcases List.mem_append.1 hx with hx | hx
    · rcases List.mem_append.1 hy with hy | hy
      · exact h.la x hx y hy hlt
      · rw [List.mem_singleton.1 hy, e2]
        exact .inr (h.x x hx).2.1
    · rw [List.mem_singleton.1 hx, e1] at hlt
      rw [List.mem_singleton.1 hx, e1, e2]
      rcases List.mem_append.1 hy with hy | hy
      · rcases h.ap a (by simp) y hy with h1 | h1
        · omega
        · exact .inl h1
      · rw [List.mem_singleton.1 hy, e1] at hlt
        omega
theorem runS_jn (o c : UInt8) (hoc : o ≠ c) (l : List UInt8) : ∀ p, p < 4611686018427387904 → Jn o c l p ((runS o c l p).1.getD []) (lstO (runS o c l p).2)
  | 0, _ => ⟨fun s hs => by simp [runS] at hs, fun x hx => by simp [runS, lstO] at hx, by simp [runS, lstO], by simp [runS, lstO], fun s hs => by simp [runS] at hs, by simp [runS], fun x hx => by simp [runS, lstO] at hx⟩
  | p + 1, hp => by
    have ih := runS_jn o c hoc l p (by omega)
    have e : runS o c l (p + 1) = stepS o c (l.getD p 0) p (runS o c l p) := rfl
    rw [e]
    revert ih
    generalize runS o c l p = st
    obtain ⟨S, O⟩ := st
    intro ih
    simp only at ih
    unfold stepS
    split
    · rename_i h
      exact ih.push h
    · split
      · rename_i h1 h2
        split
        · exact ih.next
        · rename_i a ha
          simp only at ha
          obtain ⟨T, hT⟩ : ∃ T, S.getD [] = T ++ [a] := by
            rcases List.eq_nil_or_concat (S.getD []) with e | ⟨T, b, e⟩
            · rw [e] at ha; cases ha
            · rw [List.concat_eq_append] at e
              rw [e, List.getLast?_concat] at ha
              cases ha
              exact ⟨T, e⟩
          rw [hT] at ih
          have hd : (S.getD []).dropLast = T := by rw [hT]; simp
          simp only [Option.getD_some, hd]
          have hO : lstO (some ((O.getD #[]).push (mkP a p))) = lstO O ++ [mkP a p] := by
            cases O <;> simp [lstO]
          rw [hO]
          exact ih.pop h2 (by omega)
      · exact ih.next
/-- what All lists: pairs that belong together, each bracket once, ascending -/
structure Lst (o c : UInt8) (l : List UInt8) (L : List PP) : Prop where
  x : ∀ x ∈ L, x.a < x.b ∧ x.b < l.length ∧ l.getD x.a 0 = o ∧ l.getD x.b 0 = c
  na : (L.map PP.a).Nodup
  nb : (L.map PP.b).Nodup
  la : ∀ x ∈ L, ∀ y ∈ L, y.a < x.a → y.b < x.a ∨ x.b < y.b
  asc : L.Pairwise fun x y => x.a < y.a
  mem : ∀ x, x ∈ L ↔ x ∈ lstO (runS o c l l.length).2
theorem lst_of (o c : UInt8) (hoc : o ≠ c) (l : List UInt8) (hl : l.length ≤ 500) (D : Option (Array PP)) (h : AllD o c l D) : Lst o c l (lstO D) := by
  have J := runS_jn o c hoc l l.length (by omega)
  unfold AllD at h
  revert h J
  have key : ∀ O, (match O with | none => D = none | some A => ∃ d, D = some d ∧ PermIn 0 A.size A d ∧ SortedIn ltP 0 A.size d) → Jn o c l l.length ((runS o c l l.length).1.getD []) (lstO O) → 
      (∀ x ∈ lstO D, x.a < x.b ∧ x.b < l.length ∧ l.getD x.a 0 = o ∧ l.getD x.b 0 = c) ∧ ((lstO D).map PP.a).Nodup ∧ ((lstO D).map PP.b).Nodup ∧ (∀ x ∈ lstO D, ∀ y ∈ lstO D, y.a < x.a → y.b < x.a ∨ x.b < y.b) ∧ ((lstO D).Pairwise fun x y => x.a < y.a) ∧ (∀ x, x ∈ lstO D ↔ x ∈ lstO O) := by
    intro O h J
    cases O with
    | none =>
      simp only at h
      subst h
      exact ⟨J.x, by simp [lstO], by simp [lstO], J.la, by simp [lstO], fun x => Iff.rfl⟩
    | some A =>
      obtain ⟨d, rfl, p1, p2⟩ := h
      have hperm : d.toList.Perm A.toList := by
        have := p1.2.2
        have e1 : (d.extract 0 A.size) = d := by rw [← p1.1]; simp
        have e2 : (A.extract 0 A.size) = A := by simp
        rw [e1, e2] at this
        exact this
      have hmem : ∀ x, x ∈ d.toList ↔ x ∈ A.toList := fun x => hperm.mem_iff
      have hna : (d.toList.map PP.a).Nodup := by
        rw [(hperm.map PP.a).nodup_iff]
        exact (List.nodup_append.1 J.na).2.1
      refine ⟨fun x hx => J.x x ((hmem x).1 hx), hna, ?_, fun x hx y hy => J.la x ((hmem x).1 hx) y ((hmem y).1 hy), ?_, hmem⟩
      · rw [show lstO (some d) = d.toList from rfl, (hperm.map PP.b).nodup_iff]
        exact J.nb
      · show d.toList.Pairwise _
        rw [List.pairwise_iff_getElem]
        intro i j hi hj hij
        have hi' : i < d.size := by simpa using hi
        have hj' : j < d.size := by simpa using hj
        have h3 := p2 i j (Nat.zero_le _) hij (by rw [← p1.1]; exact hj')
        rw [getElem!_pos d i hi', getElem!_pos d j hj'] at h3
        simp only [ltP, decide_eq_false_iff_not] at h3
        have hne : d[i].a ≠ d[j].a := by
          intro e
          rw [List.nodup_iff_pairwise_ne, List.pairwise_iff_getElem] at hna
          have := hna i j (by simpa using hi) (by simpa using hj) hij
          simp at this
          exact this e
        show d.toList[i].a < d.toList[j].a
        simp only [Array.getElem_toList]
        omega
  intro h J
  obtain ⟨g1, g2, g3, g4, g5, g6⟩ := key _ h J
  exact ⟨g1, g2, g3, g4, g5, g6⟩
theorem inj_nodup {α : Type} (f : α → Nat) : ∀ (L : List α), (L.map f).Nodup → ∀ x ∈ L, ∀ y ∈ L, f x = f y → x = y
  | [], _, x, hx, _, _, _ => by cases hx
  | z :: L, h, x, hx, y, hy, e => by
    rw [List.map_cons, List.nodup_cons] at h
    rcases List.mem_cons.1 hx with rfl | hx1
    · rcases List.mem_cons.1 hy with rfl | hy1
      · rfl
      · exact absurd (e ▸ List.mem_map_of_mem hy1) h.1
    · rcases List.mem_cons.1 hy with rfl | hy1
      · exact absurd (e ▸ List.mem_map_of_mem hx1) h.1
      · exact inj_nodup f L h.2 x hx1 y hy1 e
theorem findL_some {q r : Nat} : ∀ {L : List PP}, findL q L = some r → ∃ x ∈ L, (q = x.a ∧ r = x.b) ∨ (q = x.b ∧ r = x.a)
  | [], h => by cases h
  | x :: L, h => by
    rw [findL_cons] at h
    split at h
    · cases h; exact ⟨x, by simp, .inl ⟨by assumption, rfl⟩⟩
    · split at h
      · cases h; exact ⟨x, by simp, .inr ⟨by assumption, rfl⟩⟩
      · obtain ⟨y, hy, h2⟩ := findL_some h
        exact ⟨y, List.mem_cons_of_mem _ hy, h2⟩
theorem findL_of {q r : Nat} : ∀ {L : List PP}, (∀ y ∈ L, (q = y.a → r = y.b) ∧ (q = y.b → r = y.a)) → (∃ y ∈ L, q = y.a ∨ q = y.b) → findL q L = some r
  | [], _, ⟨y, hy, _⟩ => by cases hy
  | x :: L, h, ⟨y, hy, e⟩ => by
    rw [findL_cons]
    split
    · rename_i h1; rw [(h x (by simp)).1 h1]
    · split
      · rename_i h1; rw [(h x (by simp)).2 h1]
      · rename_i h1 h2
        refine findL_of (fun z hz => h z (List.mem_cons_of_mem _ hz)) ?_
        rcases List.mem_cons.1 hy with rfl | hy
        · rcases e with e | e
          · exact absurd e h1
          · exact absurd e h2
        · exact ⟨y, hy, e⟩
theorem Lst.find_a {o c : UInt8} (hoc : o ≠ c) {l : List UInt8} {L : List PP} (h : Lst o c l L) {x : PP} (hx : x ∈ L) : findL x.a L = some x.b := by
  refine findL_of (fun y hy => ⟨fun e => ?_, fun e => ?_⟩) ⟨x, hx, .inl rfl⟩
  · rw [inj_nodup PP.a L h.na x hx y hy e]
  · have h1 := (h.x x hx).2.2.1
    have h2 := (h.x y hy).2.2.2
    rw [e, h2] at h1
    exact absurd h1.symm hoc
theorem Lst.find_b {o c : UInt8} (hoc : o ≠ c) {l : List UInt8} {L : List PP} (h : Lst o c l L) {x : PP} (hx : x ∈ L) : findL x.b L = some x.a := by
  refine findL_of (fun y hy => ⟨fun e => ?_, fun e => ?_⟩) ⟨x, hx, .inr rfl⟩
  · have h1 := (h.x x hx).2.2.2
    have h2 := (h.x y hy).2.2.1
    rw [e, h2] at h1
    exact absurd h1 hoc
  · rw [inj_nodup PP.b L h.nb x hx y hy e]
theorem opcl_ne (i : Nat) (hi : i < 4) : opB i ≠ clB i := by
  rcases (by omega : i = 0 ∨ i = 1 ∨ i = 2 ∨ i = 3) with rfl | rfl | rfl | rfl <;> decide
theorem br_tab : ∀ i, i < 3 → isBr (opB i) = true ∧ isBr (clB i) = true ∧ kindOf (opB i) = i ∧ kindOf (clB i) = i ∧ opB i ≠ 10 ∧ clB i ≠ 10 ∧ innerS (opB i) = false ∧ innerS (clB i) = false := by
  intro i hi
  rcases (by omega : i = 0 ∨ i = 1 ∨ i = 2) with rfl | rfl | rfl <;> decide
theorem lstF {l : List UInt8} (hv : validS l = true) (hl : l.length ≤ 500) {i : Nat} (hi : i < 4) : Lst (opB i) (clB i) l (lstO (AllF l i)) :=
  lst_of _ _ (opcl_ne i hi) l hl _ ((AllF_spec hi hl).1 hv)
theorem eol_lt (l : List UInt8) {q : Nat} (hq : q < l.length) (h : l.getD q 0 ≠ 10) : q < eol l q := by
  unfold eol
  have : l.drop q = l.getD q 0 :: l.drop (q + 1) := by
    rw [List.drop_eq_getElem_cons hq, List.getD_eq_getElem?_getD, List.getElem?_eq_getElem hq]; rfl
  rw [this, List.takeWhile_cons, if_pos (by simpa using h)]
  simp
theorem match_at {l : List UInt8} (hv : validS l = true) {q : Nat} (hq : q < l.length) (h1 : isBr (l.getD q 0) = true) (h2 : l.getD q 0 ≠ 10) (h3 : innerS (l.getD q 0) = false) :
    matchS l q = findL q (lstO (AllF l (kindOf (l.getD q 0)))) := by
  have hp : placeS l q = true := by
    unfold placeS
    rw [hv, show ((q : Int)).toNat = q from rfl, h3]
    simp
    omega
  have he := eol_lt l hq h2
  have hd : l.drop q = l.getD q 0 :: l.drop (q + 1) := by
    rw [List.drop_eq_getElem_cons hq, List.getD_eq_getElem?_getD, List.getElem?_eq_getElem hq]; rfl
  unfold matchS
  rw [if_neg (by rw [hp]; simp), show ((q : Int)).toNat = q from rfl]
  obtain ⟨k, hk⟩ : ∃ k, eol l q - q = k + 1 := ⟨eol l q - q - 1, by omega⟩
  have hf : ((l.drop q).take (eol l q - q)).findIdx? isBr = some 0 := by
    rw [hd, hk, List.take_succ_cons, List.findIdx?_cons, if_pos h1]
  rw [hf]
  rfl
theorem back_law (l : List UInt8) (hl : l.length ≤ 500) (p : Int) (q : Nat) (h : matchS l p = some q) : ∃ r : Nat, matchS l q = some r ∧ matchS l r = some q ∧ p ≤ r ∧ r ≠ q := by
  have h0 := h
  unfold matchS at h
  split at h
  · cases h
  · rename_i hp
    have hp : placeS l p = true := by simpa using hp
    have hpl := hp
    simp only [placeS, Bool.and_eq_true, decide_eq_true_eq] at hpl
    obtain ⟨hp0, hp1, _, hv⟩ := hpl
    obtain ⟨a, rfl⟩ : ∃ a : Nat, p = a := ⟨p.toNat, by omega⟩
    rw [show ((a : Int)).toNat = a from rfl] at h
    obtain ⟨he1, he2⟩ := eol_le l (p := a) (by omega)
    split at h
    · cases h
    · rename_i n hf
      obtain ⟨hn, hbr, _⟩ := List.findIdx?_eq_some_iff_getElem.1 hf
      have hq : a + n < l.length := by simp at hn; omega
      have hbq : isBr (l.getD (a + n) 0) = true := by
        rw [← hbr]
        congr 1
        rw [List.getElem_take, List.getElem_drop, List.getD_eq_getElem?_getD, List.getElem?_eq_getElem hq]
        rfl
      obtain ⟨hk3, _⟩ := kind_ok _ hbq
      obtain ⟨i, hi⟩ : ∃ i, kindOf (l.getD (a + n) 0) = i := ⟨_, rfl⟩
      rw [hi] at h hk3
      have L := lstF hv hl (i := i) (by omega)
      obtain ⟨b1, b2, b3, b4, b5, b6, b7, b8⟩ := br_tab i hk3
      obtain ⟨x, hx, hxe⟩ := findL_some h
      obtain ⟨x1, x2, x3, x4⟩ := L.x x hx
      have ma : matchS l x.a = some x.b := by
        rw [match_at hv (by omega) (by rw [x3]; exact b1) (by rw [x3]; exact b5) (by rw [x3]; exact b7), x3, b3]
        exact L.find_a (opcl_ne i (by omega)) hx
      have mb : matchS l x.b = some x.a := by
        rw [match_at hv (by omega) (by rw [x4]; exact b2) (by rw [x4]; exact b6) (by rw [x4]; exact b8), x4, b4]
        exact L.find_b (opcl_ne i (by omega)) hx
      rcases hxe with ⟨e1, e2⟩ | ⟨e1, e2⟩
      · subst e2
        exact ⟨x.a, mb, ma, by omega, by omega⟩
      · subst e2
        exact ⟨x.b, ma, mb, by omega, by omega⟩
end Go.Proofs.Ytbaoelfpmdmhjaa
set_option maxRecDepth 100000
set_option maxHeartbeats 2000000
namespace Go.Proofs.Ytbaoelfpmdmhjaa
open Go.Ai
/-! ### lives; PairBack -/
noncomputable def isTrue (r : R Out) : Bool := match r with | some (.ret (.bool true) _) => true | _ => false
theorem isTrue_ok {r : R Out} (h : isTrue r = true) : ∃ h', r = some (.ret (.bool true) h') := by
  unfold isTrue at h
  split at h
  · exact ⟨_, rfl⟩
  · cases h
theorem lives_run : isTrue (go C 100000 (.call 7 [] (h00 10))) = true := by kernel_rfl
theorem lives_ok : ∀ h, CallOk Try.prog C 7 [] h (.ret (.bool true) h) := by
  obtain ⟨h', hgo⟩ := isTrue_ok lives_run
  exact pure_go CF rfl (k := 3) hgo rfl rfl
theorem back_ok (l : List UInt8) (p : Int) : ∀ h, CallOk Try.prog C 4 [str l, .int .i64 p] h (.ret (.bool true) h) := by
  refine pure_wp CF rfl 6 3 (n := 62) (res := [.tmp 4]) (c := codeOf Try.f4) rfl rfl rfl ?_
  refine And.intro (fun h1 => ?_) (fun h1 => ?_)
  · refine CallW.of (lives_ok _) ?_
    rfl
  · have h1 := of_decide_eq_false h1
    have hl : l.length ≤ 500 := by
      have : ¬ (500 : Int) < (l.length : Nat) := h1
      omega
    refine CallW.of (match_ok l p hl _) ?_
    cases hm : matchS l p with
    | none =>
      repeat (first | (refine And.intro (fun _ => ?_) (fun h => Go.Ai.tf h)) | (refine And.intro (fun _ => ?_) (fun h => Go.Ai.ft h)) | (refine And.intro (fun h => Go.Ai.ft h) (fun _ => ?_)) | (refine And.intro (fun h => Go.Ai.tf h) (fun _ => ?_)))
      refine CallW.of (lives_ok _) ?_
      repeat (first | (refine And.intro (fun _ => ?_) (fun h => Go.Ai.tf h)) | (refine And.intro (fun _ => ?_) (fun h => Go.Ai.ft h)) | (refine And.intro (fun h => Go.Ai.ft h) (fun _ => ?_)) | (refine And.intro (fun h => Go.Ai.tf h) (fun _ => ?_)))
      rfl
    | some q =>
      obtain ⟨r, m1, m2, hpr, hrq⟩ := back_law l hl p q hm
      repeat (first | (refine And.intro (fun _ => ?_) (fun h => Go.Ai.tf h)) | (refine And.intro (fun _ => ?_) (fun h => Go.Ai.ft h)) | (refine And.intro (fun h => Go.Ai.ft h) (fun _ => ?_)) | (refine And.intro (fun h => Go.Ai.tf h) (fun _ => ?_)))
      have c1 := match_ok l q hl
      rw [m1] at c1
      have c2 := match_ok l r hl
      rw [m2] at c2
      refine CallW.of (c1 _) ?_
      refine CallW.of (c2 _) ?_
      repeat (first | (refine And.intro (fun _ => ?_) (fun h => Go.Ai.tf h)) | (refine And.intro (fun _ => ?_) (fun h => Go.Ai.ft h)) | (refine And.intro (fun h => Go.Ai.ft h) (fun _ => ?_)) | (refine And.intro (fun h => Go.Ai.tf h) (fun _ => ?_)))
      refine And.intro (fun h3 => ?_) (fun h3 => ?_)
      · repeat (first | (refine And.intro (fun _ => ?_) (fun h => Go.Ai.tf h)) | (refine And.intro (fun _ => ?_) (fun h => Go.Ai.ft h)) | (refine And.intro (fun h => Go.Ai.ft h) (fun _ => ?_)) | (refine And.intro (fun h => Go.Ai.tf h) (fun _ => ?_)))
        refine And.intro (fun h4 => ?_) (fun h4 => ?_)
        · repeat (first | (refine And.intro (fun _ => ?_) (fun h => Go.Ai.tf h)) | (refine And.intro (fun _ => ?_) (fun h => Go.Ai.ft h)) | (refine And.intro (fun h => Go.Ai.ft h) (fun _ => ?_)) | (refine And.intro (fun h => Go.Ai.tf h) (fun _ => ?_)))
          refine And.intro (fun h5 => ?_) (fun h5 => ?_)
          · repeat (first | (refine And.intro (fun _ => ?_) (fun h => Go.Ai.tf h)) | (refine And.intro (fun _ => ?_) (fun h => Go.Ai.ft h)) | (refine And.intro (fun h => Go.Ai.ft h) (fun _ => ?_)) | (refine And.intro (fun h => Go.Ai.tf h) (fun _ => ?_)))
            refine CallW.of (lives_ok _) ?_
            repeat (first | (refine And.intro (fun _ => ?_) (fun h => Go.Ai.tf h)) | (refine And.intro (fun _ => ?_) (fun h => Go.Ai.ft h)) | (refine And.intro (fun h => Go.Ai.ft h) (fun _ => ?_)) | (refine And.intro (fun h => Go.Ai.tf h) (fun _ => ?_)))
            rfl
          · exfalso
            have h5 : (!decide ((r : Int) = (q : Int))) = false := h5
            simp at h5
            omega
        · exfalso
          have h4 := of_decide_eq_false h4
          exact h4 hpr
      · exfalso
        have h3 := of_decide_eq_false h3
        exact h3 rfl
end Go.Proofs.Ytbaoelfpmdmhjaa
