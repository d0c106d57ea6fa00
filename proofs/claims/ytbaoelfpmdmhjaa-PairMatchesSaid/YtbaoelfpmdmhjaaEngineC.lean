/- The executor is sound: regions that draw, the whole, the top. No condition. -/
import Derived.Test.YtbaoelfpmdmhjaaEngineB
import Derived.Orders
import Derived.Lib.Bytealg
namespace Go.Ai

def Mp.below (ρ : Mp) (c : Nat) : Mp := fun b => if b < c then ρ b else none
theorem Mp.below_le (ρ : Mp) (c : Nat) : (ρ.below c).le ρ := fun b p h => by
  unfold Mp.below at h; split at h
  · exact h
  · cases h
theorem Mp.below_eq {ρ : Mp} {c b : Nat} {p : Pl} (hb : b < c) (h : ρ b = some p) : ρ.below c b = some p := by unfold Mp.below; rw [if_pos hb]; exact h

/- what also stands in relation by a map of numbers below c alone leads nowhere else -/
mutual
theorem VR.cutAt {ρ ρ1 : Mp} {c : Nat} (hc : ∀ b p, ρ1 b = some p → b < c) {v v' : Value} (h : VR ρ v v') : ∀ {v1 : Value}, VR ρ1 v v1 → VR (ρ.below c) v v' := by
  intro v1 h1
  match h with
  | .bool b => exact .bool b
  | .int k n => exact .int k n
  | .float k n => exact .float k n
  | .complex k a b => exact .complex k a b
  | .string s => exact .string s
  | .nilPtr => exact .nilPtr
  | .ptr h => cases h1 with | ptr g => exact .ptr (Mp.below_eq (hc _ _ g) h)
  | .nilSl => exact .nilSl
  | .sl h hl hcp ha => cases h1 with | sl g _ _ _ => exact .sl (Mp.below_eq (hc _ _ g) h) hl hcp ha
  | .nilMap => exact .nilMap
  | .map h => cases h1 with | map g => exact .map (Mp.below_eq (hc _ _ g) h)
  | .nilChan => exact .nilChan
  | .func f hx hy => cases h1 with | func _ gx gy => exact .func f (VRs.cutAt hc hx gx) (VRs.cutAt hc hy gy)
  | .yield h => cases h1 with | yield g => exact .yield (Mp.below_eq (hc _ _ g) h)
  | .nilFunc => exact .nilFunc
  | .nilIface => exact .nilIface
  | .iface t h => cases h1 with | iface _ g => exact .iface t (VR.cutAt hc h g)
  | .agg h => cases h1 with | agg g => exact .agg (VRs.cutAt hc h g)
  | .tuple h => cases h1 with | tuple g => exact .tuple (VRs.cutAt hc h g)
theorem VRs.cutAt {ρ ρ1 : Mp} {c : Nat} (hc : ∀ b p, ρ1 b = some p → b < c) {vs vs' : List Value} (h : VRs ρ vs vs') : ∀ {vs1 : List Value}, VRs ρ1 vs vs1 → VRs (ρ.below c) vs vs' := by
  intro vs1 h1
  match h with
  | .nil => exact .nil
  | .cons h hs => cases h1 with | cons g gs => exact .cons (VR.cutAt hc h g) (VRs.cutAt hc hs gs)
end

section
variable {ρ ρ1 : Mp} {c : Nat} (hc : ∀ b p, ρ1 b = Option.some p → b < c)
include hc
theorem OptR.cutAt {a b : Option Nat} (h : OptR ρ a b) {b1 : Option Nat} (h1 : OptR ρ1 a b1) : OptR (ρ.below c) a b := by
  cases h with
  | none => exact .none
  | some h => cases h1 with | some g => exact .some (Mp.below_eq (hc _ _ g) h)
theorem EnsR.cutAt {es es' : List MapEntry} (h : EnsR ρ es es') : ∀ {es1 : List MapEntry}, EnsR ρ1 es es1 → EnsR (ρ.below c) es es' := by
  induction h with
  | nil => intro _ _; exact .nil
  | cons h hk _ ih => intro es1 h1; cases h1 with | cons g gk gs => exact .cons (h.cutAt hc g) (hk.cutAt hc gk) (ih gs)
theorem TmR.cutAt {tm : T Value} {tmps tmps1 : Array Value} (h : TmR ρ tm tmps) (h1 : TmR ρ1 tm tmps1) : TmR (ρ.below c) tm tmps := by
  intro i v hv
  obtain ⟨v', k1, k2⟩ := h i v hv
  obtain ⟨v1, k3, k4⟩ := h1 i v hv
  exact ⟨v', k1, k2.cutAt hc k4⟩
theorem BR.cutAt {w w1 : World} {p p1 : Pl} {x : Blk} (h : BR ρ w p x) (h1 : BR ρ1 w1 p1 x) : BR (ρ.below c) w p x := by
  cases h with
  | cells hw hn hl hcs hf =>
    cases h1 with
    | cells _ _ _ gc _ =>
      exact .cells hw hn hl (fun j v hv => by
        obtain ⟨v', k1, k2⟩ := hcs j v hv
        obtain ⟨v1, k3, k4⟩ := gc j v hv
        exact ⟨v', k1, k2.cutAt hc k4⟩) hf
  | bytes hw hn hl hcs hf => exact .bytes hw hn hl hcs hf
  | map hw he => cases h1 with | map _ ge => exact .map hw (he.cutAt hc ge)
  | iter hw ho => exact .iter hw ho
  | mapIter hw ho hm => cases h1 with | mapIter _ _ gm => exact .mapIter hw ho (hm.cutAt hc gm)
  | loop hw ht hd hk => cases h1 with | loop _ gt gd _ => exact .loop hw (ht.cutAt hc gt) (Mp.below_eq (hc _ _ gd) hd) hk
  | defd hw => exact .defd hw
end

/-! ### the trace, told by places -/
noncomputable def reachesFrom : List Oper → List Nat → List Nat
  | [], reach => reach
  | o :: r, reach => reachesFrom r (reach ++ [reachOf reach o])

/-- one operation of a region that draws, in the order of the text -/
inductive StepAt (P : Program) (C : Ctx) (rd : Option Nat) (all : List Oper) (o : Oper) (k : Nat) (s s' : St) : Option Ent → Prop
  | skip (hw : wantedA all o s.tm = some false) (hs : s' = s.with (putT s.tm o.dst undef) s.hp) : StepAt P C rd all o k s s' none
  | op {s1 : St} {e : Option Ent} (rec : Rec) (hw : wantedA all o s.tm = some true)
      (hcall : ∀ g args h out, rec (.call g args h) = some out → CallOk P C g args h out) (hround : ∀ l args h out, rec (.round l args h) = some out → RoundOk P C l args h out)
      (ho : tOne (some 0) o (s.heap (s.hp.low0 bigLow)) C rec = some (.ex .normal s1))
      (he : ∀ es es', entOf k o.op s.tm es s1.hp.low s.hp.ctr = some es' → es' = (match e with | some x => x :: es | none => es))
      (hok : ∃ es es', entOf k o.op s.tm es s1.hp.low s.hp.ctr = some es')
      (hs : s' = s1.heap (s1.hp.low0 (Nat.min s.hp.low s1.hp.low))) : StepAt P C rd all o k s s' e

theorem entOf_app {k : Nat} {o : Op} {tm : T Value} {low ctr : Nat} : ∃ e : Option Ent, (∀ es es', entOf k o tm es low ctr = some es' → es' = (match e with | some x => x :: es | none => es)) ∧ ∀ x, e = some x → x.i = k := by
  unfold entOf
  cases kindOf o with
  | none => exact ⟨none, by intro es es' h; simp only [ok_some] at h; exact h.symm, by simp⟩
  | pass => exact ⟨some ⟨k, 0, touchOf tm o⟩, by intro es es' h; simp only [ok_some] at h; exact h.symm, by intro x hx; cases hx; rfl⟩
  | lays => exact ⟨some ⟨k, (match Nat.blt low ctr with | true => 2 | false => 1), none⟩, by intro es es' h; simp only [ok_some] at h; exact h.symm, by intro x hx; cases hx; rfl⟩
  | dirty => exact ⟨some ⟨k, 2, touchOf tm o⟩, by intro es es' h; simp only [ok_some] at h; exact h.symm, by intro x hx; cases hx; rfl⟩
  | bad => exact ⟨none, by intro es es' h; simp at h, by simp⟩
end Go.Ai
namespace Go.Ai
section
variable {P : Program} {C : Ctx} {rd : Option Nat} {all : List Oper}

theorem trace_data {l : List Oper} {i : Nat} {s sf : St} {reach : List Nat} {es : List Ent} (t : Trace P C rd all l i s reach es sf) :
    ∃ (S : Nat → St) (E : Nat → Option Ent), S i = s ∧ S (i + l.length) = sf ∧
      (∀ k o, l[k]? = some o → edgesOk (i + k) o = true ∧ StepAt P C rd all o (i + k) (S (i + k)) (S (i + k + 1)) (E (i + k)) ∧ ∀ x, E (i + k) = some x → x.i = i + k) ∧
      (∀ k k', i ≤ k' → k' < k → k < i + l.length → ∀ x y, E k = some x → E k' = some y → pairOk ((reachesFrom l reach).getD k 0) x y = true) ∧
      (∀ k, i ≤ k → k < i + l.length → ∀ x, E k = some x → ∀ y ∈ es, pairOk ((reachesFrom l reach).getD k 0) x y = true) ∧ lookOk (reachesFrom l reach) es = true := by
  induction t with
  | @nil i s reach es h =>
    refine ⟨fun _ => s, fun _ => none, rfl, rfl, ?_, ?_, ?_, h⟩
    · intro k o hk; simp at hk
    · intro k k' _ _ h3; simp at h3; omega
    · intro k h1 h2; simp at h2; omega
  | @skip o r i s sf reach es he hw ht ih =>
    obtain ⟨S, E, h1, h2, h3, h4, h5, h6⟩ := ih
    refine ⟨fun k => if k ≤ i then s else S k, fun k => if k ≤ i then none else E k, by simp, ?_, ?_, ?_, ?_, h6⟩
    · have : ¬ (i + (o :: r).length ≤ i) := by simp
      simp only [this, if_false]
      rw [← h2]; congr 1; simp; omega
    · intro k o' hk
      cases k with
      | zero =>
        simp at hk; subst hk
        refine ⟨he, ?_, by simp⟩
        have e1 : ¬ (i + 0 + 1 ≤ i) := by omega
        simp only [Nat.add_zero, Nat.le_refl, if_true] at *
        rw [if_neg (by omega), h1]
        exact .skip hw rfl
      | succ k =>
        simp at hk
        have := h3 k o' hk
        have e1 : ¬ (i + (k + 1) ≤ i) := by omega
        have e2 : ¬ (i + (k + 1) + 1 ≤ i) := by omega
        simp only [e1, e2, if_false]
        rw [show i + (k + 1) = i + 1 + k by omega]
        exact this
    · intro k k' g1 g2 g3 x y hx hy
      have e1 : ¬ (k ≤ i) := by omega
      simp only [e1, if_false] at hx
      by_cases e2 : k' ≤ i
      · simp [e2] at hy
      · simp only [e2, if_false] at hy
        exact h4 k k' (by omega) g2 (by simp at g3; omega) x y hx hy
    · intro k g1 g2 x hx y hy
      by_cases e1 : k ≤ i
      · simp [e1] at hx
      · simp only [e1, if_false] at hx
        exact h5 k (by omega) (by simp at g2; omega) x hx y hy
  | @op o r i s s1 sf reach es es' rec he hw hcall hround ho hes ht ih =>
    obtain ⟨S, E, h1, h2, h3, h4, h5, h6⟩ := ih
    obtain ⟨e, he1, he2⟩ := @entOf_app i o.op s.tm s1.hp.low s.hp.ctr
    have hes' := he1 es es' hes
    refine ⟨fun k => if k ≤ i then s else S k, fun k => if k < i then none else if k = i then e else E k, by simp, ?_, ?_, ?_, ?_, ?_⟩
    · have : ¬ (i + (o :: r).length ≤ i) := by simp
      simp only [this, if_false]
      rw [← h2]; congr 1; simp; omega
    · intro k o' hk
      cases k with
      | zero =>
        simp at hk; subst hk
        have e1 : ¬ (i + 0 + 1 ≤ i) := by omega
        have e2 : ¬ (i < i) := by omega
        simp only [Nat.add_zero, Nat.le_refl, if_true, e2, if_false]
        refine ⟨he, ?_, he2⟩
        rw [if_neg (by omega), h1]
        exact .op rec hw hcall hround ho he1 ⟨es, es', hes⟩ rfl
      | succ k =>
        simp at hk
        have := h3 k o' hk
        have e1 : ¬ (i + (k + 1) ≤ i) := by omega
        have e2 : ¬ (i + (k + 1) + 1 ≤ i) := by omega
        have e3 : ¬ (i + (k + 1) < i) := by omega
        have e4 : ¬ (i + (k + 1) = i) := by omega
        simp only [e1, e2, e3, e4, if_false]
        rw [show i + (k + 1) = i + 1 + k by omega]
        exact this
    · intro k k' g1 g2 g3 x y hx hy
      have e1 : ¬ (k < i) := by omega
      have e2 : ¬ (k = i) := by omega
      simp only [e1, e2, if_false] at hx
      have e3 : ¬ (k' < i) := by omega
      simp only [e3, if_false] at hy
      by_cases e4 : k' = i
      · simp only [e4, if_true] at hy
        refine h5 k (by omega) (by simp at g3; omega) x hx y ?_
        rw [hes', hy]; simp
      · simp only [e4, if_false] at hy
        exact h4 k k' (by omega) g2 (by simp at g3; omega) x y hx hy
    · intro k g1 g2 x hx y hy
      have e1 : ¬ (k < i) := by omega
      simp only [e1, if_false] at hx
      by_cases e4 : k = i
      · subst e4
        simp only [if_true] at hx
        rw [hes', hx] at h6
        simp only [lookOk, Bool.and_eq_true, List.all_eq_true] at h6
        have := h6.1 y hy
        rw [he2 x hx] at this
        exact this
      · simp only [e4, if_false] at hx
        refine h5 k (by omega) (by simp at g2; omega) x hx y ?_
        rw [hes']
        cases e <;> simp [hy]
    · rw [hes'] at h6
      cases e with
      | none => exact h6
      | some x => simp only [lookOk, Bool.and_eq_true] at h6; exact h6.2
end
end Go.Ai
namespace Go.Ai

theorem reachesFrom_pre : ∀ (l : List Oper) (reach : List Nat), ∃ t, reachesFrom l reach = reach ++ t ∧ t.length = l.length
  | [], reach => ⟨[], by simp [reachesFrom]⟩
  | o :: r, reach => by
    obtain ⟨t, h1, h2⟩ := reachesFrom_pre r (reach ++ [reachOf reach o])
    exact ⟨reachOf reach o :: t, by simp [reachesFrom, h1], by simp [h2]⟩
theorem reachesFrom_at : ∀ (l : List Oper) (reach : List Nat) (k : Nat) (o : Oper), l[k]? = some o → (reachesFrom l reach)[reach.length + k]? = some (reachOf ((reachesFrom l reach).take (reach.length + k)) o)
  | [], reach, k, o, h => by simp at h
  | x :: r, reach, 0, o, h => by
    simp at h; subst h
    obtain ⟨t, h1, h2⟩ := reachesFrom_pre r (reach ++ [reachOf reach x])
    simp only [reachesFrom, Nat.add_zero]
    rw [h1]
    simp
  | x :: r, reach, k + 1, o, h => by
    have := reachesFrom_at r (reach ++ [reachOf reach x]) k o (by simpa using h)
    simp only [List.length_append, List.length_cons, List.length_nil, Nat.zero_add] at this
    simp only [reachesFrom]
    rw [show reach.length + (k + 1) = reach.length + 1 + k by omega]
    exact this

theorem testBit_one_shl (n j : Nat) : (1 <<< n).testBit j = decide (n = j) := by
  rw [Nat.one_shiftLeft, Nat.testBit_two_pow]
theorem reachOf_bits (reach : List Nat) (o : Oper) (j : Nat) : (reachOf reach o).testBit j = true ↔ ∃ e ∈ o.after.toList, bindsAny e = true ∧ (e.on = j ∨ (reach.getD e.on 0).testBit j = true) := by
  unfold reachOf
  generalize o.after.toList = l
  induction l with
  | nil => simp
  | cons e es ih =>
    simp only [List.foldr_cons, List.mem_cons, exists_eq_or_imp]
    cases hb : bindsAny e with
    | false => simp only [Bool.false_eq_true, false_and, false_or]; exact ih
    | true =>
      simp only [Nat.testBit_or, Bool.or_eq_true, testBit_one_shl, decide_eq_true_eq, true_and]
      rw [ih]
      constructor
      · rintro (h | h | h)
        · exact .inr h
        · exact .inl (.inl h)
        · exact .inl (.inr h)
      · rintro ((h | h) | h)
        · exact .inr (.inl h)
        · exact .inr (.inr h)
        · exact .inl h

section
variable {ops : Array Oper}
/-- the numbers that must be done ahead of one -/
noncomputable def RL (ops : Array Oper) (k : Nat) : Nat := (reachesFrom ops.toList []).getD k 0
theorem RL_bits {k : Nat} {o : Oper} (ho : ops[k]? = some o) (he : edgesOk k o = true) (j : Nat) : (RL ops k).testBit j = true ↔ ∃ e ∈ o.after.toList, bindsAny e = true ∧ (e.on = j ∨ (RL ops e.on).testBit j = true) := by
  have h := reachesFrom_at ops.toList [] k o (by simpa using ho)
  simp only [List.length_nil, Nat.zero_add] at h
  have : RL ops k = reachOf ((reachesFrom ops.toList []).take k) o := by unfold RL; rw [List.getD_eq_getElem?_getD, h]; rfl
  rw [this, reachOf_bits]
  unfold edgesOk at he
  rw [List.all_eq_true] at he
  have key : ∀ e ∈ o.after.toList, bindsAny e = true → (((reachesFrom ops.toList []).take k).getD e.on 0) = RL ops e.on := by
    intro e hm hb
    have := he e hm
    rw [hb] at this
    have hlt : e.on < k := Nat.le_of_ble_eq_true this
    unfold RL
    rw [List.getD_eq_getElem?_getD, List.getD_eq_getElem?_getD, List.getElem?_take, if_pos hlt]
  constructor
  · rintro ⟨e, h1, h2, h3⟩; exact ⟨e, h1, h2, by rw [← key e h1 h2]; exact h3⟩
  · rintro ⟨e, h1, h2, h3⟩; exact ⟨e, h1, h2, by rw [key e h1 h2]; exact h3⟩

theorem drawOk_spec {all : List Oper} : ∀ (l : List Oper) (i : Nat) (reach : List Nat), reach.length = i → drawOk all l i reach = true → ∀ k o, l[k]? = some o →
    edgesOk (i + k) o = true ∧ depsOk all (i + k) ((reachesFrom l reach).getD (i + k) 0) o all 0 = true
  | [], i, reach, _, _, k, o, h => by simp at h
  | x :: r, i, reach, hl, hd, k, o, h => by
    simp only [drawOk, Bool.and_eq_true] at hd
    cases k with
    | zero =>
      simp at h; subst h
      refine ⟨hd.1, ?_⟩
      have : (reachesFrom (x :: r) reach).getD (i + 0) 0 = reachOf reach x := by
        obtain ⟨t, h1, h2⟩ := reachesFrom_pre r (reach ++ [reachOf reach x])
        simp only [reachesFrom, h1]
        rw [List.getD_eq_getElem?_getD]
        simp [← hl]
      rw [this]; exact hd.2.1
    | succ k =>
      have := drawOk_spec r (i + 1) (reach ++ [reachOf reach x]) (by simp [hl]) hd.2.2 k o (by simpa using h)
      rw [show i + (k + 1) = i + 1 + k by omega]
      exact this
theorem depsOk_spec {all : List Oper} {i rx : Nat} {x : Oper} : ∀ (l : List Oper) (j : Nat), depsOk all i rx x l j = true → ∀ k y, l[k]? = some y → j + k < i → confl all x y = true → rx.testBit (j + k) = true
  | [], j, _, k, y, h, _, _ => by simp at h
  | z :: r, j, hd, k, y, h, hlt, hc => by
    simp only [depsOk, Bool.and_eq_true] at hd
    cases k with
    | zero =>
      simp at h; subst h
      have hb : Nat.blt j i = true := Nat.ble_eq_true_of_le (by omega)
      rw [hb] at hd
      simpa [hc] using hd.1
    | succ k =>
      have := depsOk_spec r (j + 1) hd.2 k y (by simpa using h) (by omega) hc
      rw [show j + (k + 1) = j + 1 + k by omega]; exact this
/-- what the look at the region's text gives -/
theorem region_facts (h : drawOk ops.toList ops.toList 0 [] = true) : (∀ k o, ops[k]? = some o → edgesOk k o = true) ∧
    ∀ j k x y, ops[j]? = some x → ops[k]? = some y → k < j → confl ops.toList x y = true → (RL ops j).testBit k = true := by
  have key := drawOk_spec ops.toList 0 [] rfl h
  refine ⟨fun k o ho => by have := (key k o (by simpa using ho)).1; simpa using this, fun j k x y hx hy hlt hc => ?_⟩
  have := (key j x (by simpa using hx)).2
  simp only [Nat.zero_add] at this
  have := depsOk_spec ops.toList 0 this k y (by simpa using hy) (by omega) hc
  simpa [RL] using this
end

/-! ### orders -/
theorem binds_any {md : Region.Mode} {e : Edge} (h : bindsAny e = true) : Region.binds md e = true := by
  unfold bindsAny at h
  unfold Region.binds
  cases hg : e.ground <;> simp [hg] at h ⊢

/-- what is listed bears all that must be ahead of it -/
def Closed (ops : Array Oper) (D : Nat → Bool) : Prop := ∀ i, D i = true → ∀ j, (RL ops i).testBit j = true → D j = true

theorem ready_spec {ops : Array Oper} (he : ∀ k o, ops[k]? = some o → edgesOk k o = true) {md : Region.Mode} {listed : Array Bool} (hs : listed.size = ops.size) (hc : Closed ops (fun i => listed.getD i false)) {i : Nat} (hi : i ∈ Region.ready md ops listed) :
    i < ops.size ∧ listed.getD i false = false ∧ (∀ j, (RL ops i).testBit j = true → listed.getD j false = true) := by
  unfold Region.ready at hi
  simp only [List.mem_filter, List.mem_range, Bool.and_eq_true] at hi
  obtain ⟨h1, h2, h3⟩ := hi
  have ho : ops[i]? = some ops[i] := Array.getElem?_eq_getElem h1
  refine ⟨h1, ?_, ?_⟩
  · have hlt : i < listed.size := by omega
    simp [Array.getD_eq_getD_getElem?, Array.getElem?_eq_getElem hlt] at h2 ⊢
    exact h2
  · intro j hj
    rw [RL_bits ho (he _ _ ho)] at hj
    obtain ⟨e, hm, hb, hj⟩ := hj
    rw [ho] at h3
    simp only [Option.map_some, Option.getD_some, Array.all_eq_true_iff_forall_mem] at h3
    have := h3 e (by simpa using hm)
    simp only [binds_any hb, Bool.not_true, Bool.false_or] at this
    rcases hj with rfl | hj
    · exact this
    · exact hc _ this j hj
end Go.Ai
namespace Go.Ai
inductive Topo (md : Region.Mode) (ops : Array Oper) : Array Bool → List Nat → Prop
  | nil {L : Array Bool} : Topo md ops L []
  | cons {L : Array Bool} {i : Nat} {σ : List Nat} (h : i ∈ Region.ready md ops L) (hs : Topo md ops (L.setIfInBounds i true) σ) : Topo md ops L (i :: σ)
theorem topo_go (md : Region.Mode) (ops : Array Oper) : ∀ (fuel t : Nat) (L : Array Bool), Topo md ops L (Region.linearise.go md ops fuel t L []) := by
  intro fuel
  induction fuel with
  | zero => intro t L; simp only [Region.linearise.go, List.reverse_nil]; exact .nil
  | succ fuel ih =>
    intro t L
    simp only [Region.linearise.go]
    change Topo md ops L (match (Region.ready md ops L)[t % (Region.ready md ops L).length]? with
      | some i => Region.linearise.go md ops fuel (t / (Region.ready md ops L).length) (L.setIfInBounds i true) [i]
      | none => [].reverse)
    cases hi : (Region.ready md ops L)[t % (Region.ready md ops L).length]? with
    | none => exact .nil
    | some i =>
      simp only
      rw [linearise_go_acc]
      exact .cons (List.mem_of_getElem? hi) (ih _ _)
theorem getD_set {L : Array Bool} {i j : Nat} (hi : i < L.size) : (L.setIfInBounds i true).getD j false = (decide (j = i) || L.getD j false) := by
  by_cases h : j = i
  · subst h; simp [Array.getD_eq_getD_getElem?, hi]
  · simp [Array.getD_eq_getD_getElem?, Array.getElem?_setIfInBounds_ne (Ne.symm h), h]
theorem topo_first {md : Region.Mode} {ops : Array Oper} {D : Array Bool} (hD : D.size = ops.size) {i : Nat} (hi : D.getD i false = false) : ∀ (σ : List Nat) (L : Array Bool), L.size = ops.size → Topo md ops L σ →
    (∀ j, L.getD j false = true → D.getD j false = true) → i ∈ σ → ∃ x, x ∈ Region.ready md ops D := by
  intro σ
  induction σ with
  | nil => intro L _ _ _ hm; simp at hm
  | cons y σ ih =>
    intro L hL ht hLD hm
    cases ht with
    | cons hy hs =>
      have hy' := hy
      unfold Region.ready at hy'
      simp only [List.mem_filter, List.mem_range, Bool.and_eq_true] at hy'
      cases hDy : D.getD y false with
      | true =>
        refine ih (L.setIfInBounds y true) (by simp [hL]) hs (fun j hj => ?_) ?_
        · rw [getD_set (by omega)] at hj
          simp only [Bool.or_eq_true, decide_eq_true_eq] at hj
          rcases hj with rfl | hj
          · exact hDy
          · exact hLD j hj
        · rcases List.mem_cons.1 hm with rfl | h
          · rw [hi] at hDy; cases hDy
          · exact h
      | false =>
        refine ⟨y, ?_⟩
        unfold Region.ready
        simp only [List.mem_filter, List.mem_range, Bool.and_eq_true]
        refine ⟨hy'.1, ?_, ?_⟩
        · have hlt : y < D.size := by omega
          simp [Array.getD_eq_getD_getElem?, Array.getElem?_eq_getElem hlt] at hDy ⊢
          exact hDy
        · have ho : ops[y]? = some ops[y] := Array.getElem?_eq_getElem hy'.1
          have h3 := hy'.2.2
          rw [ho] at h3 ⊢
          simp only [Option.map_some, Option.getD_some, Array.all_eq_true_iff_forall_mem] at h3 ⊢
          intro e he
          have := h3 e he
          simp only [Bool.or_eq_true] at this ⊢
          exact this.imp id (hLD _)
/-- no order gets stuck -/
theorem ready_nil {md : Region.Mode} {ops : Array Oper} (h : allIn ops.size (Region.linearise md ops 0) = true) {D : Array Bool} (hD : D.size = ops.size) (hn : Region.ready md ops D = []) : ∀ i, i < ops.size → D.getD i false = true := by
  intro i hi
  cases hdi : D.getD i false with
  | true => rfl
  | false =>
    have hm : i ∈ Region.linearise md ops 0 := by
      unfold allIn at h
      rw [List.all_eq_true] at h
      simpa using h i (by simpa using hi)
    obtain ⟨x, hx⟩ := topo_first hD hdi _ (Array.replicate ops.size false) (by simp) (topo_go md ops ops.size 0 _) (fun j hj => by
      simp [Array.getD_eq_getD_getElem?, Array.getElem?_replicate] at hj
      split at hj <;> simp at hj) hm
    rw [hn] at hx; cases hx

/-- the region's orders, one by one: what holds at each place of each order -/
theorem schedule_cases (mixed : Bool) (ops : Array Oper) (t : Nat) (h : orderOk ops = true) : ∃ md t', Region.schedule mixed ops t = Region.linearise.go md ops ops.size t' (Array.replicate ops.size false) [] ∧ allIn ops.size (Region.linearise md ops 0) = true := by
  simp only [orderOk, Bool.and_eq_true] at h
  unfold Region.schedule
  split
  · exact ⟨.any, t, rfl, h.2.2⟩
  · split
    · exact ⟨.text, t / 2, rfl, h.1⟩
    · exact ⟨.gc, t / 2, rfl, h.2.1⟩
end Go.Ai
namespace Go.Ai
section
variable {C : Ctx} {tm tm' : T Value} {h : H}

theorem evs_congr {ng : Nat} : ∀ {l : List Operand}, (∀ x ∈ l, ev ng tm x = ev ng tm' x) → evs ng tm l = evs ng tm' l
  | [], _ => rfl
  | x :: xs, hx => by
    simp only [evs]
    rw [hx x (by simp), evs_congr (fun y hy => hx y (by simp [hy]))]
theorem evO_congr {ng : Nat} {o : Option Operand} (hx : ∀ x, o = some x → ev ng tm x = ev ng tm' x) : evO ng tm o = evO ng tm' o := by
  cases o with
  | none => rfl
  | some x => simp only [evO]; rw [hx x rfl]
theorem buildParts_congr {ti : TI} {N : Nat} : ∀ {l : List (Nat × Operand)}, (∀ p ∈ l, ev C.ng tm p.2 = ev C.ng tm' p.2) → buildParts C ti tm N l = buildParts C ti tm' N l
  | [], _ => rfl
  | (i, x) :: r, hx => by
    simp only [buildParts]
    rw [show ev C.ng tm x = ev C.ng tm' x from hx (i, x) (by simp), buildParts_congr (fun y hy => hx y (by simp [hy]))]

theorem aOp_congr {o : Op} (hx : ∀ x ∈ o.operands, ev C.ng tm x = ev C.ng tm' x) : aOp o C tm h = aOp o C tm' h := by
  cases o <;> simp only [aOp] <;> simp only [Op.operands] at hx
  case move x => simp only [opMove]; rw [hx x (by simp)]
  case assign x => simp only [opMove]; rw [hx x (by simp)]
  case pick c a b => simp only [opPick]; rw [hx c (by simp), hx a (by simp), hx b (by simp)]
  case alloc e => rfl
  case box e x => simp only [opBox]; rw [hx x (by simp)]
  case build t parts => simp only [opBuild]; simp only [buildParts_congr (C := C) (tm := tm) (tm' := tm') (l := parts.toList) (fun p hp => hx p.2 (by simp; exact ⟨p.1, by simpa using hp⟩))]
  case buildSlice t n parts => simp only [opBuildSlice]; simp only [buildParts_congr (C := C) (tm := tm) (tm' := tm') (l := parts.toList) (fun p hp => hx p.2 (by simp; exact ⟨p.1, by simpa using hp⟩))]
  case load t x => simp only [opLoad]; rw [hx x (by simp)]
  case store t a x => simp only [opStore]; rw [hx a (by simp), hx x (by simp)]
  case nilCheck x => simp only [opNilCheck]; rw [hx x (by simp)]
  case binOp op t x y _ => simp only [opBin]; rw [hx x (by simp), hx y (by simp)]
  case unOp op _ x => simp only [opUn]; rw [hx x (by simp)]
  case convert s d x => simp only [opConv]; rw [hx x (by simp)]
  case makeInterface t x => simp only [opIface]; rw [hx x (by simp)]
  case makeFunc fn f c =>
    simp only [opFunc]
    rw [evs_congr (tm := tm) (tm' := tm') (l := f.toList) (fun x hm => hx x (by simp at hm; simp [hm])), evs_congr (tm := tm) (tm' := tm') (l := c.toList) (fun x hm => hx x (by simp at hm; simp [hm]))]
  case makeMap t r =>
    cases r with
    | none => rfl
    | some x => simp only [opMap]; rw [hx x (by simp)]
  case makeSlice t l c => simp only [opMakeSlice]; rw [hx l (by simp), hx c (by simp)]
  case slice t x lo hi mx =>
    simp only [opSlice]
    rw [hx x (by simp), evO_congr (tm := tm) (tm' := tm') (o := lo) (fun y hy => hx y (by subst hy; simp)), evO_congr (tm := tm) (tm' := tm') (o := hi) (fun y hy => hx y (by subst hy; simp)), evO_congr (tm := tm) (tm' := tm') (o := mx) (fun y hy => hx y (by subst hy; simp))]
  case fieldAddr t x f => simp only [opFieldAddr]; rw [hx x (by simp)]
  case field t x f => simp only [opField]; rw [hx x (by simp)]
  case indexAddr t x i => simp only [opIndexAddr]; rw [hx x (by simp), hx i (by simp)]
  case index t x i => simp only [opIndex]; rw [hx x (by simp), hx i (by simp)]
  case lookup t m k c => simp only [opLookup]; rw [hx m (by simp), hx k (by simp)]
  case mapUpdate t m k x => simp only [opUpdate]; rw [hx m (by simp), hx k (by simp), hx x (by simp)]
  case insert t m k x => simp only [opUpdate]; rw [hx m (by simp), hx k (by simp), hx x (by simp)]
  case range t x => simp only [opRange]; rw [hx x (by simp)]
  case next x s => simp only [opNext]; rw [hx x (by simp)]
  case entry x => simp only [opEntry]; rw [hx x (by simp)]
  case typeAssert x a b c => simp only [opAssert]; rw [hx x (by simp)]
  case extract x i => simp only [opExtract]; rw [hx x (by simp)]
  case call c =>
    simp only [opCall]
    simp only [Call.operands] at hx
    rw [evs_congr (tm := tm) (tm' := tm') (l := c.args.toList) (fun x hm => hx x (by simp at hm; simp [hm]))]
    cases hc : c.callee with
    | value f => simp only; rw [hx f (by simp [hc])]
    | builtin b => rfl
    | invoke r m => rfl
  case defer c =>
    simp only [opDefer]
    simp only [Call.operands] at hx
    rw [evs_congr (tm := tm) (tm' := tm') (l := c.args.toList) (fun x hm => hx x (by simp at hm; simp [hm]))]
    cases hc : c.callee with
    | value f => simp only; rw [hx f (by simp [hc])]
    | builtin b => rfl
    | invoke r m => rfl
  case panic x => simp only [opPanic]; rw [hx x (by simp)]
  all_goals rfl

theorem ev_congr {ng : Nat} {x : Operand} (hx : ∀ t, x = .tmp t → tm'.get t = tm.get t) : ev ng tm x = ev ng tm' x := by
  cases x with
  | tmp t => simp only [ev]; rw [hx t rfl]
  | _ => rfl

/-- an operation's answer hangs on nothing but what it reads -/
theorem one_congr {rec : Rec} {rd : Option Nat} {o : Oper} {s s1 : St} (ho : tOne (some 0) o s C rec = some (.ex .normal s1)) (hag : ∀ t, Operand.tmp t ∈ o.op.operands → tm'.get t = s.tm.get t) :
    ∃ v, s1 = ⟨putT s.tm o.dst v, s.df, s.up, s1.hp⟩ ∧ tOne rd o ⟨tm', s.df, s.up, s.hp⟩ C rec = some (.ex .normal ⟨putT tm' o.dst v, s.df, s.up, s1.hp⟩) := by
  simp only [tOne, bnd_some] at ho
  obtain ⟨n, h1, h2⟩ := ho
  have hc : aOp o.op C s.tm s.hp = aOp o.op C tm' s.hp := aOp_congr (fun x hx => ev_congr (fun t ht => hag t (ht ▸ hx)))
  have h1' : aOp o.op C tm' s.hp = some n := by rw [← hc]; exact h1
  have goal : ∀ v, goNx n rec rd o.dst ⟨tm', s.df, s.up, s.hp⟩ = some (.ex .normal ⟨putT tm' o.dst v, s.df, s.up, s1.hp⟩) → tOne rd o ⟨tm', s.df, s.up, s.hp⟩ C rec = some (.ex .normal ⟨putT tm' o.dst v, s.df, s.up, s1.hp⟩) := by
    intro v hv
    simp only [tOne, bnd_some]
    exact ⟨n, h1', hv⟩
  cases n with
  | val v h' =>
    simp [goNx, nxVal] at h2; subst h2
    exact ⟨v, rfl, goal v (by simp [goNx, nxVal, St.with])⟩
  | call g args h' =>
    simp only [goNx, nxCall, bnd_some] at h2
    obtain ⟨r, h3, h4⟩ := h2
    cases r with
    | ret v h'' =>
      simp at h4; subst h4
      exact ⟨v, rfl, goal v (by simp [goNx, nxCall, h3, St.with])⟩
    | pan ch h'' => simp at h4
    | ex e s2 => simp at h4
  | yield l args h' =>
    simp only [goNx, nxYield, bnd_some] at h2
    obtain ⟨r, h3, h4⟩ := h2
    cases r with
    | ret v h'' =>
      simp at h4; subst h4
      exact ⟨v, rfl, goal v (by simp [goNx, nxYield, h3, St.with])⟩
    | pan ch h'' => simp at h4
    | ex e s2 => simp at h4
  | panic v h' => simp [goNx, nxPanic] at h2
  | defer d h' => simp [goNx, nxDefer] at h2
  | recover h' => simp [goNx, nxRecover] at h2
end
end Go.Ai
namespace Go.Ai
section
variable {P : Program} {C : Ctx} {tm : T Value} {h h' : H}

theorem ev_big (hng : C.ng ≤ bigLow) {x : Operand} {v : Value} (he : ev C.ng tm x = some v) : ev bigLow tm x = some v := by
  cases x with
  | global g =>
    simp only [ev, need_some, ok_some] at he ⊢
    have : g < C.ng := Nat.le_of_ble_eq_true he.1
    exact ⟨Nat.ble_eq_true_of_le (by omega), he.2⟩
  | _ => exact he
theorem top_ptr (hng : C.ng ≤ bigLow) {x : Operand} {a : Addr} (he : ev C.ng tm x = some (.pointer (some a))) (r : List Nat) : a.block ∈ topBlock tm x r := by
  simp [topBlock, ev_big hng he, tops]
theorem top_sl (hng : C.ng ≤ bigLow) {x : Operand} {a : Addr} {n c : Nat} (he : ev C.ng tm x = some (.slice (some a) n c)) (r : List Nat) : a.block ∈ topBlock tm x r := by
  simp [topBlock, ev_big hng he, tops]
theorem top_map (hng : C.ng ≤ bigLow) {x : Operand} {m : Nat} (he : ev C.ng tm x = some (.map (some m))) (r : List Nat) : m ∈ topBlock tm x r := by
  simp [topBlock, ev_big hng he, tops]
theorem top_more {x : Operand} {r : List Nat} {b : Nat} (hb : b ∈ r) : b ∈ topBlock tm x r := by
  unfold topBlock tops
  split <;> simp [hb]
/-- the blocks at which the arguments of a built-in function point -/
theorem top_args (hng : C.ng ≤ bigLow) : ∀ {xs : List Operand} {vs : List Value}, evs C.ng tm xs = some vs → ∀ v ∈ vs, ∀ b, (v = .map (some b) ∨ (∃ a : Addr, v = .pointer (some a) ∧ a.block = b) ∨ (∃ (a : Addr) (n c : Nat), v = .slice (some a) n c ∧ a.block = b)) → b ∈ xs.foldr (topBlock tm) []
  | [], vs, he, v, hv, b, _ => by simp [evs] at he; subst he; simp at hv
  | x :: xs, vs, he, v, hv, b, hb => by
    simp only [evs, bnd_some, ok_some] at he
    obtain ⟨u, h1, us, h2, rfl⟩ := he
    simp only [List.foldr_cons]
    rcases List.mem_cons.1 hv with rfl | hv
    · rcases hb with rfl | ⟨a, rfl, rfl⟩ | ⟨a, n, c, rfl, rfl⟩
      · exact top_map hng h1 _
      · exact top_ptr hng h1 _
      · exact top_sl hng h1 _
    · exact top_more (top_args hng h2 v hv b hb)

def Only (h h' : H) (fp : List Nat) : Prop := ∀ b, b < h.ctr → b ∉ fp → h'.bl.get b = h.bl.get b
theorem Only.refl (h : H) (fp : List Nat) : Only h h fp := fun _ _ _ => rfl
theorem only_put {b : Nat} {x : Blk} {f : Nat} {fp : List Nat} (hb : b ∈ fp) : Only h (put h b x f) fp := fun d _ hd => T.get_set_ne _ _ (fun e => hd (by rw [e]; exact hb))
theorem only_new {x : Blk} {fp : List Nat} : Only h (newB h x) fp := fun _ hd _ => T.get_set_ne _ _ (Nat.ne_of_lt hd)
theorem only_move {b : Nat} {x : Blk} {f : Nat} {fp : List Nat} (hb : b ∈ fp) : Only h (moveTo h b x f) fp := fun c hc hn => by
  have hcb : c ≠ b := fun e => hn (by rw [e]; exact hb)
  show (((h.bl.set b none).set h.ctr (some x)).get c) = _
  rw [T.get_set_ne _ _ (Nat.ne_of_lt hc), T.get_set_ne _ _ hcb]
theorem only_storeC {a : Addr} {vs : List Value} {fp : List Nat} (hb : a.block ∈ fp) (hs : storeC h a vs = some h') : Only h h' fp := by
  unfold storeC at hs
  split at hs
  · simp only [need_some, ok_some] at hs; obtain ⟨_, rfl⟩ := hs; exact only_put hb
  · simp only [bnd_some, need_some, ok_some] at hs; obtain ⟨_, _, _, rfl⟩ := hs; exact only_put hb
  · simp at hs
theorem only_storeB {a : Addr} {ws : List UInt8} {fp : List Nat} (hb : a.block ∈ fp) (hs : storeB h a ws = some h') : Only h h' fp := only_storeC hb (storeB_eq hs)
theorem only_update {t : TypeId} {k v : Value} {m : Nat} {fp : List Nat} (hb : m ∈ fp) (hs : aUpdate C t k v m h = some h') : Only h h' fp := by
  simp only [aUpdate, bnd_some, need_some] at hs
  obtain ⟨kd, _, _, ec, _, f, _, g⟩ := hs
  split at g <;> simp only [ok_some] at g <;> subst g <;> exact only_put hb
theorem only_delete {t : TypeId} {m k : Value} {fp : List Nat} (hb : ∀ r, m = .map (some r) → r ∈ fp) (hs : aDelete C t m k h = some h') : Only h h' fp := by
  simp only [aDelete, bnd_some, need_some] at hs
  obtain ⟨kd, _, _, g⟩ := hs
  split at g
  · simp at g; subst g; exact Only.refl _ _
  · simp only [bnd_some] at g
    obtain ⟨ec, _, f, _, g⟩ := g
    split at g <;> simp only [ok_some] at g <;> subst g <;> exact only_put (hb _ rfl)
  · simp at g
theorem only_copy {t : TypeId} {d x : Value} {q : Value × H} {fp : List Nat} (hb : ∀ (a : Addr) n c, d = .slice (some a) n c → a.block ∈ fp) (hs : aCopy C t d x h = some q) : Only h q.2 fp := by
  simp only [aCopy, bnd_some] at hs
  obtain ⟨ti, _, g⟩ := hs
  split at g
  · simp only [bnd_some] at g
    obtain ⟨ei, _, sl, _, g⟩ := g
    split at g
    · simp at g; subst g; exact Only.refl _ _
    · simp only [bnd_some] at g
      obtain ⟨cs, _, g⟩ := g
      split at g
      · simp only [bnd_some, ok_some] at g
        obtain ⟨h2, g1, rfl⟩ := g
        exact only_storeC (hb _ _ _ rfl) g1
      · simp at g
  · simp at g
theorem only_unsafeString {pt : TypeId} {p : Option Addr} {n : Nat} {q : Value × H} {fp : List Nat} (hb : ∀ a : Addr, p = some a → a.block ∈ fp) (hs : aUnsafeString C pt p n h = some q) : Only h q.2 fp := by
  unfold aUnsafeString at hs
  split at hs
  · simp at hs; subst hs; exact Only.refl _ _
  · simp at hs
  · simp only [bnd_some] at hs
    obtain ⟨pi, _, g⟩ := hs
    split at g
    · simp only [bnd_some, need_some] at g
      obtain ⟨ei, _, _, g⟩ := g
      split at g
      · simp only [need_some, ok_some] at g; obtain ⟨_, rfl⟩ := g; exact only_put (hb _ rfl)
      · simp only [need_some, bnd_some, ok_some] at g; obtain ⟨_, _, _, rfl⟩ := g; exact only_put (hb _ rfl)
      · simp at g
    · simp at g
theorem only_appendB {e : TypeId} {base : Option Addr} {len c : Nat} {new : List UInt8} {q : Value × H} {fp : List Nat} (hb : ∀ a : Addr, base = some a → a.block ∈ fp) (hs : appendB h e base len c new = some q) : Only h q.2 fp := by
  unfold appendB at hs
  split at hs
  · split at hs <;> simp only [ok_some] at hs <;> subst hs
    · exact Only.refl _ _
    · exact only_new
  · split at hs
    · simp at hs; subst hs; exact Only.refl _ _
    · split at hs
      · split at hs
        · simp only [need_some, ok_some] at hs; obtain ⟨_, rfl⟩ := hs; exact only_move (hb _ rfl)
        · simp at hs
      · split at hs
        · simp only [bnd_some, ok_some] at hs
          obtain ⟨h2, g1, rfl⟩ := hs
          exact only_storeB (a := Addr.add _ _) (by have := hb _ rfl; unfold Addr.add; split <;> exact this) g1
        · simp only [bnd_some, ok_some] at hs
          obtain ⟨old, _, rfl⟩ := hs
          exact only_new
theorem only_appendC {e : TypeId} {sz : Nat} {base : Option Addr} {len c n : Nat} {new : List Value} {q : Value × H} {fp : List Nat} (hb : ∀ a : Addr, base = some a → a.block ∈ fp) (hs : appendC h e sz base len c n new = some q) : Only h q.2 fp := by
  unfold appendC at hs
  split at hs
  · split at hs <;> simp only [ok_some] at hs <;> subst hs
    · exact Only.refl _ _
    · exact only_new
  · split at hs
    · simp at hs; subst hs; exact Only.refl _ _
    · split at hs
      · split at hs
        · simp only [need_some, ok_some] at hs; obtain ⟨_, rfl⟩ := hs; exact only_move (hb _ rfl)
        · simp at hs
      · split at hs
        · simp only [bnd_some, ok_some] at hs
          obtain ⟨h2, g1, rfl⟩ := hs
          exact only_storeC (a := Addr.add _ _) (by have := hb _ rfl; unfold Addr.add; split <;> exact this) g1
        · simp only [bnd_some, ok_some] at hs
          obtain ⟨old, _, rfl⟩ := hs
          exact only_new

/-- what an operation that writes leaves alone -/
theorem dirty_only (hng : C.ng ≤ bigLow) {o : Op} (hk : kindOf o = .dirty) {n : Nx} (ho : aOp o C tm h = some n) {fp : List Nat} (hfp : touchOf tm o = some fp) :
    (∃ v h', n = .val v h' ∧ Only h h' fp) := by
  cases o <;> simp only [kindOf] at hk <;> try (cases hk; done)
  case store t a x =>
    simp only [touchOf, Option.some.injEq] at hfp; subst hfp
    simp only [aOp, opStore, bnd_some, need_some, ok_some] at ho
    obtain ⟨v0, h1, A, h2, x0, h3, ti, h4, _, h', h6, rfl⟩ := ho
    refine ⟨_, _, rfl, only_storeC ?_ h6⟩
    cases v0 with
    | pointer q => cases q with
      | none => simp [addrOf] at h2
      | some q => simp [addrOf] at h2; subst h2; exact top_ptr hng h1 _
    | _ => simp [addrOf] at h2
  case mapUpdate t m k x =>
    simp only [touchOf, Option.some.injEq] at hfp; subst hfp
    simp only [aOp, opUpdate, bnd_some] at ho
    obtain ⟨m0, h1, k0, h2, x0, h3, h4⟩ := ho
    split at h4
    · simp only [bnd_some, ok_some] at h4
      obtain ⟨h', h5, rfl⟩ := h4
      exact ⟨_, _, rfl, only_update (top_map hng h1 _) h5⟩
    · simp at h4
  case insert t m k x =>
    simp only [touchOf, Option.some.injEq] at hfp; subst hfp
    simp only [aOp, opUpdate, bnd_some] at ho
    obtain ⟨m0, h1, k0, h2, x0, h3, h4⟩ := ho
    split at h4
    · simp only [bnd_some, ok_some] at h4
      obtain ⟨h', h5, rfl⟩ := h4
      exact ⟨_, _, rfl, only_update (top_map hng h1 _) h5⟩
    · simp at h4
  case call c =>
    simp only [aOp, opCall, bnd_some] at ho
    obtain ⟨args, h1, h2⟩ := ho
    cases hc : c.callee with
    | value f => rw [hc] at hk; simp at hk
    | invoke r m => rw [hc] at hk; simp at hk
    | builtin b =>
      rw [hc] at h2 hk
      simp only [touchOf, hc, Option.some.injEq] at hfp; subst hfp
      have hta := top_args hng h1
      simp only at h2
      unfold aBuiltin at h2
      split at h2
      · simp at hk
      · simp at hk
      · split at h2
        · simp only [bnd_some, valH, ok_some] at h2
          obtain ⟨q, h3, rfl⟩ := h2
          refine ⟨_, _, rfl, ?_⟩
          simp only [aAppend, bnd_some, need_some] at h3
          obtain ⟨ti, _, xi, _, _, h3⟩ := h3
          split at h3
          · simp only [bnd_some] at h3
            obtain ⟨ei, _, h3⟩ := h3
            split at h3
            · simp only [bnd_some, need_some] at h3
              obtain ⟨new, _, _, h3⟩ := h3
              exact only_appendB (fun a ha => by subst ha; exact hta _ List.mem_cons_self _ (.inr (.inr ⟨a, _, _, rfl, rfl⟩))) h3
            · simp only [bnd_some, need_some] at h3
              obtain ⟨nc, _, _, h3⟩ := h3
              exact only_appendC (fun a ha => by subst ha; exact hta _ List.mem_cons_self _ (.inr (.inr ⟨a, _, _, rfl, rfl⟩))) h3
          · simp at h3
        · simp at h2
      · split at h2
        · simp only [bnd_some, valH, ok_some] at h2
          obtain ⟨q, h3, rfl⟩ := h2
          exact ⟨_, _, rfl, only_copy (fun a n c ha => by subst ha; exact hta _ List.mem_cons_self _ (.inr (.inr ⟨a, n, c, rfl, rfl⟩))) h3⟩
        · simp at h2
      · simp at hk
      · simp at hk
      · simp at hk
      · split at h2
        · simp only [bnd_some, ok_some] at h2
          obtain ⟨h', h3, rfl⟩ := h2
          exact ⟨_, _, rfl, only_delete (fun r hr => by subst hr; exact hta _ List.mem_cons_self _ (.inl rfl)) h3⟩
        · simp at h2
      · simp at hk
      · split at h2
        · simp only [bnd_some, valH, ok_some] at h2
          obtain ⟨q, h3, rfl⟩ := h2
          exact ⟨_, _, rfl, only_unsafeString (fun a ha => by subst ha; exact hta _ List.mem_cons_self _ (.inr (.inl ⟨a, rfl, rfl⟩))) h3⟩
        · simp at h2
      · simp at h2
end
end Go.Ai
namespace Go.Ai
section
variable {P : Program} {C : Ctx} {ρ : Mp} {h : H} {w : World} {tm : T Value} {a : Act}

theorem pass_builtin (HC : CtxT P C) {b : Builtin} {ats : Array TypeId} {type : TypeId} {consts : Array Bool} {args args' : List Value} (hx : VRs ρ args args') {n : Nx} (ho : aBuiltin C b ats.toList args h = some n)
    (hk : b = .len ∨ b = .min ∨ b = .max ∨ b = .cap ∨ b = .unsafeSliceData) (r : b = .len → ∀ m, Value.map (some m) ∈ args → HAt ρ h w m) :
    Pass P ρ h w n ((builtin b ats type consts ⟨args'⟩).run P w) := by
  have at0 : ∀ {t : TypeId} {l : List TypeId}, ats.toList = t :: l → ats[0]? = some t := by
    intro t l e; rw [← Array.getElem?_toList, e]; rfl
  rcases hk with rfl | rfl | rfl | rfl | rfl <;> simp only [aBuiltin] at ho
  · split at ho
    · rename_i t l x e
      simp only [bnd_some, val_some] at ho
      obtain ⟨v, h1, rfl⟩ := ho
      obtain ⟨x', rfl, hx'⟩ := hx.one_inv
      obtain ⟨k1, k2⟩ := len_ok (P := P) (ty := type) (w := w) HC hx' (at0 e) h1 (fun b hb => r rfl b (by rw [hb]; simp))
      exact pass_of k1 k2
    · simp at ho
  · split at ho
    · rename_i x rest
      simp only [need_some, bnd_some, val_some] at ho
      obtain ⟨hf, v, h1, rfl⟩ := ho
      have := flats_eq hx hf
      subst this
      obtain ⟨k1, k2⟩ := plain_ok (P := P) h1
      exact pass_of (s := Builtin.min_ ats type ⟨x :: rest⟩) (k1 w) (k2 ρ)
    · simp at ho
  · split at ho
    · rename_i x rest
      simp only [need_some, bnd_some, val_some] at ho
      obtain ⟨hf, v, h1, rfl⟩ := ho
      have := flats_eq hx hf
      subst this
      obtain ⟨k1, k2⟩ := plain_ok (P := P) h1
      exact pass_of (s := Builtin.max_ ats type ⟨x :: rest⟩) (k1 w) (k2 ρ)
    · simp at ho
  · split at ho
    · rename_i t l x e
      simp only [bnd_some, val_some] at ho
      obtain ⟨v, h1, rfl⟩ := ho
      obtain ⟨x', rfl, hx'⟩ := hx.one_inv
      obtain ⟨k1, k2⟩ := cap_ok (P := P) (ty := type) (w := w) HC hx' (at0 e) h1
      exact pass_of k1 k2
    · simp at ho
  · split at ho
    · simp at ho; subst ho
      obtain ⟨x', rfl, hx'⟩ := hx.one_inv
      obtain ⟨rfl, rfl, rfl⟩ := hx'.nilSl_inv
      exact pass_of (s := Builtin.unsafeSliceData_ ats type #[.slice none 0 0]) rfl .nilPtr
    · rename_i A n c
      split at ho
      · simp at ho
      · rename_i hne
        simp at ho; subst ho
        obtain ⟨x', rfl, hx'⟩ := hx.one_inv
        obtain ⟨b, o, p, a', cap, rfl, hp, rfl, hl, hc, ha⟩ := hx'.sl_inv
        have hcap : cap ≠ 0 := by intro h0; apply hne; omega
        have ha := ha.resolve_left hcap
        subst ha
        exact pass_of (s := Builtin.unsafeSliceData_ ats type #[.slice (some ⟨p.blk, p.off + o, none⟩) n cap]) (Go.Lib.run_unsafeSliceData_row w ats type _ n cap hcap) (.ptr hp)
    · simp at ho

theorem pass_class (HC : CtxT P C) (hng : C.ng ≤ bigLow) (ht : TmR ρ tm a.tmps) (hg : GlR C.ng ρ) {o : Oper} {n : Nx} (hk : kindOf o.op = .none ∨ kindOf o.op = .pass) (ho : aOp o.op C tm h = some n)
    (r : kindOf o.op = .pass → ∀ fp, touchOf tm o.op = some fp → ∀ b ∈ fp, HAt ρ h w b) : Pass P ρ h w n ((execOp a.eval o).run P w) := by
  obtain ⟨dst, op, type, pos, after, guard⟩ := o
  simp only at ho hk r
  cases op <;> simp only [kindOf] at hk <;> (try (rcases hk with hk | hk <;> cases hk; done)) <;> simp only [aOp] at ho <;> (try simp only [execOp])
  all_goals first
    | exact opMove_ok ht hg ho
    | exact opPick_ok ht hg ho
    | exact opBuild_ok HC ht hg ho
    | exact opLoad_ok HC ht hg ho (fun b o he => r rfl _ rfl b (top_ptr hng he _))
    | exact opBin_ok HC ht hg ho
    | exact opUn_ok ht hg ho
    | exact opIface_ok HC ht hg ho
    | exact opFunc_ok ht hg ho
    | exact opSlice_ok HC ht hg ho
    | exact opFieldAddr_ok HC ht hg ho
    | exact opField_ok HC ht hg ho
    | exact opIndexAddr_ok HC ht hg ho
    | exact opIndex_ok HC ht hg ho
    | exact opLookup_ok HC ht hg ho (fun b he => r rfl _ rfl b (top_map hng he _))
    | exact opAssert_ok HC ht hg ho
    | exact opExtract_ok ht hg ho
    | skip
  · rename_i x
    exact opNilCheck_ok (o := ⟨dst, .nilCheck x, type, pos, after, guard⟩) ht hg rfl ho
  · rename_i c
    simp only [opCall, bnd_some] at ho
    obtain ⟨args, h1, h2⟩ := ho
    have hv := evs_ok (a := a) ht hg h1
    have hmap : c.args.map a.eval = ⟨c.args.toList.map a.eval⟩ := by apply Array.ext'; simp
    cases hc : c.callee with
    | value f => rw [hc] at hk; simp at hk
    | invoke rr m => rw [hc] at hk; simp at hk
    | builtin b =>
      rw [hc] at h2 hk
      simp only at h2
      simp only [resolve, hc, Sem.run_bind, Sem.run_pure, Result.andThen_ok, invoke, hmap]
      refine pass_builtin HC hv h2 ?_ ?_
      · cases b <;> simp at hk <;> simp
      · intro hb m hm
        subst hb
        exact r (by simp [kindOf, hc]) _ (by simp only [touchOf, hc]) m (top_args hng h1 _ hm m (.inl rfl))
end
end Go.Ai
namespace Go.Ai
theorem HR.low0 {ρ : Mp} {h : H} {w : World} (r : HR ρ h w) (l : Nat) : HR ρ (h.low0 l) w := ⟨r.dom, r.big, r.con, r.inj, r.fam, r.own⟩
theorem HR.unlow {ρ : Mp} {h : H} {w : World} {l : Nat} (r : HR ρ (h.low0 l) w) : HR ρ h w := ⟨r.dom, r.big, r.con, r.inj, r.fam, r.own⟩
/-- the mark of what is oldest among what was written, taken from two parts -/
theorem Ext.lowmin {ρ ρ' : Mp} {h h' : H} {w w' : World} {l : Nat} (e : Ext ρ (h.low0 l) w ρ' h' w') : Ext ρ h w ρ' (h'.low0 (Nat.min h.low h'.low)) w' where
  le := e.le
  ctr := e.ctr
  low := Nat.min_le_left _ _
  os := e.os
  tape := e.tape
  output := e.output
  size := e.size
  new := e.new
  keep := fun k hk hall => e.keep k hk fun b x p h1 h2 h3 => Nat.lt_of_lt_of_le (hall b x p h1 h2 h3) (Nat.min_le_right _ _)
  back := e.back
  abs := fun b hb hall => e.abs b hb fun x hx => Nat.lt_of_lt_of_le (hall x hx) (Nat.min_le_right _ _)
  full := e.full
/-- a lower mark says less -/
theorem Ext.lower {ρ ρ' : Mp} {h h' : H} {w w' : World} {l : Nat} (e : Ext ρ h w ρ' h' w') (hl : l ≤ h'.low) : Ext ρ h w ρ' (h'.low0 l) w' where
  le := e.le
  ctr := e.ctr
  low := Nat.le_trans hl e.low
  os := e.os
  tape := e.tape
  output := e.output
  size := e.size
  new := e.new
  keep := fun k hk hall => e.keep k hk fun b x p h1 h2 h3 => Nat.lt_of_lt_of_le (hall b x p h1 h2 h3) hl
  back := e.back
  abs := fun b hb hall => e.abs b hb fun x hx => Nat.lt_of_lt_of_le (hall x hx) hl
  full := e.full

section
variable {P : Program} {C : Ctx} {rd : Option Nat} {all : List Oper}
/-- what each step does, whichever it is -/
theorem StepAt.shape {o : Oper} {k : Nat} {s s' : St} {e : Option Ent} (t : StepAt P C rd all o k s s' e) : ∃ v, s'.tm = putT s.tm o.dst v ∧ s'.df = s.df ∧ s'.up = s.up := by
  cases t with
  | skip hw hs => subst hs; exact ⟨undef, rfl, rfl, rfl⟩
  | op rec hw hcall hround ho he hok hs =>
    obtain ⟨v, h1, _⟩ := one_congr (rd := rd) (tm' := s.tm) ho (fun _ _ => rfl)
    subst hs
    rw [h1]
    exact ⟨v, rfl, rfl, rfl⟩

theorem tm_shape {o : Oper} {s s1 : St} {rec : Rec} (ho : tOne (some 0) o s C rec = some (.ex .normal s1)) (rd' : Option Nat) : tOne rd' o s C rec = some (.ex .normal s1) := by
  obtain ⟨v, h1, h2⟩ := one_congr (rd := rd') (tm' := s.tm) ho (fun _ _ => rfl)
  rw [h1]
  exact h2

/-- the operations in the order of the text: what each state of the trace stands in relation with -/
theorem ref_run (HC : CtxT P C) {ops : Array Oper} {S : Nat → St} {E : Nat → Option Ent} {sz : Nat} (hall : all = ops.toList) (hS : ∀ k o, ops[k]? = some o → StepAt P C rd all o k (S k) (S (k + 1)) (E k)) (hdst : ∀ o ∈ ops.toList, dstOk sz o = true)
    {ρ0 : Mp} {a0 : Act} {w0 : World} {b : Frame} {cs0 cs : List Frame} (hs : StR ρ0 (S 0) a0 w0) (ha : a0.tmps.size = sz) (hb : Bok ρ0 rd (S 0).up b cs0 cs) (hg : GlR C.ng ρ0) :
    ∀ k, k ≤ ops.size → ∃ ρ a w cs', StR ρ (S k) a w ∧ a.tmps.size = sz ∧ Bok ρ rd (S k).up b cs0 cs' ∧ Ext ρ0 (S 0).hp w0 ρ (S k).hp w := by
  intro k
  induction k with
  | zero => intro _; exact ⟨ρ0, a0, w0, cs, hs, ha, hb, Ext.refl _ _ _⟩
  | succ k ih =>
    intro hk
    obtain ⟨ρ, a, w, cs', h1, h2, h3, h4⟩ := ih (by omega)
    have ho : ops[k]? = some ops[k] := Array.getElem?_eq_getElem (by omega)
    have hd := hdst ops[k] (by simp)
    have hdst' : ∀ t, (ops[k]).dst = some t → t < a.tmps.size := by
      intro t ht
      simp only [dstOk, ht] at hd
      rw [h2]; exact Nat.le_of_ble_eq_true hd
    have hst := hS k _ ho
    revert hst
    generalize E k = ek
    intro hst
    cases hst with
    | skip hw hs' =>
      rw [hs']
      exact ⟨ρ, a.put (ops[k]).dst undef, w, cs', ⟨h1.tm.put (.tuple .nil) hdst', by rw [Act.put_df]; exact h1.df, h1.hp⟩, by rw [Act.put_size']; exact h2, h3, h4⟩
    | @op s1 _ rec hw hcall hround hone he hok hs' =>
      rw [hall] at hw
      have hwant := h1.tm.wanted hw
      obtain ⟨e, s2, heq, hx⟩ := one_ok (P := P) (k := []) (rest := []) HC hcall hround (tm_shape hone rd) ho hwant (by rw [h2]; exact hd) (s := (S k).heap ((S k).hp.low0 bigLow)) ⟨h1.tm, h1.df, h1.hp.low0 _⟩ h3 (hg.mono h4.le)
      cases heq
      obtain ⟨ρ1, a1, w1, cs1, g1, g2, g3, g4, _⟩ := hx
      rw [hs']
      exact ⟨ρ1, a1, w1, cs1, ⟨g1.tm, g1.df, g1.hp.low0 _⟩, g2.trans h2, g3, h4.trans (Ext.lowmin (l := bigLow) g4)⟩

/-- memory as it stood, cut to the numbers that there were -/
theorem cut_HR {ρ ρ1 : Mp} {hN hj : H} {w w1 : World} (r : HR ρ hN w) (r1 : HR ρ1 hj w1) (agree : ∀ b x, hj.bl.get b = some x → hN.bl.get b = some x) (hdom : ∀ b x p, hj.bl.get b = some x → ρ b = some p → ∃ p1, ρ1 b = some p1) : HR (ρ.below hj.ctr) hj w where
  dom := fun b p hb => by
    unfold Mp.below at hb
    split at hb
    · exact ⟨by assumption, (r.dom _ _ hb).2⟩
    · cases hb
  big := r1.big
  con := fun b x p hx hb => by
    have hb := Mp.below_le ρ _ _ _ hb
    obtain ⟨p1, h1⟩ := hdom b x p hx hb
    exact (r.con _ _ _ (agree b x hx) hb).cutAt (fun b p h => (r1.dom b p h).1) (r1.con _ _ _ hx h1)
  inj := fun b b' x x' p p' hx hx' hb hb' he => r.inj _ _ _ _ _ _ (agree _ _ hx) (agree _ _ hx') (Mp.below_le ρ _ _ _ hb) (Mp.below_le ρ _ _ _ hb') he
  fam := r1.fam
  own := fun b x p hx hb => r.own _ _ _ (agree _ _ hx) (Mp.below_le ρ _ _ _ hb)

/-- the maps joined: what an operation added, beside what stood there -/
def Mp.join (ρ ρ' : Mp) (c c' : Nat) : Mp := fun b => if c ≤ b ∧ b < c' then ρ' b else ρ b
theorem Mp.join_le {ρ ρ' : Mp} {c c' : Nat} (h : ∀ b, c ≤ b → b < c' → ρ b = none) : ρ.le (ρ.join ρ' c c') := fun b p hb => by
  unfold Mp.join
  split
  · rename_i hh; rw [h b hh.1 hh.2] at hb; cases hb
  · exact hb
theorem Mp.join_le' {ρ ρ' : Mp} {c c' : Nat} (hnew : ∀ b p, ρ' b = some p → ρ.below c b = some p ∨ c ≤ b) (hdom : ∀ b p, ρ' b = some p → b < c') : ρ'.le (ρ.join ρ' c c') := fun b p hb => by
  unfold Mp.join
  split
  · exact hb
  · rename_i hh
    rcases hnew b p hb with h1 | h1
    · exact Mp.below_le ρ _ _ _ h1
    · exact absurd ⟨h1, hdom b p hb⟩ hh
end
end Go.Ai
namespace Go.Ai
theorem join_in {ρ ρ' : Mp} {c c' b : Nat} (h : c ≤ b ∧ b < c') : ρ.join ρ' c c' b = ρ' b := by unfold Mp.join; rw [if_pos h]
theorem join_out {ρ ρ' : Mp} {c c' b : Nat} (h : ¬ (c ≤ b ∧ b < c')) : ρ.join ρ' c c' b = ρ b := by unfold Mp.join; rw [if_neg h]

/-- 'Ext', but for what all new blocks have -/
structure ExtW (ρ : Mp) (h : H) (w : World) (ρ' : Mp) (h' : H) (w' : World) : Prop where
  le : ρ.le ρ'
  ctr : h.ctr ≤ h'.ctr
  low : h'.low ≤ h.low
  os : w'.os = w.os
  tape : w'.tape = w.tape
  output : w'.output = w.output
  size : w.heap.size ≤ w'.heap.size
  new : ∀ b p, ρ' b = some p → ρ b = some p ∨ h.ctr ≤ b
  keep : ∀ k, k < w.heap.size → (∀ b x p, h.bl.get b = some x → ρ b = some p → p.blk = k → famOf b x < h'.low) → w'.heap[k]? = w.heap[k]?
  back : ∀ b' x' p', h'.bl.get b' = some x' → ρ' b' = some p' → p'.blk < w.heap.size → ∃ b x p, h.bl.get b = some x ∧ ρ b = some p ∧ p.blk = p'.blk ∧ famOf b x = famOf b' x'
  abs : ∀ b, b < h.ctr → (∀ x, h.bl.get b = some x → famOf b x < h'.low) → h'.bl.get b = h.bl.get b
theorem Ext.toW {ρ ρ' : Mp} {h h' : H} {w w' : World} (e : Ext ρ h w ρ' h' w') : ExtW ρ h w ρ' h' w' := ⟨e.le, e.ctr, e.low, e.os, e.tape, e.output, e.size, e.new, e.keep, e.back, e.abs⟩
theorem ExtW.toExt {ρ ρ' : Mp} {h h' : H} {w w' : World} (e : ExtW ρ h w ρ' h' w') (full : ∀ b x, h'.bl.get b = some x → h.ctr ≤ b → b < h'.ctr → ∃ p, ρ' b = some p) : Ext ρ h w ρ' h' w' := ⟨e.le, e.ctr, e.low, e.os, e.tape, e.output, e.size, e.new, e.keep, e.back, e.abs, full⟩
theorem ExtW.trans {ρ ρ1 ρ2 : Mp} {h h1 h2 : H} {w w1 w2 : World} (a : ExtW ρ h w ρ1 h1 w1) (b : ExtW ρ1 h1 w1 ρ2 h2 w2) : ExtW ρ h w ρ2 h2 w2 where
  le := Mp.le_trans a.le b.le
  ctr := Nat.le_trans a.ctr b.ctr
  low := Nat.le_trans b.low a.low
  os := b.os.trans a.os
  tape := b.tape.trans a.tape
  output := b.output.trans a.output
  size := Nat.le_trans a.size b.size
  new := fun x p hx => (b.new x p hx).elim (fun hx => (a.new x p hx).elim .inl .inr) (fun hx => .inr (Nat.le_trans a.ctr hx))
  keep := fun k hk hf => by
    rw [b.keep k (Nat.lt_of_lt_of_le hk a.size) ?_, a.keep k hk fun b' x p h1 h2 h3 => Nat.lt_of_lt_of_le (hf b' x p h1 h2 h3) b.low]
    intro b' x' p' h1 h2 h3
    obtain ⟨b0, x0, p0, g1, g2, g3, g4⟩ := a.back b' x' p' h1 h2 (h3 ▸ hk)
    rw [← g4]
    exact hf b0 x0 p0 g1 g2 (g3.trans h3)
  back := fun b' x' p' h1 h2 h3 => by
    obtain ⟨b1, x1, p1, g1, g2, g3, g4⟩ := b.back b' x' p' h1 h2 (Nat.lt_of_lt_of_le h3 a.size)
    obtain ⟨b0, x0, p0, k1, k2, k3, k4⟩ := a.back b1 x1 p1 g1 g2 (g3 ▸ h3)
    exact ⟨b0, x0, p0, k1, k2, k3.trans g3, k4.trans g4⟩
  abs := fun c hc hf => by
    have e1 := a.abs c hc fun x hx => Nat.lt_of_lt_of_le (hf x hx) b.low
    rw [b.abs c (Nat.lt_of_lt_of_le hc a.ctr) fun x hx => hf x (e1 ▸ hx), e1]
/-- one mark for both -/
theorem ExtW.relow {ρ ρ' : Mp} {h h' : H} {w w' : World} {l : Nat} (e : ExtW ρ h w ρ' h' w') (hl : l ≤ h'.low) : ExtW ρ (h.low0 l) w ρ' (h'.low0 l) w' where
  le := e.le
  ctr := e.ctr
  low := Nat.le_refl _
  os := e.os
  tape := e.tape
  output := e.output
  size := e.size
  new := e.new
  keep := fun k hk hall => e.keep k hk fun b x p h1 h2 h3 => Nat.lt_of_lt_of_le (hall b x p h1 h2 h3) hl
  back := e.back
  abs := fun b hb hall => e.abs b hb fun x hx => Nat.lt_of_lt_of_le (hall x hx) hl

/-- an operation that only lays, run from memory as it stood: joined with what has been laid since -/
theorem lay_join {ρ0 ρ ρ' : Mp} {h0 hN hj h1 : H} {w0 w w' : World} (e0 : ExtW ρ0 h0 w0 ρ hN w) (r : HR ρ hN w) (rj : HR (ρ.below hj.ctr) hj w) (r' : HR ρ' h1 w') (e : Ext (ρ.below hj.ctr) hj w ρ' h1 w')
    (hclean : hj.ctr ≤ h1.low) (h0c : h0.ctr ≤ hj.ctr) (hN1 : h1.ctr ≤ hN.ctr) (agree : ∀ b, b < h1.ctr → h1.bl.get b = hN.bl.get b) (hnone : ∀ b, hj.ctr ≤ b → b < h1.ctr → ρ b = none) :
    HR (ρ.join ρ' hj.ctr h1.ctr) hN w' ∧ ExtW ρ0 h0 w0 (ρ.join ρ' hj.ctr h1.ctr) hN w' := by
  have le1 : ρ.le (ρ.join ρ' hj.ctr h1.ctr) := Mp.join_le hnone
  have le2 : ρ'.le (ρ.join ρ' hj.ctr h1.ctr) := Mp.join_le' (fun b p hb => e.new b p hb) (fun b p hb => (r'.dom b p hb).1)
  have hj1 : ∀ b x, hj.bl.get b = some x → h1.bl.get b = some x := fun b x hx => by
    rw [e.abs b (rj.big _ _ hx) fun y hy => by
      have := rj.fam _ _ hy; have := rj.big _ _ hy; omega]
    exact hx
  have hjN : ∀ b x, hj.bl.get b = some x → hN.bl.get b = some x := fun b x hx => by
    have hb := rj.big _ _ hx
    rw [← agree b (Nat.lt_of_lt_of_le hb e.ctr)]; exact hj1 b x hx
  have keep : ∀ k, k < w.heap.size → w'.heap[k]? = w.heap[k]? := fun k hk => e.keep k hk fun b x p h1' _ _ => by
    have := rj.fam _ _ h1'; have := rj.big _ _ h1'; omega
  have cases' : ∀ b p, ρ.join ρ' hj.ctr h1.ctr b = some p → (hj.ctr ≤ b ∧ b < h1.ctr ∧ ρ' b = some p) ∨ (¬ (hj.ctr ≤ b ∧ b < h1.ctr) ∧ ρ b = some p) := by
    intro b p hb
    by_cases hh : hj.ctr ≤ b ∧ b < h1.ctr
    · rw [join_in hh] at hb; exact .inl ⟨hh.1, hh.2, hb⟩
    · rw [join_out hh] at hb; exact .inr ⟨hh, hb⟩
  have mixed : ∀ b b' x x' p p', hj.ctr ≤ b → b < h1.ctr → ρ' b = some p → hN.bl.get b = some x → hN.bl.get b' = some x' → ρ b' = some p' → p.blk = p'.blk → b = b' := by
    intro b b' x x' p p' q1 q2 q3 q4 q5 q6 q7
    have hlt := (r.dom _ _ q6).2
    obtain ⟨b0, x0, p0, k1, k2, k3, _⟩ := e.back b x p (by rw [agree b q2]; exact q4) q3 (by rw [q7]; exact hlt)
    have hb0 : b0 = b' := r.inj _ _ _ _ _ _ (hjN _ _ k1) q5 (Mp.below_le ρ _ _ _ k2) q6 (k3.trans q7)
    have hbb : b = b0 := r'.inj _ _ _ _ _ _ (by rw [agree b q2]; exact q4) (hj1 _ _ k1) q3 (e.le _ _ k2) k3.symm
    exact hbb.trans hb0
  refine ⟨⟨?_, r.big, ?_, ?_, r.fam, ?_⟩, ⟨Mp.le_trans e0.le le1, e0.ctr, e0.low, e.os.trans e0.os, e.tape.trans e0.tape, e.output.trans e0.output, Nat.le_trans e0.size e.size, ?_, ?_, ?_, e0.abs⟩⟩
  · intro b p hb
    rcases cases' b p hb with ⟨_, h2, h3⟩ | ⟨_, h3⟩
    · exact ⟨by omega, (r'.dom _ _ h3).2⟩
    · exact ⟨(r.dom _ _ h3).1, Nat.lt_of_lt_of_le (r.dom _ _ h3).2 e.size⟩
  · intro b x p hx hb
    rcases cases' b p hb with ⟨_, h2, h3⟩ | ⟨_, h3⟩
    · exact (r'.con b x p (by rw [agree b h2]; exact hx) h3).mono le2 rfl
    · exact (r.con b x p hx h3).mono le1 (keep _ (r.dom _ _ h3).2)
  · intro b b' x x' p p' hx hx' hb hb' he
    rcases cases' b p hb with ⟨a1, a2, a3⟩ | ⟨_, a3⟩ <;> rcases cases' b' p' hb' with ⟨c1, c2, c3⟩ | ⟨_, c3⟩
    · exact r'.inj _ _ _ _ _ _ (by rw [agree b a2]; exact hx) (by rw [agree b' c2]; exact hx') a3 c3 he
    · exact mixed b b' x x' p p' a1 a2 a3 hx hx' c3 he
    · exact (mixed b' b x' x p' p c1 c2 c3 hx' hx a3 he.symm).symm
    · exact r.inj _ _ _ _ _ _ hx hx' a3 c3 he
  · intro b x p hx hb hf
    rcases cases' b p hb with ⟨_, h2, h3⟩ | ⟨_, h3⟩
    · exact r'.own b x p (by rw [agree b h2]; exact hx) h3 hf
    · exact r.own b x p hx h3 hf
  · intro b p hb
    rcases cases' b p hb with ⟨h2, _, _⟩ | ⟨_, h3⟩
    · exact .inr (by omega)
    · exact e0.new b p h3
  · intro k hk hall
    rw [keep k (Nat.lt_of_lt_of_le hk e0.size), e0.keep k hk hall]
  · intro b x p hx hb hlt
    rcases cases' b p hb with ⟨_, h2, h3⟩ | ⟨_, h3⟩
    · obtain ⟨b0, x0, p0, k1, k2, k3, k4⟩ := e.back b x p (by rw [agree b h2]; exact hx) h3 (Nat.lt_of_lt_of_le hlt e0.size)
      obtain ⟨b1, x1, p1, l1, l2, l3, l4⟩ := e0.back b0 x0 p0 (hjN _ _ k1) (Mp.below_le ρ _ _ _ k2) (by rw [k3]; exact hlt)
      exact ⟨b1, x1, p1, l1, l2, l3.trans k3, l4.trans k4⟩
    · exact e0.back b x p hx h3 hlt
end Go.Ai
namespace Go.Ai
section
variable {ops : Array Oper} {S : Nat → St}
/-- the temporaries of a run that has done D: each one is as it was behind the last of D that writes it -/
def TmInv (ops : Array Oper) (S : Nat → St) (D : Nat → Bool) (tmD : T Value) : Prop :=
  ∀ t m, m ≤ ops.size → (∀ i o, ops[i]? = some o → dstIs t o = true → (D i = true ↔ i < m)) → tmD.get t = (S m).tm.get t

/-- what an operation that is ready reads -/
theorem read_eq {D : Nat → Bool} {tmD : T Value} (hI : TmInv ops S D tmD) (hf : ∀ j k x y, ops[j]? = some x → ops[k]? = some y → k < j → confl ops.toList x y = true → (RL ops j).testBit k = true)
    (hc : Closed ops D) {j : Nat} {o : Oper} (ho : ops[j]? = some o) (hD : D j = false) (hr : ∀ i, (RL ops j).testBit i = true → D i = true) {t : Nat} (ht : readsT ops.toList t o = true) : tmD.get t = (S j).tm.get t := by
  have hj : j < ops.size := (Array.getElem?_eq_some_iff.1 ho).1
  refine hI t j (Nat.le_of_lt hj) fun i y hi hw => ?_
  obtain ⟨d, hd⟩ : ∃ d, y.dst = some d := by unfold dstIs at hw; split at hw <;> simp_all
  have hdt : d = t := by unfold dstIs at hw; rw [hd] at hw; exact Nat.eq_of_beq_eq_true hw
  subst hdt
  constructor
  · intro h1
    by_cases hlt : i < j
    · exact hlt
    · by_cases he : i = j
      · subst he; rw [hD] at h1; cases h1
      · have hcf : confl ops.toList y o = true := by simp [confl, hd, ht]
        have := hf i j y o hi ho (by omega) hcf
        have := hc i h1 j this
        rw [hD] at this; cases this
  · intro hlt
    have hcf : confl ops.toList o y = true := by simp [confl, hd, ht]
    exact hr i (hf j i o y ho hi hlt hcf)

theorem putT_ne {tm : T Value} {d : Option Nat} {v : Value} {t : Nat} (h : d ≠ some t) : (putT tm d v).get t = tm.get t := by
  cases d with
  | none => rfl
  | some d => exact T.get_set_ne _ _ (fun e => h (by rw [e]))
/-- one more is done -/
theorem tm_step {D : Nat → Bool} {tmD : T Value} (hI : TmInv ops S D tmD) (hf : ∀ j k x y, ops[j]? = some x → ops[k]? = some y → k < j → confl ops.toList x y = true → (RL ops j).testBit k = true)
    (hc : Closed ops D) {j : Nat} {o : Oper} (ho : ops[j]? = some o) (hD : D j = false) {v : Value} (hS : ∀ k y, ops[k]? = some y → ∃ u, (S (k + 1)).tm = putT (S k).tm y.dst u) (hv : (S (j + 1)).tm = putT (S j).tm o.dst v)
    (hput : ∀ t, o.dst = some t → (putT tmD o.dst v).get t = (putT (S j).tm o.dst v).get t) : TmInv ops S (fun i => decide (i = j) || D i) (putT tmD o.dst v) := by
  intro t m hm hw
  by_cases hdt : o.dst = some t
  · have hwj : dstIs t o = true := by simp [dstIs, hdt]
    have hjm : j < m := (hw j o ho hwj).1 (by simp)
    rw [hput t hdt, ← hv]
    -- no other writer between
    have key : ∀ k, j + 1 ≤ k → k ≤ m → (S (j + 1)).tm.get t = (S k).tm.get t := by
      intro k
      induction k with
      | zero => intro h; omega
      | succ k ih =>
        intro h1 h2
        by_cases he : j = k
        · subst he; rfl
        · rw [ih (by omega) (by omega)]
          have hk : ops[k]? = some ops[k] := Array.getElem?_eq_getElem (by omega)
          obtain ⟨u, hu⟩ := hS k _ hk
          rw [hu]
          by_cases hdk : (ops[k]).dst = some t
          · exfalso
            have hwk : dstIs t (ops[k]) = true := by simp [dstIs, hdk]
            have hDk := (hw k _ hk hwk).2 (by omega)
            have hDk : D k = true := by simpa [show ¬ (k = j) by omega] using hDk
            have hcf : confl ops.toList (ops[k]) o = true := by simp [confl, hdt, hwk]
            have := hc k hDk j (hf k j _ o hk ho (by omega) hcf)
            rw [hD] at this; cases this
          · exact (putT_ne hdk).symm
    exact key m (by omega) (Nat.le_refl _)
  · rw [putT_ne hdt]
    refine hI t m hm fun i y hi hwi => ?_
    have hij : i ≠ j := fun e => by
      subst e
      rw [ho] at hi; cases hi
      unfold dstIs at hwi
      split at hwi
      · rename_i d hd
        have := Nat.eq_of_beq_eq_true hwi
        subst this
        exact hdt hd
      · cases hwi
    have := hw i y hi hwi
    simpa [hij] using this
end
end Go.Ai
namespace Go.Ai
section
variable {P : Program} {C : Ctx} {rd : Option Nat} {all : List Oper}
/-- what a step does to memory, when it stands in relation with some world -/
structure StepMem (P : Program) (C : Ctx) (o : Oper) (k : Nat) (s s' : St) (e : Option Ent) : Prop where
  ctr : s.hp.ctr ≤ s'.hp.ctr
  clean : (∀ x, e = some x → x.kl ≠ 2) → ∀ b, b < s.hp.ctr → s'.hp.bl.get b = s.hp.bl.get b
theorem step_mem (HC : CtxT P C) {ops : Array Oper} {o : Oper} {k : Nat} {s s' : St} {e : Option Ent} (hall : all = ops.toList) (ho : ops[k]? = some o) (t : StepAt P C rd all o k s s' e)
    {ρ : Mp} {a : Act} {w : World} {b : Frame} {cs0 cs : List Frame} (hs : StR ρ s a w) (hd : dstOk a.tmps.size o = true) (hb : Bok ρ rd s.up b cs0 cs) (hg : GlR C.ng ρ) : s.hp.ctr ≤ s'.hp.ctr := by
  cases t with
  | skip hw hs' => rw [hs']; exact Nat.le_refl _
  | @op s1 _ rec hw hcall hround hone he hok hs' =>
    rw [hall] at hw
    have hwant := hs.tm.wanted hw
    obtain ⟨e2, s2, heq, hx⟩ := one_ok (P := P) (k := []) (rest := []) HC hcall hround (tm_shape hone rd) ho hwant hd (s := s.heap (s.hp.low0 bigLow)) ⟨hs.tm, hs.df, hs.hp.low0 _⟩ hb hg
    cases heq
    obtain ⟨ρ1, a1, w1, cs1, g1, g2, g3, g4, _⟩ := hx
    rw [hs']
    exact g4.ctr

/-- an operation of kind none or pass answers, and leaves memory as it is -/
theorem pass_val (HC : CtxT P C) (hng : C.ng ≤ bigLow) {ρ : Mp} {h : H} {w : World} {tm : T Value} {a : Act} (ht : TmR ρ tm a.tmps) (r : HR ρ h w) (hg : GlR C.ng ρ) {o : Oper} {n : Nx} (hk : kindOf o.op = .none ∨ kindOf o.op = .pass) (ho : aOp o.op C tm h = some n) : ∃ v, n = .val v h := by
  obtain ⟨v, v', h1, _⟩ := pass_class (P := P) (w := w) HC hng ht hg hk ho (fun _ _ _ b _ => r.at' b)
  exact ⟨v, h1⟩

theorem one_val {rec : Rec} {o : Oper} {s s1 : St} {v : Value} (ha : aOp o.op C s.tm s.hp = some (.val v s.hp)) (ho : tOne rd o s C rec = some (.ex .normal s1)) : s1 = s.with (putT s.tm o.dst v) s.hp := by
  simp only [tOne, bnd_some] at ho
  obtain ⟨n, h1, h2⟩ := ho
  rw [ha] at h1; cases h1
  simp [goNx, nxVal] at h2
  exact h2.symm

theorem ent_kind {k : Nat} {o : Op} {tm : T Value} {low ctr : Nat} {e : Option Ent} (he : ∀ es es', entOf k o tm es low ctr = some es' → es' = (match e with | some x => x :: es | none => es)) (hok : ∃ es es', entOf k o tm es low ctr = some es') :
    (kindOf o = .none ∧ e = none) ∨ (kindOf o = .pass ∧ e = some ⟨k, 0, touchOf tm o⟩) ∨ (kindOf o = .lays ∧ e = some ⟨k, (match Nat.blt low ctr with | true => 2 | false => 1), none⟩) ∨ (kindOf o = .dirty ∧ e = some ⟨k, 2, touchOf tm o⟩) := by
  obtain ⟨es, es', h⟩ := hok
  have h2 := he es es' h
  have key : ∀ x : Ent, es' = x :: es → e = some x := by
    intro x hx
    cases e with
    | none => simp only at h2; rw [h2] at hx; exact absurd (congrArg List.length hx) (by simp)
    | some y => simp only at h2; rw [h2] at hx; cases hx; rfl
  unfold entOf at h
  split at h
  · rename_i hk
    simp only [ok_some] at h
    refine .inl ⟨hk, ?_⟩
    cases e with
    | none => rfl
    | some y => simp only at h2; rw [← h] at h2; exact absurd (congrArg List.length h2) (by simp)
  · rename_i hk; simp only [ok_some] at h; exact .inr (.inl ⟨hk, key _ h.symm⟩)
  · rename_i hk; simp only [ok_some] at h; exact .inr (.inr (.inl ⟨hk, key _ h.symm⟩))
  · rename_i hk; simp only [ok_some] at h; exact .inr (.inr (.inr ⟨hk, key _ h.symm⟩))
  · simp at h

theorem step_clean (HC : CtxT P C) (hng : C.ng ≤ bigLow) {ops : Array Oper} {o : Oper} {k : Nat} {s s' : St} {e : Option Ent} (hall : all = ops.toList) (ho : ops[k]? = some o) (t : StepAt P C rd all o k s s' e)
    {ρ : Mp} {a : Act} {w : World} {b : Frame} {cs0 cs : List Frame} (hs : StR ρ s a w) (hd : dstOk a.tmps.size o = true) (hb : Bok ρ rd s.up b cs0 cs) (hg : GlR C.ng ρ) (hk2 : ∀ x, e = some x → x.kl ≠ 2) :
    ∀ c, c < s.hp.ctr → s'.hp.bl.get c = s.hp.bl.get c := by
  cases t with
  | skip hw hs' => rw [hs']; intro _ _; rfl
  | @op s1 _ rec hw hcall hround hone he hok hs' =>
    rw [hall] at hw
    have hwant := hs.tm.wanted hw
    obtain ⟨e2, s2, heq, hx⟩ := one_ok (P := P) (k := []) (rest := []) HC hcall hround (tm_shape hone rd) ho hwant hd (s := s.heap (s.hp.low0 bigLow)) ⟨hs.tm, hs.df, hs.hp.low0 _⟩ hb hg
    cases heq
    obtain ⟨ρ1, a1, w1, cs1, g1, g2, g3, g4, _⟩ := hx
    have same : (kindOf o.op = .none ∨ kindOf o.op = .pass) → s1.hp = s.hp.low0 bigLow := by
      intro hk
      have h0 := hone
      simp only [tOne, bnd_some] at h0
      obtain ⟨n, h1, _⟩ := h0
      obtain ⟨v, rfl⟩ := pass_val (P := P) (a := a) (w := w) HC hng hs.tm (hs.hp.low0 bigLow) hg hk h1
      rw [one_val h1 hone]; rfl
    intro c hc
    rw [hs']
    show s1.hp.bl.get c = _
    rcases ent_kind he hok with ⟨hk, _⟩ | ⟨hk, _⟩ | ⟨hk, hee⟩ | ⟨hk, hee⟩
    · rw [same (.inl hk)]; rfl
    · rw [same (.inr hk)]; rfl
    · have hlow : ¬ (s1.hp.low < s.hp.ctr) := by
        intro hlt
        have hb' : Nat.blt s1.hp.low s.hp.ctr = true := Nat.ble_eq_true_of_le hlt
        rw [hb'] at hee
        exact hk2 _ hee rfl
      exact g4.abs c hc fun x hx => by
        have h1 := hs.hp.fam _ _ hx
        omega
    · exact absurd rfl (hk2 _ hee)
end
end Go.Ai
namespace Go.Ai
namespace T
variable {α : Type}
noncomputable def only : T α → (Nat → Bool) → T α
  | .e, _ => .e
  | .n v l r, p => .n (if p 0 = true then v else none) (l.only fun k => p (2 * k + 1)) (r.only fun k => p (2 * k + 2))
theorem get_only : ∀ (t : T α) (p : Nat → Bool) (k : Nat), (t.only p).get k = if p k = true then t.get k else none
  | .e, p, k => by simp [only]
  | .n v l r, p, 0 => by simp [only]
  | .n v l r, p, k + 1 => by
    simp only [only, get_succ]
    by_cases h : k % 2 = 0
    · rw [if_pos h, if_pos h, get_only l]
      rw [show 2 * (k / 2) + 1 = k + 1 by omega]
    · rw [if_neg h, if_neg h, get_only r]
      rw [show 2 * (k / 2) + 2 = k + 1 by omega]
end T
section
variable {P : Program} {C : Ctx}

/-- an operation's answer, when it has a value -/
def Ans (rec : Rec) (n : Nx) (v : Value) (h' : H) : Prop :=
  n = .val v h' ∨ (∃ g args h, n = .call g args h ∧ rec (.call g args h) = some (.ret v h')) ∨ (∃ l args h, n = .yield l args h ∧ rec (.round l args h) = some (.ret v h'))

theorem one_ans {rec : Rec} {o : Oper} {s s1 : St} (ho : tOne (some 0) o s C rec = some (.ex .normal s1)) :
    ∃ n v h', aOp o.op C s.tm s.hp = some n ∧ Ans rec n v h' ∧ s1 = ⟨putT s.tm o.dst v, s.df, s.up, h'⟩ := by
  simp only [tOne, bnd_some] at ho
  obtain ⟨n, h1, h2⟩ := ho
  cases n with
  | val v h' => simp [goNx, nxVal] at h2; subst h2; exact ⟨_, v, h', h1, .inl rfl, rfl⟩
  | call g args h' =>
    simp only [goNx, nxCall, bnd_some] at h2
    obtain ⟨r, h3, h4⟩ := h2
    cases r with
    | ret v h'' => simp at h4; subst h4; exact ⟨_, v, h'', h1, .inr (.inl ⟨_, _, _, rfl, h3⟩), rfl⟩
    | pan ch h'' => simp at h4
    | ex e s2 => simp at h4
  | yield l args h' =>
    simp only [goNx, nxYield, bnd_some] at h2
    obtain ⟨r, h3, h4⟩ := h2
    cases r with
    | ret v h'' => simp at h4; subst h4; exact ⟨_, v, h'', h1, .inr (.inr ⟨_, _, _, rfl, h3⟩), rfl⟩
    | pan ch h'' => simp at h4
    | ex e s2 => simp at h4
  | panic v h' => simp [goNx, nxPanic] at h2
  | defer d h' => simp [goNx, nxDefer] at h2
  | recover h' => simp [goNx, nxRecover] at h2

theorem Ans.nodefer {rec : Rec} {o : Oper} {tm : T Value} {h : H} {n : Nx} {v : Value} {h' : H} (ha : aOp o.op C tm h = some n) (hn : Ans rec n v h') : ∀ c, o.op ≠ .defer c := by
  intro c hc
  rw [hc] at ha
  simp only [aOp, opDefer, bnd_some] at ha
  obtain ⟨args, _, h1⟩ := ha
  split at h1
  · simp only [bnd_some] at h1
    obtain ⟨fv, _, h1⟩ := h1
    split at h1
    · simp at h1; subst h1
      rcases hn with h | ⟨_, _, _, h, _⟩ | ⟨_, _, _, h, _⟩ <;> cases h
    · simp at h1
  · simp at h1

theorem one_put (HC : CtxT P C) {rec : Rec} (hcall : ∀ g args h out, rec (.call g args h) = some out → CallOk P C g args h out) (hround : ∀ l args h out, rec (.round l args h) = some out → RoundOk P C l args h out)
    {o : Oper} {tm : T Value} {h : H} {n : Nx} {v : Value} {h' : H} (ha : aOp o.op C tm h = some n) (hn : Ans rec n v h')
    {ρ : Mp} {a : Act} {w : World} {b : Frame} {k : List Item} {cs : List Frame} {ops : Array Oper} {i : Nat} {rest : List Nat} (hi : ops[i]? = some o) (hw : Region.wanted o (yielded ops a.tmps) = true)
    (ht : TmR ρ tm a.tmps) (hh : HR ρ h w) (hg : GlR C.ng ρ) :
    ∃ ρ' v' w', VR ρ' v v' ∧ HR ρ' h' w' ∧ Ext ρ h w ρ' h' w' ∧ Steps P (lone (b.atR a (.inRegion ops (i :: rest) :: k)) cs w) (lone (b.atR (a.put o.dst v') (.inRegion ops rest :: k)) cs w') := by
  have hx := aOp_ok (P := P) (a := a) HC ht hg hh ha
  have hnd := hn.nodefer ha
  rcases hn with rfl | ⟨g, args, h1, rfl, h3⟩ | ⟨l, args, h1, rfl, h3⟩
  · obtain ⟨v0, h0, ρ', w', nx, v', he, hr, hnx, hv, hh, hext⟩ := hx
    cases he
    refine ⟨ρ', v', w', hv, hh, hext, ?_⟩
    have hsem := semAt_of (P := P) (b := b) (a := a) hr (.inr hnd)
    rcases hnx with rfl | ⟨rfl, rfl⟩
    · exact .one (stepR_value hi hw hsem)
    · exact .one (stepR_skip' hi hw hsem)
  · obtain ⟨rfl, args', hargs, hr⟩ := hx
    rcases hcall _ _ _ _ h3 ρ w args' (b.atR a (.inRegion ops (i :: rest) :: k) :: cs) hargs hh hg with ⟨v, h', ρ', v', w', he, hv, hh, hext, hret⟩ | ⟨ch, h', ρ', ch', w', he, _⟩
    · cases he
      refine ⟨ρ', v', w', hv, hh, hext, ?_⟩
      rcases hret with hret | ⟨hen, hst⟩
      · rw [hret] at hr
        exact .one (stepR_value hi hw (semAt_of hr (.inr hnd)))
      · rw [hen] at hr
        obtain ⟨fr, s1, s2, s3⟩ := hst
        refine .head (stepR_enter hi hw (semAt_of hr (.inr hnd))) (s1.trans (.one ?_))
        rw [← fin_put hi]
        exact step_leave_returned s3
    · cases he
  · obtain ⟨rfl, p, args', hp, hargs, hr⟩ := hx
    obtain ⟨v, h', ρ', v', w', he, hv, hh, hext, fn, tmps, assign, body, hy, hst⟩ := hround _ _ _ _ h3 ρ w p args' (b.atR a (.inRegion ops (i :: rest) :: k)) cs hp hargs hh hg
    cases he
    refine ⟨ρ', v', w', hv, hh, hext, ?_⟩
    rw [hy] at hr
    refine .head (stepR_round hi hw (semAt_of hr (.inr hnd))) ?_
    rw [fin_put hi] at hst
    exact hst

theorem reads_operand {all : List Oper} {o : Oper} {t : Nat} (h : Operand.tmp t ∈ o.op.operands) : readsT all t o = true := by
  unfold readsT
  rw [Bool.or_eq_true]
  left
  rw [List.any_eq_true]
  exact ⟨.tmp t, by simpa using h, Nat.beq_refl t⟩
theorem wantedA_congr {all : List Oper} {o : Oper} {tm tm' : T Value} (h : ∀ t, readsT all t o = true → tm'.get t = tm.get t) : wantedA all o tm' = wantedA all o tm := by
  unfold wantedA
  cases hg : o.guard with
  | none => rfl
  | some jw =>
    obtain ⟨j, want⟩ := jw
    simp only
    cases hj : all[j]? with
    | none => rfl
    | some g =>
      cases hd : g.dst with
      | none => simp only [getO_eq, bnd, hd]
      | some d =>
        have : tm'.get d = tm.get d := h d (by
          unfold readsT
          rw [Bool.or_eq_true]
          right
          simp only [hg, hj, dstIs, hd, Nat.beq_refl])
        simp only [getO_eq, bnd, hd, this]
end
end Go.Ai
namespace Go.Ai
section
variable {P : Program} {C : Ctx}

/-- a step, against a world with which it stands in relation -/
theorem step_ext (HC : CtxT P C) (hng : C.ng ≤ bigLow) {rd : Option Nat} {all : List Oper} {ops : Array Oper} {o : Oper} {k : Nat} {s s' : St} {e : Option Ent} (hall : all = ops.toList) (ho : ops[k]? = some o) (t : StepAt P C rd all o k s s' e)
    {ρ : Mp} {a : Act} {w : World} (ht : TmR ρ s.tm a.tmps) (hh : HR ρ s.hp w) (hg : GlR C.ng ρ) :
    (∃ ρ1 w1, HR ρ1 s'.hp w1 ∧ Ext ρ s.hp w ρ1 s'.hp w1 ∧ ∃ v v', VR ρ1 v v' ∧ s' = ⟨putT s.tm o.dst v, s.df, s.up, s'.hp⟩) ∧
    ((e = none ∨ ∃ x, e = some x ∧ x.kl = 0) → s'.hp.ctr = s.hp.ctr ∧ s'.hp.bl = s.hp.bl) ∧
    ((∀ x, e = some x → x.kl ≠ 2) → ∀ c, c < s.hp.ctr → s'.hp.bl.get c = s.hp.bl.get c) ∧
    (∀ fp, e = some ⟨k, 2, some fp⟩ → ∀ c, c < s.hp.ctr → c ∉ fp → s'.hp.bl.get c = s.hp.bl.get c) ∧
    s'.hp.low ≤ s.hp.low := by
  cases t with
  | skip hw hs' =>
    subst hs'
    refine ⟨⟨ρ, w, hh, Ext.refl _ _ _, undef, undef, .tuple .nil, rfl⟩, fun _ => ⟨rfl, rfl⟩, fun _ _ _ => rfl, ?_, Nat.le_refl _⟩
    intro fp hfp; cases hfp
  | @op s1 _ rec hw hcall hround hone he hok hs' =>
    rw [hall] at hw
    have hwant := ht.wanted hw
    obtain ⟨n, v, h', ha, hn, rfl⟩ := one_ans hone
    have ha : aOp o.op C s.tm (s.hp.low0 bigLow) = some n := ha
    obtain ⟨ρ1, v', w1, q1, q2, q3, _⟩ := one_put (P := P) (b := (default : Frame)) (k := []) (cs := []) (rest := []) HC hcall hround ha hn ho hwant ht (hh.low0 bigLow) hg
    have same : (kindOf o.op = .none ∨ kindOf o.op = .pass) → h' = s.hp.low0 bigLow := by
      intro hk
      obtain ⟨v2, rfl⟩ := pass_val (P := P) (a := a) (w := w) HC hng ht (hh.low0 bigLow) hg hk ha
      rcases hn with h | ⟨_, _, _, h, _⟩ | ⟨_, _, _, h, _⟩
      · cases h; rfl
      · cases h
      · cases h
    have hkind := ent_kind he hok
    subst hs'
    refine ⟨⟨ρ1, w1, q2.low0 _, Ext.lowmin (l := bigLow) q3, v, v', q1, rfl⟩, ?_, ?_, ?_, Nat.min_le_left _ _⟩
    · intro hen
      have hk : kindOf o.op = .none ∨ kindOf o.op = .pass := by
        rcases hkind with ⟨hk, _⟩ | ⟨hk, _⟩ | ⟨hk, hee⟩ | ⟨hk, hee⟩
        · exact .inl hk
        · exact .inr hk
        · exfalso
          rcases hen with hen | ⟨x, hx, hx0⟩
          · rw [hee] at hen; cases hen
          · rw [hee] at hx; cases hx
            revert hx0
            simp only
            split <;> intro h0 <;> cases h0
        · exfalso
          rcases hen with hen | ⟨x, hx, hx0⟩
          · rw [hee] at hen; cases hen
          · rw [hee] at hx; cases hx; cases hx0
      rw [same hk]
      exact ⟨rfl, rfl⟩
    · intro hk2 c hc
      show h'.bl.get c = _
      rcases hkind with ⟨hk, _⟩ | ⟨hk, _⟩ | ⟨hk, hee⟩ | ⟨hk, hee⟩
      · rw [same (.inl hk)]; rfl
      · rw [same (.inr hk)]; rfl
      · have hlow : ¬ (h'.low < s.hp.ctr) := by
          intro hlt
          have hb' : Nat.blt h'.low s.hp.ctr = true := Nat.ble_eq_true_of_le hlt
          simp only [hb'] at hee
          exact hk2 _ hee rfl
        exact q3.abs c hc fun x hx => by
          have h1 := hh.fam _ _ hx
          omega
      · exact absurd rfl (hk2 _ hee)
    · intro fp hfp c hc hnc
      show h'.bl.get c = _
      rcases hkind with ⟨hk, hee⟩ | ⟨hk, hee⟩ | ⟨hk, hee⟩ | ⟨hk, hee⟩
      · rw [hfp] at hee; cases hee
      · rw [hfp] at hee; cases hee
      · rw [hfp] at hee; simp at hee
      · rw [hfp] at hee
        simp only [Option.some.injEq, Ent.mk.injEq, true_and] at hee
        obtain ⟨v2, h2, rfl, ho2⟩ := dirty_only hng hk ha hee.symm
        rcases hn with h | ⟨_, _, _, h, _⟩ | ⟨_, _, _, h, _⟩
        · cases h; exact ho2 c hc hnc
        · cases h
        · cases h

/-- what is known of the run in the order of the text -/
structure Facts (P : Program) (C : Ctx) (rd : Option Nat) (ops : Array Oper) (S : Nat → St) (E : Nat → Option Ent) (sz : Nat) (ρ0 : Mp) (w0 : World) : Prop where
  step : ∀ (k : Nat) (o : Oper), ops[k]? = some o → StepAt P C rd ops.toList o k (S k) (S (k + 1)) (E k)
  edges : ∀ (k : Nat) (o : Oper), ops[k]? = some o → edgesOk k o = true
  conf : ∀ (j k : Nat) (x y : Oper), ops[j]? = some x → ops[k]? = some y → k < j → confl ops.toList x y = true → (RL ops j).testBit k = true
  pair : ∀ k k', k' < k → k < ops.size → ∀ x y, E k = some x → E k' = some y → pairOk (RL ops k) x y = true
  idx : ∀ k x, k < ops.size → E k = some x → x.i = k
  dst : ∀ (k : Nat) (o : Oper), ops[k]? = some o → dstOk sz o = true
  put : ∀ (k : Nat) (o : Oper), ops[k]? = some o → ∃ v, S (k + 1) = ⟨putT (S k).tm o.dst v, (S k).df, (S k).up, (S (k + 1)).hp⟩
  ctr : ∀ k, k < ops.size → (S k).hp.ctr ≤ (S (k + 1)).hp.ctr
  gone : ∀ k, k < ops.size → ∀ c, c < (S k).hp.ctr → (S k).hp.bl.get c = none → (S (k + 1)).hp.bl.get c = none
  same : ∀ k, k < ops.size → (E k = none ∨ ∃ x, E k = some x ∧ x.kl = 0) → (S (k + 1)).hp.ctr = (S k).hp.ctr ∧ (S (k + 1)).hp.bl = (S k).hp.bl
  clean : ∀ k, k < ops.size → (∀ x, E k = some x → x.kl ≠ 2) → ∀ c, c < (S k).hp.ctr → (S (k + 1)).hp.bl.get c = (S k).hp.bl.get c
  only : ∀ k, k < ops.size → ∀ fp, E k = some ⟨k, 2, some fp⟩ → ∀ c, c < (S k).hp.ctr → c ∉ fp → (S (k + 1)).hp.bl.get c = (S k).hp.bl.get c
  low : ∀ k, k < ops.size → (S (k + 1)).hp.low ≤ (S k).hp.low
  ref : ∀ k, k ≤ ops.size → ∃ (ρ : Mp) (a : Act) (w : World), TmR ρ (S k).tm a.tmps ∧ HR ρ (S k).hp w ∧ Ext ρ0 (S 0).hp w0 ρ (S k).hp w
  dom0 : ∀ c p, ρ0 c = some p → c < (S 0).hp.ctr

theorem facts_of (HC : CtxT P C) (hng : C.ng ≤ bigLow) {rd : Option Nat} {ops : Array Oper} {sz : Nat} (hdraw : drawOk ops.toList ops.toList 0 [] = true) (hdst : ∀ o ∈ ops.toList, dstOk sz o = true)
    {s sf : St} (tr : Trace P C rd ops.toList ops.toList 0 s [] [] sf) {ρ0 : Mp} {a0 : Act} {w0 : World} {b : Frame} {cs0 cs : List Frame} (hs : StR ρ0 s a0 w0) (ha : a0.tmps.size = sz) (hb : Bok ρ0 rd s.up b cs0 cs) (hg : GlR C.ng ρ0) :
    ∃ S E, S 0 = s ∧ S ops.size = sf ∧ Facts P C rd ops S E sz ρ0 w0 := by
  obtain ⟨S, E, e1, e2, e3, e4, _, _⟩ := trace_data tr
  obtain ⟨r1, r2⟩ := region_facts hdraw
  subst e1
  have hstep : ∀ (k : Nat) (o : Oper), ops[k]? = some o → StepAt P C rd ops.toList o k (S k) (S (k + 1)) (E k) := by
    intro k o ho
    have := (e3 k o (by simpa using ho)).2.1
    simpa using this
  have href := ref_run (P := P) HC (all := ops.toList) (ops := ops) (S := S) (E := E) (sz := sz) rfl hstep hdst hs ha hb hg
  have hext : ∀ (k : Nat) (o : Oper), ops[k]? = some o → ∃ (ρ : Mp) (w : World), (∃ ρ1 w1, HR ρ1 (S (k + 1)).hp w1 ∧ Ext ρ (S k).hp w ρ1 (S (k + 1)).hp w1 ∧ ∃ v v', VR ρ1 v v' ∧ S (k + 1) = ⟨putT (S k).tm o.dst v, (S k).df, (S k).up, (S (k + 1)).hp⟩) ∧
      ((E k = none ∨ ∃ x, E k = some x ∧ x.kl = 0) → (S (k + 1)).hp.ctr = (S k).hp.ctr ∧ (S (k + 1)).hp.bl = (S k).hp.bl) ∧
      ((∀ x, E k = some x → x.kl ≠ 2) → ∀ c, c < (S k).hp.ctr → (S (k + 1)).hp.bl.get c = (S k).hp.bl.get c) ∧
      (∀ fp, E k = some ⟨k, 2, some fp⟩ → ∀ c, c < (S k).hp.ctr → c ∉ fp → (S (k + 1)).hp.bl.get c = (S k).hp.bl.get c) ∧
      (S (k + 1)).hp.low ≤ (S k).hp.low := by
    intro k o ho
    obtain ⟨ρ, a, w, cs', h1, h2, h3, h4⟩ := href k (by have := (Array.getElem?_eq_some_iff.1 ho).1; omega)
    exact ⟨ρ, w, step_ext (P := P) HC hng rfl ho (hstep k o ho) h1.tm h1.hp (hg.mono h4.le)⟩
  have at' : ∀ k, k < ops.size → ops[k]? = some ops[k]! := by
    intro k hk
    rw [Array.getElem?_eq_getElem hk, getElem!_pos ops k hk]
  refine ⟨S, E, rfl, by simpa using e2, ?_⟩
  exact {
    step := hstep
    edges := r1
    conf := r2
    pair := fun k k' h1 h2 x y hx hy => e4 k k' (Nat.zero_le _) h1 (by simpa using h2) x y hx hy
    idx := fun k x hk hx => by
      have := (e3 k _ (by simpa using at' k hk)).2.2 x (by simpa using hx)
      simpa using this
    dst := fun k o ho => hdst o (List.mem_of_getElem? (by simpa using ho : ops.toList[k]? = some o))
    put := fun k o ho => by obtain ⟨ρ, w, ⟨ρ1, w1, _, _, v, v', _, q⟩, _⟩ := hext k o ho; exact ⟨v, q⟩
    ctr := fun k hk => by obtain ⟨ρ, w, ⟨ρ1, w1, _, q, _⟩, _⟩ := hext k _ (at' k hk); exact q.ctr
    gone := fun k hk c hc hn => by
      obtain ⟨ρ, w, ⟨ρ1, w1, _, q, _⟩, _⟩ := hext k _ (at' k hk)
      rw [q.abs c hc fun x hx => by rw [hn] at hx; cases hx]; exact hn
    same := fun k hk => by obtain ⟨ρ, w, _, q, _⟩ := hext k _ (at' k hk); exact q
    clean := fun k hk => by obtain ⟨ρ, w, _, _, q, _⟩ := hext k _ (at' k hk); exact q
    only := fun k hk => by obtain ⟨ρ, w, _, _, _, q, _⟩ := hext k _ (at' k hk); exact q
    low := fun k hk => by obtain ⟨ρ, w, _, _, _, _, q⟩ := hext k _ (at' k hk); exact q
    ref := fun k hk => by obtain ⟨ρ, a, w, cs', h1, _, _, h4⟩ := href k hk; exact ⟨ρ, a, w, h1.tm, h1.hp, h4⟩
    dom0 := fun c p hc => (hs.hp.dom c p hc).1 }
end
end Go.Ai
namespace Go.Ai
namespace T
variable {α : Type}
/-- of one shape -/
def Same : T α → T α → Prop
  | .e, .e => True
  | .n _ l r, .n _ l' r' => Same l l' ∧ Same r r'
  | _, _ => False
theorem Same.refl : ∀ t : T α, Same t t
  | .e => trivial
  | .n _ l r => ⟨Same.refl l, Same.refl r⟩
theorem Same.trans : ∀ {a b c : T α}, Same a b → Same b c → Same a c
  | .e, .e, .e, _, _ => trivial
  | .n _ _ _, .n _ _ _, .n _ _ _, h, k => ⟨Same.trans h.1 k.1, Same.trans h.2 k.2⟩
theorem Same.symm : ∀ {a b : T α}, Same a b → Same b a
  | .e, .e, _ => trivial
  | .n _ _ _, .n _ _ _, h => ⟨Same.symm h.1, Same.symm h.2⟩
theorem Same.set : ∀ (t : T α) (k : Nat) (x : Option α), Same (t.set k x) t
  | .e, _, _ => trivial
  | .n _ l r, 0, x => ⟨Same.refl l, Same.refl r⟩
  | .n _ l r, k + 1, x => by
    rw [set_succ]
    split
    · exact ⟨Same.set l _ x, Same.refl r⟩
    · exact ⟨Same.refl l, Same.set r _ x⟩
theorem Same.get_set : ∀ {t u : T α} (k : Nat) (x : Option α), Same t u → (t.set k x).get k = (u.set k x).get k
  | .e, .e, k, x, _ => by simp
  | .n _ l r, .n _ l' r', 0, x, _ => by simp
  | .n _ l r, .n _ l' r', k + 1, x, h => by
    rw [set_succ, set_succ]
    by_cases hk : k % 2 = 0
    · rw [if_pos hk, if_pos hk, get_succ, get_succ, if_pos hk, if_pos hk]; exact Same.get_set _ x h.1
    · rw [if_neg hk, if_neg hk, get_succ, get_succ, if_neg hk, if_neg hk]; exact Same.get_set _ x h.2
end T
theorem same_putT (tm : T Value) (d : Option Nat) (v : Value) : T.Same (putT tm d v) tm := by
  cases d with
  | none => exact T.Same.refl _
  | some d => exact T.Same.set _ _ _

theorem apart_spec {a b : Option (List Nat)} (h : apart a b = true) : ∃ fa fb, a = some fa ∧ b = some fb ∧ ∀ x ∈ fa, x ∉ fb := by
  unfold apart at h
  split at h
  · rename_i fa fb
    refine ⟨fa, fb, rfl, rfl, fun x hx hb => ?_⟩
    rw [List.all_eq_true] at h
    have := h x hx
    rw [List.all_eq_true] at this
    have := this x hb
    simp at this
  · cases h
theorem pair_cases {rx : Nat} {x y : Ent} (h : pairOk rx x y = true) (hn : rx.testBit y.i = false) :
    (x.kl = 2 → y.kl = 0 → apart x.fp y.fp = true) ∧ (x.kl = 0 → y.kl = 2 → apart x.fp y.fp = true) ∧ ¬ (x.kl = 2 ∧ y.kl ≠ 0) ∧ ¬ (y.kl = 2 ∧ x.kl ≠ 0) := by
  unfold pairOk at h
  rw [hn] at h
  simp only at h
  split at h
  · rename_i h1 h2
    exact ⟨fun _ _ => h, fun _ _ => h, fun hh => hh.2 h2, fun hh => by omega⟩
  · rename_i h1 h2
    exact ⟨fun _ _ => h, fun _ _ => h, fun hh => by omega, fun hh => hh.2 h1⟩
  · cases h
  · cases h
  · rename_i h1 h2 h3 h4
    exact ⟨fun a b => (h3 a b).elim, fun a b => (h4 a b).elim, fun hh => h1 hh.1, fun hh => h2 hh.1⟩

theorem HR_grow {ρ ρr : Mp} {h h' : H} {w wr : World} (r : HR ρ h w) (rr : HR ρr h' wr) (hc : h.ctr ≤ h'.ctr) (ag : ∀ b, b < h.ctr → h'.bl.get b = h.bl.get b) : HR ρ h' w where
  dom := fun b p hb => ⟨Nat.lt_of_lt_of_le (r.dom b p hb).1 hc, (r.dom b p hb).2⟩
  big := rr.big
  con := fun b x p hx hb => r.con b x p (by rw [← ag b (r.dom b p hb).1]; exact hx) hb
  inj := fun b b' x x' p p' hx hx' hb hb' he => r.inj b b' x x' p p' (by rw [← ag b (r.dom b p hb).1]; exact hx) (by rw [← ag b' (r.dom b' p' hb').1]; exact hx') hb hb' he
  fam := rr.fam
  own := fun b x p hx hb => r.own b x p (by rw [← ag b (r.dom b p hb).1]; exact hx) hb
theorem ExtW_grow {ρ0 ρ : Mp} {h0 h h' : H} {w0 w : World} (e : ExtW ρ0 h0 w0 ρ h w) (r : HR ρ h w) (hc : h.ctr ≤ h'.ctr) (ag : ∀ b, b < h.ctr → h'.bl.get b = h.bl.get b) (hl : h'.low = h.low) : ExtW ρ0 h0 w0 ρ h' w where
  le := e.le
  ctr := Nat.le_trans e.ctr hc
  low := hl ▸ e.low
  os := e.os
  tape := e.tape
  output := e.output
  size := e.size
  new := e.new
  keep := fun k hk hall => e.keep k hk fun b x p h1 h2 h3 => hl ▸ hall b x p h1 h2 h3
  back := fun b' x' p' h1 h2 h3 => e.back b' x' p' (by rw [← ag b' (r.dom b' p' h2).1]; exact h1) h2 h3
  abs := fun b hb hall => by rw [ag b (Nat.lt_of_lt_of_le hb e.ctr)]; exact e.abs b hb fun x hx => hl ▸ hall x hx

theorem touchOf_congr {o : Op} {tm tm' : T Value} (h : ∀ t, Operand.tmp t ∈ o.operands → tm'.get t = tm.get t) : touchOf tm' o = touchOf tm o := by
  have key : ∀ x ∈ o.operands, ev bigLow tm' x = ev bigLow tm x := fun x hx => by
    cases x with
    | tmp t => simp only [ev]; rw [h t hx]
    | _ => rfl
  have tb : ∀ x ∈ o.operands, ∀ r, topBlock tm' x r = topBlock tm x r := fun x hx r => by unfold topBlock; rw [key x hx]
  cases o <;> simp only [Op.operands] at tb <;> simp only [touchOf]
  case load t x => rw [tb x (by simp)]
  case store t x y => rw [tb x (by simp)]
  case lookup t m k c => rw [tb m (by simp)]
  case mapUpdate t m k x => rw [tb m (by simp)]
  case insert t m k x => rw [tb m (by simp)]
  case call c =>
    cases hc : c.callee with
    | builtin b =>
      simp only [Call.operands] at tb
      simp only
      have : ∀ l : List Operand, (∀ x ∈ l, x ∈ c.args.toList) → l.foldr (topBlock tm') [] = l.foldr (topBlock tm) [] := by
        intro l
        induction l with
        | nil => intro _; rfl
        | cons x xs ih =>
          intro hl
          simp only [List.foldr_cons]
          rw [ih (fun y hy => hl y (by simp [hy])), tb x (by have := hl x (by simp); simp at this; simp [this])]
      rw [this _ fun x hx => hx]
    | value f => rfl
    | invoke r m => rfl

section
variable {P : Program} {C : Ctx} {rd : Option Nat} {ops : Array Oper} {S : Nat → St} {E : Nat → Option Ent} {sz : Nat} {ρ0 : Mp} {w0 : World}

def Dirty (E : Nat → Option Ent) (k : Nat) : Prop := ∃ x, E k = some x ∧ x.kl = 2

namespace Facts
variable (F : Facts P C rd ops S E sz ρ0 w0)
include F
theorem ctr_mono {i : Nat} : ∀ {j : Nat}, i ≤ j → j ≤ ops.size → (S i).hp.ctr ≤ (S j).hp.ctr := by
  intro j
  induction j with
  | zero => intro h _; have : i = 0 := by omega
            subst this; exact Nat.le_refl _
  | succ j ih =>
    intro h hj
    by_cases e : i = j + 1
    · subst e; exact Nat.le_refl _
    · exact Nat.le_trans (ih (by omega) (by omega)) (F.ctr j (by omega))
theorem low_mono {i : Nat} : ∀ {j : Nat}, i ≤ j → j ≤ ops.size → (S j).hp.low ≤ (S i).hp.low := by
  intro j
  induction j with
  | zero => intro h _; have : i = 0 := by omega
            subst this; exact Nat.le_refl _
  | succ j ih =>
    intro h hj
    by_cases e : i = j + 1
    · subst e; exact Nat.le_refl _
    · exact Nat.le_trans (F.low j (by omega)) (ih (by omega) (by omega))
theorem gone_mono {i c : Nat} (hc : c < (S i).hp.ctr) (hn : (S i).hp.bl.get c = none) : ∀ {j : Nat}, i ≤ j → j ≤ ops.size → (S j).hp.bl.get c = none := by
  intro j
  induction j with
  | zero => intro h _; have : i = 0 := by omega
            subst this; exact hn
  | succ j ih =>
    intro h hj
    by_cases e : i = j + 1
    · subst e; exact hn
    · exact F.gone j (by omega) c (Nat.lt_of_lt_of_le hc (F.ctr_mono (by omega) (by omega))) (ih (by omega) (by omega))
theorem keep {i c : Nat} (hc : c < (S i).hp.ctr) : ∀ {j : Nat}, i ≤ j → j ≤ ops.size → (∀ k, i ≤ k → k < j → Dirty E k → ∃ fp, E k = some ⟨k, 2, some fp⟩ ∧ c ∉ fp) → (S j).hp.bl.get c = (S i).hp.bl.get c := by
  intro j
  induction j with
  | zero => intro h _ _; have : i = 0 := by omega
            subst this; rfl
  | succ j ih =>
    intro h hj hk
    by_cases e : i = j + 1
    · subst e; rfl
    · rw [← ih (by omega) (by omega) fun k h1 h2 => hk k h1 (by omega)]
      have hc' : c < (S j).hp.ctr := Nat.lt_of_lt_of_le hc (F.ctr_mono (by omega) (by omega))
      by_cases hd : Dirty E j
      · obtain ⟨fp, h1, h2⟩ := hk j (by omega) (by omega) hd
        exact F.only j (by omega) fp h1 c hc' h2
      · exact F.clean j (by omega) (fun x hx h2 => hd ⟨x, hx, h2⟩) c hc'
theorem same_tm : ∀ {k : Nat}, k ≤ ops.size → T.Same (S k).tm (S 0).tm := by
  intro k
  induction k with
  | zero => intro _; exact T.Same.refl _
  | succ k ih =>
    intro hk
    obtain ⟨v, hv⟩ := F.put k ops[k] (Array.getElem?_eq_getElem (by omega))
    rw [hv]
    exact (same_putT _ _ _).trans (ih (by omega))
theorem df_up : ∀ {k : Nat}, k ≤ ops.size → (S k).df = (S 0).df ∧ (S k).up = (S 0).up := by
  intro k
  induction k with
  | zero => intro _; exact ⟨rfl, rfl⟩
  | succ k ih =>
    intro hk
    obtain ⟨v, hv⟩ := F.put k ops[k] (Array.getElem?_eq_getElem (by omega))
    have := ih (by omega)
    rw [hv]
    exact this
/-- a temporary that nobody has written -/
theorem tm_unwritten {t : Nat} : ∀ {m : Nat}, m ≤ ops.size → (∀ (i : Nat) (o : Oper), ops[i]? = some o → dstIs t o = true → ¬ i < m) → (S m).tm.get t = (S 0).tm.get t := by
  intro m
  induction m with
  | zero => intro _ _; rfl
  | succ m ih =>
    intro hm h
    obtain ⟨v, hv⟩ := F.put m ops[m] (Array.getElem?_eq_getElem (by omega))
    rw [← ih (by omega) fun i o ho hw hlt => h i o ho hw (by omega)]
    rw [hv]
    refine putT_ne fun e => ?_
    exact h m _ (Array.getElem?_eq_getElem (by omega)) (by simp [dstIs, e]) (by omega)
end Facts
/-- the next operation that writes -/
theorem next_dirty (E : Nat → Option Ent) (n : Nat) : ∀ (d m : Nat), m + d = n → ∃ N, m ≤ N ∧ N ≤ n ∧ (N < n → Dirty E N) ∧ ∀ k, m ≤ k → k < N → ¬ Dirty E k := by
  intro d
  induction d with
  | zero => intro m h; exact ⟨m, Nat.le_refl _, by omega, fun h => by omega, fun k h1 h2 => by omega⟩
  | succ d ih =>
    intro m h
    by_cases hd : Dirty E m
    · exact ⟨m, Nat.le_refl _, by omega, fun _ => hd, fun k h1 h2 => by omega⟩
    · obtain ⟨N, h1, h2, h3, h4⟩ := ih (m + 1) (by omega)
      refine ⟨N, by omega, h2, h3, fun k g1 g2 => ?_⟩
      by_cases e : k = m
      · subst e; exact hd
      · exact h4 k (by omega) g2
end
end Go.Ai
namespace Go.Ai
section
variable {P : Program} {C : Ctx} {rd : Option Nat} {ops : Array Oper} {S : Nat → St} {E : Nat → Option Ent} {sz : Nat} {ρ0 : Mp} {w0 : World} {b : Frame} {cs0 cs : List Frame}

/-- what holds while a region is done in its own order: D has been done; N: the next operation that writes -/
structure InvAt (rd : Option Nat) (ops : Array Oper) (S : Nat → St) (E : Nat → Option Ent) (sz : Nat) (ρ0 : Mp) (w0 : World) (b : Frame) (cs0 cs : List Frame) (D : Nat → Bool) (a : Act) (w : World) (ρ : Mp) (tmD : T Value) (N : Nat) : Prop where
  closed : Closed ops D
  dlt : ∀ k, D k = true → k < ops.size
  tinv : TmInv ops S D tmD
  shape : T.Same tmD (S 0).tm
  tm : TmR ρ tmD a.tmps
  size : a.tmps.size = sz
  df : DefsR ρ (S 0).df a.defers
  hN : N ≤ ops.size
  nxt : N < ops.size → Dirty E N
  done : ∀ k, k < N → Dirty E k → D k = true
  late : ∀ k x, D k = true → E k = some x → x.kl ≠ 0 → k < N
  hp : HR ρ (S N).hp w
  dom : ∀ c p, ρ c = some p → (∃ p0, ρ0 c = some p0) ∨ ∃ k, D k = true ∧ (S k).hp.ctr ≤ c ∧ c < (S (k + 1)).hp.ctr
  has : ∀ k, D k = true → ∀ c x, (S k).hp.ctr ≤ c → c < (S (k + 1)).hp.ctr → (S (k + 1)).hp.bl.get c = some x → ∃ p, ρ c = some p
  ext : ExtW ρ0 ((S 0).hp.low0 (S ops.size).hp.low) w0 ρ ((S N).hp.low0 (S ops.size).hp.low) w
  bok : Bok ρ rd (S 0).up b cs0 cs

/-- memory does not turn: an operation that reads, or does nothing with it -/
theorem inv_quiet (F : Facts P C rd ops S E sz ρ0 w0) {D : Nat → Bool} {a : Act} {w : World} {ρ : Mp} {tmD : T Value} {N : Nat} (I : InvAt rd ops S E sz ρ0 w0 b cs0 cs D a w ρ tmD N) {j : Nat} {o : Oper} (ho : ops[j]? = some o)
    (hD : D j = false) (hr : ∀ i, (RL ops j).testBit i = true → D i = true) (hag : ∀ t, readsT ops.toList t o = true → tmD.get t = (S j).tm.get t) {v v' : Value} (hv : VR ρ v v') (hS : (S (j + 1)).tm = putT (S j).tm o.dst v)
    (hq : E j = none ∨ ∃ x, E j = some x ∧ x.kl = 0) : InvAt rd ops S E sz ρ0 w0 b cs0 cs (fun i => decide (i = j) || D i) (a.put o.dst v') w ρ (putT tmD o.dst v) N := by
  have hj : j < ops.size := (Array.getElem?_eq_some_iff.1 ho).1
  have hcases : ∀ i, (decide (i = j) || D i) = true → i = j ∨ D i = true := fun i hi => by simpa using hi
  have hsame := F.same j hj hq
  exact {
    closed := fun i hi m hm => by
      rcases hcases i hi with rfl | hi
      · simp [hr m hm]
      · simp [I.closed i hi m hm]
    dlt := fun i hi => by
      rcases hcases i hi with rfl | hi
      · exact hj
      · exact I.dlt i hi
    tinv := tm_step I.tinv F.conf I.closed ho hD (fun k y hy => by obtain ⟨u, hu⟩ := F.put k y hy; exact ⟨u, by rw [hu]⟩) hS (fun t ht => by
      rw [ht]; exact T.Same.get_set _ _ (I.shape.trans (F.same_tm (Nat.le_of_lt hj)).symm))
    shape := (same_putT _ _ _).trans I.shape
    tm := I.tm.put hv fun t ht => by
      have := F.dst j o ho
      simp only [dstOk, ht] at this
      rw [I.size]; exact Nat.le_of_ble_eq_true this
    size := by rw [Act.put_size']; exact I.size
    df := by rw [Act.put_df]; exact I.df
    hN := I.hN
    nxt := I.nxt
    done := fun k h1 h2 => by simp [I.done k h1 h2]
    late := fun k x hk hx h0 => by
      rcases hcases k hk with rfl | hk
      · rcases hq with hq | ⟨y, hy, hy0⟩
        · rw [hq] at hx; cases hx
        · rw [hy] at hx; cases hx; exact absurd hy0 h0
      · exact I.late k x hk hx h0
    hp := I.hp
    dom := fun c p hc => by
      rcases I.dom c p hc with h | ⟨k, h1, h2⟩
      · exact .inl h
      · exact .inr ⟨k, by simp [h1], h2⟩
    has := fun k hk c x h1 h2 hx => by
      rcases hcases k hk with rfl | hk
      · rw [hsame.1] at h2; omega
      · exact I.has k hk c x h1 h2 hx
    ext := I.ext
    bok := I.bok }

/-- blocks at which an operation looks are now as they were, or will be, in the order of the text -/
theorem inv_look (F : Facts P C rd ops S E sz ρ0 w0) {D : Nat → Bool} {a : Act} {w : World} {ρ : Mp} {tmD : T Value} {N : Nat} (I : InvAt rd ops S E sz ρ0 w0 b cs0 cs D a w ρ tmD N) {j : Nat} (hj : j < ops.size)
    (hD : D j = false) (hr : ∀ i, (RL ops j).testBit i = true → D i = true) {fp : List Nat} (hE : E j = some ⟨j, 0, some fp⟩) {c : Nat} (hc : c ∈ fp) : HAt ρ (S j).hp w c := by
  intro x p hx hp
  have hcN := (I.hp.dom c p hp).1
  obtain ⟨ρj, aj, wj, _, hjr, _⟩ := F.ref j (Nat.le_of_lt hj)
  have hcj := hjr.big c x hx
  refine I.hp.con c x p ?_ hp
  have hnot : ∀ k, D k = true → (RL ops k).testBit j = false := fun k hk => by
    cases hb : (RL ops k).testBit j with
    | false => rfl
    | true => have := I.closed k hk j hb; rw [hD] at this; cases this
  by_cases hjN : j ≤ N
  · rw [F.keep hcj hjN I.hN, hx]
    rintro k h1 h2 ⟨y, hy, hy2⟩
    have hkj : k ≠ j := fun e => by subst e; rw [hE] at hy; cases hy; cases hy2
    have hk := I.done k h2 ⟨y, hy, hy2⟩
    have hlt : k < ops.size := I.dlt k hk
    have hp := F.pair k j (by omega) hlt y _ hy hE
    obtain ⟨g, _⟩ := pair_cases hp (hnot k hk)
    obtain ⟨fa, fb, q1, q2, q3⟩ := apart_spec (g hy2 rfl)
    cases q2
    have hyi := F.idx k y hlt hy
    obtain ⟨yi, ykl, yfp⟩ := y
    simp only at hyi hy2 q1
    subst hyi hy2 q1
    exact ⟨fa, hy, fun hca => q3 c hca hc⟩
  · rw [← F.keep hcN (show N ≤ j by omega) (Nat.le_of_lt hj), hx]
    rintro k h1 h2 ⟨y, hy, hy2⟩
    have hlt : k < ops.size := by omega
    have hp := F.pair j k h2 hj _ y hE hy
    have hyi := F.idx k y hlt hy
    have hb : (RL ops j).testBit y.i = false := by
      cases hb : (RL ops j).testBit y.i with
      | false => rfl
      | true =>
        rw [hyi] at hb
        have := I.late k y (hr k hb) hy (by omega)
        omega
    obtain ⟨_, g, _⟩ := pair_cases hp hb
    obtain ⟨fa, fb, q1, q2, q3⟩ := apart_spec (g rfl hy2)
    cases q1
    obtain ⟨yi, ykl, yfp⟩ := y
    simp only at hyi hy2 q2
    subst hyi hy2 q2
    exact ⟨fb, hy, q3 c hc⟩
end
end Go.Ai
namespace Go.Ai
section
variable {P : Program} {C : Ctx} {rd : Option Nat} {ops : Array Oper} {S : Nat → St} {E : Nat → Option Ent} {sz : Nat} {ρ0 : Mp} {w0 : World} {b : Frame} {cs0 cs : List Frame}

noncomputable def readsO (o : Op) (t : Nat) : Bool := by
  classical exact decide (Operand.tmp t ∈ o.operands)
theorem readsO_iff {o : Op} {t : Nat} : readsO o t = true ↔ Operand.tmp t ∈ o.operands := by simp [readsO]

/-- an operation that lays: run from memory as it stood in the order of the text -/
theorem inv_lay (F : Facts P C rd ops S E sz ρ0 w0) (HC : CtxT P C) (hg : GlR C.ng ρ0) {D : Nat → Bool} {a : Act} {w : World} {ρ : Mp} {tmD : T Value} {N : Nat} (I : InvAt rd ops S E sz ρ0 w0 b cs0 cs D a w ρ tmD N) {j : Nat} {o : Oper} (ho : ops[j]? = some o)
    (hD : D j = false) (hr : ∀ i, (RL ops j).testBit i = true → D i = true) (hag : ∀ t, readsT ops.toList t o = true → tmD.get t = (S j).tm.get t)
    {rec : Rec} (hcall : ∀ g args h out, rec (.call g args h) = some out → CallOk P C g args h out) (hround : ∀ l args h out, rec (.round l args h) = some out → RoundOk P C l args h out)
    {n : Nx} {v : Value} {h' : H} (ha : aOp o.op C (S j).tm ((S j).hp.low0 bigLow) = some n) (hn : Ans rec n v h') {l : Nat} (hS : S (j + 1) = ⟨putT (S j).tm o.dst v, (S j).df, (S j).up, h'.low0 l⟩) (hlow : (S j).hp.ctr ≤ h'.low)
    (hE : E j = some ⟨j, 1, none⟩) (hwant : Region.wanted o (yielded ops a.tmps) = true) (k : List Item) (rest : List Nat) :
    ∃ a' w' ρ' tm' N', Steps P (lone (b.atR a (.inRegion ops (j :: rest) :: k)) cs w) (lone (b.atR a' (.inRegion ops rest :: k)) cs w') ∧ InvAt rd ops S E sz ρ0 w0 b cs0 cs (fun i => decide (i = j) || D i) a' w' ρ' tm' N' := by
  have hj : j < ops.size := (Array.getElem?_eq_some_iff.1 ho).1
  have hjd : ¬ Dirty E j := fun ⟨x, hx, h2⟩ => by rw [hE] at hx; cases hx; cases h2
  have hnot : ∀ k, D k = true → (RL ops k).testBit j = false := fun k hk => by
    cases hb : (RL ops k).testBit j with
    | false => rfl
    | true => have := I.closed k hk j hb; rw [hD] at this; cases this
  have hjN : j < N := by
    by_cases h : j < N
    · exact h
    · exfalso
      have hNj : N ≠ j := fun e => by subst e; exact hjd (I.nxt hj)
      obtain ⟨y, hy, hy2⟩ := I.nxt (by omega)
      have hp := F.pair j N (by omega) hj _ y hE hy
      have hyi := F.idx N y (by omega) hy
      have hb : (RL ops j).testBit y.i = false := by
        cases hb : (RL ops j).testBit y.i with
        | false => rfl
        | true =>
          rw [hyi] at hb
          have := I.late N y (hr N hb) hy (by omega)
          omega
      obtain ⟨_, _, _, g⟩ := pair_cases hp hb
      exact g ⟨hy2, by simp⟩
  -- nothing that writes stands between
  have between : ∀ m, j ≤ m → m < N → ¬ Dirty E m := by
    rintro m h1 h2 ⟨y, hy, hy2⟩
    have hm : m ≠ j := fun e => by subst e; exact hjd ⟨y, hy, hy2⟩
    have hDm := I.done m h2 ⟨y, hy, hy2⟩
    have hp := F.pair m j (by omega) (I.dlt m hDm) y _ hy hE
    obtain ⟨_, _, g, _⟩ := pair_cases hp (hnot m hDm)
    exact g ⟨hy2, by simp⟩
  have hbl : (S (j + 1)).hp.bl = h'.bl := by rw [hS]; rfl
  have hctr : (S (j + 1)).hp.ctr = h'.ctr := by rw [hS]; rfl
  obtain ⟨ρj, aj, wj, htj, hrj, hej⟩ := F.ref j (Nat.le_of_lt hj)
  have c0j : (S 0).hp.ctr ≤ (S j).hp.ctr := F.ctr_mono (Nat.zero_le _) (Nat.le_of_lt hj)
  have rj : HR (ρ.below (S j).hp.ctr) (S j).hp w := by
    refine cut_HR I.hp hrj (fun c x hx => ?_) (fun c x p hx hp => ?_)
    · rw [F.keep (hrj.big c x hx) (Nat.le_of_lt hjN) I.hN fun m h1 h2 hd => absurd hd (between m h1 h2)]; exact hx
    · by_cases hc0 : (S 0).hp.ctr ≤ c
      · exact hej.full c x hx hc0 (hrj.big c x hx)
      · rcases I.dom c p hp with ⟨p0, h0⟩ | ⟨m, h1, h2, _⟩
        · exact ⟨p0, hej.le _ _ h0⟩
        · have := F.ctr_mono (Nat.zero_le m) (Nat.le_of_lt (I.dlt m h1)); omega
  have hdomj : ∀ c p, ρj c = some p → c < (S j).hp.ctr := fun c p h => (hrj.dom c p h).1
  have hgj : GlR C.ng (ρ.below (S j).hp.ctr) := fun g hgl => by
    obtain ⟨p, h1, h2⟩ := hg g hgl
    exact ⟨p, Mp.below_eq (Nat.lt_of_lt_of_le (F.dom0 g p h1) c0j) (I.ext.le _ _ h1), h2⟩
  let tm' := (S j).tm.only (readsO o.op)
  have hget : ∀ t, tm'.get t = if readsO o.op t = true then (S j).tm.get t else none := fun t => T.get_only _ _ _
  have hagj : ∀ t, Operand.tmp t ∈ o.op.operands → tm'.get t = (S j).tm.get t := fun t ht => by rw [hget, if_pos (readsO_iff.2 ht)]
  have htm' : TmR (ρ.below (S j).hp.ctr) tm' a.tmps := by
    intro t u hu
    rw [hget] at hu
    split at hu
    · rename_i hrd
      have e := hag t (reads_operand (readsO_iff.1 hrd))
      obtain ⟨u1, k1, k2⟩ := I.tm t u (by rw [e]; exact hu)
      obtain ⟨u2, k3, k4⟩ := htj t u hu
      exact ⟨u1, k1, k2.cutAt hdomj k4⟩
    · cases hu
  have ha' : aOp o.op C tm' ((S j).hp.low0 bigLow) = some n := by
    rw [← ha]; exact aOp_congr fun x hx => ev_congr fun t ht => by subst ht; exact (hagj t hx).symm
  obtain ⟨ρ1, v', w1, q1, q2, q3, q4⟩ := one_put (P := P) (b := b) (k := k) (cs := cs) (rest := rest) HC hcall hround ha' hn ho hwant htm' (rj.low0 bigLow) hgj
  have hN1 : h'.ctr ≤ (S N).hp.ctr := by rw [← hctr]; exact F.ctr_mono (by omega) I.hN
  have hnone : ∀ c, (S j).hp.ctr ≤ c → c < h'.ctr → ρ c = none := by
    intro c h1 h2
    cases hc : ρ c with
    | none => rfl
    | some p =>
      exfalso
      rcases I.dom c p hc with ⟨p0, h0⟩ | ⟨m, g1, g2, g3⟩
      · have := F.dom0 c p0 h0; omega
      · have hm := I.dlt m g1
        have hmj : m ≠ j := fun e => by subst e; rw [hD] at g1; cases g1
        by_cases hlt : m < j
        · have := F.ctr_mono (show m + 1 ≤ j by omega) (Nat.le_of_lt hj); omega
        · have := F.ctr_mono (show j + 1 ≤ m by omega) (Nat.le_of_lt hm)
          rw [hctr] at this; omega
  have le1 : ρ.le (ρ.join ρ1 (S j).hp.ctr h'.ctr) := Mp.join_le hnone
  have le2 : ρ1.le (ρ.join ρ1 (S j).hp.ctr h'.ctr) := Mp.join_le' (fun b p hb => q3.new b p hb) (fun b p hb => (q2.dom b p hb).1)
  obtain ⟨j1, j2⟩ := lay_join (hj := (S j).hp.low0 bigLow) I.ext (I.hp.low0 _) (rj.low0 bigLow) q2 q3 hlow c0j hN1 (fun c hc => by
    show h'.bl.get c = (S N).hp.bl.get c
    rw [← hbl]
    exact (F.keep (i := j + 1) (by rw [hctr]; exact hc) (by omega) I.hN fun m h1 h2 hd => absurd hd (between m (by omega) h2)).symm) hnone
  have hcases : ∀ i, (decide (i = j) || D i) = true → i = j ∨ D i = true := fun i hi => by simpa using hi
  refine ⟨a.put o.dst v', w1, ρ.join ρ1 (S j).hp.ctr h'.ctr, putT tmD o.dst v, N, q4, ?_⟩
  exact {
    closed := fun i hi m hm => by
      rcases hcases i hi with rfl | hi
      · simp [hr m hm]
      · simp [I.closed i hi m hm]
    dlt := fun i hi => by
      rcases hcases i hi with rfl | hi
      · exact hj
      · exact I.dlt i hi
    tinv := tm_step I.tinv F.conf I.closed ho hD (fun k y hy => by obtain ⟨u, hu⟩ := F.put k y hy; exact ⟨u, by rw [hu]⟩) (by rw [hS]) (fun t ht => by
      rw [ht]; exact T.Same.get_set _ _ (I.shape.trans (F.same_tm (Nat.le_of_lt hj)).symm))
    shape := (same_putT _ _ _).trans I.shape
    tm := (I.tm.mono le1).put (q1.mono le2) fun t ht => by
      have := F.dst j o ho
      simp only [dstOk, ht] at this
      rw [I.size]; exact Nat.le_of_ble_eq_true this
    size := by rw [Act.put_size']; exact I.size
    df := by rw [Act.put_df]; exact I.df.mono le1
    hN := I.hN
    nxt := I.nxt
    done := fun k h1 h2 => by simp [I.done k h1 h2]
    late := fun k x hk hx h0 => by
      rcases hcases k hk with rfl | hk
      · exact hjN
      · exact I.late k x hk hx h0
    hp := j1.unlow
    dom := fun c p hc => by
      by_cases hin : (S j).hp.ctr ≤ c ∧ c < h'.ctr
      · exact .inr ⟨j, by simp, hin.1, by rw [hctr]; exact hin.2⟩
      · rw [join_out hin] at hc
        rcases I.dom c p hc with h | ⟨m, h1, h2⟩
        · exact .inl h
        · exact .inr ⟨m, by simp [h1], h2⟩
    has := fun m hm c x h1 h2 hx => by
      rcases hcases m hm with rfl | hm
      · rw [hctr] at h2
        rw [hbl] at hx
        obtain ⟨p, hp⟩ := q3.full c x hx h1 h2
        exact ⟨p, by rw [join_in ⟨h1, h2⟩]; exact hp⟩
      · obtain ⟨p, hp⟩ := I.has m hm c x h1 h2 hx
        exact ⟨p, le1 _ _ hp⟩
    ext := j2
    bok := I.bok.mono le1 }

/-- an operation that writes: it is the next one -/
theorem inv_dirty (F : Facts P C rd ops S E sz ρ0 w0) (HC : CtxT P C) (hg : GlR C.ng ρ0) {D : Nat → Bool} {a : Act} {w : World} {ρ : Mp} {tmD : T Value} {N : Nat} (I : InvAt rd ops S E sz ρ0 w0 b cs0 cs D a w ρ tmD N) {j : Nat} {o : Oper} (ho : ops[j]? = some o)
    (hD : D j = false) (hr : ∀ i, (RL ops j).testBit i = true → D i = true) (hag : ∀ t, readsT ops.toList t o = true → tmD.get t = (S j).tm.get t)
    {rec : Rec} (hcall : ∀ g args h out, rec (.call g args h) = some out → CallOk P C g args h out) (hround : ∀ l args h out, rec (.round l args h) = some out → RoundOk P C l args h out)
    {n : Nx} {v : Value} {h' : H} (ha : aOp o.op C (S j).tm ((S j).hp.low0 bigLow) = some n) (hn : Ans rec n v h') (hS : S (j + 1) = ⟨putT (S j).tm o.dst v, (S j).df, (S j).up, h'.low0 (Nat.min (S j).hp.low h'.low)⟩)
    (hE : Dirty E j) (hwant : Region.wanted o (yielded ops a.tmps) = true) (k : List Item) (rest : List Nat) :
    ∃ a' w' ρ' tm' N', Steps P (lone (b.atR a (.inRegion ops (j :: rest) :: k)) cs w) (lone (b.atR a' (.inRegion ops rest :: k)) cs w') ∧ InvAt rd ops S E sz ρ0 w0 b cs0 cs (fun i => decide (i = j) || D i) a' w' ρ' tm' N' := by
  have hj : j < ops.size := (Array.getElem?_eq_some_iff.1 ho).1
  have hjN : j = N := by
    by_cases h1 : j < N
    · have := I.done j h1 hE; rw [hD] at this; cases this
    · by_cases h2 : j = N
      · exact h2
      · exfalso
        obtain ⟨x, hx, hx2⟩ := hE
        obtain ⟨y, hy, hy2⟩ := I.nxt (by omega)
        have hp := F.pair j N (by omega) hj x y hx hy
        have hyi := F.idx N y (by omega) hy
        have hb : (RL ops j).testBit y.i = false := by
          cases hb : (RL ops j).testBit y.i with
          | false => rfl
          | true =>
            rw [hyi] at hb
            have := I.late N y (hr N hb) hy (by omega)
            omega
        obtain ⟨_, _, _, g⟩ := pair_cases hp hb
        exact g ⟨hy2, by omega⟩
  subst hjN
  have hbl : (S (j + 1)).hp.bl = h'.bl := by rw [hS]; rfl
  have hctr : (S (j + 1)).hp.ctr = h'.ctr := by rw [hS]; rfl
  have ha' : aOp o.op C tmD ((S j).hp.low0 bigLow) = some n := by
    rw [← ha]; exact aOp_congr fun x hx => ev_congr fun t ht => by subst ht; exact (hag t (reads_operand hx)).symm
  obtain ⟨ρ1, v', w1, q1, q2, q3, q4⟩ := one_put (P := P) (b := b) (k := k) (cs := cs) (rest := rest) HC hcall hround ha' hn ho hwant I.tm (I.hp.low0 bigLow) (hg.mono I.ext.le)
  have hL : (S ops.size).hp.low ≤ h'.low := by
    refine Nat.le_trans (F.low_mono (show j + 1 ≤ ops.size by omega) (Nat.le_refl _)) ?_
    rw [hS]
    exact Nat.min_le_right _ _
  have ext1 : ExtW ρ0 ((S 0).hp.low0 (S ops.size).hp.low) w0 ρ1 (h'.low0 (S ops.size).hp.low) w1 := I.ext.trans (q3.toW.relow hL)
  obtain ⟨N', g1, g2, g3, g4⟩ := next_dirty E ops.size (ops.size - (j + 1)) (j + 1) (by omega)
  obtain ⟨ρr, ar, wr, _, hrr, _⟩ := F.ref N' g2
  have hcN : h'.ctr ≤ (S N').hp.ctr := by rw [← hctr]; exact F.ctr_mono g1 g2
  have agN : ∀ c, c < h'.ctr → (S N').hp.bl.get c = h'.bl.get c := fun c hc => by
    rw [← hbl]
    exact F.keep (by rw [hctr]; exact hc) g1 g2 fun m h1 h2 hd => absurd hd (g4 m h1 h2)
  have hcases : ∀ i, (decide (i = j) || D i) = true → i = j ∨ D i = true := fun i hi => by simpa using hi
  refine ⟨a.put o.dst v', w1, ρ1, putT tmD o.dst v, N', q4, ?_⟩
  exact {
    closed := fun i hi m hm => by
      rcases hcases i hi with rfl | hi
      · simp [hr m hm]
      · simp [I.closed i hi m hm]
    dlt := fun i hi => by
      rcases hcases i hi with rfl | hi
      · exact hj
      · exact I.dlt i hi
    tinv := tm_step I.tinv F.conf I.closed ho hD (fun k y hy => by obtain ⟨u, hu⟩ := F.put k y hy; exact ⟨u, by rw [hu]⟩) (by rw [hS]) (fun t ht => by
      rw [ht]; exact T.Same.get_set _ _ (I.shape.trans (F.same_tm (Nat.le_of_lt hj)).symm))
    shape := (same_putT _ _ _).trans I.shape
    tm := (I.tm.mono q3.le).put q1 fun t ht => by
      have := F.dst j o ho
      simp only [dstOk, ht] at this
      rw [I.size]; exact Nat.le_of_ble_eq_true this
    size := by rw [Act.put_size']; exact I.size
    df := by rw [Act.put_df]; exact I.df.mono q3.le
    hN := g2
    nxt := g3
    done := fun k h1 h2 => by
      by_cases e : k = j
      · simp [e]
      · by_cases hlt : k < j
        · simp [I.done k hlt h2]
        · exact absurd h2 (g4 k (by omega) h1)
    late := fun k x hk hx h0 => by
      rcases hcases k hk with rfl | hk
      · omega
      · have := I.late k x hk hx h0; omega
    hp := HR_grow q2 hrr hcN agN
    dom := fun c p hc => by
      rcases q3.new c p hc with h | h
      · rcases I.dom c p h with h | ⟨m, h1, h2⟩
        · exact .inl h
        · exact .inr ⟨m, by simp [h1], h2⟩
      · exact .inr ⟨j, by simp, h, by rw [hctr]; exact (q2.dom c p hc).1⟩
    has := fun m hm c x h1 h2 hx => by
      rcases hcases m hm with rfl | hm
      · rw [hctr] at h2
        rw [hbl] at hx
        exact q3.full c x hx h1 h2
      · obtain ⟨p, hp⟩ := I.has m hm c x h1 h2 hx
        exact ⟨p, q3.le _ _ hp⟩
    ext := ExtW_grow (h' := (S N').hp.low0 (S ops.size).hp.low) ext1 (q2.low0 _) hcN agN rfl
    bok := I.bok.mono q3.le }
end
end Go.Ai
namespace Go.Ai
section
variable {P : Program} {C : Ctx} {rd : Option Nat} {ops : Array Oper} {S : Nat → St} {E : Nat → Option Ent} {sz : Nat} {ρ0 : Mp} {w0 : World} {b : Frame} {cs0 cs : List Frame}

/-- one operation, wherever it comes in the order -/
theorem inv_step (F : Facts P C rd ops S E sz ρ0 w0) (HC : CtxT P C) (hng : C.ng ≤ bigLow) (hg : GlR C.ng ρ0) {D : Nat → Bool} {a : Act} {w : World} {ρ : Mp} {tmD : T Value} {N : Nat} (I : InvAt rd ops S E sz ρ0 w0 b cs0 cs D a w ρ tmD N) {j : Nat} (hj : j < ops.size)
    (hD : D j = false) (hr : ∀ i, (RL ops j).testBit i = true → D i = true) (k : List Item) (rest : List Nat) :
    ∃ a' w' ρ' tm' N', Steps P (lone (b.atR a (.inRegion ops (j :: rest) :: k)) cs w) (lone (b.atR a' (.inRegion ops rest :: k)) cs w') ∧ InvAt rd ops S E sz ρ0 w0 b cs0 cs (fun i => decide (i = j) || D i) a' w' ρ' tm' N' := by
  have ho : ops[j]? = some ops[j] := Array.getElem?_eq_getElem hj
  have hag : ∀ t, readsT ops.toList t ops[j] = true → tmD.get t = (S j).tm.get t := fun t ht => read_eq I.tinv F.conf I.closed ho hD hr ht
  have hst := F.step j _ ho
  generalize hEj : E j = ej at hst
  cases hst with
  | skip hw hs' =>
    rw [← wantedA_congr hag] at hw
    have hwant := I.tm.wanted hw
    have hstep := stepR_op_skip (P := P) (b := b) (a := a) (k := k) (cs := cs) (w := w) (ops := ops) (i := j) (rest := rest) (by rw [ho]; simp [hwant])
    rw [ho] at hstep
    exact ⟨_, _, _, _, _, .one hstep, inv_quiet F I ho hD hr hag (.tuple .nil) (by rw [hs']; rfl) (.inl hEj)⟩
  | @op s1 _ rec hw hcall hround hone he hok hs' =>
    rw [← wantedA_congr hag] at hw
    have hwant := I.tm.wanted hw
    obtain ⟨n, v, h', ha, hn, rfl⟩ := one_ans hone
    have ha : aOp (ops[j]).op C (S j).tm ((S j).hp.low0 bigLow) = some n := ha
    have hkind := ent_kind he hok
    have quiet : (kindOf (ops[j]).op = .none ∨ kindOf (ops[j]).op = .pass ∧ ej = some ⟨j, 0, touchOf (S j).tm (ops[j]).op⟩) → (ej = none ∨ ∃ x, ej = some x ∧ x.kl = 0) →
        ∃ a' w' ρ' tm' N', Steps P (lone (b.atR a (.inRegion ops (j :: rest) :: k)) cs w) (lone (b.atR a' (.inRegion ops rest :: k)) cs w') ∧ InvAt rd ops S E sz ρ0 w0 b cs0 cs (fun i => decide (i = j) || D i) a' w' ρ' tm' N' := by
      intro hk hq
      have hag' : ∀ t, Operand.tmp t ∈ (ops[j]).op.operands → tmD.get t = (S j).tm.get t := fun t ht => hag t (reads_operand ht)
      have ha' : aOp (ops[j]).op C tmD ((S j).hp.low0 bigLow) = some n := by
        rw [← ha]; exact aOp_congr fun x hx => ev_congr fun t ht => by subst ht; exact (hag' t hx).symm
      obtain ⟨v2, v2', rfl, hrun, hv2⟩ := pass_class (P := P) (w := w) HC hng I.tm (hg.mono I.ext.le) (hk.imp id fun h => h.1) ha' (fun hp fp hfp c hc => by
        rcases hk with hk | ⟨_, hee⟩
        · rw [hk] at hp; cases hp
        · rw [touchOf_congr hag'] at hfp
          rw [hfp] at hee
          have := inv_look F I hj hD hr (hEj.trans hee) hc
          intro x p hx hp
          exact this x p hx hp)
      have hv : v2 = v := by
        rcases hn with h | ⟨_, _, _, h, _⟩ | ⟨_, _, _, h, _⟩
        · cases h; rfl
        · cases h
        · cases h
      subst hv
      refine ⟨_, _, _, _, _, .one (stepR_value ho hwant (semAt_of hrun (.inr (hn.nodefer ha)))), inv_quiet F I ho hD hr hag hv2 (by rw [hs']; rfl) (by rw [hEj]; exact hq)⟩
    rcases hkind with ⟨hk, hee⟩ | ⟨hk, hee⟩ | ⟨hk, hee⟩ | ⟨hk, hee⟩
    · exact quiet (.inl hk) (.inl hee)
    · exact quiet (.inr ⟨hk, hee⟩) (.inr ⟨_, hee, rfl⟩)
    · simp only at hee
      by_cases hlow : h'.low < (S j).hp.ctr
      · have hb' : Nat.blt h'.low (S j).hp.ctr = true := Nat.ble_eq_true_of_le hlow
        simp only [hb'] at hee
        exact inv_dirty F HC hg I ho hD hr hag hcall hround ha hn hs' ⟨_, hEj.trans hee, rfl⟩ hwant k rest
      · have hb' : Nat.blt h'.low (S j).hp.ctr = false := by
          cases hb : Nat.blt h'.low (S j).hp.ctr with
          | false => rfl
          | true => exact absurd (Nat.le_of_ble_eq_true hb) hlow
        simp only [hb'] at hee
        exact inv_lay F HC hg I ho hD hr hag hcall hround ha hn hs' (Nat.le_of_not_lt hlow) (hEj.trans hee) hwant k rest
    · exact inv_dirty F HC hg I ho hD hr hag hcall hround ha hn hs' ⟨_, hEj.trans hee, rfl⟩ hwant k rest

theorem filter_less {p q : Nat → Bool} {j : Nat} (hpq : ∀ x, q x = true → p x = true) (hp : p j = true) (hq : q j = false) : ∀ l : List Nat, j ∈ l → (l.filter q).length < (l.filter p).length := by
  have le : ∀ l : List Nat, (l.filter q).length ≤ (l.filter p).length := by
    intro l
    induction l with
    | nil => simp
    | cons x l ih =>
      simp only [List.filter_cons]
      cases hx : q x with
      | true => rw [hpq x hx]; simp; exact ih
      | false => cases p x <;> simp <;> omega
  intro l
  induction l with
  | nil => intro h; simp at h
  | cons x l ih =>
    intro h
    simp only [List.filter_cons]
    by_cases e : x = j
    · subst e
      rw [hp, hq]
      simp
      have := le l; omega
    · have hm : j ∈ l := by
        rcases List.mem_cons.1 h with h | h
        · exact absurd h.symm e
        · exact h
      have := ih hm
      cases hx : q x with
      | true => rw [hpq x hx]; simp; exact this
      | false => cases p x <;> simp <;> omega

def DL (L : Array Bool) : Nat → Bool := fun i => L.getD i false

theorem inv_run (F : Facts P C rd ops S E sz ρ0 w0) (HC : CtxT P C) (hng : C.ng ≤ bigLow) (hg : GlR C.ng ρ0) {md : Region.Mode} (hall : allIn ops.size (Region.linearise md ops 0) = true) (k : List Item) :
    ∀ (fuel t : Nat) (L : Array Bool), L.size = ops.size → ((List.range ops.size).filter fun i => !DL L i).length ≤ fuel →
      ∀ a w ρ tmD N, InvAt rd ops S E sz ρ0 w0 b cs0 cs (DL L) a w ρ tmD N →
      ∃ a' w' ρ' tm' N' L', Steps P (lone (b.atR a (.inRegion ops (Region.linearise.go md ops fuel t L []) :: k)) cs w) (lone (b.atR a' (.inRegion ops [] :: k)) cs w') ∧ InvAt rd ops S E sz ρ0 w0 b cs0 cs (DL L') a' w' ρ' tm' N' ∧ ∀ i, i < ops.size → DL L' i = true := by
  intro fuel
  induction fuel with
  | zero =>
    intro t L hL hc a w ρ tmD N I
    refine ⟨a, w, ρ, tmD, N, L, ?_, I, ?_⟩
    · simp only [Region.linearise.go, List.reverse_nil]; exact .refl _ _
    · intro i hi
      cases h : DL L i with
      | true => rfl
      | false =>
        have : i ∈ (List.range ops.size).filter fun i => !DL L i := by simp [h, hi]
        have := List.length_pos_of_mem this
        omega
  | succ fuel ih =>
    intro t L hL hc a w ρ tmD N I
    simp only [Region.linearise.go]
    show ∃ a' w' ρ' tm' N' L', Steps P (lone (b.atR a (.inRegion ops (match (Region.ready md ops L)[t % (Region.ready md ops L).length]? with
      | some i => Region.linearise.go md ops fuel (t / (Region.ready md ops L).length) (L.setIfInBounds i true) [i]
      | none => [].reverse) :: k)) cs w) (lone (b.atR a' (.inRegion ops [] :: k)) cs w') ∧ InvAt rd ops S E sz ρ0 w0 b cs0 cs (DL L') a' w' ρ' tm' N' ∧ ∀ i, i < ops.size → DL L' i = true
    cases hi : (Region.ready md ops L)[t % (Region.ready md ops L).length]? with
    | none =>
      have hnil : Region.ready md ops L = [] := by
        cases hr : Region.ready md ops L with
        | nil => rfl
        | cons x xs =>
          rw [hr] at hi
          have hlt : t % (x :: xs).length < (x :: xs).length := Nat.mod_lt _ (by simp)
          rw [List.getElem?_eq_getElem hlt] at hi
          cases hi
      exact ⟨a, w, ρ, tmD, N, L, .refl _ _, I, ready_nil hall hL hnil⟩
    | some j =>
      have hm := List.mem_of_getElem? hi
      obtain ⟨hj, hD, hr⟩ := ready_spec F.edges hL I.closed hm
      obtain ⟨a1, w1, ρ1, tm1, N1, g1, g2⟩ := inv_step F HC hng hg I hj hD hr k (Region.linearise.go md ops fuel (t / (Region.ready md ops L).length) (L.setIfInBounds j true) [])
      have hDL : (fun i => decide (i = j) || DL L i) = DL (L.setIfInBounds j true) := by
        funext i; exact (getD_set (by omega)).symm
      rw [hDL] at g2
      obtain ⟨a', w', ρ', tm', N', L', k1, k2, k3⟩ := ih (t / (Region.ready md ops L).length) (L.setIfInBounds j true) (by simp [hL]) (by
        have := filter_less (p := fun i => !DL L i) (q := fun i => !DL (L.setIfInBounds j true) i) (j := j) (fun x hx => by
          rw [← hDL] at hx
          simp at hx ⊢
          exact hx.2) (by simp [DL] at hD ⊢; exact hD) (by rw [← hDL]; simp) (List.range ops.size) (by simpa using hj)
        omega) a1 w1 ρ1 tm1 N1 g2
      refine ⟨a', w', ρ', tm', N', L', ?_, k2, k3⟩
      simp only
      rw [linearise_go_acc, List.reverse_singleton, List.singleton_append]
      exact g1.trans k1


theorem region_ok (HC : CtxT P C) (hng : C.ng ≤ bigLow) {id : Nat} {s sf : St} (tr : Trace P C rd ops.toList ops.toList 0 s [] [] sf) : TOk P C (.ex rd (.region id ops true) s) (.ex .normal sf) := by
  intro ρ a w b k cs0 cs hc hs hb hg
  simp only [codeOk, Bool.and_eq_true, List.all_eq_true] at hc
  obtain ⟨hdst, hdraw, hord⟩ := hc
  let w1 : World := { w with drawn := w.drawn + 1 }
  have hs1 : StR ρ s a w1 := ⟨hs.tm, hs.df, hs.hp.world rfl⟩
  obtain ⟨S, E, e1, e2, F⟩ := facts_of (P := P) HC hng hdraw hdst tr hs1 rfl hb hg
  subst e1
  obtain ⟨md, t', hsch, hall⟩ := schedule_cases (P.follows .mixedOrders) ops (w.tape w.drawn (.order b.fn id)) hord
  obtain ⟨N, g1, g2, g3, g4⟩ := next_dirty E ops.size ops.size 0 (by omega)
  obtain ⟨ρr, ar, wr, _, hrr, _⟩ := F.ref N g2
  have c0N := F.ctr_mono (Nat.zero_le N) g2
  have ag0 : ∀ c, c < (S 0).hp.ctr → (S N).hp.bl.get c = (S 0).hp.bl.get c := fun c hc => F.keep hc (Nat.zero_le N) g2 fun m h1 h2 hd => absurd hd (g4 m h1 h2)
  have hfalse : ∀ i, DL (Array.replicate ops.size false) i = false := by
    intro i
    simp [DL, Array.getD_eq_getD_getElem?, Array.getElem?_replicate]
    split <;> rfl
  have hL : (S ops.size).hp.low ≤ (S 0).hp.low := F.low_mono (Nat.zero_le _) (Nat.le_refl _)
  have e0 : ExtW ρ ((S 0).hp.low0 (S ops.size).hp.low) w1 ρ ((S 0).hp.low0 (S ops.size).hp.low) w1 := (Ext.refl ρ (S 0).hp w1).toW.relow hL
  have I : InvAt rd ops S E a.tmps.size ρ w1 b cs0 cs (DL (Array.replicate ops.size false)) a w1 ρ (S 0).tm N := {
    closed := fun i hi => by rw [hfalse] at hi; cases hi
    dlt := fun i hi => by rw [hfalse] at hi; cases hi
    tinv := fun t m hm hw => (F.tm_unwritten hm fun i o hi hd hlt => by
      have := (hw i o hi hd).2 hlt
      rw [hfalse] at this; cases this).symm
    shape := T.Same.refl _
    tm := hs.tm
    size := rfl
    df := hs.df
    hN := g2
    nxt := g3
    done := fun m h1 h2 => absurd h2 (g4 m (Nat.zero_le _) h1)
    late := fun m x hm => by rw [hfalse] at hm; cases hm
    hp := HR_grow hs1.hp hrr c0N ag0
    dom := fun c p hc => .inl ⟨p, hc⟩
    has := fun m hm => by rw [hfalse] at hm; cases hm
    ext := ExtW_grow (h' := (S N).hp.low0 (S ops.size).hp.low) e0 (hs1.hp.low0 _) c0N ag0 rfl
    bok := hb }
  obtain ⟨a', w', ρ', tm', N', L', k1, k2, k3⟩ := inv_run F HC hng hg hall k ops.size t' (Array.replicate ops.size false) (by simp) (by
    refine Nat.le_trans (List.length_filter_le _ _) ?_
    simp) a w1 ρ (S 0).tm N I
  have hN' : N' = ops.size := by
    by_cases h : N' < ops.size
    · exfalso
      obtain ⟨x, hx, hx2⟩ := k2.nxt h
      have := k2.late N' x (k3 N' h) hx (by omega)
      omega
    · have := k2.hN; omega
  subst hN'
  have htm : ∀ t, tm'.get t = (S ops.size).tm.get t := fun t => k2.tinv t ops.size (Nat.le_refl _) fun i o hi _ => by
    have := (Array.getElem?_eq_some_iff.1 hi).1
    exact ⟨fun _ => this, fun _ => k3 i this⟩
  have hdu := F.df_up (Nat.le_refl ops.size)
  have hext : Ext ρ (S 0).hp w1 ρ' (S ops.size).hp w' := by
    have e := k2.ext
    refine { le := e.le, ctr := e.ctr, low := hL, os := e.os, tape := e.tape, output := e.output, size := e.size, new := e.new, keep := e.keep, back := e.back, abs := e.abs, full := ?_ }
    intro c x hx h1 h2
    -- the step that laid it
    have find : ∀ m, m ≤ ops.size → c < (S m).hp.ctr → ∃ j, j < m ∧ (S j).hp.ctr ≤ c ∧ c < (S (j + 1)).hp.ctr := by
      intro m
      induction m with
      | zero => intro _ h; omega
      | succ m ih =>
        intro hm h
        by_cases hlt : c < (S m).hp.ctr
        · obtain ⟨j, q1, q2⟩ := ih (by omega) hlt
          exact ⟨j, by omega, q2⟩
        · exact ⟨m, by omega, by omega, h⟩
    obtain ⟨j, q1, q2, q3⟩ := find ops.size (Nat.le_refl _) h2
    cases hy : (S (j + 1)).hp.bl.get c with
    | none =>
      have := F.gone_mono q3 hy (show j + 1 ≤ ops.size by omega) (Nat.le_refl _)
      rw [hx] at this; cases this
    | some y => exact k2.has j (k3 j q1) c y q2 q3 hy
  refine ⟨.normal, sf, rfl, ρ', a', w', cs, ⟨fun i v hv => k2.tm i v (by rw [htm, e2]; exact hv), by rw [← e2, hdu.1]; exact k2.df, by rw [← e2]; exact k2.hp⟩, k2.size, by rw [← e2, hdu.2]; exact k2.bok, by rw [← e2]; exact (Ext.world (ρ := ρ) (h := (S 0).hp) (w := w) (w' := w1) rfl rfl rfl rfl).trans hext, ?_⟩
  have hstep := stepR_region_draw (P := P) (b := b) (a := a) (k := k) (cs := cs) (w := w) (ops := ops) (id := id)
  rw [hsch] at hstep
  exact .head hstep (k1.trans (.one stepR_region_end))
end
end Go.Ai
namespace Go.Ai
section
variable {P : Program} {C : Ctx}

theorem plain_region_ok {n : Nat} (ih : ∀ m, m < n + 1 → ∀ t out, go C m t = some out → TOk P C t out) {rd : Option Nat} {id : Nat} {ops : Array Oper} {s : St} {out : Out} (ho : go C n (.ops rd ops.toList ops.toList s) = some out) : TOk P C (.ex rd (.region id ops false) s) out := by
  intro ρ a w b k cs0 cs hc hs hb hg
  simp only [codeOk, Bool.and_eq_true, List.all_eq_true] at hc
  obtain ⟨e, s', rfl, hx⟩ := ih n (Nat.lt_succ_self _) _ _ ho ρ a w b k cs0 cs ops 0 rfl (by simp) (by simp) hc.1 hs hb hg
  refine ⟨e, s', rfl, ?_⟩
  have hr : List.range' 0 ops.toList.length = List.range ops.size := by rw [List.range_eq_range']; simp
  rw [hr] at hx
  exact hx.head (.one stepR_region)

theorem sound (HF : CtxF P C) (hng : C.ng ≤ bigLow) : ∀ n t out, go C n t = some out → TOk P C t out := by
  intro n
  induction n using Nat.strongRecOn with
  | _ n ih =>
    intro t out ho
    cases n with
    | zero => simp [go] at ho
    | succ n =>
      have ho : goStep t C (go C n) = some out := ho
      cases t with
      | ex rd c s =>
        have ho : goEx c (go C n) rd s = some out := ho
        cases c with
        | skip => simp [goEx, exSkip] at ho; subst ho; exact skip_ok fun b a k cs w => stepR_skip
        | label l => simp [goEx, exSkip] at ho; subst ho; exact skip_ok fun b a k cs w => stepR_label
        | region id ops draw =>
          cases draw with
          | false => exact plain_region_ok ih ho
          | true =>
            obtain ⟨sf, rfl, tr⟩ := ih n (Nat.lt_succ_self _) _ _ (show go C n (.draw rd ops.toList ops.toList 0 s [] []) = some out from ho)
            exact region_ok HF.tt hng tr
        | seq a b => exact seq_ok ih ho
        | cond c a b => exact cond_ok ih ho
        | block id b => exact block_ok ih ho
        | loop b => exact loop_ok ih ho
        | rangeFunc g ps a b => exact range_ok (rec := go C n) (fun t o h => ih n (Nat.lt_succ_self _) t o h) ho
        | exit id => simp [goEx, exLeave] at ho; subst ho; exact exit_ok
        | ret => simp [goEx, exLeave] at ho; subst ho; exact ret_ok
        | scope b => simp [goEx, exNone] at ho
        | goto l => simp [goEx, exNone] at ho
        | refuse w => simp [goEx, exNone] at ho
      | ops rd all l s => exact ops_ok HF.tt ih ho
      | draw rd all l i s reach es => exact draw_ok ih ho
      | one rd o s => trivial
      | round l args h => exact round_ok ih ho
      | call g args h => exact call_ok HF ih ho
      | leave res tm ds m h => exact leave_ok HF (rec := go C n) (fun t o h => ih n (Nat.lt_succ_self _) t o h) ho
end
end Go.Ai
namespace Go.Ai
section
variable {P : Program} {C : Ctx}

theorem findIdx_eq (c : UInt8) : ∀ l : List UInt8, (match l.findIdx? (· == c) with | some i => (i : Int) | none => -1) = Go.Lib.indexByte l c
  | [] => rfl
  | b :: l => by
    rw [List.findIdx?_cons]
    unfold Go.Lib.indexByte
    by_cases hb : (b == c) = true
    · simp [hb]
    · have hb' : (b == c) = false := by simpa using hb
      rw [hb']
      simp only [Bool.false_eq_true, if_false]
      have ih := findIdx_eq c l
      cases hi : l.findIdx? (· == c) with
      | none => rw [hi] at ih; simp only at ih; rw [← ih]; simp
      | some i =>
        rw [hi] at ih; simp only at ih; rw [← ih]
        have : ((i : Int) == -1) = false := by rw [beq_eq_false_iff_ne]; omega
        simp [this]

/-- what an entry without a body needs -/
structure Ext0 (P : Program) (g : Nat) (e : Array Value → Sem Value) : Prop where
  run : ∀ args w, (callFunc g args).run P w = ((e args).run P w).andThen fun v w' => .ok (.value v) w'
theorem ext0 {g : Nat} {fn : Func} {e : Array Value → Sem Value} (hf : P.funcs[g]? = some fn) (hname : (fn.name == "runtime.NumGoroutine") = false)
    (hb : fn.body.isNone = true) (hn : Extern.findNext fn = none) (he : Extern.find fn = some e) : Ext0 P g e := ⟨fun args w => run_callFunc_extern hf hname hb hn he args w⟩

theorem VRs.nil_inv {ρ : Mp} {ys : List Value} (h : VRs ρ [] ys) : ys = [] := by cases h; rfl

theorem fe_count {g : Nat} (H : Ext0 P g Extern.BytealgCount.count) : FEok P C g .count := by
  refine .other (by intro n r c h; cases h) fun rec args h out ho => ?_
  simp only [goFE, cCount] at ho
  split at ho
  · rename_i s c
    simp only [ok_some] at ho
    subst ho
    intro ρ w args' cs hv hh hg
    obtain ⟨x', y', rfl, hx, hy⟩ := hv.two_inv
    rw [hx.string_inv, hy.int_inv]
    refine .inl ⟨_, _, ρ, _, w, rfl, .int _ _, hh, Ext.refl _ _ _, .inl ?_⟩
    rw [H.run, show (⟨[Value.string s, Value.int .u8 c]⟩ : Array Value) = #[.string s, .int .u8 c] from rfl, Go.Lib.run_countString]
    simp only [Result.andThen_ok]
    have e := Go.Lib.count_foldl (UInt8.ofNat c.toNat) s.data.toList 0
    rw [Int.zero_add] at e
    exact congrArg (fun z => Result.ok (Next.value (Value.int IntKind.i64 z)) w) e.symm
  · simp at ho
theorem fe_indexByte {g : Nat} (H : Ext0 P g Extern.BytealgIndexByte.indexByte) : FEok P C g .indexByte := by
  refine .other (by intro n r c h; cases h) fun rec args h out ho => ?_
  simp only [goFE, cIndexByte] at ho
  split at ho
  · rename_i s c
    simp only [ok_some] at ho
    subst ho
    intro ρ w args' cs hv hh hg
    obtain ⟨x', y', rfl, hx, hy⟩ := hv.two_inv
    rw [hx.string_inv, hy.int_inv]
    refine .inl ⟨_, _, ρ, _, w, rfl, .int _ _, hh, Ext.refl _ _ _, .inl ?_⟩
    rw [H.run, show (⟨[Value.string s, Value.int .u8 c]⟩ : Array Value) = #[.string s, .int .u8 c] from rfl, Go.Lib.run_indexByteString]
    simp only [Result.andThen_ok]
    exact congrArg (fun z => Result.ok (Next.value (Value.int IntKind.i64 z)) w) (findIdx_eq (UInt8.ofNat c.toNat) s.data.toList).symm
  · simp at ho
theorem fe_noEscape {g : Nat} (H : Ext0 P g Extern.AbiNoEscape.same) : FEok P C g .noEscape := by
  refine .other (by intro n r c h; cases h) fun rec args h out ho => ?_
  simp only [goFE, cSame] at ho
  split at ho
  · rename_i x
    simp only [ok_some] at ho
    subst ho
    intro ρ w args' cs hv hh hg
    obtain ⟨x', rfl, hx⟩ := hv.one_inv
    exact .inl ⟨_, _, ρ, x', w, rfl, hx, hh, Ext.refl _ _ _, .inl (by rw [H.run]; rfl)⟩
  · simp at ho
theorem fe_mapsClone {g : Nat} (H : Ext0 P g Extern.MapsClone.clone) : FEok P C g .mapsClone := by
  refine .other (by intro n r c h; cases h) fun rec args h out ho => ?_
  simp only [goFE, cClone] at ho
  split at ho
  · rename_i t r
    simp only [bnd_some, ok_some] at ho
    obtain ⟨ec, hm, rfl⟩ := ho
    intro ρ w args' cs hv hh hg
    obtain ⟨x', rfl, hx⟩ := hv.one_inv
    obtain ⟨v', rfl, hv'⟩ := hx.iface_inv
    obtain ⟨p, hp, rfl⟩ := hv'.map_inv
    obtain ⟨es', hw, he⟩ := mapAt_ok (hh.at' r) hp hm
    have hnew := newB_ok hh (.map ec.1 ec.2) (.map ⟨es'⟩ ec.2) 0 (Nat.le_refl _) (.map (alloc_get w _) (he.mono (Mp.le_put hh.none_ctr)))
    refine .inl ⟨_, _, _, .iface t (.map (some w.heap.size)), _, rfl, .iface t (.map (p := ⟨w.heap.size, 0, 0⟩) ?_), hnew.1, hnew.2, .inl ?_⟩
    · unfold Mp.put; rw [if_pos rfl]
    · rw [H.run]
      have h1 : (getObj p.blk).run P w = .ok (.map ⟨es'⟩ ec.2) w := by simp [getObj, Sem.run, hw]
      change (Sem.run P (do
        let .map entries clock ← getObj p.blk | stuck "maps.clone: a map expected"
        pure (Value.iface t (.map (some (← newObj (.map entries clock)))))) w).andThen _ = _
      simp only [Sem.run_bind, h1, Result.andThen_ok]
      rfl
  · simp at ho
end
end Go.Ai
namespace Go.Ai
/-! ### tables -/
namespace T
variable {α : Type}
def All (p : Nat → α → Prop) : T α → (Nat → Nat) → Prop
  | .e, _ => True
  | .n v l r, f => (∀ x, v = some x → p (f 0) x) ∧ All p l (fun k => f (2 * k + 1)) ∧ All p r (fun k => f (2 * k + 2))
theorem All.get {p : Nat → α → Prop} : ∀ {t : T α} {f : Nat → Nat}, All p t f → ∀ k x, t.get k = some x → p (f k) x
  | .e, f, _, k, x, h => by simp at h
  | .n v l r, f, ⟨h0, hl, hr⟩, 0, x, h => h0 x h
  | .n v l r, f, ⟨h0, hl, hr⟩, k + 1, x, h => by
    rw [get_succ] at h
    by_cases hk : k % 2 = 0
    · rw [if_pos hk] at h
      have := All.get hl (k / 2) x h
      rwa [show 2 * (k / 2) + 1 = k + 1 by omega] at this
    · rw [if_neg hk] at h
      have := All.get hr (k / 2) x h
      rwa [show 2 * (k / 2) + 2 = k + 1 by omega] at this
theorem All.some {p : Nat → α → Prop} {x : α} {l r : T α} {f : Nat → Nat} (h : p (f 0) x) (hl : All p l (fun k => f (2 * k + 1))) (hr : All p r (fun k => f (2 * k + 2))) : All p (.n (some x) l r) f := ⟨fun _ e => by cases e; exact h, hl, hr⟩
theorem All.none {p : Nat → α → Prop} {l r : T α} {f : Nat → Nat} (hl : All p l (fun k => f (2 * k + 1))) (hr : All p r (fun k => f (2 * k + 2))) : All p (.n none l r) f := ⟨fun _ e => (nomatch e), hl, hr⟩
end T

theorem VR_flat_eq {ρ : Mp} : ∀ (d : Nat) (v : Value) {v' : Value}, flat d v = true → VR ρ v v' → v = v' := by
  intro d
  induction d with
  | zero => intro v v' h; simp [flat] at h
  | succ d ih =>
    have all : ∀ (vs vs' : List Value), vs.all (flat d) = true → VRs ρ vs vs' → vs = vs' := by
      intro vs
      induction vs with
      | nil => intro vs' _ h; cases h; rfl
      | cons x xs ihx =>
        intro vs' h hr
        cases hr with
        | cons h1 h2 =>
          simp at h
          rw [ih _ h.1 h1, ihx _ (by simpa using h.2) h2]
    intro v v' h hr
    cases hr with
    | bool b => rfl
    | int k n => rfl
    | float k n => rfl
    | complex k a b => rfl
    | string s => rfl
    | nilPtr => rfl
    | ptr _ => simp [flat] at h
    | nilSl => rfl
    | sl _ _ _ _ => simp [flat] at h
    | nilMap => rfl
    | map _ => simp [flat] at h
    | nilChan => rfl
    | func f hx hy => simp [flat] at h
    | yield _ => simp [flat] at h
    | nilFunc => rfl
    | nilIface => rfl
    | iface t hv => simp only [flat] at h; rw [ih _ h hv]
    | agg hv => simp only [flat] at h; rw [all _ _ h hv]
    | tuple hv => simp only [flat] at h; rw [all _ _ h hv]

section
variable {P : Program} {C : Ctx}
theorem go_calls (HF : CtxF P C) (hng : C.ng ≤ bigLow) {n g : Nat} {args : List Value} {h h' : H} {v : Value} (hgo : go C n (.call g args h) = some (.ret v h')) {fn : Func} {c : Code} (hf : P.funcs[g]? = some fn) (hname : (fn.name == "runtime.NumGoroutine") = false) (hb : fn.body = some c)
    {ρ : Mp} {w : World} {args' : Array Value} (hv : VRs ρ args args'.toList) (hh : HR ρ h w) (hg : GlR C.ng ρ) :
    Calls P g args' w fun e w' => ∃ v' ρ', e = .returned v' ∧ VR ρ' v v' ∧ HR ρ' h' w' ∧ Ext ρ h w ρ' h' w' := by
  intro cs
  have hen := run_callFunc_body (P := P) hf hname hb args' w
  rcases sound HF hng n _ _ hgo ρ w args'.toList cs hv hh hg with ⟨v1, h1, ρ', v', w', e1, e2, e3, e4, e5⟩ | ⟨ch, h1, ρ', ch', w', e1, _⟩
  · cases e1
    rcases e5 with e5 | ⟨_, fr, s1, s2, s3⟩
    · rw [hen] at e5; cases e5
    · exact ⟨.returned v', w', fr, ⟨v', ρ', rfl, e2, e3, e4⟩, s1, s2, s3⟩
  · cases e1

/-- memory of which nothing is known -/
noncomputable def h00 (d : Nat) : H := { bl := T.mk d, ctr := 0, low := bigLow }
def Mp.none : Mp := fun _ => Option.none
theorem h00_get (d b : Nat) : (h00 d).bl.get b = Option.none := mk_get d b
theorem HR.none (d : Nat) (w : World) : HR Mp.none (h00 d) w where
  dom := fun _ _ h => (nomatch h)
  big := fun b x h => by rw [h00_get] at h; cases h
  con := fun b x p h _ => by rw [h00_get] at h; cases h
  inj := fun _ _ _ _ _ _ _ _ h _ => (nomatch h)
  fam := fun b x h => by rw [h00_get] at h; cases h
  own := fun _ _ _ _ h => (nomatch h)

/-- a call that needs nothing of memory -/
theorem go_alone (HF : CtxF P C) (hng : C.ng = 0) {n d g : Nat} {args : List Value} {h' : H} {v : Value} (hgo : go C n (.call g args (h00 d)) = some (.ret v h')) {fn : Func} {c : Code} (hf : P.funcs[g]? = some fn) (hname : (fn.name == "runtime.NumGoroutine") = false) (hb : fn.body = some c)
    (k : Nat) (hargs : args.all (flat k) = true) (hfl : flat k v = true) (w : World) : Calls P g args.toArray w fun e w' => e = .returned v ∧ Go.RowKit.Below w.heap.size w w' := by
  have hv : VRs Mp.none args args := by
    clear hgo
    induction args with
    | nil => exact .nil
    | cons x xs ih => simp at hargs; exact .cons (flat_VR _ _ _ hargs.1) (ih (by simpa using hargs.2))
  refine (go_calls HF (by rw [hng]; exact Nat.zero_le _) hgo hf hname hb (args' := args.toArray) (by simpa using hv) (HR.none d w) (fun g hg => by rw [hng] at hg; exact absurd hg (Nat.not_lt_zero _))).mono ?_
  rintro e w' ⟨v', ρ', rfl, hvr, _, he⟩
  refine ⟨?_, he.below fun b x p _ hp => by cases hp⟩
  have : v = v' := VR_flat_eq k v hfl hvr
  rw [this]
end
end Go.Ai
namespace Go.Ai
/-- what is looked up of a type, all at once -/
noncomputable def tiFacts (P : Program) (t : Nat) (ti : TI) : Option TypeDesc × Option (Nat × Nat × Option Value) × Option Value × Bool :=
  (P.underlying t, (P.info? t).map (fun i => (i.size, i.bytes, i.zero)), ofCells ti ti.zero,
    ((match ti.desc with | .struct _ => ti.agg | .array _ _ => ti.agg | _ => !ti.agg) && (ti.zero.all (flat 9) && (ti.zero.all oneC && (Nat.beq ti.zero.length ti.size &&
      ((match ti.desc with | .struct fs => (match fs.toList.mapM (fun f => (P.info? f.type).map fun i => (f.offset, i.size)) with | some l => decide (l = ti.places) | none => false) | _ => true) &&
        (!ti.peq || (!P.stoodInHeld t && (!P.eqGuardType P.depth t && (match ti.desc with | .struct fs => fs.toList.all (fun f => f.name != "_") | _ => true))))))))))
theorem tiOk_of {P : Program} {t : Nat} {ti : TI} {z : Value} (h : tiFacts P t ti = (some ti.desc, some (ti.size, ti.bytes, some z), some z, true)) : TIok P t ti := by
  unfold tiFacts at h
  simp only [Prod.mk.injEq, Bool.and_eq_true] at h
  obtain ⟨h1, h2, h3, h4, h5, h6, h7, h8, h9⟩ := h
  refine ⟨h1, ?_, ?_, h5, h6, Nat.eq_of_beq_eq_true h7, ?_, ?_⟩
  · cases hi : P.info? t with
    | none => rw [hi] at h2; cases h2
    | some i =>
      rw [hi] at h2
      simp only [Option.map_some, Option.some.injEq, Prod.mk.injEq] at h2
      exact ⟨i, z, rfl, h2.1, h2.2.1, h2.2.2, h3⟩
  · revert h4
    cases ti.desc <;> simp
  · intro fs hfs
    rw [hfs] at h8
    simp only at h8
    split at h8
    · rename_i l hl
      rw [hl, of_decide_eq_true h8]
    · cases h8
  · intro hp
    rw [hp] at h9
    simp only [Bool.not_true, Bool.false_or, Bool.and_eq_true, Bool.not_eq_true'] at h9
    refine ⟨h9.1, h9.2.1, fun fs hfs f hf => ?_⟩
    have h9 := h9.2.2
    rw [hfs] at h9
    simp only [List.all_eq_true] at h9
    have := h9 f hf
    simpa using this
end Go.Ai
