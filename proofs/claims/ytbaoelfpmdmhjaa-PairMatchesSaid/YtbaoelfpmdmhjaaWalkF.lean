/- Contracts of the document own functions: number, Bytes, Is, Split, Valid, closer, other, All, Same; counting and stacking tell the same pairs. Conditions: as each theorem says. -/
import Derived.Test.YtbaoelfpmdmhjaaEngineD
import Derived.Test.YtbaoelfpmdmhjaaWalkE
import Derived.Lib.IndexEntry
namespace Go.Ai
section
variable {P : Program} {C : Ctx}
theorem bytesOf_map : ∀ bs : List UInt8, bytesOfCells (bs.map byteV) = some bs
  | [] => rfl
  | b :: bs => by
    show bytesOfCells (.int .u8 (.ofNat b.toNat) :: bs.map byteV) = _
    simp only [bytesOfCells, need_some, bnd_some, ok_some]
    refine ⟨Nat.ble_eq_true_of_le b.toNat_lt, bs, bytesOf_map bs, ?_⟩
    rw [UInt8.ofNat_toNat]
theorem conv_str {s d : TypeId} {x : Operand} {tm : T Value} {h : H} {si di ei : TI} {e e' : TypeId} {b n c fam fz : Nat} {cs : List Value} (bs : List UInt8) (hx : ev C.ng tm x = some (.slice (some ⟨b, 0, none⟩) (n + 1) c)) (hsi : tinfo C s = some si) (hs : si.desc = .slice e) (hdi : tinfo C d = some di) (hd : di.desc = .string)
    (hei : tinfo C e = some ei) (he : ei.desc = .int .u8) (hb : h.bl.get b = some (.cells cs e' fam fz)) (hl : cs.length = n + 1) (hc : cs = bs.map byteV) : aOp (.convert s d x) C tm h = some (.val (str bs) h) := by
  simp only [aOp, opConv, bnd_some]
  refine ⟨_, hx, (str bs, h), ?_, rfl⟩
  simp only [aConv, bnd_some]
  refine ⟨si, hsi, di, hdi, ?_⟩
  rw [hs, hd]
  simp only [bnd_some]
  refine ⟨ei, hei, ?_⟩
  rw [he]
  simp only [bnd_some, ok_some]
  refine ⟨bs, ?_, rfl⟩
  simp only [loadB, hb, need_some]
  refine ⟨Nat.ble_eq_true_of_le (by rw [hl]; simp), ?_⟩
  rw [show cut cs 0 (n + 1) = cs from by unfold cut; rw [List.drop_zero, List.take_of_length_le (by omega)], hc]
  exact bytesOf_map bs
theorem wu8 {n : Int} (m : Nat) (h : n = m) (hm : m < 256) : IntKind.wrap .u8 n = ((UInt8.ofNat m).toNat : Nat) := by
  subst h
  rw [show IntKind.wrap .u8 (m : Int) = (m : Int) from inK_u8 (by omega)]
  simp
  omega
theorem bv {n : Int} {b : UInt8} (h : n = (b.toNat : Nat)) : Value.int .u8 n = byteV b := by subst h; rfl
end
end Go.Ai
namespace Go.Ai
section
variable {P : Program} {C : Ctx} {h0 : H}
/-- the same tables, one package variable known -/
noncomputable def up1 (C : Ctx) : Ctx := ⟨C.tt, C.ft, 1⟩
theorem call_up (hng : C.ng = 0) {g : Nat} {args : List Value} {h : H} {out : Out} (c : CallOk P C g args h out) : CallOk P (up1 C) g args h out :=
  fun ρ w args' cs hv hh _ => c ρ w args' cs hv hh (fun g hg => by rw [hng] at hg; exact absurd hg (Nat.not_lt_zero _))
theorem ctx_up (HF : CtxF P C) (hng : C.ng = 0) : CtxF P (up1 C) where
  tt := ⟨HF.tt.tt⟩
  ft := fun g fe h => by
    cases HF.ft g fe h with
    | body hf hname hb hn hr hc => exact .body hf hname hb hn hr hc
    | other hb ho => exact .other hb fun rec args h out e => call_up hng (ho rec args h out e)
theorem fn_wpN (HF : CtxF P C) (hng : C.ng ≤ bigLow) {g n : Nat} {res : List ResultVar} {c : Code} (hft : C.ft.get g = some (.body n res c)) {args : List Value} {h h' : H} {v : Value}
    (w : wpC P C h none c (RetW C res fun v1 h1 => v1 = v ∧ h1 = h') ⟨initT n args, [], none, h⟩) : CallOk P C g args h (.ret v h') :=
  fn_call HF hft (wpC_ok HF.tt hng _ _ _ w)
theorem LB.nextN (HC : CtxT P C) (hng : C.ng ≤ bigLow) {rd : Option Nat} {c : Code} {s : St} {Q : Ex → St → Prop} (x : wpC P C h0 rd c (fun e s1 => match e with | .normal => LB P C h0 rd c s1 Q | e => Q e s1) s) : LB P C h0 rd c s Q :=
  LB.next (wpC_ok HC hng _ _ _ x)
/-- the first package variable holds a number -/
def Cell0 (m : Int) (h : H) : Prop := ∃ e fam fz, h.bl.get 0 = some (.cells [.int .i64 m] e fam fz)
theorem cell0_at {m : Int} {h : H} {ρ : Mp} {w : World} (hc : Cell0 m h) (hh : HR ρ h w) (hg : GlR 1 ρ) : w.cell? ⟨0, 0, none⟩ = some (.int .i64 m) := by
  obtain ⟨e, fam, fz, hb⟩ := hc
  obtain ⟨p, hp, h1, h2⟩ := hg 0 Nat.zero_lt_one
  have := hh.con 0 _ p hb hp
  cases this with
  | cells hw hn hl hcs hf =>
    obtain ⟨v', k1, k2⟩ := hcs 0 (.int .i64 m) rfl
    have := k2.int_inv
    subst this
    rw [h1] at hw
    rw [h2] at k1
    simp only [Nat.zero_add] at k1
    unfold World.cell?
    simp [hw, k1]
/-- memory of which the first package variable alone is known -/
noncomputable def hM (m : Int) (e : TypeId) (fz : Nat) : H := ⟨tree8 (some (.cells [.int .i64 m] e 0 fz)) none none none none none none none, 1, bigLow⟩
theorem hM_get {m : Int} {e : TypeId} {fz : Nat} {b : Nat} {x : Blk} (h : (hM m e fz).bl.get b = some x) : b = 0 ∧ x = .cells [.int .i64 m] e 0 fz := by
  have hlt := keysB_ok (cc := 1) (f := fun k => k) (t := (hM m e fz).bl) rfl b x h
  have hb : b = 0 := by omega
  subst hb
  cases h
  exact ⟨rfl, rfl⟩
theorem pure_of1 {g k : Nat} {m : Int} {e : TypeId} {fz : Nat} {args : List Value} {v : Value} {h' : H} (c : CallOk P (up1 C) g args (hM m e fz) (.ret v h')) (hlow : 0 < h'.low) (hargs : args.all (flat k) = true) (hfl : flat k v = true) :
    ∀ (h : H) (fam : Nat), h.bl.get 0 = some (.cells [.int .i64 m] e fam fz) → CallOk P (up1 C) g args h (.ret v h) := by
  intro h fam hb ρ w args' cs hv hh hg
  have := flats_eq' hargs hv
  subst this
  obtain ⟨p, hp, h1, h2⟩ := hg 0 Nat.zero_lt_one
  have hat : ∀ b q, (fun b => if b = 0 then ρ 0 else none : Mp) b = some q → b = 0 ∧ ρ 0 = some q := by
    intro b q hq
    simp only at hq
    split at hq
    · exact ⟨by assumption, hq⟩
    · cases hq
  have hr : HR (fun b => if b = 0 then ρ 0 else none) (hM m e fz) w := by
    refine ⟨?_, ?_, ?_, ?_, ?_, ?_⟩
    · intro b q hq
      obtain ⟨rfl, hq⟩ := hat b q hq
      exact ⟨Nat.zero_lt_one, (hh.dom 0 q hq).2⟩
    · intro b x hx
      rw [(hM_get hx).1]
      exact Nat.zero_lt_one
    · intro b x q hx hq
      obtain ⟨rfl, rfl⟩ := hM_get hx
      obtain ⟨_, hq⟩ := hat _ q hq
      have := hh.con 0 _ q hb hq
      cases this with
      | cells hw hn hl hc hf => exact .cells hw hn hl (fun j v hv => by
          obtain ⟨v', z1, z2⟩ := hc j v hv
          have hfv : flat 3 v = true := by rw [List.mem_singleton.1 (List.mem_of_getElem? hv)]; rfl
          rw [← VR_flat_eq 3 v hfv z2] at z1
          exact ⟨v, z1, flat_VR _ _ _ hfv⟩) hf
    · intro b b' x x' q q' hx hx' _ _ _
      rw [(hM_get hx).1, (hM_get hx').1]
    · intro b x hx
      obtain ⟨rfl, rfl⟩ := hM_get hx
      exact Nat.le_refl _
    · intro b x q hx hq _
      obtain ⟨_, hq⟩ := hat b q hq
      rw [hp] at hq
      cases hq
      exact h2
  have hg1 : GlR (up1 C).ng (fun b => if b = 0 then ρ 0 else none) := by
    intro g hg
    have : g = 0 := by have : g < 1 := hg; omega
    subst this
    exact ⟨p, by simp only [if_true]; exact hp, h1, h2⟩
  rcases c _ w args cs (flats_VRk hargs) hr hg1 with ⟨v1, h3, ρ1, v', w', he, k2, k3, k4, k5⟩ | ⟨_, _, _, _, _, he, _⟩
  case inr => cases he
  cases he
  have := VR_flat_eq k _ hfl k2
  subst this
  have hkeep : ∀ k, k < w.heap.size → w'.heap[k]? = w.heap[k]? := fun k hk => k4.keep k hk fun b x p hx _ _ => by
    obtain ⟨rfl, rfl⟩ := hM_get hx
    exact hlow
  exact .inl ⟨v, h, ρ, v, w', rfl, flat_VR _ _ _ hfl, hh.keepw k4.size hkeep, Ext.keepw k4.os k4.tape k4.output k4.size hkeep, k5⟩
end
end Go.Ai
namespace Go.Ai
section
variable {P : Program} {C : Ctx}
/-- a call that reads some blocks, and turns nothing, wherever these lie -/
theorem call_read (hng : C.ng = 0) {g : Nat} {args args1 : List Value} {v : Value} {L : List Nat} {t : T Blk} {low : Nat} {h2 : H} (hc : CallOk P C g args ⟨t, L.length, low⟩ (.ret v h2)) (hv : flat 3 v = true)
    {h : H} (ha : rnL (rnV (nth L) L.length 3) args = some args1) (hh : HeapRn L L.length t h L 0) (hk : keysB L.length t (fun k => k) = true) (hL : L.Nodup) (hfam : ∀ j x, t.get j = some x → famOf j x < h2.low) : CallOk P C g args1 h (.ret v h) := by
  intro ρ w args' cs hva hr hg
  have r1 := HR_ren (low := low) hr hh hk hL
  have hva1 : VRs (ρ.ren (nth L) L.length) args args' := rnL_ok (fun a b c hab hbc => rnV_ok 3 a b c hab hbc) ha hva
  rcases hc _ w args' cs hva1 r1 (fun g hg => by rw [hng] at hg; exact absurd hg (Nat.not_lt_zero _)) with ⟨v1, h3, ρ1, v', w', he, k2, k3, k4, k5⟩ | ⟨_, _, _, _, _, he, _⟩
  case inr => cases he
  cases he
  have hveq := VR_flat_eq 3 _ hv k2
  subst hveq
  have hkeep : ∀ k, k < w.heap.size → w'.heap[k]? = w.heap[k]? := fun k hk => k4.keep k hk fun b x p hx _ _ => hfam b x hx
  exact .inl ⟨v, h, ρ, v, w', rfl, flat_VR _ _ _ hv, hr.keepw k4.size hkeep, Ext.keepw k4.os k4.tape k4.output k4.size hkeep, k5⟩
/-- a function of plain values to a plain value, in worlds whose first package variable holds a number: as a call -/
theorem calls_wp1 (HF : CtxF P (up1 C)) {g n k : Nat} {res : List ResultVar} {c : Code} (hft : C.ft.get g = some (.body n res c)) {args : List Value} {v : Value} {m : Int} {w : World} {fn : Func} {cb : Code}
    (hcell : w.cell? ⟨0, 0, none⟩ = some (.int .i64 m)) (hf : P.funcs[g]? = some fn) (hname : (fn.name == "runtime.NumGoroutine") = false) (hb : fn.body = some cb) (hargs : args.all (flat k) = true) (hfl : flat k v = true)
    (x : ∀ e fz, wpC P (up1 C) (hM m e fz) none c (RetW (up1 C) res fun v' h' => v' = v ∧ 0 < h'.low) ⟨initT n args, [], none, hM m e fz⟩) :
    Calls P g args.toArray w fun e w' => e = .returned v ∧ Go.RowKit.Below w.heap.size w w' := by
  intro cs
  have hen := run_callFunc_body (P := P) hf hname hb args.toArray w
  obtain ⟨arr, e, fr, hw, ha⟩ : ∃ arr e fr, w.heap[0]? = some (.cells arr e fr) ∧ arr[0]? = some (.int .i64 m) := by
    unfold World.cell? at hcell
    split at hcell
    · rename_i c e fr hw
      simp at hcell
      exact ⟨c, e, fr, hw, by simpa using hcell⟩
    · cases hcell
  have hsz : 0 < arr.size := by
    rcases Nat.eq_zero_or_pos arr.size with h0 | h0
    · have : arr[0]? = none := by simp [h0]
      rw [this] at ha; cases ha
    · exact h0
  have hlt : 0 < w.heap.size := by
    rcases Nat.eq_zero_or_pos w.heap.size with h0 | h0
    · have : w.heap[0]? = none := by simp [h0]
      rw [this] at hw; cases hw
    · exact h0
  let ρ : Mp := fun b => if b = 0 then some ⟨0, 0, arr.size⟩ else none
  have hat : ∀ b q, ρ b = some q → b = 0 ∧ q = ⟨0, 0, arr.size⟩ := by
    intro b q hq
    simp only [ρ] at hq
    split at hq
    · cases hq; exact ⟨by assumption, rfl⟩
    · cases hq
  have hr : HR ρ (hM m e (2 * fr.2)) w := by
    refine ⟨?_, ?_, ?_, ?_, ?_, ?_⟩
    · intro b q hq
      obtain ⟨rfl, rfl⟩ := hat b q hq
      exact ⟨Nat.zero_lt_one, hlt⟩
    · intro b y hy
      rw [(hM_get hy).1]
      exact Nat.zero_lt_one
    · intro b y q hy hq
      obtain ⟨rfl, rfl⟩ := hM_get hy
      obtain ⟨_, rfl⟩ := hat _ q hq
      refine .cells (arr := arr) (fr := fr) hw rfl (by simp; omega) (fun j u hu => ?_) (.inl ?_)
      · have hj : j = 0 := by
          have := (List.getElem?_eq_some_iff.1 hu).1
          simp at this
          exact this
        subst hj
        cases hu
        exact ⟨_, by simpa using ha, .int _ _⟩
      · simp only; omega
    · intro b b' y y' q q' hy hy' _ _ _
      rw [(hM_get hy).1, (hM_get hy').1]
    · intro b y hy
      obtain ⟨rfl, rfl⟩ := hM_get hy
      exact Nat.le_refl _
    · intro b y q hy hq _
      obtain ⟨_, rfl⟩ := hat b q hq
      rfl
  have hg : GlR (up1 C).ng ρ := by
    intro g hg
    have : g = 0 := by have : g < 1 := hg; omega
    subst this
    exact ⟨⟨0, 0, arr.size⟩, rfl, rfl, rfl⟩
  obtain ⟨v1, h1, ρ1, v', w', ⟨rfl, hlow⟩, k2, k3, k4, k5⟩ := fn_run HF hft (wpC_ok HF.tt (show 1 ≤ bigLow by decide) _ _ _ (x e (2 * fr.2))) cs (flats_VRk hargs) hr hg
  have := VR_flat_eq k _ hfl k2
  subst this
  rcases k5 with k5 | ⟨_, f, s1, s2, s3⟩
  · have := hen.symm.trans k5
    cases this
  · refine ⟨.returned v1, w', f, ⟨rfl, ?_⟩, s1, s2, s3⟩
    exact k4.below fun b y p hy hp => by
      obtain ⟨rfl, rfl⟩ := hM_get hy
      exact hlow
end
end Go.Ai
set_option maxRecDepth 100000
set_option maxHeartbeats 2000000
namespace Go.Proofs.Ytbaoelfpmdmhjaa
open Go.Ai
/-! ### the document's runes: number -/
def baseS (k : Nat) : Nat := if k = 2 then 192 else if k = 3 then 224 else 240
def stepN (s : List UInt8) (i n : Nat) : Option Nat :=
  if i = 0 then (if (s.getD i 0).toNat < baseS s.length then none else some ((s.getD i 0).toNat - baseS s.length))
  else if (s.getD i 0).toNat < 128 ∨ 191 < (s.getD i 0).toNat then none else some (64 * n + ((s.getD i 0).toNat - 128))
def numTo (s : List UInt8) : Nat → Option Nat
  | 0 => some 0
  | i + 1 => match numTo s i with | none => none | some n => stepN s i n
theorem numTo_none (s : List UInt8) (i : Nat) : ∀ k, numTo s i = none → numTo s (i + k) = none
  | 0, h => h
  | k + 1, h => by
    have := numTo_none s i k h
    show (match numTo s (i + k) with | none => none | some n => stepN s (i + k) n) = none
    rw [this]
def numS (s : List UInt8) : Int := if s.length = 1 then (s.getD 0 0).toNat else match numTo s s.length with | none => -1 | some n => n
theorem wbyte (b : UInt8) : IntKind.wrap .i64 ((b.toNat : Nat) : Int) = (b.toNat : Nat) := inK_i64 (by have := b.toNat_lt; omega)
theorem number_ok (s : List UInt8) (h1 : 1 ≤ s.length) (h4 : s.length ≤ 4) : ∀ h, CallOk Try.prog C 72 [str s] h (.ret (.int .i64 (numS s)) h) := by
  refine pure_call CF rfl (d := 4) (k := 3) (n := 46) (res := [.tmp 2]) (c := (codeOf Try.f72)) rfl rfl rfl ?_
  refine TB.seq (tb_wp CF.tt rfl ?_)
  refine TB.seq (tb_wp CF.tt rfl ?_)
  refine And.intro (fun g1 => ?_) (fun g1 => ?_)
  · have g1 : ((s.length : Nat) : Int) = 1 := of_decide_eq_true g1
    have g1 : s.length = 1 := by omega
    refine And.intro (show (0 : Int) ≤ 0 ∧ (0 : Int) < (s.length : Nat) by omega) ?_
    unfold numS
    rw [if_pos g1]
    exact retI (wbyte _)
  · have g1 : ¬ ((s.length : Nat) : Int) = 1 := of_decide_eq_false g1
    have g1 : s.length ≠ 1 := by omega
    have hnS : numS s = match numTo s s.length with | none => -1 | some n => n := by unfold numS; rw [if_neg g1]
    have stop : ∀ i, i < s.length → numTo s (i + 1) = none → numS s = -1 := by
      intro i hi hn
      have := numTo_none s (i + 1) (s.length - (i + 1)) hn
      rw [show i + 1 + (s.length - (i + 1)) = s.length by omega] at this
      rw [hnS, this]
    refine TB.seq (tb_wp CF.tt rfl ?_)
    refine TB.seq (tb_wp CF.tt rfl ?_)
    refine loopT (fun x : Nat × Nat => ⟨tmOf 7 [(0, str s), (3, I x.2), (4, I x.1)], [], none, h00 4⟩) (0, 0) (weak_live ⟨rfl, rfl, rfl, trivial⟩ rfl rfl rfl)
      (fun x => s.length - x.1) (fun x => x.1 ≤ s.length ∧ numTo s x.1 = some x.2 ∧ x.2 < (if x.1 = 0 then 1 else if x.1 = 1 then 64 else if x.1 = 2 then 4096 else if x.1 = 3 then 262144 else 16777216)) ⟨Nat.zero_le _, rfl, by simp⟩ ?_
    rintro ⟨i, n⟩ ⟨hi, hn, hb⟩
    simp only at hi hn hb
    refine TB.seq (tb_wp CF.tt rfl ?_)
    refine And.intro (fun g2 => ?_) (fun g2 => ?_)
    · have g2 := of_decide_eq_true g2
      have hil : i < s.length := by
        have : (i : Int) < (s.length : Nat) := g2
        omega
      have hsn : numTo s (i + 1) = stepN s i n := by
        show (match numTo s i with | none => none | some n => stepN s i n) = _
        rw [hn]
      obtain ⟨b, hbe⟩ : ∃ b, s.getD i 0 = b := ⟨_, rfl⟩
      have hblt := b.toNat_lt
      unfold stepN at hsn
      rw [hbe] at hsn
      refine TB.seq (TB.block ?_)
      refine cut_at (fun _ : Unit => ⟨tmOf 7 [(0, str s), (3, I n), (4, I i), (5, I b.toNat)], [], none, h00 4⟩) (fun _ => True) (tb_wp CF.tt rfl ?_) ?_
      · refine And.intro (show (0 : Int) ≤ i ∧ (i : Int) < (s.length : Nat) by omega) ?_
        refine ⟨(), trivial, weak_live ⟨rfl, rfl, rfl, iv ?_, trivial⟩ rfl rfl rfl⟩
        show IntKind.wrap .i64 (((s.getD i 0).toNat : Nat) : Int) = _
        rw [wbyte, hbe]
      rintro ⟨⟩ -
      refine cut_at (fun z : Int => ⟨tmOf 7 [(0, str s), (3, I n), (4, I i), (5, .int .i64 z)], [], none, h00 4⟩) (fun z => (i = 0 ∧ z = (b.toNat : Int) - baseS s.length) ∨ (i ≠ 0 ∧ z = (b.toNat : Int) - 128 ∧ 0 ≤ z ∧ z ≤ 63)) (tb_wp CF.tt rfl ?_) ?_
      · refine And.intro (fun g3 => ?_) (fun g3 => ?_)
        · have g3 := of_decide_eq_true g3
          have hi0 : i = 0 := by
            have : (i : Int) = 0 := g3
            omega
          clear stop hnS hsn hn hb
          rcases s with _ | ⟨c0, _ | ⟨c1, _ | ⟨c2, _ | ⟨c3, _ | ⟨c4, s⟩⟩⟩⟩⟩
          · exact absurd h1 (by simp)
          · exact absurd rfl g1
          · refine Or.inl (And.intro (inK_i64 (by first | omega | (simp only <;> omega) | (simp only [Array.size_setIfInBounds, Go.Ai.swp_size] <;> omega))) ?_)
            exact ⟨(b.toNat : Int) - 192, .inl ⟨hi0, rfl⟩, weak_flat (k := 3) ⟨rfl, rfl, rfl, rfl, trivial⟩ rfl rfl rfl⟩
          · refine Or.inl (And.intro (inK_i64 (by first | omega | (simp only <;> omega) | (simp only [Array.size_setIfInBounds, Go.Ai.swp_size] <;> omega))) ?_)
            exact ⟨(b.toNat : Int) - 224, .inl ⟨hi0, rfl⟩, weak_flat (k := 3) ⟨rfl, rfl, rfl, rfl, trivial⟩ rfl rfl rfl⟩
          · refine Or.inl (And.intro (inK_i64 (by first | omega | (simp only <;> omega) | (simp only [Array.size_setIfInBounds, Go.Ai.swp_size] <;> omega))) ?_)
            exact ⟨(b.toNat : Int) - 240, .inl ⟨hi0, rfl⟩, weak_flat (k := 3) ⟨rfl, rfl, rfl, rfl, trivial⟩ rfl rfl rfl⟩
          · exact absurd h4 (by simp)
        · have g3 := of_decide_eq_false g3
          have hi0 : i ≠ 0 := by
            have : ¬ (i : Int) = 0 := g3
            omega
          rw [if_neg hi0] at hsn
          refine Or.inl (And.intro (inK_i64 (by first | omega | (simp only <;> omega) | (simp only [Array.size_setIfInBounds, Go.Ai.swp_size] <;> omega))) ?_)
          refine And.intro (fun g4 => ?_) (fun g4 => ?_)
          · have g4 := of_decide_eq_false g4
            repeat (first | (refine And.intro (fun _ => ?_) (fun h => Go.Ai.tf h)) | (refine And.intro (fun _ => ?_) (fun h => Go.Ai.ft h)) | (refine And.intro (fun h => Go.Ai.ft h) (fun _ => ?_)) | (refine And.intro (fun h => Go.Ai.tf h) (fun _ => ?_)))
            refine And.intro (fun g5 => ?_) (fun g5 => ?_)
            · have g5 := of_decide_eq_true g5
              refine retI ?_
              rw [stop i hil (by rw [hsn, if_pos (.inr (by omega))])]
            · have g5 := of_decide_eq_false g5
              exact ⟨(b.toNat : Int) - 128, .inr ⟨hi0, rfl, by omega, by omega⟩, weak_live ⟨rfl, rfl, rfl, rfl, trivial⟩ rfl rfl rfl⟩
          · have g4 := of_decide_eq_true g4
            repeat (first | (refine And.intro (fun _ => ?_) (fun h => Go.Ai.tf h)) | (refine And.intro (fun _ => ?_) (fun h => Go.Ai.ft h)) | (refine And.intro (fun h => Go.Ai.ft h) (fun _ => ?_)) | (refine And.intro (fun h => Go.Ai.tf h) (fun _ => ?_)))
            refine retI ?_
            rw [stop i hil (by rw [hsn, if_pos (.inl (by omega))])]
      rintro z hz
      refine TB.seq (tb_wp CF.tt rfl ?_)
      refine And.intro (fun g6 => ?_) (fun g6 => ?_)
      · have g6 := of_decide_eq_true g6
        rcases hz with ⟨hi0, hz⟩ | ⟨_, _, h0, _⟩
        · rw [if_pos hi0] at hsn
          refine retI ?_
          rw [stop i hil (by rw [hsn, if_pos (by omega)])]
        · omega
      · have g6 := of_decide_eq_false g6
        have hz0 : 0 ≤ z := by omega
        have hn' : numTo s (i + 1) = some (64 * n + z.toNat) ∧ z.toNat ≤ 63 := by
          rcases hz with ⟨hi0, hz⟩ | ⟨hi0, hz, _, h63⟩
          · rw [if_pos hi0, if_neg (by omega)] at hsn
            subst hi0
            have : n = 0 := by
              have h0 : numTo s 0 = some 0 := rfl
              rw [h0] at hn
              cases hn
              rfl
            subst this
            refine ⟨by rw [hsn]; congr 1; omega, ?_⟩
            have : baseS s.length ≥ 192 := by unfold baseS; split <;> (try split) <;> omega
            omega
          · rw [if_neg hi0, if_neg (by omega)] at hsn
            exact ⟨by rw [hsn]; congr 1; omega, by omega⟩
        have hnb : n < 262144 := by
          by_cases h0 : i = 0
          · rw [if_pos h0] at hb; omega
          · rw [if_neg h0] at hb
            by_cases h1 : i = 1
            · rw [if_pos h1] at hb; omega
            · rw [if_neg h1] at hb
              by_cases h2 : i = 2
              · rw [if_pos h2] at hb; omega
              · rw [if_neg h2, if_pos (by omega)] at hb; exact hb
        refine tb_wp CF.tt rfl ?_
        refine Or.inl (And.intro (inK_i64 (by first | omega | (simp only <;> omega) | (simp only [Array.size_setIfInBounds, Go.Ai.swp_size] <;> omega))) ?_)
        refine Or.inl (And.intro (inK_i64 (by first | omega | (simp only <;> omega) | (simp only [Array.size_setIfInBounds, Go.Ai.swp_size] <;> omega))) ?_)
        refine tb_wp CF.tt rfl ?_
        refine Or.inl (And.intro (inK_i64 (by first | omega | (simp only <;> omega) | (simp only [Array.size_setIfInBounds, Go.Ai.swp_size] <;> omega))) ?_)
        refine ⟨(i + 1, 64 * n + z.toNat), ⟨by simp only; omega, hn'.1, ?_⟩, weak_live ⟨rfl, iv (by simp only; omega), (iv (by first | omega | (simp only <;> omega) | (simp only [Array.size_setIfInBounds, Go.Ai.swp_size] <;> omega))), trivial⟩ rfl rfl rfl, by simp only; omega⟩
        simp only
        rcases (by omega : i = 0 ∨ i = 1 ∨ i = 2 ∨ i = 3) with rfl | rfl | rfl | rfl <;> simp at hb ⊢ <;> omega
    · have g2 := of_decide_eq_false g2
      have hil : i = s.length := by
        have : ¬ (i : Int) < (s.length : Nat) := g2
        omega
      subst hil
      refine tb_wp CF.tt rfl ?_
      refine retI ?_
      rw [hnS, hn]
end Go.Proofs.Ytbaoelfpmdmhjaa
set_option maxRecDepth 100000
set_option maxHeartbeats 2000000
namespace Go.Proofs.Ytbaoelfpmdmhjaa
open Go.Ai
/-! ### the document's runes: Bytes -/
def bytesN (m : Nat) : List UInt8 :=
  if m < 128 then [UInt8.ofNat m] else if m < 2048 then [UInt8.ofNat (192 + m / 64), UInt8.ofNat (128 + m % 64)]
  else if m < 65536 then [UInt8.ofNat (224 + m / 4096), UInt8.ofNat (128 + m / 64 % 64), UInt8.ofNat (128 + m % 64)]
  else [UInt8.ofNat (240 + m / 262144), UInt8.ofNat (128 + m / 4096 % 64), UInt8.ofNat (128 + m / 64 % 64), UInt8.ofNat (128 + m % 64)]
def bytesS (n : Int) : List UInt8 := if n < 0 ∨ 1114111 < n ∨ (55296 ≤ n ∧ n < 57344) then [] else bytesN n.toNat
theorem cT {b : Bool} {A B : Prop} (h : b = true) (a : A) : (b = true → A) ∧ (b = false → B) := ⟨fun _ => a, fun e => by rw [h] at e; cases e⟩
theorem gFs {b : Bool} {A B : Prop} (h : b = true) (a : B) : (b = false → A) ∧ (b = !false → B) := ⟨fun e => (by rw [h] at e; cases e), fun _ => a⟩
theorem wrem {x y : Int} (p q : Nat) (hx : x = p) (hy : y = q) : Int.tmod x y = ((p % q : Nat) : Int) := by
  subst hx; subst hy
  rfl
theorem bytes_ok (n : Int) : ∀ h, CallOk Try.prog C 71 [.int .i64 n] h (.ret (str (bytesS n)) h) := by
  refine pure_call CF rfl (d := 4) (k := 3) (n := 72) (res := [.tmp 2]) (c := (codeOf Try.f71)) rfl rfl rfl ?_
  refine TB.seq (tb_wp CF.tt rfl ?_)
  refine cut_at (fun _ : Unit => ⟨tmOf 8 [(0, .int .i64 n)], [], none, h00 4⟩) (fun _ => ¬ (n < 0 ∨ 1114111 < n ∨ (55296 ≤ n ∧ n < 57344))) (tb_wp CF.tt rfl ?_) ?_
  · have e : (n < 0 ∨ 1114111 < n ∨ (55296 ≤ n ∧ n < 57344)) → bytesS n = [] := fun h => by unfold bytesS; rw [if_pos h]
    refine And.intro (fun h1 => ?_) (fun h1 => ?_)
    · have h1 := of_decide_eq_false h1
      repeat (first | (refine And.intro (fun _ => ?_) (fun h => Go.Ai.tf h)) | (refine And.intro (fun _ => ?_) (fun h => Go.Ai.ft h)) | (refine And.intro (fun h => Go.Ai.ft h) (fun _ => ?_)) | (refine And.intro (fun h => Go.Ai.tf h) (fun _ => ?_)))
      refine And.intro (fun h2 => ?_) (fun h2 => ?_)
      · have h2 := of_decide_eq_false h2
        repeat (first | (refine And.intro (fun _ => ?_) (fun h => Go.Ai.tf h)) | (refine And.intro (fun _ => ?_) (fun h => Go.Ai.ft h)) | (refine And.intro (fun h => Go.Ai.ft h) (fun _ => ?_)) | (refine And.intro (fun h => Go.Ai.tf h) (fun _ => ?_)))
        refine And.intro (fun h3 => ?_) (fun h3 => ?_)
        · have h3 := of_decide_eq_true h3
          repeat (first | (refine And.intro (fun _ => ?_) (fun h => Go.Ai.tf h)) | (refine And.intro (fun _ => ?_) (fun h => Go.Ai.ft h)) | (refine And.intro (fun h => Go.Ai.ft h) (fun _ => ?_)) | (refine And.intro (fun h => Go.Ai.tf h) (fun _ => ?_)))
          refine And.intro (fun h4 => ?_) (fun h4 => ?_)
          · have h4 := of_decide_eq_true h4
            rw [e (.inr (.inr ⟨h3, h4⟩))]
            rfl
          · have h4 := of_decide_eq_false h4
            exact ⟨(), by omega, weak_live ⟨rfl, trivial⟩ rfl rfl rfl⟩
        · have h3 := of_decide_eq_false h3
          repeat (first | (refine And.intro (fun _ => ?_) (fun h => Go.Ai.tf h)) | (refine And.intro (fun _ => ?_) (fun h => Go.Ai.ft h)) | (refine And.intro (fun h => Go.Ai.ft h) (fun _ => ?_)) | (refine And.intro (fun h => Go.Ai.tf h) (fun _ => ?_)))
          exact ⟨(), by omega, weak_live ⟨rfl, trivial⟩ rfl rfl rfl⟩
      · have h2 : decide (1114111 < n) = true := h2
        have h2 := of_decide_eq_true h2
        rw [e (.inr (.inl h2))]
        repeat (first | (refine And.intro (fun _ => ?_) (fun h => Go.Ai.tf h)) | (refine And.intro (fun _ => ?_) (fun h => Go.Ai.ft h)) | (refine And.intro (fun h => Go.Ai.ft h) (fun _ => ?_)) | (refine And.intro (fun h => Go.Ai.tf h) (fun _ => ?_)))
        rfl
    · have h1 : decide (n < 0) = true := h1
      have h1 := of_decide_eq_true h1
      rw [e (.inl h1)]
      repeat (first | (refine And.intro (fun _ => ?_) (fun h => Go.Ai.tf h)) | (refine And.intro (fun _ => ?_) (fun h => Go.Ai.ft h)) | (refine And.intro (fun h => Go.Ai.ft h) (fun _ => ?_)) | (refine And.intro (fun h => Go.Ai.tf h) (fun _ => ?_)))
      rfl
  rintro ⟨⟩ hgood
  have e : bytesS n = bytesN n.toNat := by unfold bytesS; rw [if_neg hgood]
  rw [e]
  obtain ⟨m, hm⟩ : ∃ m : Nat, n = m := ⟨n.toNat, by omega⟩
  have hmn : n.toNat = m := by omega
  rw [hmn]
  have hmx : m ≤ 1114111 := by omega
  refine tb_wp CF.tt rfl ?_
  refine And.intro (fun h1 => ?_) (fun h1 => ?_)
  · have h1 := of_decide_eq_true h1
    have eb : bytesN m = [UInt8.ofNat m] := by unfold bytesN; rw [if_pos (by omega)]
    rw [eb]
    refine nxW_of (conv_str [UInt8.ofNat m] rfl rfl rfl rfl rfl rfl rfl rfl rfl ?_) ?_
    · show [Value.int .u8 (IntKind.wrap .u8 n)] = [byteV (UInt8.ofNat m)]
      rw [bv (wu8 m hm (by omega))]
    · rfl
  · have h1 := of_decide_eq_false h1
    refine And.intro (fun h2 => ?_) (fun h2 => ?_)
    · have h2 := of_decide_eq_true h2
      have eb : bytesN m = [UInt8.ofNat (192 + m / 64), UInt8.ofNat (128 + m % 64)] := by unfold bytesN; rw [if_neg (by omega), if_pos (by omega)]
      rw [eb]
      have q1 : IntKind.wrap .i64 (Int.tdiv n 64) = ((m / 64 : Nat) : Int) := wquo m 64 hm rfl (by omega)
      have r1 : Int.tmod n 64 = ((m % 64 : Nat) : Int) := wrem m 64 hm rfl
      refine Or.inl (And.intro (inK_i64 (by rw [q1]; omega)) ?_)
      refine Or.inl (And.intro (inK_i64 (by rw [r1]; omega)) ?_)
      refine nxW_of (conv_str [UInt8.ofNat (192 + m / 64), UInt8.ofNat (128 + m % 64)] rfl rfl rfl rfl rfl rfl rfl rfl rfl ?_) ?_
      · show [Value.int .u8 (IntKind.wrap .u8 (192 + IntKind.wrap .i64 (Int.tdiv n 64))), Value.int .u8 (IntKind.wrap .u8 (128 + Int.tmod n 64))] = [byteV _, byteV _]
        rw [bv (wu8 (192 + m / 64) (by rw [q1]; omega) (by omega)), bv (wu8 (128 + m % 64) (by rw [r1]; omega) (by omega))]
      · rfl
    · have h2 := of_decide_eq_false h2
      refine And.intro (fun h3 => ?_) (fun h3 => ?_)
      · have h3 := of_decide_eq_true h3
        have eb : bytesN m = [UInt8.ofNat (224 + m / 4096), UInt8.ofNat (128 + m / 64 % 64), UInt8.ofNat (128 + m % 64)] := by unfold bytesN; rw [if_neg (by omega), if_neg (by omega), if_pos (by omega)]
        rw [eb]
        have q0 : IntKind.wrap .i64 (Int.tdiv n 4096) = ((m / 4096 : Nat) : Int) := wquo m 4096 hm rfl (by omega)
        have q1 : IntKind.wrap .i64 (Int.tdiv n 64) = ((m / 64 : Nat) : Int) := wquo m 64 hm rfl (by omega)
        have q2 : Int.tmod (IntKind.wrap .i64 (Int.tdiv n 64)) 64 = ((m / 64 % 64 : Nat) : Int) := wrem (m / 64) 64 q1 rfl
        have r1 : Int.tmod n 64 = ((m % 64 : Nat) : Int) := wrem m 64 hm rfl
        refine Or.inl (And.intro (inK_i64 (by rw [q0]; omega)) ?_)
        refine Or.inl (And.intro (inK_i64 (by rw [q2]; omega)) ?_)
        refine Or.inl (And.intro (inK_i64 (by rw [r1]; omega)) ?_)
        refine nxW_of (conv_str [UInt8.ofNat (224 + m / 4096), UInt8.ofNat (128 + m / 64 % 64), UInt8.ofNat (128 + m % 64)] rfl rfl rfl rfl rfl rfl rfl rfl rfl ?_) ?_
        · show [Value.int .u8 (IntKind.wrap .u8 (224 + IntKind.wrap .i64 (Int.tdiv n 4096))), Value.int .u8 (IntKind.wrap .u8 (128 + Int.tmod (IntKind.wrap .i64 (Int.tdiv n 64)) 64)), Value.int .u8 (IntKind.wrap .u8 (128 + Int.tmod n 64))] = [byteV _, byteV _, byteV _]
          rw [bv (wu8 (224 + m / 4096) (by rw [q0]; omega) (by omega)), bv (wu8 (128 + m / 64 % 64) (by rw [q2]; omega) (by omega)), bv (wu8 (128 + m % 64) (by rw [r1]; omega) (by omega))]
        · rfl
      · have h3 := of_decide_eq_false h3
        have eb : bytesN m = [UInt8.ofNat (240 + m / 262144), UInt8.ofNat (128 + m / 4096 % 64), UInt8.ofNat (128 + m / 64 % 64), UInt8.ofNat (128 + m % 64)] := by unfold bytesN; rw [if_neg (by omega), if_neg (by omega), if_neg (by omega)]
        rw [eb]
        have q0 : IntKind.wrap .i64 (Int.tdiv n 262144) = ((m / 262144 : Nat) : Int) := wquo m 262144 hm rfl (by omega)
        have q3 : IntKind.wrap .i64 (Int.tdiv n 4096) = ((m / 4096 : Nat) : Int) := wquo m 4096 hm rfl (by omega)
        have q4 : Int.tmod (IntKind.wrap .i64 (Int.tdiv n 4096)) 64 = ((m / 4096 % 64 : Nat) : Int) := wrem (m / 4096) 64 q3 rfl
        have q1 : IntKind.wrap .i64 (Int.tdiv n 64) = ((m / 64 : Nat) : Int) := wquo m 64 hm rfl (by omega)
        have q2 : Int.tmod (IntKind.wrap .i64 (Int.tdiv n 64)) 64 = ((m / 64 % 64 : Nat) : Int) := wrem (m / 64) 64 q1 rfl
        have r1 : Int.tmod n 64 = ((m % 64 : Nat) : Int) := wrem m 64 hm rfl
        refine Or.inl (And.intro (inK_i64 (by rw [q0]; omega)) ?_)
        refine Or.inl (And.intro (inK_i64 (by rw [q4]; omega)) ?_)
        refine Or.inl (And.intro (inK_i64 (by rw [q2]; omega)) ?_)
        refine Or.inl (And.intro (inK_i64 (by rw [r1]; omega)) ?_)
        refine nxW_of (conv_str [UInt8.ofNat (240 + m / 262144), UInt8.ofNat (128 + m / 4096 % 64), UInt8.ofNat (128 + m / 64 % 64), UInt8.ofNat (128 + m % 64)] rfl rfl rfl rfl rfl rfl rfl rfl rfl ?_) ?_
        · show [Value.int .u8 (IntKind.wrap .u8 (240 + IntKind.wrap .i64 (Int.tdiv n 262144))), Value.int .u8 (IntKind.wrap .u8 (128 + Int.tmod (IntKind.wrap .i64 (Int.tdiv n 4096)) 64)), Value.int .u8 (IntKind.wrap .u8 (128 + Int.tmod (IntKind.wrap .i64 (Int.tdiv n 64)) 64)), Value.int .u8 (IntKind.wrap .u8 (128 + Int.tmod n 64))] = [byteV _, byteV _, byteV _, byteV _]
          rw [bv (wu8 (240 + m / 262144) (by rw [q0]; omega) (by omega)), bv (wu8 (128 + m / 4096 % 64) (by rw [q4]; omega) (by omega)), bv (wu8 (128 + m / 64 % 64) (by rw [q2]; omega) (by omega)), bv (wu8 (128 + m % 64) (by rw [r1]; omega) (by omega))]
        · rfl
end Go.Proofs.Ytbaoelfpmdmhjaa
set_option maxRecDepth 100000
set_option maxHeartbeats 2000000
namespace Go.Proofs.Ytbaoelfpmdmhjaa
open Go.Ai
/-! ### the document's runes: Is -/
def isR (s : List UInt8) : Bool := decide (1 ≤ s.length) && (decide (s.length ≤ 4) && decide (bytesS (numS s) = s))
theorem is_ok (s : List UInt8) : ∀ h, CallOk Try.prog C 59 [str s] h (.ret (.bool (isR s)) h) := by
  refine pure_wp CF rfl 4 3 (n := 18) (res := [.tmp 2]) (c := codeOf Try.f59) rfl rfl rfl ?_
  refine And.intro (fun h1 => ?_) (fun h1 => ?_)
  · have h1 := of_decide_eq_true h1
    have h1 : 1 ≤ s.length := by
      have : (1 : Int) ≤ (s.length : Nat) := h1
      omega
    repeat (first | (refine And.intro (fun _ => ?_) (fun h => Go.Ai.tf h)) | (refine And.intro (fun _ => ?_) (fun h => Go.Ai.ft h)) | (refine And.intro (fun h => Go.Ai.ft h) (fun _ => ?_)) | (refine And.intro (fun h => Go.Ai.tf h) (fun _ => ?_)))
    refine And.intro (fun h2 => ?_) (fun h2 => ?_)
    · have h2 := of_decide_eq_true h2
      have h2 : s.length ≤ 4 := by
        have : ((s.length : Nat) : Int) ≤ 4 := h2
        omega
      repeat (first | (refine And.intro (fun _ => ?_) (fun h => Go.Ai.tf h)) | (refine And.intro (fun _ => ?_) (fun h => Go.Ai.ft h)) | (refine And.intro (fun h => Go.Ai.ft h) (fun _ => ?_)) | (refine And.intro (fun h => Go.Ai.tf h) (fun _ => ?_)))
      refine CallW.of (number_ok s h1 h2 _) ?_
      repeat (first | (refine And.intro (fun _ => ?_) (fun h => Go.Ai.tf h)) | (refine And.intro (fun _ => ?_) (fun h => Go.Ai.ft h)) | (refine And.intro (fun h => Go.Ai.ft h) (fun _ => ?_)) | (refine And.intro (fun h => Go.Ai.tf h) (fun _ => ?_)))
      refine CallW.of (bytes_ok _ _) ?_
      repeat (first | (refine And.intro (fun _ => ?_) (fun h => Go.Ai.tf h)) | (refine And.intro (fun _ => ?_) (fun h => Go.Ai.ft h)) | (refine And.intro (fun h => Go.Ai.ft h) (fun _ => ?_)) | (refine And.intro (fun h => Go.Ai.tf h) (fun _ => ?_)))
      refine retB ?_
      unfold isR
      rw [decide_eq_true h1, decide_eq_true h2]
      rfl
    · have h2 := of_decide_eq_false h2
      have h2 : ¬ s.length ≤ 4 := by
        have : ¬ ((s.length : Nat) : Int) ≤ 4 := h2
        omega
      repeat (first | (refine And.intro (fun _ => ?_) (fun h => Go.Ai.tf h)) | (refine And.intro (fun _ => ?_) (fun h => Go.Ai.ft h)) | (refine And.intro (fun h => Go.Ai.ft h) (fun _ => ?_)) | (refine And.intro (fun h => Go.Ai.tf h) (fun _ => ?_)))
      refine retB ?_
      unfold isR
      rw [decide_eq_false h2, Bool.false_and, Bool.and_false]
  · have h1 := of_decide_eq_false h1
    have h1 : ¬ 1 ≤ s.length := by
      have : ¬ (1 : Int) ≤ (s.length : Nat) := h1
      omega
    repeat (first | (refine And.intro (fun _ => ?_) (fun h => Go.Ai.tf h)) | (refine And.intro (fun _ => ?_) (fun h => Go.Ai.ft h)) | (refine And.intro (fun h => Go.Ai.ft h) (fun _ => ?_)) | (refine And.intro (fun h => Go.Ai.tf h) (fun _ => ?_)))
    refine retB ?_
    unfold isR
    rw [decide_eq_false h1, Bool.false_and]
/-! ### .. it tells what the program's own table tells -/
theorem u8eq {x : Nat} (a : UInt8) (hx : x < 256) : (UInt8.ofNat x = a) ↔ x = a.toNat := by
  constructor
  · intro h; rw [← h]; simp; omega
  · intro h; subst h; simp
theorem fst1 (n : Nat) : (fstS n).1 = 1 ↔ n < 128 := by unfold fstS; (repeat' split) <;> simp <;> omega
theorem fst2 (n : Nat) : (fstS n).1 = 2 ↔ 194 ≤ n ∧ n < 224 := by unfold fstS; (repeat' split) <;> simp <;> omega
theorem fst3 (n : Nat) : (fstS n).1 = 3 ↔ 224 ≤ n ∧ n < 240 := by unfold fstS; (repeat' split) <;> simp <;> omega
theorem fst4 (n : Nat) : (fstS n).1 = 4 ↔ 240 ≤ n ∧ n < 245 := by unfold fstS; (repeat' split) <;> simp <;> omega
theorem low2 (n : Nat) (h : 194 ≤ n ∧ n < 224) : (fstS n).2 = (128, 191) := by unfold fstS; (repeat' split) <;> first | rfl | omega
theorem low3 (n : Nat) (h : 224 ≤ n ∧ n < 240) : (fstS n).2.1 = (if n = 224 then 160 else 128) ∧ (fstS n).2.2 = (if n = 237 then 159 else 191) := by unfold fstS; (repeat' split) <;> first | omega | (simp <;> omega)
theorem low4 (n : Nat) (h : 240 ≤ n ∧ n < 245) : (fstS n).2.1 = (if n = 240 then 144 else 128) ∧ (fstS n).2.2 = (if n = 244 then 143 else 191) := by unfold fstS; (repeat' split) <;> first | omega | (simp <;> omega)
theorem sizeS_iff (a : UInt8) (r : List UInt8) : sizeS (a :: r) = (a :: r).length ↔ (fstS a.toNat).1 = (a :: r).length ∧ okTo (fstS a.toNat) (a :: r) (a :: r).length := by
  rw [sizeS_cons]
  have hlen : (a :: r).length = r.length + 1 := rfl
  rw [hlen]
  unfold begS
  by_cases hok : okTo (fstS a.toNat) (a :: r) (min (r.length + 1) (fstS a.toNat).1)
  · rw [if_pos hok]
    constructor
    · intro h
      split at h
      · omega
      · simp only at h
        refine ⟨h, ?_⟩
        rw [h, Nat.min_self] at hok
        exact hok
    · intro h
      simp only
      rw [h.1, Nat.min_self, if_neg (Nat.lt_irrefl _)]
  · rw [if_neg hok]
    constructor
    · intro h
      simp at h
    · intro h
      rw [h.1, Nat.min_self] at hok
      exact absurd h.2 hok
theorem okTo2 (p : Nat × Nat × Nat) (a b : UInt8) : okTo p [a, b] 2 ↔ (p.2.1 ≤ b.toNat ∧ b.toNat ≤ p.2.2) := by
  constructor
  · intro h
    have := h 1 (by omega) (by omega)
    simpa [okB] using this
  · intro h j h1 h2
    have : j = 1 := by omega
    subst this
    simpa [okB] using h
theorem okTo3 (p : Nat × Nat × Nat) (a b c : UInt8) : okTo p [a, b, c] 3 ↔ (p.2.1 ≤ b.toNat ∧ b.toNat ≤ p.2.2) ∧ (128 ≤ c.toNat ∧ c.toNat ≤ 191) := by
  constructor
  · intro h
    have g1 := h 1 (by omega) (by omega)
    have g2 := h 2 (by omega) (by omega)
    exact ⟨by simpa [okB] using g1, by simpa [okB] using g2⟩
  · intro h j h1 h2
    rcases (by omega : j = 1 ∨ j = 2) with rfl | rfl
    · simpa [okB] using h.1
    · simpa [okB] using h.2
theorem okTo4 (p : Nat × Nat × Nat) (a b c d : UInt8) : okTo p [a, b, c, d] 4 ↔ (p.2.1 ≤ b.toNat ∧ b.toNat ≤ p.2.2) ∧ (128 ≤ c.toNat ∧ c.toNat ≤ 191) ∧ (128 ≤ d.toNat ∧ d.toNat ≤ 191) := by
  constructor
  · intro h
    have g1 := h 1 (by omega) (by omega)
    have g2 := h 2 (by omega) (by omega)
    have g3 := h 3 (by omega) (by omega)
    exact ⟨by simpa [okB] using g1, by simpa [okB] using g2, by simpa [okB] using g3⟩
  · intro h j h1 h2
    rcases (by omega : j = 1 ∨ j = 2 ∨ j = 3) with rfl | rfl | rfl
    · simpa [okB] using h.1
    · simpa [okB] using h.2.1
    · simpa [okB] using h.2.2
theorem bytesS_len (n : Int) (l : List UInt8) (h : bytesS n = l) (hl : 1 ≤ l.length) : 0 ≤ n ∧ ¬ (1114111 < n ∨ (55296 ≤ n ∧ n < 57344)) ∧ bytesN n.toNat = l := by
  unfold bytesS at h
  split at h
  · subst h; simp at hl
  · exact ⟨by omega, by omega, h⟩
theorem bytesS_of (n : Nat) (h : ¬ (1114111 < n ∨ (55296 ≤ n ∧ n < 57344))) : bytesS n = bytesN n := by
  unfold bytesS
  rw [if_neg (by omega)]
  rfl
theorem num2 (a b : UInt8) : numS [a, b] = if a.toNat < 192 ∨ b.toNat < 128 ∨ 191 < b.toNat then -1 else ((64 * (a.toNat - 192) + (b.toNat - 128) : Nat) : Int) := by
  have e : numS [a, b] = match numTo [a, b] 2 with | none => -1 | some n => n := rfl
  have e1 : numTo [a, b] 1 = if a.toNat < 192 then none else some (a.toNat - 192) := rfl
  have e2 : numTo [a, b] 2 = match numTo [a, b] 1 with | none => none | some n => if b.toNat < 128 ∨ 191 < b.toNat then none else some (64 * n + (b.toNat - 128)) := rfl
  rw [e, e2, e1]
  by_cases h1 : a.toNat < 192
  · rw [if_pos h1, if_pos (.inl h1)]
  · rw [if_neg h1]
    simp only
    by_cases h2 : b.toNat < 128 ∨ 191 < b.toNat
    · rw [if_pos h2, if_pos (.inr h2)]
    · rw [if_neg h2, if_neg (by omega)]
theorem num3 (a b c : UInt8) : numS [a, b, c] = if a.toNat < 224 ∨ (b.toNat < 128 ∨ 191 < b.toNat) ∨ (c.toNat < 128 ∨ 191 < c.toNat) then -1 else ((64 * (64 * (a.toNat - 224) + (b.toNat - 128)) + (c.toNat - 128) : Nat) : Int) := by
  have e : numS [a, b, c] = match numTo [a, b, c] 3 with | none => -1 | some n => n := rfl
  have e1 : numTo [a, b, c] 1 = if a.toNat < 224 then none else some (a.toNat - 224) := rfl
  have e2 : numTo [a, b, c] 2 = match numTo [a, b, c] 1 with | none => none | some n => if b.toNat < 128 ∨ 191 < b.toNat then none else some (64 * n + (b.toNat - 128)) := rfl
  have e3 : numTo [a, b, c] 3 = match numTo [a, b, c] 2 with | none => none | some n => if c.toNat < 128 ∨ 191 < c.toNat then none else some (64 * n + (c.toNat - 128)) := rfl
  rw [e, e3, e2, e1]
  by_cases h1 : a.toNat < 224
  · rw [if_pos h1, if_pos (.inl h1)]
  · rw [if_neg h1]
    simp only
    by_cases h2 : b.toNat < 128 ∨ 191 < b.toNat
    · rw [if_pos h2, if_pos (.inr (.inl h2))]
    · rw [if_neg h2]
      simp only
      by_cases h3 : c.toNat < 128 ∨ 191 < c.toNat
      · rw [if_pos h3, if_pos (.inr (.inr h3))]
      · rw [if_neg h3, if_neg (by omega)]
theorem num4 (a b c d : UInt8) : numS [a, b, c, d] = if a.toNat < 240 ∨ (b.toNat < 128 ∨ 191 < b.toNat) ∨ (c.toNat < 128 ∨ 191 < c.toNat) ∨ (d.toNat < 128 ∨ 191 < d.toNat) then -1 else ((64 * (64 * (64 * (a.toNat - 240) + (b.toNat - 128)) + (c.toNat - 128)) + (d.toNat - 128) : Nat) : Int) := by
  have e : numS [a, b, c, d] = match numTo [a, b, c, d] 4 with | none => -1 | some n => n := rfl
  have e1 : numTo [a, b, c, d] 1 = if a.toNat < 240 then none else some (a.toNat - 240) := rfl
  have e2 : numTo [a, b, c, d] 2 = match numTo [a, b, c, d] 1 with | none => none | some n => if b.toNat < 128 ∨ 191 < b.toNat then none else some (64 * n + (b.toNat - 128)) := rfl
  have e3 : numTo [a, b, c, d] 3 = match numTo [a, b, c, d] 2 with | none => none | some n => if c.toNat < 128 ∨ 191 < c.toNat then none else some (64 * n + (c.toNat - 128)) := rfl
  have e4 : numTo [a, b, c, d] 4 = match numTo [a, b, c, d] 3 with | none => none | some n => if d.toNat < 128 ∨ 191 < d.toNat then none else some (64 * n + (d.toNat - 128)) := rfl
  rw [e, e4, e3, e2, e1]
  by_cases h1 : a.toNat < 240
  · rw [if_pos h1, if_pos (.inl h1)]
  · rw [if_neg h1]
    simp only
    by_cases h2 : b.toNat < 128 ∨ 191 < b.toNat
    · rw [if_pos h2, if_pos (.inr (.inl h2))]
    · rw [if_neg h2]
      simp only
      by_cases h3 : c.toNat < 128 ∨ 191 < c.toNat
      · rw [if_pos h3, if_pos (.inr (.inr (.inl h3)))]
      · rw [if_neg h3]
        simp only
        by_cases h4 : d.toNat < 128 ∨ 191 < d.toNat
        · rw [if_pos h4, if_pos (.inr (.inr (.inr h4)))]
        · rw [if_neg h4, if_neg (by omega)]
theorem bytes_neg (l : List UInt8) (hl : 1 ≤ l.length) : ¬ bytesS (-1) = l := fun h => by
  have : bytesS (-1) = [] := rfl
  rw [this] at h
  subst h
  simp at hl
theorem bytesN_len (m : Nat) : (bytesN m).length = if m < 128 then 1 else if m < 2048 then 2 else if m < 65536 then 3 else 4 := by
  unfold bytesN
  split
  · rfl
  · split
    · rfl
    · split <;> rfl
theorem isR_eq (s : List UInt8) (h1 : 1 ≤ s.length) (h4 : s.length ≤ 4) : isR s = decide (sizeS s = s.length) := by
  unfold isR
  rw [decide_eq_true h1, decide_eq_true h4, Bool.true_and, Bool.true_and]
  apply decide_eq_decide.2
  rcases s with _ | ⟨a, _ | ⟨b, _ | ⟨c, _ | ⟨d, _ | ⟨e, s⟩⟩⟩⟩⟩
  · exact absurd h1 (by simp)
  · have ha := a.toNat_lt
    have e1 : numS [a] = (a.toNat : Nat) := rfl
    rw [e1, bytesS_of _ (by omega), sizeS_iff]
    constructor
    · intro h
      have hl := bytesN_len a.toNat
      rw [h] at hl
      refine ⟨(fst1 _).2 ?_, fun j g1 g2 => ?_⟩
      · split at hl
        · assumption
        · (repeat' split at hl) <;> cases hl
      · have : j < 1 := g1
        omega
    · intro h
      have := (fst1 _).1 h.1
      unfold bytesN
      rw [if_pos this]
      simp
  · have ha := a.toNat_lt
    have hb := b.toNat_lt
    rw [sizeS_iff, num2]
    by_cases hx : a.toNat < 192 ∨ b.toNat < 128 ∨ 191 < b.toNat
    · rw [if_pos hx]
      refine ⟨fun h => absurd h (bytes_neg _ (by simp)), fun h => ?_⟩
      have g1 := (fst2 _).1 h.1
      have g2 := (okTo2 _ a b).1 h.2
      rw [low2 _ g1] at g2
      simp only at g2
      omega
    · rw [if_neg hx, bytesS_of _ (by omega)]
      generalize hm : 64 * (a.toNat - 192) + (b.toNat - 128) = m
      constructor
      · intro h
        have hl := bytesN_len m
        rw [h] at hl
        have g1 : 194 ≤ a.toNat ∧ a.toNat < 224 := by
          split at hl
          · cases hl
          · split at hl
            · omega
            · split at hl <;> cases hl
        refine ⟨(fst2 _).2 g1, (okTo2 _ a b).2 ?_⟩
        rw [low2 _ g1]
        exact ⟨by simp only; omega, by simp only; omega⟩
      · intro h
        have g1 := (fst2 _).1 h.1
        unfold bytesN
        rw [if_neg (by omega), if_pos (by omega), (u8eq a (by omega)).2 (by omega), (u8eq b (by omega)).2 (by omega)]
  · have ha := a.toNat_lt
    have hb := b.toNat_lt
    have hc := c.toNat_lt
    rw [sizeS_iff, num3]
    by_cases hx : a.toNat < 224 ∨ (b.toNat < 128 ∨ 191 < b.toNat) ∨ (c.toNat < 128 ∨ 191 < c.toNat)
    · rw [if_pos hx]
      refine ⟨fun h => absurd h (bytes_neg _ (by simp)), fun h => ?_⟩
      have g1 := (fst3 _).1 h.1
      have g2 := (okTo3 _ a b c).1 h.2
      rw [(low3 _ g1).1, (low3 _ g1).2] at g2
      have q1 : 128 ≤ b.toNat := by have := g2.1.1; split at this <;> omega
      have q2 : b.toNat ≤ 191 := by have := g2.1.2; split at this <;> omega
      omega
    · rw [if_neg hx]
      generalize hm : 64 * (64 * (a.toNat - 224) + (b.toNat - 128)) + (c.toNat - 128) = m
      constructor
      · intro h
        obtain ⟨_, hs, h⟩ := bytesS_len _ _ h (by simp)
        have hl := bytesN_len (m : Int).toNat
        rw [h] at hl
        have g0 : 2048 ≤ m ∧ m < 65536 := by
          rw [show ((m : Nat) : Int).toNat = m from rfl] at hl
          split at hl
          · cases hl
          · split at hl
            · cases hl
            · split at hl
              · omega
              · cases hl
        have g1 : 224 ≤ a.toNat ∧ a.toNat < 240 := by omega
        refine ⟨(fst3 _).2 g1, (okTo3 _ a b c).2 ?_⟩
        rw [(low3 _ g1).1, (low3 _ g1).2]
        refine ⟨⟨?_, ?_⟩, by omega⟩
        · split <;> omega
        · split <;> omega
      · intro h
        have g1 := (fst3 _).1 h.1
        have g2 := (okTo3 _ a b c).1 h.2
        rw [(low3 _ g1).1, (low3 _ g1).2] at g2
        have q1 : a.toNat = 224 → 160 ≤ b.toNat := fun e => by have := g2.1.1; rw [if_pos e] at this; exact this
        have q2 : a.toNat = 237 → b.toNat ≤ 159 := fun e => by have := g2.1.2; rw [if_pos e] at this; exact this
        rw [bytesS_of _ (by omega)]
        unfold bytesN
        rw [if_neg (by omega), if_neg (by omega), if_pos (by omega), (u8eq a (by omega)).2 (by omega), (u8eq b (by omega)).2 (by omega), (u8eq c (by omega)).2 (by omega)]
  · have ha := a.toNat_lt
    have hb := b.toNat_lt
    have hc := c.toNat_lt
    have hd := d.toNat_lt
    rw [sizeS_iff, num4]
    by_cases hx : a.toNat < 240 ∨ (b.toNat < 128 ∨ 191 < b.toNat) ∨ (c.toNat < 128 ∨ 191 < c.toNat) ∨ (d.toNat < 128 ∨ 191 < d.toNat)
    · rw [if_pos hx]
      refine ⟨fun h => absurd h (bytes_neg _ (by simp)), fun h => ?_⟩
      have g1 := (fst4 _).1 h.1
      have g2 := (okTo4 _ a b c d).1 h.2
      rw [(low4 _ g1).1, (low4 _ g1).2] at g2
      have q1 : 128 ≤ b.toNat := by have := g2.1.1; split at this <;> omega
      have q2 : b.toNat ≤ 191 := by have := g2.1.2; split at this <;> omega
      omega
    · rw [if_neg hx]
      generalize hm : 64 * (64 * (64 * (a.toNat - 240) + (b.toNat - 128)) + (c.toNat - 128)) + (d.toNat - 128) = m
      constructor
      · intro h
        obtain ⟨_, hs, h⟩ := bytesS_len _ _ h (by simp)
        have hl := bytesN_len (m : Int).toNat
        rw [h] at hl
        have g0 : 65536 ≤ m := by
          rw [show ((m : Nat) : Int).toNat = m from rfl] at hl
          split at hl
          · cases hl
          · split at hl
            · cases hl
            · split at hl
              · cases hl
              · omega
        have g1 : 240 ≤ a.toNat ∧ a.toNat < 245 := by omega
        refine ⟨(fst4 _).2 g1, (okTo4 _ a b c d).2 ?_⟩
        rw [(low4 _ g1).1, (low4 _ g1).2]
        refine ⟨⟨?_, ?_⟩, by omega, by omega⟩
        · split <;> omega
        · split <;> omega
      · intro h
        have g1 := (fst4 _).1 h.1
        have g2 := (okTo4 _ a b c d).1 h.2
        rw [(low4 _ g1).1, (low4 _ g1).2] at g2
        have q1 : a.toNat = 240 → 144 ≤ b.toNat := fun e => by have := g2.1.1; rw [if_pos e] at this; exact this
        have q2 : a.toNat = 244 → b.toNat ≤ 143 := fun e => by have := g2.1.2; rw [if_pos e] at this; exact this
        rw [bytesS_of _ (by omega)]
        unfold bytesN
        rw [if_neg (by omega), if_neg (by omega), if_neg (by omega), (u8eq a (by omega)).2 (by omega), (u8eq b (by omega)).2 (by omega), (u8eq c (by omega)).2 (by omega), (u8eq d (by omega)).2 (by omega)]
  · exact absurd h4 (by simp)
end Go.Proofs.Ytbaoelfpmdmhjaa
set_option maxRecDepth 100000
set_option maxHeartbeats 2000000
namespace Go.Proofs.Ytbaoelfpmdmhjaa
open Go.Ai
/-! ### the document's Split, Valid -/
theorem sizeS_gen (a : UInt8) (r : List UInt8) (k : Nat) (hk : 1 ≤ k) : sizeS (a :: r) = k ↔ (fstS a.toNat).1 = k ∧ k ≤ (a :: r).length ∧ okTo (fstS a.toNat) (a :: r) k := by
  rw [sizeS_cons]
  have hlen : (a :: r).length = r.length + 1 := rfl
  rw [hlen]
  unfold begS
  by_cases hok : okTo (fstS a.toNat) (a :: r) (min (r.length + 1) (fstS a.toNat).1)
  · rw [if_pos hok]
    constructor
    · intro h
      split at h
      · omega
      · rename_i hlt
        simp only at h hlt
        refine ⟨h, by omega, ?_⟩
        rw [h, Nat.min_eq_right (by omega)] at hok
        exact hok
    · intro h
      simp only
      rw [h.1, Nat.min_eq_right h.2.1, if_neg (Nat.lt_irrefl _)]
  · rw [if_neg hok]
    constructor
    · intro h
      simp at h
      omega
    · intro h
      rw [h.1, Nat.min_eq_right h.2.1] at hok
      exact absurd h.2.2 hok
theorem sizeS_le4 (l : List UInt8) : sizeS l ≤ 4 := by
  cases l with
  | nil => exact Nat.zero_le _
  | cons a r =>
    rw [sizeS_cons]
    unfold begS
    have : (fstS a.toNat).1 ≤ 4 := by unfold fstS; (repeat' split) <;> simp
    split
    · split
      · exact Nat.zero_le _
      · exact this
    · simp
theorem sizeS_take (l : List UInt8) (k : Nat) (hk : 1 ≤ k) (hl : k ≤ l.length) : sizeS (l.take k) = k ↔ sizeS l = k := by
  cases l with
  | nil => simp at hl; omega
  | cons a r =>
    obtain ⟨j, rfl⟩ : ∃ j, k = j + 1 := ⟨k - 1, by omega⟩
    rw [List.take_succ_cons, sizeS_gen _ _ _ hk, sizeS_gen _ _ _ hk]
    have hlen : (a :: r.take j).length = j + 1 := by simp at hl ⊢; omega
    rw [hlen]
    have hok : okTo (fstS a.toNat) (a :: r.take j) (j + 1) ↔ okTo (fstS a.toNat) (a :: r) (j + 1) := by
      have hg : ∀ i, i < j + 1 → (a :: r.take j).getD i 0 = (a :: r).getD i 0 := by
        intro i hi
        rw [← List.take_succ_cons, List.getD_eq_getElem?_getD, List.getD_eq_getElem?_getD, List.getElem?_take, if_pos hi]
      constructor
      · intro h i hi h1
        rw [← hg i hi]; exact h i hi h1
      · intro h i hi h1
        rw [hg i hi]; exact h i hi h1
    rw [hok]
    exact ⟨fun h => ⟨h.1, hl, h.2.2⟩, fun h => ⟨h.1, Nat.le_refl _, h.2.2⟩⟩
theorem isR_take (l : List UInt8) (k : Nat) (hk : 1 ≤ k) (h4 : k ≤ 4) (hl : k ≤ l.length) : isR (l.take k) = decide (sizeS l = k) := by
  have hlen : (l.take k).length = k := by simp; omega
  rw [isR_eq _ (by omega) (by omega), hlen]
  exact decide_eq_decide.2 (sizeS_take l k hk hl)
def spl : List UInt8 → Nat → List Nat
  | [], p => [p]
  | b :: r, p => if h : sizeS (b :: r) = 0 then [p] else p :: spl ((b :: r).drop (sizeS (b :: r))) (p + sizeS (b :: r))
  termination_by l => l.length
  decreasing_by simp; omega
theorem validS_drop (l : List UInt8) (h : l ≠ []) : validS l = if sizeS l = 0 then false else validS (l.drop (sizeS l)) := by
  cases l with
  | nil => exact absurd rfl h
  | cons b r => rw [validS]; split <;> rfl
theorem spl_drop (l : List UInt8) (p : Nat) (h : l ≠ []) (hs : sizeS l ≠ 0) : spl l p = p :: spl (l.drop (sizeS l)) (p + sizeS l) := by
  cases l with
  | nil => exact absurd rfl h
  | cons b r => rw [spl, dif_neg hs]
noncomputable def hQ (Q : List Nat) : H := ⟨tree8 none (some (.cells (Q.map I) 3 0 0)) none none none none none none, 2, 0⟩
noncomputable def slQ (Q : List Nat) (c : Nat) : Value := .slice (some ⟨1, 0, none⟩) Q.length c
def capQ (s : List UInt8) : Nat := if s = [] then 3 else 2
theorem split_bad (s : List UInt8) (hl : s.length ≤ 500) (hbad : validS s = false) : ∀ h, CallOk Try.prog C 38 [str s] h (.ret (.slice none 0 0) h) := by
  refine pure_wp CF rfl 4 3 (n := 43) (res := [.tmp 2]) (c := codeOf Try.f38) rfl rfl rfl ?_
  refine loopV CF.tt rfl (fun x : Nat × List Nat × Nat => ⟨tmOf 7 [(0, str s), (3, slQ x.2.1 x.2.2), (4, I x.1)], [], none, hQ x.2.1⟩) (0, [0], 3) (weak_ren (L := [5, 0]) ⟨⟨_, rfl, rfl⟩, ⟨_, rfl, rfl⟩, ⟨_, rfl, rfl⟩, trivial⟩ ⟨trivial, ⟨brS _ _ [0] _ _ _ [] rfl, Nat.zero_le _, fun h => (nomatch h)⟩, trivial⟩ rfl (by decide) rfl rfl (Nat.zero_le _))
    (fun x => s.length - x.1) (fun x => x.1 ≤ s.length ∧ validS (s.drop x.1) = validS s ∧ x.2.1.length ≤ x.1 + 1 ∧ (∃ pre, x.2.1 = pre ++ [x.1] ∧ (validS s = true → pre ++ spl (s.drop x.1) x.1 = spl s 0)) ∧ ((x.1 = 0 ∧ x.2.1 = [0] ∧ x.2.2 = 3) ∨ (0 < x.1 ∧ x.2.2 = 2)))
    ⟨Nat.zero_le _, by simp, by simp, ⟨[], rfl, fun _ => rfl⟩, .inl ⟨rfl, rfl, rfl⟩⟩ ?_
  rintro ⟨p, Q, c⟩ ⟨hp, hv, hQl, ⟨pre, hQ1, hQ2⟩, hc⟩
  simp only at hp hv hQl hQ1 hQ2 hc
  refine And.intro (fun h1 => ?_) (fun h1 => ?_)
  · have h1 := of_decide_eq_true h1
    have hpl : p < s.length := by
      have : (p : Int) < (s.length : Nat) := h1
      omega
    have hne : s.drop p ≠ [] := by
      intro e
      have := congrArg List.length e
      simp at this
      omega
    obtain ⟨sz, hsz⟩ : ∃ sz, sizeS (s.drop p) = sz := ⟨_, rfl⟩
    have hsz4 := sizeS_le4 (s.drop p)
    have hszl := sizeS_le (s.drop p)
    rw [hsz] at hsz4 hszl
    rw [List.length_drop] at hszl
    rw [validS_drop _ hne, hsz] at hv
    refine loopV CF.tt rfl (fun n : Nat => ⟨tmOf 7 [(0, str s), (3, slQ Q c), (4, I p), (5, I n)], [], none, hQ Q⟩) 1 (weak_live ⟨rfl, rfl, rfl, rfl, trivial⟩ rfl rfl rfl)
      (fun n => 5 - n) (fun n => 1 ≤ n ∧ n ≤ 5 ∧ ∀ m, 1 ≤ m → m < n → sz ≠ m) ⟨Nat.le_refl _, by omega, fun m h1 h2 => by omega⟩ ?_
    rintro n ⟨hn1, hn5, hno⟩
    refine And.intro (fun h2 => ?_) (fun h2 => ?_)
    · have h2 := of_decide_eq_true h2
      have h2 : n ≤ 4 := by
        have : (n : Int) ≤ 4 := h2
        omega
      repeat (first | (refine And.intro (fun _ => ?_) (fun h => Go.Ai.tf h)) | (refine And.intro (fun _ => ?_) (fun h => Go.Ai.ft h)) | (refine And.intro (fun h => Go.Ai.ft h) (fun _ => ?_)) | (refine And.intro (fun h => Go.Ai.tf h) (fun _ => ?_)))
      refine Or.inl (And.intro (inK_i64 (by first | omega | (simp only <;> omega) | (simp only [Array.size_setIfInBounds, Go.Ai.swp_size] <;> omega))) ?_)
      repeat (first | (refine And.intro (fun _ => ?_) (fun h => Go.Ai.tf h)) | (refine And.intro (fun _ => ?_) (fun h => Go.Ai.ft h)) | (refine And.intro (fun h => Go.Ai.ft h) (fun _ => ?_)) | (refine And.intro (fun h => Go.Ai.tf h) (fun _ => ?_)))
      refine And.intro (fun h3 => ?_) (fun h3 => ?_)
      · have h3 := of_decide_eq_false h3
        have h3 : p + n ≤ s.length := by
          have : ¬ ((s.length : Nat) : Int) < (p : Int) + n := h3
          omega
        repeat (first | (refine And.intro (fun _ => ?_) (fun h => Go.Ai.tf h)) | (refine And.intro (fun _ => ?_) (fun h => Go.Ai.ft h)) | (refine And.intro (fun h => Go.Ai.ft h) (fun _ => ?_)) | (refine And.intro (fun h => Go.Ai.tf h) (fun _ => ?_)))
        refine Or.inl (And.intro (inK_i64 (by first | omega | (simp only <;> omega) | (simp only [Array.size_setIfInBounds, Go.Ai.swp_size] <;> omega))) ?_)
        repeat (first | (refine And.intro (fun _ => ?_) (fun h => Go.Ai.tf h)) | (refine And.intro (fun _ => ?_) (fun h => Go.Ai.ft h)) | (refine And.intro (fun h => Go.Ai.ft h) (fun _ => ?_)) | (refine And.intro (fun h => Go.Ai.tf h) (fun _ => ?_)))
        refine And.intro (show (0 : Int) ≤ p ∧ (p : Int) ≤ (p : Int) + n ∧ (p : Int) + n ≤ (s.length : Nat) by omega) ?_
        have hIs : ∀ h, CallOk Try.prog C 59 [str ((s.drop p).take (((p : Int) + n).toNat - p))] h (.ret (.bool (decide (sz = n))) h) := by
          have e : ((p : Int) + n).toNat - p = n := by omega
          rw [e]
          have := is_ok ((s.drop p).take n)
          rw [isR_take _ n hn1 h2 (by rw [List.length_drop]; omega), hsz] at this
          exact this
        repeat (first | (refine And.intro (fun _ => ?_) (fun h => Go.Ai.tf h)) | (refine And.intro (fun _ => ?_) (fun h => Go.Ai.ft h)) | (refine And.intro (fun h => Go.Ai.ft h) (fun _ => ?_)) | (refine And.intro (fun h => Go.Ai.tf h) (fun _ => ?_)))
        refine CallW.of (hIs _) ?_
        repeat (first | (refine And.intro (fun _ => ?_) (fun h => Go.Ai.tf h)) | (refine And.intro (fun _ => ?_) (fun h => Go.Ai.ft h)) | (refine And.intro (fun h => Go.Ai.ft h) (fun _ => ?_)) | (refine And.intro (fun h => Go.Ai.tf h) (fun _ => ?_)))
        refine And.intro (fun h4 => ?_) (fun h4 => ?_)
        · have h4 : (!decide (sz = n)) = true := h4
          have h4 : sz ≠ n := by simpa using h4
          refine Or.inl (And.intro (inK_i64 (by first | omega | (simp only <;> omega) | (simp only [Array.size_setIfInBounds, Go.Ai.swp_size] <;> omega))) ?_)
          exact ⟨n + 1, ⟨by omega, by omega, fun m g1 g2 => by rcases (by omega : m < n ∨ m = n) with g | g; exact hno m g1 g; rw [g]; exact h4⟩, weak_live ⟨rfl, rfl, rfl, (iv (by first | omega | (simp only <;> omega) | (simp only [Array.size_setIfInBounds, Go.Ai.swp_size] <;> omega))), trivial⟩ rfl rfl rfl, by omega⟩
        · have h4 : (!decide (sz = n)) = false := h4
          have h4 : sz = n := by simpa using h4
          subst h4
          refine And.intro (fun h => absurd (of_decide_eq_true h) (show ¬ (4 : Int) < sz by omega)) (fun _ => ?_)
          refine Or.inl (And.intro (inK_i64 (by first | omega | (simp only <;> omega) | (simp only [Array.size_setIfInBounds, Go.Ai.swp_size] <;> omega))) ?_)
          rw [if_neg (by omega), List.drop_drop] at hv
          have hpost : p + sz ≤ s.length ∧ validS (s.drop (p + sz)) = validS s ∧ (Q ++ [p + sz]).length ≤ p + sz + 1 ∧ (∃ pre, Q ++ [p + sz] = pre ++ [p + sz] ∧ (validS s = true → pre ++ spl (s.drop (p + sz)) (p + sz) = spl s 0)) := by
            refine ⟨h3, hv, by simp; omega, Q, rfl, fun g => ?_⟩
            rw [← hQ2 g, spl_drop _ _ hne (by omega), hsz, List.drop_drop, hQ1, List.append_assoc]
            rfl
          rcases hc with ⟨c1, c2, c3⟩ | ⟨c1, c2⟩
          · subst c1; subst c2; subst c3
            exact ⟨(0 + sz, [0] ++ [0 + sz], 2), ⟨hpost.1, hpost.2.1, hpost.2.2.1, hpost.2.2.2, .inr ⟨by simp only; omega, rfl⟩⟩, weak_ren (L := [0, 3]) ⟨⟨_, rfl, rfl⟩, ⟨_, rfl, rfl⟩, ⟨_, (iv (by first | omega | (simp only <;> omega) | (simp only [Array.size_setIfInBounds, Go.Ai.swp_size] <;> omega))), rfl⟩, trivial⟩ ⟨trivial, ⟨brS _ _ [0, 0 + sz] _ _ _ [] (by show [Value.int .i64 0, Value.int .i64 (((0 : Nat) : Int) + sz)] = [0, 0 + sz].map I ++ []; simp [I]), Nat.zero_le _, fun h => (nomatch h)⟩, trivial⟩ rfl (by decide) rfl rfl (Nat.zero_le _), by simp only; omega⟩
          · subst c2
            have es : slQ (Q ++ [p + sz]) 2 = .slice (some ⟨1, 0, none⟩) (Q.length + 1) 2 := by simp [slQ]
            refine nxW_of (app_val rfl rfl rfl (aAppend_cells (n := 1) (new := [.int .i64 ((p : Int) + sz)]) (cs := Q.map I) (fam := 0) (fz := 0) rfl rfl rfl rfl rfl rfl rfl (by decide) rfl (by show (Q.length + 1) * 9 ≤ _; omega) rfl rfl rfl (by rw [List.length_map]; exact Nat.le_of_eq (show 0 + Q.length * 1 = Q.length by omega)) (fzle_zero _))) ?_
            exact ⟨(p + sz, Q ++ [p + sz], 2), ⟨hpost.1, hpost.2.1, hpost.2.2.1, hpost.2.2.2, .inr ⟨by simp only; omega, rfl⟩⟩, weak_ren (L := [0, 3]) ⟨⟨_, rfl, rfl⟩, ⟨_, rfl, by rw [es]; rfl⟩, ⟨_, (iv (by first | omega | (simp only <;> omega) | (simp only [Array.size_setIfInBounds, Go.Ai.swp_size] <;> omega))), rfl⟩, trivial⟩ ⟨trivial, ⟨brS _ _ (Q ++ [p + sz]) _ _ _ [] (cutS Q (p + sz)), Nat.zero_le _, fun h => (nomatch h)⟩, trivial⟩ rfl (by decide) rfl rfl (Nat.zero_le _), by simp only; omega⟩
      · have h3 : decide (((s.length : Nat) : Int) < (p : Int) + n) = true := h3
        have h3 := of_decide_eq_true h3
        repeat (first | (refine And.intro (fun _ => ?_) (fun h => Go.Ai.tf h)) | (refine And.intro (fun _ => ?_) (fun h => Go.Ai.ft h)) | (refine And.intro (fun h => Go.Ai.ft h) (fun _ => ?_)) | (refine And.intro (fun h => Go.Ai.tf h) (fun _ => ?_)))
        refine Or.inl (And.intro (inK_i64 (by first | omega | (simp only <;> omega) | (simp only [Array.size_setIfInBounds, Go.Ai.swp_size] <;> omega))) ?_)
        exact ⟨n + 1, ⟨by omega, by omega, fun m g1 g2 => by rcases (by omega : m < n ∨ m = n) with g | g; exact hno m g1 g; rw [g]; omega⟩, weak_live ⟨rfl, rfl, rfl, (iv (by first | omega | (simp only <;> omega) | (simp only [Array.size_setIfInBounds, Go.Ai.swp_size] <;> omega))), trivial⟩ rfl rfl rfl, by omega⟩
    · have h2 := of_decide_eq_false h2
      have h2 : n = 5 := by
        have : ¬ (n : Int) ≤ 4 := h2
        omega
      subst h2
      have hz : sz = 0 := by
        rcases (by omega : sz = 0 ∨ sz = 1 ∨ sz = 2 ∨ sz = 3 ∨ sz = 4) with g | g | g | g | g
        · exact g
        · exact absurd g (hno 1 (by omega) (by omega))
        · exact absurd g (hno 2 (by omega) (by omega))
        · exact absurd g (hno 3 (by omega) (by omega))
        · exact absurd g (hno 4 (by omega) (by omega))
      rw [if_pos hz] at hv
      repeat (first | (refine And.intro (fun _ => ?_) (fun h => Go.Ai.tf h)) | (refine And.intro (fun _ => ?_) (fun h => Go.Ai.ft h)) | (refine And.intro (fun h => Go.Ai.ft h) (fun _ => ?_)) | (refine And.intro (fun h => Go.Ai.tf h) (fun _ => ?_)))
      rfl
  · have h1 := of_decide_eq_false h1
    have hpl : p = s.length := by
      have : ¬ (p : Int) < (s.length : Nat) := h1
      omega
    subst hpl
    rw [List.drop_length, validS] at hv
    exact absurd (hbad.symm.trans hv.symm) (by simp)
theorem fin_eq {s : List UInt8} {Q pre : List Nat} {c : Nat} (hgood : validS s = true) (hQ1 : Q = pre ++ [s.length]) (hQ2 : validS s = true → pre ++ spl (s.drop s.length) s.length = spl s 0) (hc : (s.length = 0 ∧ Q = [0] ∧ c = 3) ∨ (0 < s.length ∧ c = 2)) : Q = spl s 0 ∧ capQ s = c := by
  refine ⟨?_, ?_⟩
  · have := hQ2 hgood
    rw [List.drop_length, spl] at this
    rw [hQ1]
    exact this
  · unfold capQ
    rcases hc with ⟨c1, _, c3⟩ | ⟨c1, c3⟩
    · rw [if_pos (List.eq_nil_of_length_eq_zero c1), c3]
    · rw [if_neg (fun e => by rw [e] at c1; exact absurd c1 (by simp)), c3]
theorem split_good (s : List UInt8) (hl : s.length ≤ 500) (hgood : validS s = true) : CallOk Try.prog C 38 [str s] (h00 4) (.ret (slQ (spl s 0) (capQ s)) (hQ (spl s 0))) := by
  refine fn_wp CF rfl (n := 43) (res := [.tmp 2]) (c := codeOf Try.f38) rfl ?_
  refine loopV CF.tt rfl (fun x : Nat × List Nat × Nat => ⟨tmOf 7 [(0, str s), (3, slQ x.2.1 x.2.2), (4, I x.1)], [], none, hQ x.2.1⟩) (0, [0], 3) (weak_ren (L := [5, 0]) ⟨⟨_, rfl, rfl⟩, ⟨_, rfl, rfl⟩, ⟨_, rfl, rfl⟩, trivial⟩ ⟨trivial, ⟨brS _ _ [0] _ _ _ [] rfl, Nat.zero_le _, fun h => (nomatch h)⟩, trivial⟩ rfl (by decide) rfl rfl (Nat.zero_le _))
    (fun x => s.length - x.1) (fun x => x.1 ≤ s.length ∧ validS (s.drop x.1) = validS s ∧ x.2.1.length ≤ x.1 + 1 ∧ (∃ pre, x.2.1 = pre ++ [x.1] ∧ (validS s = true → pre ++ spl (s.drop x.1) x.1 = spl s 0)) ∧ ((x.1 = 0 ∧ x.2.1 = [0] ∧ x.2.2 = 3) ∨ (0 < x.1 ∧ x.2.2 = 2)))
    ⟨Nat.zero_le _, by simp, by simp, ⟨[], rfl, fun _ => rfl⟩, .inl ⟨rfl, rfl, rfl⟩⟩ ?_
  rintro ⟨p, Q, c⟩ ⟨hp, hv, hQl, ⟨pre, hQ1, hQ2⟩, hc⟩
  simp only at hp hv hQl hQ1 hQ2 hc
  refine And.intro (fun h1 => ?_) (fun h1 => ?_)
  · have h1 := of_decide_eq_true h1
    have hpl : p < s.length := by
      have : (p : Int) < (s.length : Nat) := h1
      omega
    have hne : s.drop p ≠ [] := by
      intro e
      have := congrArg List.length e
      simp at this
      omega
    obtain ⟨sz, hsz⟩ : ∃ sz, sizeS (s.drop p) = sz := ⟨_, rfl⟩
    have hsz4 := sizeS_le4 (s.drop p)
    have hszl := sizeS_le (s.drop p)
    rw [hsz] at hsz4 hszl
    rw [List.length_drop] at hszl
    rw [validS_drop _ hne, hsz] at hv
    refine loopV CF.tt rfl (fun n : Nat => ⟨tmOf 7 [(0, str s), (3, slQ Q c), (4, I p), (5, I n)], [], none, hQ Q⟩) 1 (weak_live ⟨rfl, rfl, rfl, rfl, trivial⟩ rfl rfl rfl)
      (fun n => 5 - n) (fun n => 1 ≤ n ∧ n ≤ 5 ∧ ∀ m, 1 ≤ m → m < n → sz ≠ m) ⟨Nat.le_refl _, by omega, fun m h1 h2 => by omega⟩ ?_
    rintro n ⟨hn1, hn5, hno⟩
    refine And.intro (fun h2 => ?_) (fun h2 => ?_)
    · have h2 := of_decide_eq_true h2
      have h2 : n ≤ 4 := by
        have : (n : Int) ≤ 4 := h2
        omega
      repeat (first | (refine And.intro (fun _ => ?_) (fun h => Go.Ai.tf h)) | (refine And.intro (fun _ => ?_) (fun h => Go.Ai.ft h)) | (refine And.intro (fun h => Go.Ai.ft h) (fun _ => ?_)) | (refine And.intro (fun h => Go.Ai.tf h) (fun _ => ?_)))
      refine Or.inl (And.intro (inK_i64 (by first | omega | (simp only <;> omega) | (simp only [Array.size_setIfInBounds, Go.Ai.swp_size] <;> omega))) ?_)
      repeat (first | (refine And.intro (fun _ => ?_) (fun h => Go.Ai.tf h)) | (refine And.intro (fun _ => ?_) (fun h => Go.Ai.ft h)) | (refine And.intro (fun h => Go.Ai.ft h) (fun _ => ?_)) | (refine And.intro (fun h => Go.Ai.tf h) (fun _ => ?_)))
      refine And.intro (fun h3 => ?_) (fun h3 => ?_)
      · have h3 := of_decide_eq_false h3
        have h3 : p + n ≤ s.length := by
          have : ¬ ((s.length : Nat) : Int) < (p : Int) + n := h3
          omega
        repeat (first | (refine And.intro (fun _ => ?_) (fun h => Go.Ai.tf h)) | (refine And.intro (fun _ => ?_) (fun h => Go.Ai.ft h)) | (refine And.intro (fun h => Go.Ai.ft h) (fun _ => ?_)) | (refine And.intro (fun h => Go.Ai.tf h) (fun _ => ?_)))
        refine Or.inl (And.intro (inK_i64 (by first | omega | (simp only <;> omega) | (simp only [Array.size_setIfInBounds, Go.Ai.swp_size] <;> omega))) ?_)
        repeat (first | (refine And.intro (fun _ => ?_) (fun h => Go.Ai.tf h)) | (refine And.intro (fun _ => ?_) (fun h => Go.Ai.ft h)) | (refine And.intro (fun h => Go.Ai.ft h) (fun _ => ?_)) | (refine And.intro (fun h => Go.Ai.tf h) (fun _ => ?_)))
        refine And.intro (show (0 : Int) ≤ p ∧ (p : Int) ≤ (p : Int) + n ∧ (p : Int) + n ≤ (s.length : Nat) by omega) ?_
        have hIs : ∀ h, CallOk Try.prog C 59 [str ((s.drop p).take (((p : Int) + n).toNat - p))] h (.ret (.bool (decide (sz = n))) h) := by
          have e : ((p : Int) + n).toNat - p = n := by omega
          rw [e]
          have := is_ok ((s.drop p).take n)
          rw [isR_take _ n hn1 h2 (by rw [List.length_drop]; omega), hsz] at this
          exact this
        repeat (first | (refine And.intro (fun _ => ?_) (fun h => Go.Ai.tf h)) | (refine And.intro (fun _ => ?_) (fun h => Go.Ai.ft h)) | (refine And.intro (fun h => Go.Ai.ft h) (fun _ => ?_)) | (refine And.intro (fun h => Go.Ai.tf h) (fun _ => ?_)))
        refine CallW.of (hIs _) ?_
        repeat (first | (refine And.intro (fun _ => ?_) (fun h => Go.Ai.tf h)) | (refine And.intro (fun _ => ?_) (fun h => Go.Ai.ft h)) | (refine And.intro (fun h => Go.Ai.ft h) (fun _ => ?_)) | (refine And.intro (fun h => Go.Ai.tf h) (fun _ => ?_)))
        refine And.intro (fun h4 => ?_) (fun h4 => ?_)
        · have h4 : (!decide (sz = n)) = true := h4
          have h4 : sz ≠ n := by simpa using h4
          refine Or.inl (And.intro (inK_i64 (by first | omega | (simp only <;> omega) | (simp only [Array.size_setIfInBounds, Go.Ai.swp_size] <;> omega))) ?_)
          exact ⟨n + 1, ⟨by omega, by omega, fun m g1 g2 => by rcases (by omega : m < n ∨ m = n) with g | g; exact hno m g1 g; rw [g]; exact h4⟩, weak_live ⟨rfl, rfl, rfl, (iv (by first | omega | (simp only <;> omega) | (simp only [Array.size_setIfInBounds, Go.Ai.swp_size] <;> omega))), trivial⟩ rfl rfl rfl, by omega⟩
        · have h4 : (!decide (sz = n)) = false := h4
          have h4 : sz = n := by simpa using h4
          subst h4
          refine And.intro (fun h => absurd (of_decide_eq_true h) (show ¬ (4 : Int) < sz by omega)) (fun _ => ?_)
          refine Or.inl (And.intro (inK_i64 (by first | omega | (simp only <;> omega) | (simp only [Array.size_setIfInBounds, Go.Ai.swp_size] <;> omega))) ?_)
          rw [if_neg (by omega), List.drop_drop] at hv
          have hpost : p + sz ≤ s.length ∧ validS (s.drop (p + sz)) = validS s ∧ (Q ++ [p + sz]).length ≤ p + sz + 1 ∧ (∃ pre, Q ++ [p + sz] = pre ++ [p + sz] ∧ (validS s = true → pre ++ spl (s.drop (p + sz)) (p + sz) = spl s 0)) := by
            refine ⟨h3, hv, by simp; omega, Q, rfl, fun g => ?_⟩
            rw [← hQ2 g, spl_drop _ _ hne (by omega), hsz, List.drop_drop, hQ1, List.append_assoc]
            rfl
          rcases hc with ⟨c1, c2, c3⟩ | ⟨c1, c2⟩
          · subst c1; subst c2; subst c3
            exact ⟨(0 + sz, [0] ++ [0 + sz], 2), ⟨hpost.1, hpost.2.1, hpost.2.2.1, hpost.2.2.2, .inr ⟨by simp only; omega, rfl⟩⟩, weak_ren (L := [0, 3]) ⟨⟨_, rfl, rfl⟩, ⟨_, rfl, rfl⟩, ⟨_, (iv (by first | omega | (simp only <;> omega) | (simp only [Array.size_setIfInBounds, Go.Ai.swp_size] <;> omega))), rfl⟩, trivial⟩ ⟨trivial, ⟨brS _ _ [0, 0 + sz] _ _ _ [] (by show [Value.int .i64 0, Value.int .i64 (((0 : Nat) : Int) + sz)] = [0, 0 + sz].map I ++ []; simp [I]), Nat.zero_le _, fun h => (nomatch h)⟩, trivial⟩ rfl (by decide) rfl rfl (Nat.zero_le _), by simp only; omega⟩
          · subst c2
            have es : slQ (Q ++ [p + sz]) 2 = .slice (some ⟨1, 0, none⟩) (Q.length + 1) 2 := by simp [slQ]
            refine nxW_of (app_val rfl rfl rfl (aAppend_cells (n := 1) (new := [.int .i64 ((p : Int) + sz)]) (cs := Q.map I) (fam := 0) (fz := 0) rfl rfl rfl rfl rfl rfl rfl (by decide) rfl (by show (Q.length + 1) * 9 ≤ _; omega) rfl rfl rfl (by rw [List.length_map]; exact Nat.le_of_eq (show 0 + Q.length * 1 = Q.length by omega)) (fzle_zero _))) ?_
            exact ⟨(p + sz, Q ++ [p + sz], 2), ⟨hpost.1, hpost.2.1, hpost.2.2.1, hpost.2.2.2, .inr ⟨by simp only; omega, rfl⟩⟩, weak_ren (L := [0, 3]) ⟨⟨_, rfl, rfl⟩, ⟨_, rfl, by rw [es]; rfl⟩, ⟨_, (iv (by first | omega | (simp only <;> omega) | (simp only [Array.size_setIfInBounds, Go.Ai.swp_size] <;> omega))), rfl⟩, trivial⟩ ⟨trivial, ⟨brS _ _ (Q ++ [p + sz]) _ _ _ [] (cutS Q (p + sz)), Nat.zero_le _, fun h => (nomatch h)⟩, trivial⟩ rfl (by decide) rfl rfl (Nat.zero_le _), by simp only; omega⟩
      · have h3 : decide (((s.length : Nat) : Int) < (p : Int) + n) = true := h3
        have h3 := of_decide_eq_true h3
        repeat (first | (refine And.intro (fun _ => ?_) (fun h => Go.Ai.tf h)) | (refine And.intro (fun _ => ?_) (fun h => Go.Ai.ft h)) | (refine And.intro (fun h => Go.Ai.ft h) (fun _ => ?_)) | (refine And.intro (fun h => Go.Ai.tf h) (fun _ => ?_)))
        refine Or.inl (And.intro (inK_i64 (by first | omega | (simp only <;> omega) | (simp only [Array.size_setIfInBounds, Go.Ai.swp_size] <;> omega))) ?_)
        exact ⟨n + 1, ⟨by omega, by omega, fun m g1 g2 => by rcases (by omega : m < n ∨ m = n) with g | g; exact hno m g1 g; rw [g]; omega⟩, weak_live ⟨rfl, rfl, rfl, (iv (by first | omega | (simp only <;> omega) | (simp only [Array.size_setIfInBounds, Go.Ai.swp_size] <;> omega))), trivial⟩ rfl rfl rfl, by omega⟩
    · have h2 := of_decide_eq_false h2
      have h2 : n = 5 := by
        have : ¬ (n : Int) ≤ 4 := h2
        omega
      subst h2
      have hz : sz = 0 := by
        rcases (by omega : sz = 0 ∨ sz = 1 ∨ sz = 2 ∨ sz = 3 ∨ sz = 4) with g | g | g | g | g
        · exact g
        · exact absurd g (hno 1 (by omega) (by omega))
        · exact absurd g (hno 2 (by omega) (by omega))
        · exact absurd g (hno 3 (by omega) (by omega))
        · exact absurd g (hno 4 (by omega) (by omega))
      rw [if_pos hz] at hv
      repeat (first | (refine And.intro (fun _ => ?_) (fun h => Go.Ai.tf h)) | (refine And.intro (fun _ => ?_) (fun h => Go.Ai.ft h)) | (refine And.intro (fun h => Go.Ai.ft h) (fun _ => ?_)) | (refine And.intro (fun h => Go.Ai.tf h) (fun _ => ?_)))
      exact absurd (hgood.symm.trans hv.symm) (by simp)
  · have h1 := of_decide_eq_false h1
    have hpl : p = s.length := by
      have : ¬ (p : Int) < (s.length : Nat) := h1
      omega
    subst hpl
    rw [List.drop_length, validS] at hv
    (obtain ⟨hq, hcap⟩ := fin_eq hgood hQ1 hQ2 hc; rw [← hq, hcap]; exact ⟨rfl, rfl⟩)
/-- Split, wherever it is called -/
theorem split_ok (s : List UInt8) (hl : s.length ≤ 500) (hgood : validS s = true) : ∀ h, CallOk Try.prog C 38 [str s] h (.ret (.slice (some ⟨nrmN (h.ctr + 1), 0, none⟩) (spl s 0).length (capQ s)) (moreC h ((spl s 0).map I) 3)) :=
  alloc_of rfl (k := 3) (b := 1) (fam := 0) (split_good s hl hgood) rfl rfl (flatI _)
theorem spl_pos (s : List UInt8) (p : Nat) : 0 < (spl s p).length := by
  cases s with
  | nil => simp [spl]
  | cons b r => rw [spl]; split <;> simp
theorem valid3_ok (s : List UInt8) (hl : s.length ≤ 500) : ∀ h, CallOk Try.prog C 23 [str s] h (.ret (.bool (validS s)) h) := by
  refine pure_wp CF rfl 4 3 (n := 7) (res := [.tmp 2]) (c := codeOf Try.f23) rfl rfl rfl ?_
  cases hv : validS s with
  | false =>
    refine CallW.of (split_bad s hl hv _) ?_
    rfl
  | true =>
    refine CallW.of (split_ok s hl hv _) ?_
    refine retB ?_
    exact decide_eq_true (show (0 : Int) < ((spl s 0).length : Nat) by have := spl_pos s 0; omega)
end Go.Proofs.Ytbaoelfpmdmhjaa
set_option maxRecDepth 100000
set_option maxHeartbeats 2000000
namespace Go.Proofs.Ytbaoelfpmdmhjaa
open Go.Ai
/-! ### the document's pairs, by counting -/
def closeS (kd : List UInt8) : UInt8 := if kd = [40] then 41 else if kd = [91] then 93 else if kd = [123] then 125 else if kd = [60] then 62 else 0
theorem closer_ok (kd : List UInt8) : ∀ h, CallOk Try.prog C 22 [str kd] h (.ret (.int .u8 (closeS kd).toNat) h) := by
  refine pure_wp CF rfl 4 3 (n := 12) (res := [.tmp 2]) (c := codeOf Try.f22) rfl rfl rfl ?_
  refine And.intro (fun h1 => ?_) (fun h1 => ?_)
  · have h1 : kd = [40] := of_decide_eq_true h1
    subst h1
    rfl
  · have h1 : ¬ kd = [40] := of_decide_eq_false h1
    refine And.intro (fun h2 => ?_) (fun h2 => ?_)
    · have h2 : kd = [91] := of_decide_eq_true h2
      subst h2
      rfl
    · have h2 : ¬ kd = [91] := of_decide_eq_false h2
      refine And.intro (fun h3 => ?_) (fun h3 => ?_)
      · have h3 : kd = [123] := of_decide_eq_true h3
        subst h3
        rfl
      · have h3 : ¬ kd = [123] := of_decide_eq_false h3
        refine And.intro (fun h4 => ?_) (fun h4 => ?_)
        · have h4 : kd = [60] := of_decide_eq_true h4
          subst h4
          rfl
        · have h4 : ¬ kd = [60] := of_decide_eq_false h4
          refine retI ?_
          unfold closeS
          rw [if_neg h1, if_neg h2, if_neg h3, if_neg h4]
          rfl
def depS (o c b : UInt8) (d : Int) : Int := if b = c then (if b = o then d + 1 else d) - 1 else (if b = o then d + 1 else d)
def othF (o c : UInt8) (l : List UInt8) : Nat → Nat → Int → Int
  | 0, _, _ => -1
  | k + 1, i, d => if depS o c (l.getD i 0) d = 0 then i else othF o c l k (i + 1) (depS o c (l.getD i 0) d)
def otherS (o c : UInt8) (l : List UInt8) (p : Nat) : Int := othF o c l (l.length - p) p 0
theorem other_ok (o c : UInt8) (l : List UInt8) (p : Nat) (hp : p ≤ l.length) (hl : l.length ≤ 500) : ∀ h, CallOk Try.prog C 24 [str l, I p, .int .u8 o.toNat, .int .u8 c.toNat] h (.ret (.int .i64 (otherS o c l p)) h) := by
  refine pure_call CF rfl (d := 4) (k := 3) (n := 35) (res := [.tmp 8]) (c := (codeOf Try.f24)) rfl rfl rfl ?_
  refine TB.seq (tb_wp CF.tt rfl ?_)
  refine TB.seq (tb_wp CF.tt rfl ?_)
  refine TB.seq (tb_wp CF.tt rfl ?_)
  refine loopT (fun x : Nat × Nat × Int => ⟨tmOf 7 [(0, str l), (2, .int .u8 o.toNat), (3, .int .u8 c.toNat), (9, .int .i64 x.2.2), (10, I x.2.1)], [], none, h00 4⟩) (l.length - p, p, 0) (weak_live ⟨rfl, rfl, rfl, rfl, rfl, trivial⟩ rfl rfl rfl)
    (fun x => x.1) (fun x => x.1 + x.2.1 = l.length ∧ -(x.2.1 : Int) ≤ x.2.2 ∧ x.2.2 ≤ x.2.1 ∧ othF o c l x.1 x.2.1 x.2.2 = otherS o c l p) ⟨by simp only; omega, by simp only; omega, by simp only; omega, rfl⟩ ?_
  rintro ⟨k, i, d⟩ ⟨hk, hd1, hd2, hr⟩
  simp only at hk hd1 hd2 hr
  refine TB.seq (tb_wp CF.tt rfl ?_)
  refine And.intro (fun h1 => ?_) (fun h1 => ?_)
  · have h1 := of_decide_eq_true h1
    have hil : i < l.length := by
      have : (i : Int) < (l.length : Nat) := h1
      omega
    obtain ⟨k, rfl⟩ : ∃ j, k = j + 1 := ⟨k - 1, by omega⟩
    have hrr : (if depS o c (l.getD i 0) d = 0 then (i : Int) else othF o c l k (i + 1) (depS o c (l.getD i 0) d)) = otherS o c l p := hr
    obtain ⟨b, hb⟩ : ∃ b, l.getD i 0 = b := ⟨_, rfl⟩
    rw [hb] at hrr
    refine TB.seq (TB.block ?_)
    refine cut_at (fun _ : Unit => ⟨tmOf 7 [(0, str l), (2, .int .u8 o.toNat), (3, .int .u8 c.toNat), (9, .int .i64 (if b = o then d + 1 else d)), (10, I i)], [], none, h00 4⟩) (fun _ => True) (tb_wp CF.tt rfl ?_) ?_
    · refine And.intro (show (0 : Int) ≤ i ∧ (i : Int) < (l.length : Nat) by omega) ?_
      refine And.intro (fun h2 => ?_) (fun h2 => ?_)
      · have h2 : (((l.getD i 0).toNat : Nat) : Int) = (o.toNat : Nat) := of_decide_eq_true h2
        rw [hb] at h2
        have h2 : b = o := UInt8.toNat_inj.1 (by omega)
        rw [if_pos h2]
        refine Or.inl (And.intro (inK_i64 (by first | omega | (simp only <;> omega) | (simp only [Array.size_setIfInBounds, Go.Ai.swp_size] <;> omega))) ?_)
        exact ⟨(), trivial, weak_live ⟨rfl, rfl, rfl, rfl, rfl, trivial⟩ rfl rfl rfl⟩
      · have h2 : ¬ (((l.getD i 0).toNat : Nat) : Int) = (o.toNat : Nat) := of_decide_eq_false h2
        rw [hb] at h2
        rw [if_neg (fun e => h2 (by rw [e]))]
        exact ⟨(), trivial, weak_live ⟨rfl, rfl, rfl, rfl, rfl, trivial⟩ rfl rfl rfl⟩
    rintro ⟨⟩ -
    have hd3 : -(i : Int) ≤ (if b = o then d + 1 else d) ∧ (if b = o then d + 1 else d) ≤ i + 1 := by split <;> omega
    refine cut_at (fun _ : Unit => ⟨tmOf 7 [(0, str l), (2, .int .u8 o.toNat), (3, .int .u8 c.toNat), (9, .int .i64 (depS o c b d)), (10, I i)], [], none, h00 4⟩) (fun _ => True) (tb_wp CF.tt rfl ?_) ?_
    · refine And.intro (show (0 : Int) ≤ i ∧ (i : Int) < (l.length : Nat) by omega) ?_
      unfold depS
      refine And.intro (fun h2 => ?_) (fun h2 => ?_)
      · have h2 : (((l.getD i 0).toNat : Nat) : Int) = (c.toNat : Nat) := of_decide_eq_true h2
        rw [hb] at h2
        have h2 : b = c := UInt8.toNat_inj.1 (by omega)
        rw [if_pos h2]
        refine Or.inl (And.intro (inK_i64 (by first | omega | (simp only <;> omega) | (simp only [Array.size_setIfInBounds, Go.Ai.swp_size] <;> omega))) ?_)
        exact ⟨(), trivial, weak_live ⟨rfl, rfl, rfl, rfl, rfl, trivial⟩ rfl rfl rfl⟩
      · have h2 : ¬ (((l.getD i 0).toNat : Nat) : Int) = (c.toNat : Nat) := of_decide_eq_false h2
        rw [hb] at h2
        rw [if_neg (fun e => h2 (by rw [e]))]
        exact ⟨(), trivial, weak_live ⟨rfl, rfl, rfl, rfl, rfl, trivial⟩ rfl rfl rfl⟩
    rintro ⟨⟩ -
    have hd4 : -((i : Int) + 1) ≤ depS o c b d ∧ depS o c b d ≤ i + 1 := by
      unfold depS
      split
      · omega
      · exact ⟨by omega, by omega⟩
    refine tb_wp CF.tt rfl ?_
    refine And.intro (fun h3 => ?_) (fun h3 => ?_)
    · have h3 := of_decide_eq_true h3
      rw [if_pos h3] at hrr
      exact retI hrr
    · have h3 := of_decide_eq_false h3
      rw [if_neg h3] at hrr
      refine tb_wp CF.tt rfl ?_
      refine Or.inl (And.intro (inK_i64 (by first | omega | (simp only <;> omega) | (simp only [Array.size_setIfInBounds, Go.Ai.swp_size] <;> omega))) ?_)
      exact ⟨(k, i + 1, depS o c b d), ⟨by simp only; omega, by simp only; omega, by simp only; omega, hrr⟩, weak_live ⟨rfl, rfl, rfl, rfl, (iv (by first | omega | (simp only <;> omega) | (simp only [Array.size_setIfInBounds, Go.Ai.swp_size] <;> omega))), trivial⟩ rfl rfl rfl, by simp only; omega⟩
  · have h1 := of_decide_eq_false h1
    have hil : ¬ i < l.length := by
      have : ¬ (i : Int) < (l.length : Nat) := h1
      omega
    have hk0 : k = 0 := by omega
    subst hk0
    refine tb_wp CF.tt rfl ?_
    exact retI hr
end Go.Proofs.Ytbaoelfpmdmhjaa
set_option maxRecDepth 100000
set_option maxHeartbeats 2000000
namespace Go.Proofs.Ytbaoelfpmdmhjaa
open Go.Ai
/-! ### the document's All -/
def refRun (o c : UInt8) (l : List UInt8) : Nat → Option (Array PP)
  | 0 => none
  | p + 1 => if l.getD p 0 = o ∧ 0 ≤ otherS o c l p then some (((refRun o c l p).getD #[]).push (mkP p (otherS o c l p).toNat)) else refRun o c l p
theorem refRun_size (o c : UInt8) (l : List UInt8) : ∀ p, ((refRun o c l p).getD #[]).size ≤ p
  | 0 => Nat.le_refl _
  | p + 1 => by
    have ih := refRun_size o c l p
    unfold refRun
    split
    · simp only [Option.getD_some, Array.size_push]; omega
    · omega
noncomputable def hR (O : Option (Array PP)) : H := ⟨tree8 none (blO O) none none none none none none, 2, 0⟩
theorem close_at (i : Nat) (hi : i < 4) : closeS [opB i] = clB i ∧ clB i ≠ 0 := by
  rcases (by omega : i = 0 ∨ i = 1 ∨ i = 2 ∨ i = 3) with rfl | rfl | rfl | rfl <;> decide
theorem othF_le (o c : UInt8) (l : List UInt8) : ∀ k i d, othF o c l k i d < i + k ∧ -1 ≤ othF o c l k i d
  | 0, i, d => ⟨by show (-1 : Int) < _; omega, Int.le_refl _⟩
  | k + 1, i, d => by
    unfold othF
    split
    · omega
    · have := othF_le o c l k (i + 1) (depS o c (l.getD i 0) d)
      omega
theorem refAll_none (l kd : List UInt8) (hk : closeS kd = 0) : ∀ h, CallOk Try.prog C 10 [str l, str kd] h (.ret (.slice none 0 0) h) := by
  have hc := closer_ok kd
  rw [hk] at hc
  refine pure_wp CF rfl 4 3 (n := 50) (res := [.tmp 4]) (c := codeOf Try.f10) rfl rfl rfl ?_
  refine CallW.of (hc _) ?_
  repeat (first | (refine And.intro (fun _ => ?_) (fun h => Go.Ai.tf h)) | (refine And.intro (fun _ => ?_) (fun h => Go.Ai.ft h)) | (refine And.intro (fun h => Go.Ai.ft h) (fun _ => ?_)) | (refine And.intro (fun h => Go.Ai.tf h) (fun _ => ?_)))
  rfl
theorem refAll_bad (l : List UInt8) (i : Nat) (hi : i < 4) (hl : l.length ≤ 500) (hv : validS l = false) : ∀ h, CallOk Try.prog C 10 [str l, str [opB i]] h (.ret (.slice none 0 0) h) := by
  have hc := closer_ok [opB i]
  obtain ⟨c1, c2⟩ := close_at i hi
  rw [c1] at hc
  have hv3 := valid3_ok l hl
  rw [hv] at hv3
  have hz : decide (((clB i).toNat : Int) = 0) = false := decide_eq_false (fun e => c2 (UInt8.toNat_inj.1 (by show (clB i).toNat = 0; omega)))
  refine pure_wp CF rfl 4 3 (n := 50) (res := [.tmp 4]) (c := codeOf Try.f10) rfl rfl rfl ?_
  refine CallW.of (hc _) ?_
  refine gF hz ?_
  repeat (first | (refine And.intro (fun _ => ?_) (fun h => Go.Ai.tf h)) | (refine And.intro (fun _ => ?_) (fun h => Go.Ai.ft h)) | (refine And.intro (fun h => Go.Ai.ft h) (fun _ => ?_)) | (refine And.intro (fun h => Go.Ai.tf h) (fun _ => ?_)))
  refine CallW.of (hv3 _) ?_
  repeat (first | (refine And.intro (fun _ => ?_) (fun h => Go.Ai.tf h)) | (refine And.intro (fun _ => ?_) (fun h => Go.Ai.ft h)) | (refine And.intro (fun h => Go.Ai.ft h) (fun _ => ?_)) | (refine And.intro (fun h => Go.Ai.tf h) (fun _ => ?_)))
  rfl
theorem refAll_at (l : List UInt8) (i : Nat) (hi : i < 4) (hl : l.length ≤ 500) (hv : validS l = true) :
    CallOk Try.prog C 10 [str l, str [opB i]] (h00 4) (.ret (slO 1 (refRun (opB i) (clB i) l l.length)) (hR (refRun (opB i) (clB i) l l.length))) := by
  have hc := closer_ok [opB i]
  obtain ⟨c1, c2⟩ := close_at i hi
  rw [c1] at hc
  have hv3 := valid3_ok l hl
  rw [hv] at hv3
  have hz : decide (((clB i).toNat : Int) = 0) = false := decide_eq_false (fun e => c2 (UInt8.toNat_inj.1 (by show (clB i).toNat = 0; omega)))
  refine fn_wp CF rfl (n := 50) (res := [.tmp 4]) (c := codeOf Try.f10) rfl ?_
  refine CallW.of (hc _) ?_
  refine gF hz ?_
  repeat (first | (refine And.intro (fun _ => ?_) (fun h => Go.Ai.tf h)) | (refine And.intro (fun _ => ?_) (fun h => Go.Ai.ft h)) | (refine And.intro (fun h => Go.Ai.ft h) (fun _ => ?_)) | (refine And.intro (fun h => Go.Ai.tf h) (fun _ => ?_)))
  refine CallW.of (hv3 _) ?_
  repeat (first | (refine And.intro (fun _ => ?_) (fun h => Go.Ai.tf h)) | (refine And.intro (fun _ => ?_) (fun h => Go.Ai.ft h)) | (refine And.intro (fun h => Go.Ai.ft h) (fun _ => ?_)) | (refine And.intro (fun h => Go.Ai.tf h) (fun _ => ?_)))
  refine loopV CF.tt rfl (fun p : Nat => ⟨tmOf 7 [(0, str l), (1, str [opB i]), (5, .int .u8 (clB i).toNat), (6, slO 1 (refRun (opB i) (clB i) l p)), (7, I p)], [], none, hR (refRun (opB i) (clB i) l p)⟩) 0
    (weak_ren (L := [0, 1]) ⟨⟨_, rfl, rfl⟩, ⟨_, rfl, rfl⟩, ⟨_, rfl, rfl⟩, ⟨_, rfl, rfl⟩, ⟨_, rfl, rfl⟩, trivial⟩ ⟨trivial, trivial, trivial⟩ rfl (by decide) rfl rfl (Nat.zero_le _))
    (fun p => l.length - p) (fun p => p ≤ l.length) (Nat.zero_le _) ?_
  intro p hp
  refine And.intro (fun h1 => ?_) (fun h1 => ?_)
  · have h1 := of_decide_eq_true h1
    have hpl : p < l.length := by
      have : (p : Int) < (l.length : Nat) := h1
      omega
    have hsz := refRun_size (opB i) (clB i) l p
    have hnx : refRun (opB i) (clB i) l (p + 1) = if l.getD p 0 = opB i ∧ 0 ≤ otherS (opB i) (clB i) l p then some (((refRun (opB i) (clB i) l p).getD #[]).push (mkP p (otherS (opB i) (clB i) l p).toNat)) else refRun (opB i) (clB i) l p := rfl
    have hoth := other_ok (opB i) (clB i) l p hp hl
    revert hsz hnx
    generalize refRun (opB i) (clB i) l p = O
    intro hsz hnx
    refine And.intro (show (0 : Int) ≤ p ∧ (p : Int) < (l.length : Nat) by omega) ?_
    refine And.intro (show (0 : Int) ≤ 0 ∧ (0 : Int) < (1 : Nat) by omega) ?_
    refine And.intro (fun h2 => ?_) (fun h2 => ?_)
    · have h2 : (((l.getD p 0).toNat : Nat) : Int) = ((opB i).toNat : Nat) := of_decide_eq_true h2
      have h2 : l.getD p 0 = opB i := UInt8.toNat_inj.1 (by omega)
      repeat (first | (refine And.intro (fun _ => ?_) (fun h => Go.Ai.tf h)) | (refine And.intro (fun _ => ?_) (fun h => Go.Ai.ft h)) | (refine And.intro (fun h => Go.Ai.ft h) (fun _ => ?_)) | (refine And.intro (fun h => Go.Ai.tf h) (fun _ => ?_)))
      refine And.intro (show (0 : Int) ≤ 0 ∧ (0 : Int) < (1 : Nat) by omega) ?_
      repeat (first | (refine And.intro (fun _ => ?_) (fun h => Go.Ai.tf h)) | (refine And.intro (fun _ => ?_) (fun h => Go.Ai.ft h)) | (refine And.intro (fun h => Go.Ai.ft h) (fun _ => ?_)) | (refine And.intro (fun h => Go.Ai.tf h) (fun _ => ?_)))
      refine CallW.of (hoth _) ?_
      repeat (first | (refine And.intro (fun _ => ?_) (fun h => Go.Ai.tf h)) | (refine And.intro (fun _ => ?_) (fun h => Go.Ai.ft h)) | (refine And.intro (fun h => Go.Ai.ft h) (fun _ => ?_)) | (refine And.intro (fun h => Go.Ai.tf h) (fun _ => ?_)))
      obtain ⟨z, hz⟩ : ∃ z, otherS (opB i) (clB i) l p = z := ⟨_, rfl⟩
      rw [hz] at hoth hnx
      rw [hz]
      refine And.intro (fun h3 => ?_) (fun h3 => ?_)
      · have h3 := of_decide_eq_true h3
        rw [if_pos ⟨h2, h3⟩] at hnx
        refine And.intro (show (0 : Int) ≤ 0 ∧ (0 : Int) < (1 : Nat) by omega) ?_
        obtain ⟨q, rfl⟩ : ∃ q : Nat, z = q := ⟨z.toNat, by omega⟩
        refine CallW.of (hoth _) ?_
        have hp' : p < 4611686018427387904 := by omega
        cases O with
        | none =>
          refine Or.inl (And.intro (inK_i64 (by first | omega | (simp only <;> omega) | (simp only [Array.size_setIfInBounds, Go.Ai.swp_size] <;> omega))) ?_)
          refine ⟨p + 1, by omega, ?_, by omega⟩
          rw [hnx]
          exact weak_ren (L := [0, 3]) ⟨⟨_, rfl, rfl⟩, ⟨_, rfl, rfl⟩, ⟨_, rfl, rfl⟩, ⟨_, rfl, rfl⟩, ⟨_, (iv (by first | omega | (simp only <;> omega) | (simp only [Array.size_setIfInBounds, Go.Ai.swp_size] <;> omega))), rfl⟩, trivial⟩ ⟨trivial, ⟨brO _ _ _ _ _ _ (pushO #[] q hp'), Nat.zero_le _, fun h => (nomatch h)⟩, trivial⟩ rfl (by decide) rfl rfl (Nat.zero_le _)
        | some O =>
          have es : slO 1 (some (O.push (mkP p q))) = .slice (some ⟨1, 0, none⟩) (O.size + 1) 4 := by simp [slO]
          simp only [Option.getD_some] at hsz hnx
          refine nxW_of (app_val rfl rfl rfl (aAppend_cells (n := 1) (new := [I p, I q]) (cs := flatA O) (fam := 0) (fz := 0) rfl rfl rfl rfl rfl rfl rfl (by decide) rfl (by show (O.size + 1) * 17 ≤ _; omega) rfl rfl rfl (by rw [flatA_len]; exact Nat.le_of_eq (show 0 + O.size * 2 = O.size * 2 by omega)) (fzle_zero _))) ?_
          refine Or.inl (And.intro (inK_i64 (by first | omega | (simp only <;> omega) | (simp only [Array.size_setIfInBounds, Go.Ai.swp_size] <;> omega))) ?_)
          refine ⟨p + 1, by omega, ?_, by omega⟩
          rw [hnx]
          exact weak_ren (L := [0, 3]) ⟨⟨_, rfl, rfl⟩, ⟨_, rfl, rfl⟩, ⟨_, rfl, rfl⟩, ⟨_, rfl, by rw [show ((q : Int)).toNat = q from rfl, es]; rfl⟩, ⟨_, (iv (by first | omega | (simp only <;> omega) | (simp only [Array.size_setIfInBounds, Go.Ai.swp_size] <;> omega))), rfl⟩, trivial⟩ ⟨trivial, ⟨brO _ _ _ _ _ _ (cutO O q hp'), Nat.zero_le _, fun h => (nomatch h)⟩, trivial⟩ rfl (by decide) rfl rfl (Nat.zero_le _)
      · have h3 := of_decide_eq_false h3
        rw [if_neg (fun e => h3 e.2)] at hnx
        refine Or.inl (And.intro (inK_i64 (by first | omega | (simp only <;> omega) | (simp only [Array.size_setIfInBounds, Go.Ai.swp_size] <;> omega))) ?_)
        refine ⟨p + 1, by omega, ?_, by omega⟩
        rw [hnx]
        exact weak_live ⟨rfl, rfl, rfl, rfl, (iv (by first | omega | (simp only <;> omega) | (simp only [Array.size_setIfInBounds, Go.Ai.swp_size] <;> omega))), trivial⟩ rfl rfl rfl
    · have h2 : ¬ (((l.getD p 0).toNat : Nat) : Int) = ((opB i).toNat : Nat) := of_decide_eq_false h2
      rw [if_neg (fun e => h2 (by rw [e.1]))] at hnx
      repeat (first | (refine And.intro (fun _ => ?_) (fun h => Go.Ai.tf h)) | (refine And.intro (fun _ => ?_) (fun h => Go.Ai.ft h)) | (refine And.intro (fun h => Go.Ai.ft h) (fun _ => ?_)) | (refine And.intro (fun h => Go.Ai.tf h) (fun _ => ?_)))
      refine Or.inl (And.intro (inK_i64 (by first | omega | (simp only <;> omega) | (simp only [Array.size_setIfInBounds, Go.Ai.swp_size] <;> omega))) ?_)
      refine ⟨p + 1, by omega, ?_, by omega⟩
      rw [hnx]
      exact weak_live ⟨rfl, rfl, rfl, rfl, (iv (by first | omega | (simp only <;> omega) | (simp only [Array.size_setIfInBounds, Go.Ai.swp_size] <;> omega))), trivial⟩ rfl rfl rfl
  · have h1 := of_decide_eq_false h1
    have hpl : p = l.length := by
      have : ¬ (p : Int) < (l.length : Nat) := h1
      omega
    subst hpl
    exact ⟨rfl, rfl⟩
end Go.Proofs.Ytbaoelfpmdmhjaa
set_option maxRecDepth 100000
set_option maxHeartbeats 2000000
namespace Go.Proofs.Ytbaoelfpmdmhjaa
open Go.Ai
open Go.Sort (PermIn SortedIn)
/-! ### counting and stacking tell the same -/
def RunA (o c : UInt8) (l : List UInt8) (a i : Nat) (d : Int) : Prop := othF o c l (l.length - i) i d = otherS o c l a
theorem RunA.step {o c : UInt8} {l : List UInt8} {a i : Nat} {d : Int} (h : RunA o c l a i d) (hi : i < l.length) : (depS o c (l.getD i 0) d = 0 → otherS o c l a = i) ∧ (depS o c (l.getD i 0) d ≠ 0 → RunA o c l a (i + 1) (depS o c (l.getD i 0) d)) := by
  unfold RunA at h
  obtain ⟨k, hk⟩ : ∃ k, l.length - i = k + 1 := ⟨l.length - i - 1, by omega⟩
  rw [hk] at h
  have h : (if depS o c (l.getD i 0) d = 0 then (i : Int) else othF o c l k (i + 1) (depS o c (l.getD i 0) d)) = otherS o c l a := h
  constructor
  · intro e
    rw [if_pos e] at h
    exact h.symm
  · intro e
    rw [if_neg e] at h
    unfold RunA
    rw [show l.length - (i + 1) = k by omega]
    exact h
structure Kn (o c : UInt8) (l : List UInt8) (i : Nat) (S : List Nat) (O : List PP) : Prop where
  run : ∀ j (hj : j < S.length), RunA o c l S[j] i ((S.length : Int) - j)
  don : ∀ x ∈ O, otherS o c l x.a = x.b
  all : ∀ a, a < i → l.getD a 0 = o → a ∈ S ∨ ∃ x ∈ O, x.a = a
theorem Kn.other {o c : UInt8} {l : List UInt8} {i : Nat} {S : List Nat} {O : List PP} (h : Kn o c l i S O) (hi : i < l.length) (h1 : l.getD i 0 ≠ o) (h2 : l.getD i 0 ≠ c ∨ S = []) : Kn o c l (i + 1) S O := by
  refine ⟨fun j hj => ?_, h.don, fun a ha hl => ?_⟩
  · have hr := (h.run j hj).step hi
    have hc : l.getD i 0 ≠ c := by
      rcases h2 with h2 | h2
      · exact h2
      · rw [h2] at hj; exact absurd hj (Nat.not_lt_zero _)
    have hd : depS o c (l.getD i 0) ((S.length : Int) - j) = (S.length : Int) - j := by unfold depS; rw [if_neg hc, if_neg h1]
    rw [hd] at hr
    exact hr.2 (by omega)
  · rcases (by omega : a < i ∨ a = i) with g | g
    · exact h.all a g hl
    · subst g; exact absurd hl h1
theorem Kn.push {o c : UInt8} (hoc : o ≠ c) {l : List UInt8} {i : Nat} {S : List Nat} {O : List PP} (h : Kn o c l i S O) (hi : i < l.length) (h1 : l.getD i 0 = o) : Kn o c l (i + 1) (S ++ [i]) O := by
  have hds : ∀ d, depS o c (l.getD i 0) d = d + 1 := fun d => by unfold depS; rw [if_neg (by rw [h1]; exact hoc), if_pos h1]
  refine ⟨fun j hj => ?_, h.don, fun a ha hl => ?_⟩
  · simp only [List.length_append, List.length_singleton] at hj ⊢
    by_cases hjs : j < S.length
    · rw [List.getElem_append_left hjs]
      have hr := (h.run j hjs).step hi
      rw [hds] at hr
      have := hr.2 (by omega)
      rw [show ((S.length + 1 : Nat) : Int) - j = (S.length : Int) - j + 1 by omega]
      exact this
    · have hje : j = S.length := by omega
      subst hje
      rw [List.getElem_append_right (Nat.le_refl _)]
      simp only [Nat.sub_self, List.getElem_singleton]
      have h0 : RunA o c l i i 0 := rfl
      have hr := h0.step hi
      rw [hds] at hr
      have := hr.2 (by omega)
      rw [show ((S.length + 1 : Nat) : Int) - S.length = 0 + 1 by omega]
      exact this
  · rcases (by omega : a < i ∨ a = i) with g | g
    · rcases h.all a g hl with h2 | h2
      · exact .inl (List.mem_append_left _ h2)
      · exact .inr h2
    · exact .inl (List.mem_append_right _ (by rw [g]; simp))
theorem Kn.pop {o c : UInt8} (hoc : o ≠ c) {l : List UInt8} {i a : Nat} {S : List Nat} {O : List PP} (h : Kn o c l i (S ++ [a]) O) (hi : i < l.length) (h1 : l.getD i 0 = c) (ha : a < 4611686018427387904) : Kn o c l (i + 1) S (O ++ [mkP a i]) := by
  have hds : ∀ d, depS o c (l.getD i 0) d = d - 1 := fun d => by unfold depS; rw [if_pos h1, if_neg (by rw [h1]; exact fun e => hoc e.symm)]
  refine ⟨fun j hj => ?_, fun x hx => ?_, fun b hb hl => ?_⟩
  · have hr := (h.run j (by simp; omega)).step hi
    rw [hds, List.getElem_append_left hj] at hr
    simp only [List.length_append, List.length_singleton] at hr
    have := hr.2 (by omega)
    rw [show ((S.length + 1 : Nat) : Int) - j - 1 = (S.length : Int) - j by omega] at this
    exact this
  · rcases List.mem_append.1 hx with hx | hx
    · exact h.don x hx
    · rw [List.mem_singleton.1 hx, mkP_a ha, mkP_b ha]
      have hr := (h.run S.length (by simp)).step hi
      rw [hds, List.getElem_append_right (Nat.le_refl _)] at hr
      simp only [List.length_append, List.length_singleton, Nat.sub_self, List.getElem_singleton] at hr
      exact hr.1 (by omega)
  · rcases (by omega : b < i ∨ b = i) with g | g
    · rcases h.all b g hl with h2 | ⟨x, hx, e⟩
      · rcases List.mem_append.1 h2 with h2 | h2
        · exact .inl h2
        · exact .inr ⟨mkP a i, by simp, by rw [mkP_a ha, List.mem_singleton.1 h2]⟩
      · exact .inr ⟨x, List.mem_append_left _ hx, e⟩
    · subst g
      rw [h1] at hl
      exact absurd hl.symm hoc
theorem runS_kn (o c : UInt8) (hoc : o ≠ c) (l : List UInt8) (hl : l.length ≤ 500) : ∀ p, p ≤ l.length → Kn o c l p ((runS o c l p).1.getD []) (lstO (runS o c l p).2)
  | 0, _ => ⟨fun j hj => absurd hj (by simp [runS]), fun x hx => by simp [runS, lstO] at hx, fun a ha => absurd ha (Nat.not_lt_zero _)⟩
  | p + 1, hp => by
    have ih := runS_kn o c hoc l hl p (by omega)
    have hI := (runS_inv o c l p).2
    have e : runS o c l (p + 1) = stepS o c (l.getD p 0) p (runS o c l p) := rfl
    rw [e]
    revert ih hI
    generalize runS o c l p = st
    obtain ⟨S, O⟩ := st
    intro ih hI
    simp only at ih hI
    unfold stepS
    split
    · rename_i h
      exact ih.push hoc (by omega) h
    · rename_i h1
      split
      · rename_i h2
        split
        · rename_i hn
          simp only at hn
          exact ih.other (by omega) h1 (.inr (by simpa using hn))
        · rename_i a ha
          simp only at ha
          obtain ⟨T, hT⟩ : ∃ T, S.getD [] = T ++ [a] := by
            rcases List.eq_nil_or_concat (S.getD []) with e | ⟨T, b, e⟩
            · rw [e] at ha; cases ha
            · rw [List.concat_eq_append] at e
              rw [e, List.getLast?_concat] at ha
              cases ha
              exact ⟨T, e⟩
          have hap : a < p := hI a (by rw [hT]; simp)
          rw [hT] at ih
          have hd : (S.getD []).dropLast = T := by rw [hT]; simp
          simp only [Option.getD_some, hd]
          have hO : lstO (some ((O.getD #[]).push (mkP a p))) = lstO O ++ [mkP a p] := by
            cases O <;> simp [lstO]
          rw [hO]
          exact ih.pop hoc (by omega) h2 (by omega)
      · rename_i h2
        exact ih.other (by omega) h1 (.inl h2)
theorem stack_mem (o c : UInt8) (hoc : o ≠ c) (l : List UInt8) (hl : l.length ≤ 500) (x : PP) : x ∈ lstO (runS o c l l.length).2 ↔ x.a < l.length ∧ l.getD x.a 0 = o ∧ otherS o c l x.a = x.b := by
  have K := runS_kn o c hoc l hl l.length (Nat.le_refl _)
  have J := runS_jn o c hoc l l.length (by omega)
  constructor
  · intro hx
    have := J.x x hx
    exact ⟨by omega, this.2.2.1, K.don x hx⟩
  · rintro ⟨h1, h2, h3⟩
    rcases K.all x.a h1 h2 with hs | ⟨y, hy, e⟩
    · obtain ⟨j, hj, e⟩ := List.getElem_of_mem hs
      have hr := K.run j hj
      rw [e] at hr
      unfold RunA at hr
      rw [Nat.sub_self] at hr
      have hr : (-1 : Int) = otherS o c l x.a := hr
      omega
    · have hb := K.don y hy
      rw [e, h3] at hb
      have : x = y := by
        obtain ⟨xa, xb, xh⟩ := x
        obtain ⟨ya, yb, yh⟩ := y
        simp only at e hb
        subst e
        have hb : xb = yb := by omega
        subst hb
        rfl
      rw [this]; exact hy
theorem ref_mem (o c : UInt8) (l : List UInt8) (hl : l.length ≤ 500) : ∀ p, p ≤ l.length → (∀ x, x ∈ lstO (refRun o c l p) ↔ x.a < p ∧ l.getD x.a 0 = o ∧ otherS o c l x.a = x.b) ∧ (lstO (refRun o c l p)).Pairwise (fun x y => x.a < y.a)
  | 0, _ => ⟨fun x => by simp [refRun, lstO], by simp [refRun, lstO]⟩
  | p + 1, hp => by
    obtain ⟨ih1, ih2⟩ := ref_mem o c l hl p (by omega)
    have hp' : p < 4611686018427387904 := by omega
    unfold refRun
    split
    · rename_i h
      have hO : lstO (some (((refRun o c l p).getD #[]).push (mkP p (otherS o c l p).toNat))) = lstO (refRun o c l p) ++ [mkP p (otherS o c l p).toNat] := by
        cases refRun o c l p <;> simp [lstO]
      rw [hO]
      refine ⟨fun x => ?_, ?_⟩
      · rw [List.mem_append, List.mem_singleton, ih1]
        constructor
        · rintro (h2 | h2)
          · exact ⟨by omega, h2.2⟩
          · rw [h2, mkP_a hp', mkP_b hp']
            exact ⟨by omega, h.1, by omega⟩
        · rintro ⟨h2, h3, h4⟩
          rcases (by omega : x.a < p ∨ x.a = p) with g | g
          · exact .inl ⟨g, h3, h4⟩
          · refine .inr ?_
            have ea : (mkP p (otherS o c l p).toNat).a = p := mkP_a hp'
            have eb : (mkP p (otherS o c l p).toNat).b = (otherS o c l p).toNat := mkP_b hp'
            revert ea eb
            generalize mkP p (otherS o c l p).toNat = y
            intro ea eb
            rw [g] at h4
            obtain ⟨xa, xb, xh⟩ := x
            obtain ⟨ya, yb, yh⟩ := y
            simp only at g h4 ea eb
            subst g; subst ea
            have : xb = yb := by omega
            subst this
            rfl
      · rw [List.pairwise_append]
        refine ⟨ih2, List.pairwise_singleton _ _, fun x hx y hy => ?_⟩
        rw [List.mem_singleton.1 hy, mkP_a hp']
        exact ((ih1 x).1 hx).1
    · rename_i h
      refine ⟨fun x => ?_, ih2⟩
      rw [ih1]
      constructor
      · rintro ⟨h2, h3⟩
        exact ⟨by omega, h3⟩
      · rintro ⟨h2, h3, h4⟩
        rcases (by omega : x.a < p ∨ x.a = p) with g | g
        · exact ⟨g, h3, h4⟩
        · rw [g] at h3 h4
          exact absurd ⟨h3, by omega⟩ h
theorem asc_eq : ∀ {L M : List PP}, L.Pairwise (fun x y => x.a < y.a) → M.Pairwise (fun x y => x.a < y.a) → (∀ x, x ∈ L ↔ x ∈ M) → L = M
  | [], [], _, _, _ => rfl
  | [], y :: M, _, _, h => absurd ((h y).2 (by simp)) (by simp)
  | x :: L, [], _, _, h => absurd ((h x).1 (by simp)) (by simp)
  | x :: L, y :: M, hL, hM, h => by
    rw [List.pairwise_cons] at hL hM
    have exy : x = y := by
      rcases List.mem_cons.1 ((h x).1 (by simp)) with e | hx
      · exact e
      · rcases List.mem_cons.1 ((h y).2 (by simp)) with e | hy
        · exact e.symm
        · have := hL.1 y hy
          have := hM.1 x hx
          omega
    subst exy
    have hx1 : x ∉ L := fun hx => Nat.lt_irrefl _ (hL.1 x hx)
    have hx2 : x ∉ M := fun hx => Nat.lt_irrefl _ (hM.1 x hx)
    rw [asc_eq hL.2 hM.2 fun z => ?_]
    constructor
    · intro hz
      rcases List.mem_cons.1 ((h z).1 (List.mem_cons_of_mem _ hz)) with e | hz'
      · rw [e] at hz; exact absurd hz hx1
      · exact hz'
    · intro hz
      rcases List.mem_cons.1 ((h z).2 (List.mem_cons_of_mem _ hz)) with e | hz'
      · rw [e] at hz; exact absurd hz hx2
      · exact hz'
theorem all_eq (l : List UInt8) (hl : l.length ≤ 500) (hv : validS l = true) (i : Nat) (hi : i < 4) : lstO (AllF l i) = lstO (refRun (opB i) (clB i) l l.length) := by
  have L := lstF hv hl hi
  obtain ⟨r1, r2⟩ := ref_mem (opB i) (clB i) l hl l.length (Nat.le_refl _)
  refine asc_eq L.asc r2 fun x => ?_
  rw [L.mem, stack_mem _ _ (opcl_ne i hi) l hl, r1]
end Go.Proofs.Ytbaoelfpmdmhjaa
set_option maxRecDepth 100000
set_option maxHeartbeats 2000000
namespace Go.Proofs.Ytbaoelfpmdmhjaa
open Go.Ai
/-! ### Same, at lists that are the same -/
theorem aeq_int (d : Nat) (p : Nat) : aeq C (d + 1) (.val 3 (I p) (I p)) = some true := by
  show some (((p : Nat) : Int) == p) = some true
  rw [beq_self_eq_true]
theorem neq_pair (x : PP) (ox oy : Operand) : aBin C .neq 34 ox oy (V2P x) (V2P x) = some (.bool false) := by
  have h0 : aeq C 87 (.elems 3 0 2 [I x.a, I x.b] [I x.a, I x.b]) = some true := rfl
  have h1 : aeq C 88 (.elems 3 1 1 [I x.a, I x.b] [I x.a, I x.b]) = some true := by
    show bnd (aeq C 87 (.val 3 (I x.b) (I x.b))) (fun b => match b with | true => aeq C 87 (.elems 3 0 2 [I x.a, I x.b] [I x.a, I x.b]) | false => ok false) = _
    rw [aeq_int 86 x.b]
    exact h0
  have h2 : aeq C 89 (.elems 3 2 0 [I x.a, I x.b] [I x.a, I x.b]) = some true := by
    show bnd (aeq C 88 (.val 3 (I x.a) (I x.a))) (fun b => match b with | true => aeq C 88 (.elems 3 1 1 [I x.a, I x.b] [I x.a, I x.b]) | false => ok false) = _
    rw [aeq_int 87 x.a]
    exact h1
  show bnd (aeq C 89 (.elems 3 2 0 [I x.a, I x.b] [I x.a, I x.b])) (fun b => (ok (Value.bool (!b)) : R Value)) = _
  rw [h2]
  rfl
noncomputable def hS (A : Array PP) : H := ⟨tree8 none (some (.cells (flatA A) 34 0 0)) (some (.cells (flatA A) 34 0 0)) none none none none none, 3, 0⟩
theorem same_two (A : Array PP) (hA : A.size ≤ 500) : CallOk Try.prog C 8 [.slice (some ⟨1, 0, none⟩) A.size 4, .slice (some ⟨2, 0, none⟩) A.size 4] (hS A) (.ret (.bool true) (hS A)) := by
  refine fn_wp CF rfl (n := 26) (res := [.tmp 4]) (c := codeOf Try.f8) rfl ?_
  refine And.intro (fun h => ?_) (fun _ => ?_)
  · exact absurd h (by simp)
  refine loopV CF.tt rfl (fun i : Nat => ⟨tmOf 6 [(0, .slice (some ⟨1, 0, none⟩) A.size 4), (1, .slice (some ⟨2, 0, none⟩) A.size 4), (5, I i)], [], none, hS A⟩) 0 (weak_live ⟨rfl, rfl, rfl, trivial⟩ rfl rfl rfl)
    (fun i => A.size - i) (fun i => i ≤ A.size) (Nat.zero_le _) ?_
  intro i hi
  refine And.intro (fun h1 => ?_) (fun h1 => ?_)
  · have h1 := of_decide_eq_true h1
    have hiA : i < A.size := by
      have : (i : Int) < (A.size : Nat) := h1
      omega
    apply nxW_of
    · exact idx_pair (i) rfl rfl rfl rfl rfl rfl (by first | omega | (simp only <;> omega) | (simp only [Array.size_setIfInBounds, Go.Ai.swp_size] <;> omega)) (by first | omega | (simp only <;> omega) | (simp only [Array.size_setIfInBounds, Go.Ai.swp_size] <;> omega))
    apply nxW_of
    · exact load_pair (A) (i) rfl rfl rfl rfl rfl (by first | omega | (simp only <;> omega) | (simp only [Array.size_setIfInBounds, Go.Ai.swp_size] <;> omega))
    apply nxW_of
    · exact idx_pair (i) rfl rfl rfl rfl rfl rfl (by first | omega | (simp only <;> omega) | (simp only [Array.size_setIfInBounds, Go.Ai.swp_size] <;> omega)) (by first | omega | (simp only <;> omega) | (simp only [Array.size_setIfInBounds, Go.Ai.swp_size] <;> omega))
    apply nxW_of
    · exact load_pair (A) (i) rfl rfl rfl rfl rfl (by first | omega | (simp only <;> omega) | (simp only [Array.size_setIfInBounds, Go.Ai.swp_size] <;> omega))
    apply rV_of (g := fun _ => False)
    · exact neq_pair A[i]! _ _
    repeat (first | (refine And.intro (fun _ => ?_) (fun h => Go.Ai.tf h)) | (refine And.intro (fun _ => ?_) (fun h => Go.Ai.ft h)) | (refine And.intro (fun h => Go.Ai.ft h) (fun _ => ?_)) | (refine And.intro (fun h => Go.Ai.tf h) (fun _ => ?_)))
    refine Or.inl (And.intro (inK_i64 (by first | omega | (simp only <;> omega) | (simp only [Array.size_setIfInBounds, Go.Ai.swp_size] <;> omega))) ?_)
    exact ⟨i + 1, by omega, weak_live ⟨rfl, rfl, (iv (by first | omega | (simp only <;> omega) | (simp only [Array.size_setIfInBounds, Go.Ai.swp_size] <;> omega))), trivial⟩ rfl rfl rfl, by omega⟩
  · exact ⟨rfl, rfl⟩
theorem same_nil (v1 v2 : Value) (h1 : v1 = .slice none 0 0 ∨ ∃ a, v1 = .slice (some a) 0 4) (h2 : v2 = .slice none 0 0 ∨ ∃ a, v2 = .slice (some a) 0 4) (h : H) : CallOk Try.prog C 8 [v1, v2] h (.ret (.bool true) h) := by
  rcases h1 with rfl | ⟨a, rfl⟩ <;> rcases h2 with rfl | ⟨b, rfl⟩
  all_goals
    refine fn_wp CF rfl (n := 26) (res := [.tmp 4]) (c := codeOf Try.f8) rfl ?_
    repeat (first | (refine And.intro (fun _ => ?_) (fun h => Go.Ai.tf h)) | (refine And.intro (fun _ => ?_) (fun h => Go.Ai.ft h)) | (refine And.intro (fun h => Go.Ai.ft h) (fun _ => ?_)) | (refine And.intro (fun h => Go.Ai.tf h) (fun _ => ?_)))
    refine TB.ofLB (LB.nextW CF.tt rfl ?_)
    repeat (first | (refine And.intro (fun _ => ?_) (fun h => Go.Ai.tf h)) | (refine And.intro (fun _ => ?_) (fun h => Go.Ai.ft h)) | (refine And.intro (fun h => Go.Ai.ft h) (fun _ => ?_)) | (refine And.intro (fun h => Go.Ai.tf h) (fun _ => ?_)))
    refine ⟨rfl, ?_⟩
    simp only [nrm_eq]
end Go.Proofs.Ytbaoelfpmdmhjaa
set_option maxRecDepth 100000
set_option maxHeartbeats 2000000
namespace Go.Proofs.Ytbaoelfpmdmhjaa
open Go.Ai
/-! ### PairAll -/
theorem same_at (A : Array PP) (hA : A.size ≤ 500) {h : H} {B1 B2 f1 f2 : Nat} (hne : B1 ≠ B2) (hb1 : h.bl.get B1 = some (.cells (flatA A) 34 f1 0)) (hb2 : h.bl.get B2 = some (.cells (flatA A) 34 f2 0)) :
    CallOk Try.prog C 8 [.slice (some ⟨B1, 0, none⟩) A.size 4, .slice (some ⟨B2, 0, none⟩) A.size 4] h (.ret (.bool true) ⟨h.bl, h.ctr, 0⟩) := by
  have key : ∀ j x0, (tree8 none (some (.cells (flatA A) 34 0 0)) (some (.cells (flatA A) 34 0 0)) none none none none none : T Blk).get j = some x0 → j = 1 ∨ j = 2 := by
    intro j x0 hx
    have hlt := keysB_ok (cc := 3) (f := fun k => k) (t := tree8 none (some (.cells (flatA A) 34 0 0)) (some (.cells (flatA A) 34 0 0)) none none none none none) rfl j x0 hx
    rcases (by omega : j = 0 ∨ j = 1 ∨ j = 2) with rfl | rfl | rfl
    · cases hx
    · exact .inl rfl
    · exact .inr rfl
  refine call_frame (L := [B1 + B2 + 1, B1, B2]) rfl (same_two A hA) rfl rfl ⟨trivial, ?_, ?_, trivial⟩ rfl ?_ rfl rfl (fun _ _ => rfl) ?_
  · show (match h.bl.get B1 with | some y => BlkRn (nth [B1 + B2 + 1, B1, B2]) 3 (.cells (flatA A) 34 0 0) y ∧ ((famOf 1 (Blk.cells (flatA A) 34 0 0) ≤ 1) ∧ (famOf 1 (Blk.cells (flatA A) 34 0 0) = 1 → famOf B1 y = B1)) | none => False)
    rw [hb1]
    exact ⟨brO _ _ A _ _ _ rfl, Nat.zero_le _, fun h => (nomatch h)⟩
  · show (match h.bl.get B2 with | some y => BlkRn (nth [B1 + B2 + 1, B1, B2]) 3 (.cells (flatA A) 34 0 0) y ∧ ((famOf 2 (Blk.cells (flatA A) 34 0 0) ≤ 2) ∧ (famOf 2 (Blk.cells (flatA A) 34 0 0) = 2 → famOf B2 y = B2)) | none => False)
    rw [hb2]
    exact ⟨brO _ _ A _ _ _ rfl, Nat.zero_le _, fun h => (nomatch h)⟩
  · simp
    omega
  · intro j x0 hj hx
    rcases key j x0 hx with rfl | rfl
    · exact ⟨_, _, _, _, _, _, hb1, rfl, hb1, flatA_flat A⟩
    · exact ⟨_, _, _, _, _, _, hb2, rfl, hb2, flatA_flat A⟩
noncomputable def moreO (h : H) : Option (Array PP) → H
  | none => h
  | some d => moreC h (flatA d) 34
noncomputable def resO (h : H) : Option (Array PP) → H
  | none => h
  | some _ => ⟨h.bl, h.ctr, 0⟩
def AllU (g : Nat) (l kd : List UInt8) (D : Option (Array PP)) : Prop := ∀ h, CallOk Try.prog C g [str l, str kd] h (.ret (slO (nrmN (h.ctr + 1)) D) (moreO h D))
theorem AllU_of {l kd : List UInt8} {D : Option (Array PP)} (h : AllCk l kd D) : AllU 9 l kd D := by cases D <;> exact h
theorem same_u (D : Option (Array PP)) (hs : ∀ d, D = some d → d.size ≤ 500) (h : H) (K1 K2 : Nat) (hb : ∀ d, D = some d → K1 ≠ K2 ∧ (∃ f, h.bl.get K1 = some (.cells (flatA d) 34 f 0)) ∧ (∃ f, h.bl.get K2 = some (.cells (flatA d) 34 f 0))) :
    CallOk Try.prog C 8 [slO K1 D, slO K2 D] h (.ret (.bool true) (resO h D)) := by
  cases D with
  | none => exact same_nil _ _ (.inl rfl) (.inl rfl) h
  | some d =>
    obtain ⟨h1, ⟨f1, h2⟩, ⟨f2, h3⟩⟩ := hb d rfl
    exact same_at d (hs d rfl) h1 h2 h3
theorem refAll_any (l : List UInt8) (i : Nat) (hi : i < 4) (hl : l.length ≤ 500) : ∃ R, AllU 10 l [opB i] R ∧ (validS l = true → R = refRun (opB i) (clB i) l l.length) ∧ (validS l = false → R = none) := by
  cases hv : validS l with
  | false => exact ⟨none, refAll_bad l i hi hl hv, fun h => (nomatch h), fun _ => rfl⟩
  | true =>
    refine ⟨_, ?_, fun _ => rfl, fun h => (nomatch h)⟩
    have h2 := refAll_at l i hi hl hv
    revert h2
    generalize refRun (opB i) (clB i) l l.length = R
    intro h2
    cases R with
    | none => exact pure_of rfl (k := 3) h2 rfl rfl
    | some d => exact alloc_of rfl (k := 3) (b := 1) (fam := 0) h2 rfl rfl (flatA_flat d)
/-- a list that is not nil holds something -/
theorem runS_some (o c : UInt8) (l : List UInt8) : ∀ p A, (runS o c l p).2 = some A → 0 < A.size
  | 0, A, h => by cases h
  | p + 1, A, h => by
    have ih := runS_some o c l p
    have e : runS o c l (p + 1) = stepS o c (l.getD p 0) p (runS o c l p) := rfl
    rw [e] at h
    revert ih h
    generalize runS o c l p = st
    obtain ⟨S, O⟩ := st
    intro h ih
    unfold stepS at h
    split at h
    · exact ih A h
    · split at h
      · split at h
        · exact ih A h
        · cases h; simp
      · exact ih A h
theorem refRun_some (o c : UInt8) (l : List UInt8) : ∀ p A, refRun o c l p = some A → 0 < A.size
  | 0, A, h => by cases h
  | p + 1, A, h => by
    unfold refRun at h
    split at h
    · cases h; simp
    · exact refRun_some o c l p A h
theorem all_same (l : List UInt8) (hl : l.length ≤ 500) (i : Nat) (hi : i < 4) : ∃ D, AllU 9 l [opB i] D ∧ AllU 10 l [opB i] D ∧ (∀ d, D = some d → d.size ≤ 500) := by
  obtain ⟨hAD, hbad, hAC⟩ := AllF_spec hi hl
  obtain ⟨R, hR, hv1, hv0⟩ := refAll_any l i hi hl
  refine ⟨AllF l i, AllU_of (AllCk_of hAC), ?_, fun d hd => by have := AllF_size hi hl hd; omega⟩
  have : R = AllF l i := by
    cases hv : validS l with
    | false => rw [hv0 hv, hbad hv]
    | true =>
      have he := all_eq l hl hv i hi
      rw [← hv1 hv] at he
      have hA := hAD hv
      have hr1 : ∀ A, R = some A → 0 < A.size := fun A h => refRun_some _ _ _ _ A ((hv1 hv).symm.trans h)
      have hd1 : ∀ d, AllF l i = some d → 0 < d.size := by
        intro d h
        rw [h] at hA
        unfold AllD at hA
        revert hA
        have hs := runS_some (opB i) (clB i) l l.length
        revert hs
        generalize (runS (opB i) (clB i) l l.length).2 = O
        cases O with
        | none => intro _ h; cases h
        | some A =>
          rintro hs ⟨d', e, p, _⟩
          cases e
          rw [p.1]
          exact hs A rfl
      revert he hr1 hd1
      generalize AllF l i = D
      intro he hr1 hd1
      cases R with
      | none => cases D with
        | none => rfl
        | some d =>
          have := hd1 d rfl
          have h2 : d.toList = [] := he
          rw [← Array.length_toList, h2] at this
          exact absurd this (Nat.lt_irrefl _)
      | some r => cases D with
        | none =>
          have := hr1 r rfl
          have h2 : [] = r.toList := he
          rw [← Array.length_toList, ← h2] at this
          exact absurd this (Nat.lt_irrefl _)
        | some d =>
          have h2 : d.toList = r.toList := he
          rw [Array.ext' h2]
  rw [← this]
  exact hR
end Go.Proofs.Ytbaoelfpmdmhjaa
