/- A calculus of weakest preconditions over the executor. No condition. -/
import Derived.Test.YtbaoelfpmdmhjaaEngineC
import Derived.Sort.Defs
namespace Go.Ai
section
variable {P : Program} {C : Ctx} {h0 : H}

/-- code, from memory h0 on: from state s it comes to some state of which Q holds -/
def TB (P : Program) (C : Ctx) (h0 : H) (rd : Option Nat) (c : Code) (s : St) (Q : Ex → St → Prop) : Prop :=
  ∀ ρ0 w0 ρ a w b k cs0 cs, codeOk a.tmps.size c = true → HR ρ0 h0 w0 → GlR C.ng ρ0 → Ext ρ0 h0 w0 ρ s.hp w → StR ρ s a w → Bok ρ rd s.up b cs0 cs →
    ∃ e s', Q e s' ∧ ExOk P b k cs0 (lone (b.atR a (.code c :: k)) cs w) a.tmps.size ρ0 h0 w0 rd e s'
/-- .. the body of a loop, whose loop goes on behind it -/
def LB (P : Program) (C : Ctx) (h0 : H) (rd : Option Nat) (c : Code) (s : St) (Q : Ex → St → Prop) : Prop :=
  ∀ ρ0 w0 ρ a w b k cs0 cs, codeOk a.tmps.size c = true → HR ρ0 h0 w0 → GlR C.ng ρ0 → Ext ρ0 h0 w0 ρ s.hp w → StR ρ s a w → Bok ρ rd s.up b cs0 cs →
    ∃ e s', Q e s' ∧ ExOk P b k cs0 (lone (b.atR a (.code c :: .inLoop c :: k)) cs w) a.tmps.size ρ0 h0 w0 rd e s'

theorem TB.mono {rd : Option Nat} {c : Code} {s : St} {Q Q' : Ex → St → Prop} (x : TB P C h0 rd c s Q) (h : ∀ e s, Q e s → Q' e s) : TB P C h0 rd c s Q' := by
  intro ρ0 w0 ρ a w b k cs0 cs h1 h2 h3 h4 h5 h6
  obtain ⟨e, s', q, hx⟩ := x ρ0 w0 ρ a w b k cs0 cs h1 h2 h3 h4 h5 h6
  exact ⟨e, s', h e s' q, hx⟩
theorem TB.of {rd : Option Nat} {c : Code} {s s' : St} {e : Ex} {Q : Ex → St → Prop} (x : TOk P C (.ex rd c s) (.ex e s')) (q : Q e s') : TB P C h0 rd c s Q := by
  intro ρ0 w0 ρ a w b k cs0 cs h1 h2 h3 h4 h5 h6
  obtain ⟨e2, s2, he, hx⟩ := x ρ a w b k cs0 cs h1 h5 h6 (h3.mono h4.le)
  cases he
  exact ⟨e, s', q, hx.andThen h4⟩
theorem TB.skip {rd : Option Nat} {c : Code} {s : St} {Q : Ex → St → Prop} (hstep : ∀ (b : Frame) (a : Act) (k : List Item) (cs : List Frame) (w : World), step P (lone (b.atR a (.code c :: k)) cs w) = .next (lone (b.atR a k) cs w)) (q : Q .normal s) : TB P C h0 rd c s Q :=
  TB.of (skip_ok hstep) q
theorem TB.seq {rd : Option Nat} {x y : Code} {s : St} {Q : Ex → St → Prop} (hx : TB P C h0 rd x s fun e s1 => match e with | .normal => TB P C h0 rd y s1 Q | e => Q e s1) : TB P C h0 rd (.seq x y) s Q := by
  intro ρ0 w0 ρ a w b k cs0 cs hc h2 h3 h4 h5 h6
  simp only [codeOk, Bool.and_eq_true] at hc
  obtain ⟨e, s1, q, g⟩ := hx ρ0 w0 ρ a w b (.code y :: k) cs0 cs hc.1 h2 h3 h4 h5 h6
  by_cases he : e = .normal
  · subst he
    obtain ⟨ρ1, a1, w1, cs1, g1, g2, g3, g4, g5⟩ := g
    obtain ⟨e2, s2, q2, hx2⟩ := q ρ0 w0 ρ1 a1 w1 b k cs0 cs1 (by rw [g2]; exact hc.2) h2 h3 g4 g1 g3
    rw [g2] at hx2
    exact ⟨e2, s2, q2, (hx2.head g5).head (.one stepR_seq)⟩
  · refine ⟨e, s1, ?_, (g.pass (exitTo_code · y k) he).head (.one stepR_seq)⟩
    cases e <;> first | exact absurd rfl he | exact q
theorem TB.cond {rd : Option Nat} {c : Operand} {x y : Code} {s : St} {t : Bool} {Q : Ex → St → Prop} (he : ev 0 s.tm c = some (.bool t)) (h1 : t = true → TB P C h0 rd x s Q) (h2 : t = false → TB P C h0 rd y s Q) : TB P C h0 rd (.cond c x y) s Q := by
  intro ρ0 w0 ρ a w b k cs0 cs hc g2 g3 g4 g5 g6
  simp only [codeOk, Bool.and_eq_true] at hc
  have hv := boolOf_ok (ev0_ok g5.tm he) (b := t) rfl
  have hstep := stepR_cond (P := P) (b := b) (k := k) (cs := cs) (w := w) (x := x) (y := y) hv
  cases t with
  | true =>
    obtain ⟨e, s1, q, hx⟩ := h1 rfl ρ0 w0 ρ a w b k cs0 cs hc.1 g2 g3 g4 g5 g6
    exact ⟨e, s1, q, hx.head (.one hstep)⟩
  | false =>
    obtain ⟨e, s1, q, hx⟩ := h2 rfl ρ0 w0 ρ a w b k cs0 cs hc.2 g2 g3 g4 g5 g6
    exact ⟨e, s1, q, hx.head (.one hstep)⟩
theorem TB.block {rd : Option Nat} {id : Nat} {x : Code} {s : St} {Q : Ex → St → Prop} (hx : TB P C h0 rd x s fun e s1 => match e with | .exit i => (match Nat.beq i id with | true => Q .normal s1 | false => Q (.exit i) s1) | e => Q e s1) : TB P C h0 rd (.block id x) s Q := by
  intro ρ0 w0 ρ a w b k cs0 cs hc h2 h3 h4 h5 h6
  obtain ⟨e, s1, q, g⟩ := hx ρ0 w0 ρ a w b (.inBlock id :: k) cs0 cs hc h2 h3 h4 h5 h6
  have g := g.head (.one (stepR_block (P := P) (b := b) (a := a) (k := k) (cs := cs) (w := w) (id := id) (c := x)))
  obtain ⟨ρ1, a1, w1, cs1, g1, g2, g3, g4, g5⟩ := g
  cases e with
  | normal => exact ⟨.normal, s1, q, ρ1, a1, w1, cs1, g1, g2, g3, g4, g5.trans (.one stepR_inBlock)⟩
  | exit i =>
    obtain ⟨k', q1, q2⟩ := g5
    simp only at q
    split at q
    · rename_i hid
      have hid := Nat.eq_of_beq_eq_true hid
      subst hid
      rw [exitTo_same] at q1
      exact ⟨.normal, s1, q, ρ1, a1, w1, cs1, g1, g2, g3, g4, q2.trans (.one (stepR_exit q1))⟩
    · rename_i hid
      have hid : id ≠ i := fun e => by subst e; simp at hid
      rw [exitTo_other hid] at q1
      exact ⟨.exit i, s1, q, ρ1, a1, w1, cs1, g1, g2, g3, g4, k', q1, q2⟩
  | ret => exact ⟨.ret, s1, q, ρ1, a1, w1, cs1, g1, g2, g3, g4, g5⟩
  | panic ch => exact ⟨.panic ch, s1, q, ρ1, a1, w1, cs1, g1, g2, g3, g4, g5⟩

/-- a state that says less: what stands in relation with s stands in relation with c, too -/
def Weak (C : Ctx) (h0 : H) (rd : Option Nat) (c s : St) : Prop :=
  ∀ ρ0 w0 ρ (a : Act) (w : World) b cs0 cs, HR ρ0 h0 w0 → GlR C.ng ρ0 → Ext ρ0 h0 w0 ρ s.hp w → StR ρ s a w → Bok ρ rd s.up b cs0 cs →
    ∃ ρ1, Ext ρ0 h0 w0 ρ1 c.hp w ∧ StR ρ1 c a w ∧ Bok ρ1 rd c.up b cs0 cs
theorem Weak.refl {rd : Option Nat} (s : St) : Weak C h0 rd s s := fun _ _ ρ _ _ _ _ _ _ _ h1 h2 h3 => ⟨ρ, h1, h2, h3⟩
theorem TB.weak {rd : Option Nat} {c : Code} {s1 s : St} {Q : Ex → St → Prop} (hw : Weak C h0 rd s1 s) (x : TB P C h0 rd c s1 Q) : TB P C h0 rd c s Q := by
  intro ρ0 w0 ρ a w b k cs0 cs hc h2 h3 h4 h5 h6
  obtain ⟨ρ1, g1, g2, g3⟩ := hw ρ0 w0 ρ a w b cs0 cs h2 h3 h4 h5 h6
  exact x ρ0 w0 ρ1 a w b k cs0 cs hc h2 h3 g1 g2 g3
theorem LB.weak {rd : Option Nat} {c : Code} {s1 s : St} {Q : Ex → St → Prop} (hw : Weak C h0 rd s1 s) (x : LB P C h0 rd c s1 Q) : LB P C h0 rd c s Q := by
  intro ρ0 w0 ρ a w b k cs0 cs hc h2 h3 h4 h5 h6
  obtain ⟨ρ1, g1, g2, g3⟩ := hw ρ0 w0 ρ a w b cs0 cs h2 h3 h4 h5 h6
  exact x ρ0 w0 ρ1 a w b k cs0 cs hc h2 h3 g1 g2 g3
/-- a loop, by what holds at each round's head -/
theorem TB.loop {rd : Option Nat} {c : Code} {Q : Ex → St → Prop} {X : Type} (canon : X → St) (m : X → Nat) (Pre : X → Prop)
    (hbody : ∀ x, Pre x → TB P C h0 rd c (canon x) fun e s' => match e with | .normal => ∃ x', Pre x' ∧ Weak C h0 rd (canon x') s' ∧ m x' < m x | e => Q e s') {x : X} (hp : Pre x) {s : St} (hw : Weak C h0 rd (canon x) s) : TB P C h0 rd (.loop c) s Q := by
  have key : ∀ n x, Pre x → m x = n → LB P C h0 rd c (canon x) Q := by
    intro n
    induction n using Nat.strongRecOn with
    | _ n ih =>
      intro x hp hm
      intro ρ0 w0 ρ a w b k cs0 cs hc h2 h3 h4 h5 h6
      obtain ⟨e, s1, q, g⟩ := hbody x hp ρ0 w0 ρ a w b (.inLoop c :: k) cs0 cs hc h2 h3 h4 h5 h6
      by_cases he : e = .normal
      · subst he
        obtain ⟨x', hp', hw', hlt⟩ := q
        obtain ⟨ρ1, a1, w1, cs1, g1, g2, g3, g4, g5⟩ := g
        obtain ⟨e2, s2, q2, hx2⟩ := LB.weak hw' (ih (m x') (by omega) x' hp' rfl) ρ0 w0 ρ1 a1 w1 b k cs0 cs1 (by rw [g2]; exact hc) h2 h3 g4 g1 g3
        rw [g2] at hx2
        exact ⟨e2, s2, q2, hx2.head (g5.trans (.one stepR_inLoop))⟩
      · refine ⟨e, s1, ?_, g.pass (exitTo_loop · c k) he⟩
        cases e <;> first | exact absurd rfl he | exact q
  intro ρ0 w0 ρ a w b k cs0 cs hc h2 h3 h4 h5 h6
  obtain ⟨e, s1, q, hx⟩ := LB.weak hw (key _ x hp rfl) ρ0 w0 ρ a w b k cs0 cs hc h2 h3 h4 h5 h6
  exact ⟨e, s1, q, hx.head (.one stepR_loop)⟩
end
end Go.Ai
namespace Go.Ai
/-- a text by its bytes -/
abbrev str (l : List UInt8) : Value := .string ⟨⟨l⟩⟩
def lst (s : ByteArray) : List UInt8 := s.data.toList
def inK (k : IntKind) (n : Int) : Prop := k.wrap n = n
section
variable {P : Program} {C : Ctx}

/-- an operation's answer, by what is known of what it calls -/
def AnsS (P : Program) (C : Ctx) (n : Nx) (v : Value) (h' : H) : Prop :=
  n = .val v h' ∨ (∃ g args h, n = .call g args h ∧ CallOk P C g args h (.ret v h')) ∨ (∃ l args h, n = .yield l args h ∧ RoundOk P C l args h (.ret v h'))
theorem AnsS.ans {n : Nx} {v : Value} {h' : H} (a : AnsS P C n v h') : ∃ rec : Rec, Ans rec n v h' ∧ (∀ g args h out, rec (.call g args h) = some out → CallOk P C g args h out) ∧ (∀ l args h out, rec (.round l args h) = some out → RoundOk P C l args h out) := by
  classical
  rcases a with rfl | ⟨g, args, h, rfl, hc⟩ | ⟨l, args, h, rfl, hc⟩
  · exact ⟨fun _ => none, .inl rfl, fun _ _ _ _ h => (nomatch h), fun _ _ _ _ h => (nomatch h)⟩
  · refine ⟨fun t => if t = .call g args h then some (.ret v h') else none, .inr (.inl ⟨g, args, h, rfl, by simp⟩), ?_, ?_⟩
    · intro g2 args2 h2 out ho
      simp only at ho
      split at ho
      · rename_i e; cases e; cases ho; exact hc
      · cases ho
    · intro l2 args2 h2 out ho
      simp only at ho
      split at ho
      · rename_i e; cases e
      · cases ho
  · refine ⟨fun t => if t = .round l args h then some (.ret v h') else none, .inr (.inr ⟨l, args, h, rfl, by simp⟩), ?_, ?_⟩
    · intro g2 args2 h2 out ho
      simp only at ho
      split at ho
      · rename_i e; cases e
      · cases ho
    · intro l2 args2 h2 out ho
      simp only at ho
      split at ho
      · rename_i e; cases e; cases ho; exact hc
      · cases ho
theorem ans_one {rec : Rec} {o : Oper} {s : St} {n : Nx} {v : Value} {h' : H} (ha : aOp o.op C s.tm s.hp = some n) (hn : Ans rec n v h') : tOne (some 0) o s C rec = some (.ex .normal ⟨putT s.tm o.dst v, s.df, s.up, h'⟩) := by
  simp only [tOne, bnd_some]
  refine ⟨n, ha, ?_⟩
  rcases hn with rfl | ⟨g, args, h, rfl, hc⟩ | ⟨l, args, h, rfl, hc⟩
  · simp [goNx, nxVal, St.with]
  · simp [goNx, nxCall, hc, St.with]
  · simp [goNx, nxYield, hc, St.with]
/-- a call, with what stands behind it -/
def CallW (P : Program) (C : Ctx) (g : Nat) (args : List Value) (h : H) (K : Value → H → Prop) : Prop := ∃ v h', CallOk P C g args h (.ret v h') ∧ K v h'
def RoundW (P : Program) (C : Ctx) (l : Nat) (args : List Value) (h : H) (K : Value → H → Prop) : Prop := ∃ v h', RoundOk P C l args h (.ret v h') ∧ K v h'

/-! ### operations -/
noncomputable def valW (r : R Value) (h : H) (K : Value → H → Prop) : Prop := match r with | some v => K v h | none => False
/-- a number that is one more than a plain one, written plainly -/
noncomputable def nrmN (n : Nat) : Nat := Nat.rec (motive := fun _ => Nat) 0 (fun k _ => Nat.rec (motive := fun _ => Nat) 1 (fun j _ => j + 2) k) n
theorem nrmN_eq (n : Nat) : nrmN n = n := by
  cases n with
  | zero => rfl
  | succ k => cases k <;> rfl
noncomputable def nrm (h : H) : H := ⟨h.bl, nrmN h.ctr, h.low⟩
theorem nrm_eq (h : H) : nrm h = h := by unfold nrm; rw [nrmN_eq]
noncomputable def nxW0 (r : R Nx) (K : Value → H → Prop) : Prop := match r with | some (.val v h) => K v h | _ => False
noncomputable def nxW (r : R Nx) (K : Value → H → Prop) : Prop := nxW0 r fun v h => K v (nrm h)
noncomputable def rW (r : R Value) (K : Value → Prop) : Prop := match r with | some v => K v | none => False
/-- a number, without a turn-over, or as it is -/
def sumW (k : IntKind) (n : Int) (K : Value → Prop) : Prop := (inK k n ∧ K (.int k n)) ∨ K (.int k (k.wrap n))
noncomputable def binW (C : Ctx) (op : BinOp) (t : TypeId) (ox oy : Operand) (x y : Value) (K : Value → Prop) : Prop :=
  match x, y with
  | .int k a, .int k' b => match decide (k = k') with
    | true => match op with
      | .add => sumW k (a + b) K
      | .sub => sumW k (a - b) K
      | .mul => sumW k (a * b) K
      | .eql => K (.bool (decide (a = b)))
      | .neq => K (.bool (!decide (a = b)))
      | .lss => K (.bool (decide (a < b)))
      | .leq => K (.bool (decide (a ≤ b)))
      | .gtr => K (.bool (decide (b < a)))
      | .geq => K (.bool (decide (b ≤ a)))
      | _ => rW (aBin C op t ox oy x y) K
    | false => rW (aBin C op t ox oy (.int k a) (.int k' b)) K
  | .string a, .string b => match op with
    | .add => ((lst a).length + (lst b).length < 9223372036854775808) ∧ K (str (lst a ++ lst b))
    | .eql => K (.bool (decide (lst a = lst b)))
    | .neq => K (.bool (!decide (lst a = lst b)))
    | _ => rW (aBin C op t ox oy x y) K
  | _, _ => rW (aBin C op t ox oy x y) K
noncomputable def isStr (C : Ctx) (t : TypeId) : Bool := match C.tt.get t with | some ti => (match ti.desc with | .string => true | _ => false) | none => false
noncomputable def indexW (C : Ctx) (t : TypeId) (x i : Value) (K : Value → Prop) : Prop :=
  match x, i with
  | .string s, .int _ n => match isStr C t with
    | true => (0 ≤ n ∧ n < (lst s).length) ∧ K (.int .u8 (((lst s).getD n.toNat 0).toNat : Nat))
    | false => False
  | _, _ => rW (aIndex C t x i) K
noncomputable def loW (x : Option Value) (d : Int) (K : Int → Prop) : Prop := match x with | some (.int _ n) => K n | none => K d | _ => False
noncomputable def sliceW (C : Ctx) (t : TypeId) (x : Value) (lo hi mx : Option Value) (K : Value → Prop) : Prop :=
  match x, mx with
  | .string s, none => match isStr C t with
    | true => loW lo 0 fun l => loW hi (lst s).length fun h => (0 ≤ l ∧ l ≤ h ∧ h ≤ (lst s).length) ∧ K (str (((lst s).drop l.toNat).take (h.toNat - l.toNat)))
    | false => False
  | _, _ => rW (aSlice C t x lo hi mx) K
noncomputable def nextW (v : Value) (isStr : Bool) (h : H) (K : Value → H → Prop) : Prop := match v with
  | .pointer (some ⟨r, 0, none⟩) => match h.bl.get r with
    | some (.iter s pos) => match isStr with
      | true => (pos < (lst s).length → K (.tuple #[.bool true, .int .i64 pos, .int .i32 (Utf8.decode s pos).1]) (put h r (.iter s (pos + (Utf8.decode s pos).2)) r)) ∧ ((lst s).length ≤ pos → K (.tuple #[.bool false]) h)
      | false => False
    | _ => nxW (aNext v isStr h) K
  | _ => False
noncomputable def opW (P : Program) (C : Ctx) (o : Op) (tm : T Value) (h : H) (K : Value → H → Prop) : Prop :=
  match o with
  | .pick c a b => match ev C.ng tm c with
    | some (.bool t) => (t = true → valW (ev C.ng tm a) h K) ∧ (t = false → valW (ev C.ng tm b) h K)
    | _ => False
  | .binOp op t x y _ => match ev C.ng tm x, ev C.ng tm y with
    | some a, some b => binW C op t x y a b fun v => K v h
    | _, _ => False
  | .index t x i => match ev C.ng tm x, ev C.ng tm i with
    | some a, some b => indexW C t a b fun v => K v h
    | _, _ => False
  | .slice t x lo hi mx => match ev C.ng tm x, evO C.ng tm lo, evO C.ng tm hi, evO C.ng tm mx with
    | some x, some lo, some hi, some mx => sliceW C t x lo hi mx fun v => K v h
    | _, _, _, _ => False
  | .next it isStr => match ev C.ng tm it with
    | some v => nextW v isStr h K
    | none => False
  | .call c => match c.callee with
    | .value f => match evs C.ng tm c.args.toList, ev C.ng tm f with
      | some args, some (.func (.func g) first captured) => CallW P C g (first.toList ++ (args ++ captured.toList)) h K
      | some args, some (.func (.yield l) first _) => RoundW P C l (first.toList ++ args) h K
      | _, _ => False
    | _ => nxW (aOp o C tm h) K
  | _ => nxW (aOp o C tm h) K

theorem plain_int {k : IntKind} {n : Int} : plain (some (.int k n)) = some (.int k n) := rfl
theorem bin_add {C : Ctx} {t : TypeId} {ox oy : Operand} {k : IntKind} {a b : Int} : aBin C .add t ox oy (.int k a) (.int k b) = some (.int k (k.wrap (a + b))) := by
  cases k <;> rfl
theorem bin_sub {C : Ctx} {t : TypeId} {ox oy : Operand} {k : IntKind} {a b : Int} : aBin C .sub t ox oy (.int k a) (.int k b) = some (.int k (k.wrap (a - b))) := by
  cases k <;> rfl
theorem bin_mul {C : Ctx} {t : TypeId} {ox oy : Operand} {k : IntKind} {a b : Int} : aBin C .mul t ox oy (.int k a) (.int k b) = some (.int k (k.wrap (a * b))) := by
  cases k <;> rfl
theorem bin_eql {C : Ctx} {t : TypeId} {ox oy : Operand} {k : IntKind} {a b : Int} : aBin C .eql t ox oy (.int k a) (.int k b) = some (.bool (decide (a = b))) := by
  have : (a == b) = decide (a = b) := rfl
  cases k <;> (rw [← this]; rfl)
theorem bin_neq {C : Ctx} {t : TypeId} {ox oy : Operand} {k : IntKind} {a b : Int} : aBin C .neq t ox oy (.int k a) (.int k b) = some (.bool (!decide (a = b))) := by
  have : (a != b) = !decide (a = b) := rfl
  cases k <;> (rw [← this]; rfl)
theorem bin_lss {C : Ctx} {t : TypeId} {ox oy : Operand} {k : IntKind} {a b : Int} : aBin C .lss t ox oy (.int k a) (.int k b) = some (.bool (decide (a < b))) := by
  cases k <;> rfl
theorem bin_leq {C : Ctx} {t : TypeId} {ox oy : Operand} {k : IntKind} {a b : Int} : aBin C .leq t ox oy (.int k a) (.int k b) = some (.bool (decide (a ≤ b))) := by
  cases k <;> rfl
theorem bin_gtr {C : Ctx} {t : TypeId} {ox oy : Operand} {k : IntKind} {a b : Int} : aBin C .gtr t ox oy (.int k a) (.int k b) = some (.bool (decide (b < a))) := by
  cases k <;> rfl
theorem bin_geq {C : Ctx} {t : TypeId} {ox oy : Operand} {k : IntKind} {a b : Int} : aBin C .geq t ox oy (.int k a) (.int k b) = some (.bool (decide (b ≤ a))) := by
  cases k <;> rfl
theorem toList_lst (s : ByteArray) : s.toList = lst s := by
  unfold lst
  exact ByteArray.toList_eq s
theorem beq_lst (a b : List UInt8) : (a == b) = decide (a = b) := by
  by_cases h : a = b
  · simp [h]
  · simp [h]
theorem bin_seql {C : Ctx} {t : TypeId} {ox oy : Operand} {a b : ByteArray} : aBin C .eql t ox oy (.string a) (.string b) = some (.bool (decide (lst a = lst b))) := by
  have : aBin C .eql t ox oy (.string a) (.string b) = some (.bool (a.toList == b.toList)) := rfl
  rw [this, beq_lst, toList_lst, toList_lst]
theorem bin_sneq {C : Ctx} {t : TypeId} {ox oy : Operand} {a b : ByteArray} : aBin C .neq t ox oy (.string a) (.string b) = some (.bool (!decide (lst a = lst b))) := by
  have : aBin C .neq t ox oy (.string a) (.string b) = some (.bool (!(a.toList == b.toList))) := rfl
  rw [this, beq_lst, toList_lst, toList_lst]
theorem bin_sadd {C : Ctx} {t : TypeId} {ox oy : Operand} {a b : ByteArray} (h : (lst a).length + (lst b).length < 9223372036854775808) : aBin C .add t ox oy (.string a) (.string b) = some (str (lst a ++ lst b)) := by
  have hs : ∀ s : ByteArray, s.size = (lst s).length := fun s => by unfold lst; simp
  have h1 : ¬ (((a.size + b.size : Nat) : Int) > IntKind.i64.max) := by
    rw [hs, hs]
    have : IntKind.i64.max = 9223372036854775807 := by decide
    rw [this]; omega
  have h2 : pureOf (binOp .add t (.string a) (.string b)) = some (.string (a ++ b)) := by
    have : binOp .add t (.string a) (.string b) = Op.stringOp .add a b := rfl
    rw [this]
    simp only [Op.stringOp, if_neg h1]
    rfl
  have h3 : (a ++ b : ByteArray) = ⟨⟨lst a ++ lst b⟩⟩ := by
    apply ByteArray.ext
    apply Array.ext'
    unfold lst
    simp
  show plain (pureOf (binOp .add t (.string a) (.string b))) = _
  rw [h2, h3]
  rfl
end
end Go.Ai
namespace Go.Ai
section
variable {P : Program} {C : Ctx}

theorem valW_ok {r : R Value} {h : H} {K : Value → H → Prop} (w : valW r h K) : ∃ v, r = some v ∧ K v h := by
  unfold valW at w; split at w
  · exact ⟨_, rfl, w⟩
  · exact w.elim
theorem nxW_ok {r : R Nx} {K : Value → H → Prop} (w : nxW r K) : ∃ n v h', r = some n ∧ AnsS P C n v h' ∧ K v h' := by
  unfold nxW nxW0 at w; split at w
  · rw [nrm_eq] at w; exact ⟨_, _, _, rfl, .inl rfl, w⟩
  · exact w.elim
theorem rW_ok {r : R Value} {K : Value → Prop} (w : rW r K) : ∃ v, r = some v ∧ K v := by
  unfold rW at w; split at w
  · exact ⟨_, rfl, w⟩
  · exact w.elim
theorem rW_of {r : R Value} {K : Value → Prop} {v : Value} (e : r = some v) (k : K v) : rW r K := by unfold rW; rw [e]; exact k
theorem sumW_ok {k : IntKind} {n : Int} {K : Value → Prop} (w : sumW k n K) : K (.int k (k.wrap n)) := by
  rcases w with ⟨h, w⟩ | w
  · unfold inK at h; rw [h]; exact w
  · exact w
theorem binW_ok {op : BinOp} {t : TypeId} {ox oy : Operand} {x y : Value} {K : Value → Prop} (w : binW C op t ox oy x y K) : ∃ v, aBin C op t ox oy x y = some v ∧ K v := by
  unfold binW at w
  split at w
  · rename_i k a k' b
    split at w
    · rename_i hk
      have hk := of_decide_eq_true hk
      subst hk
      split at w
      · exact ⟨_, bin_add, sumW_ok w⟩
      · exact ⟨_, bin_sub, sumW_ok w⟩
      · exact ⟨_, bin_mul, sumW_ok w⟩
      · exact ⟨_, bin_eql, w⟩
      · exact ⟨_, bin_neq, w⟩
      · exact ⟨_, bin_lss, w⟩
      · exact ⟨_, bin_leq, w⟩
      · exact ⟨_, bin_gtr, w⟩
      · exact ⟨_, bin_geq, w⟩
      · exact rW_ok w
    · exact rW_ok w
  · split at w
    · exact ⟨_, bin_sadd w.1, w.2⟩
    · exact ⟨_, bin_seql, w⟩
    · exact ⟨_, bin_sneq, w⟩
    · exact rW_ok w
  · exact rW_ok w
theorem isStr_ok {t : TypeId} (h : isStr C t = true) : ∃ ti, tinfo C t = some ti ∧ ti.desc = .string := by
  unfold isStr at h
  split at h
  · rename_i ti hti
    split at h
    · rename_i hd; exact ⟨ti, hti, hd⟩
    · cases h
  · cases h
theorem indexW_ok {t : TypeId} {x i : Value} {K : Value → Prop} (w : indexW C t x i K) : ∃ v, aIndex C t x i = some v ∧ K v := by
  unfold indexW at w
  split at w
  · rename_i s k n
    split at w
    · rename_i ht
      obtain ⟨ti, h1, h2⟩ := isStr_ok ht
      obtain ⟨⟨h3, h4⟩, w⟩ := w
      refine ⟨_, ?_, w⟩
      obtain ⟨m, rfl⟩ : ∃ m : Nat, n = m := ⟨n.toNat, by omega⟩
      have hm : m < (lst s).length := by omega
      have hg : s.data.toList[m]? = some ((lst s).getD m 0) := by
        show (lst s)[m]? = _
        rw [List.getElem?_eq_getElem hm]
        congr 1
        simp [List.getD_eq_getElem?_getD, List.getElem?_eq_getElem hm]
      simp only [aIndex, bnd_some, intOf, ok_some]
      refine ⟨_, rfl, ti, h1, ?_⟩
      rw [h2]
      show bnd (getO (s.data.toList[m]?) "index") _ = _
      simp only [getO_eq, bnd_some, hg, ok_some]
      exact ⟨_, rfl, rfl⟩
    · exact w.elim
  · exact rW_ok w
theorem loW_ok {x : Option Value} {d : Int} {K : Int → Prop} (w : loW x d K) : ∃ n, K n ∧ ((∃ k, x = some (.int k n)) ∨ (x = none ∧ n = d)) := by
  unfold loW at w
  split at w
  · exact ⟨_, w, .inl ⟨_, rfl⟩⟩
  · exact ⟨_, w, .inr ⟨rfl, rfl⟩⟩
  · exact w.elim
theorem boundW {x : Option Value} {n : Int} {d y : Nat} (h : (∃ k, x = some (.int k n)) ∨ (x = none ∧ n = d)) (h0 : 0 ≤ n) (hy : n ≤ y) : boundO x d y = some n.toNat := by
  rcases h with ⟨k, rfl⟩ | ⟨rfl, rfl⟩
  · obtain ⟨m, rfl⟩ : ∃ m : Nat, n = m := ⟨n.toNat, by omega⟩
    simp only [boundO, bound, bnd_some, intOf, ok_some]
    refine ⟨_, rfl, ?_⟩
    show need (Nat.ble m y) _ _ = _
    simp only [need_some, ok_some]
    exact ⟨Nat.ble_eq_true_of_le (by omega), by simp⟩
  · simp [boundO]
theorem extract_lst (s : ByteArray) (a b : Nat) : s.extract a b = ⟨⟨((lst s).drop a).take (b - a)⟩⟩ := by
  apply ByteArray.ext
  apply Array.ext'
  unfold lst
  simp [Array.toList_extract, List.extract_eq_take_drop]
theorem sliceW_ok {t : TypeId} {x : Value} {lo hi mx : Option Value} {K : Value → Prop} (w : sliceW C t x lo hi mx K) : ∃ v, aSlice C t x lo hi mx = some v ∧ K v := by
  unfold sliceW at w
  split at w
  · rename_i s
    split at w
    · rename_i ht
      obtain ⟨ti, h1, h2⟩ := isStr_ok ht
      obtain ⟨l, w, hl⟩ := loW_ok w
      obtain ⟨h, w, hh⟩ := loW_ok w
      obtain ⟨⟨g1, g2, g3⟩, w⟩ := w
      refine ⟨_, ?_, w⟩
      simp only [aSlice, bnd_some]
      refine ⟨ti, h1, ?_⟩
      rw [h2]
      have hs : s.size = (lst s).length := by unfold lst; simp
      show need (Option.isNone (none : Option Value)) "slice3 of a string" (bnd (boundO hi s.size s.size) fun h => bnd (boundO lo 0 h) fun l => ok (Value.string (s.extract l h))) = _
      simp only [need_some, bnd_some, ok_some]
      refine ⟨rfl, h.toNat, boundW (by rw [hs]; exact hh) (by omega) (by rw [hs]; exact g3), l.toNat, boundW (d := 0) (by simpa using hl) g1 (by omega), ?_⟩
      rw [extract_lst]
    · exact w.elim
  · exact rW_ok w

theorem nextW_ok {v : Value} {isStr : Bool} {h : H} {K : Value → H → Prop} (w : nextW v isStr h K) : ∃ n v1 h', aNext v isStr h = some n ∧ AnsS P C n v1 h' ∧ K v1 h' := by
  unfold nextW at w
  split at w
  · rename_i r
    split at w
    · rename_i s pos hb
      split at w
      · have hs : s.size = (lst s).length := by unfold lst; simp
        have e : aNext (.pointer (some ⟨r, 0, none⟩)) true h = match Nat.blt pos s.size with
            | true => ok (.val (.tuple #[.bool true, .int .i64 pos, .int .i32 (Utf8.decode s pos).1]) (put h r (.iter s (pos + (Utf8.decode s pos).2)) r))
            | false => ok (.val (.tuple #[.bool false]) h) := by
          simp only [aNext, hb]
          cases Nat.blt pos s.size <;> rfl
        rw [e]
        by_cases hlt : pos < (lst s).length
        · have hb2 : Nat.blt pos s.size = true := Nat.ble_eq_true_of_le (by rw [hs]; exact hlt)
          rw [hb2]
          exact ⟨_, _, _, rfl, .inl rfl, w.1 hlt⟩
        · have hb2 : Nat.blt pos s.size = false := by
            cases hh : Nat.blt pos s.size with
            | false => rfl
            | true => exact absurd (Nat.le_of_ble_eq_true hh) (by rw [hs]; exact hlt)
          rw [hb2]
          exact ⟨_, _, _, rfl, .inl rfl, w.2 (Nat.le_of_not_lt hlt)⟩
      · exact w.elim
    · exact nxW_ok w
  · exact w.elim
theorem opW_ok {o : Op} {tm : T Value} {h : H} {K : Value → H → Prop} (w : opW P C o tm h K) : ∃ n v h', aOp o C tm h = some n ∧ AnsS P C n v h' ∧ K v h' := by
  unfold opW at w
  split at w
  · rename_i c a b
    split at w
    · rename_i t ht
      cases t with
      | true =>
        obtain ⟨v, h1, h2⟩ := valW_ok (w.1 rfl)
        refine ⟨.val v h, v, h, ?_, .inl rfl, h2⟩
        simp only [aOp, opPick, bnd_some]
        exact ⟨_, ht, true, rfl, by simp only [bnd_some]; exact ⟨v, h1, rfl⟩⟩
      | false =>
        obtain ⟨v, h1, h2⟩ := valW_ok (w.2 rfl)
        refine ⟨.val v h, v, h, ?_, .inl rfl, h2⟩
        simp only [aOp, opPick, bnd_some]
        exact ⟨_, ht, false, rfl, by simp only [bnd_some]; exact ⟨v, h1, rfl⟩⟩
    · exact w.elim
  · rename_i op t x y tt
    split at w
    · rename_i a b ha hb
      obtain ⟨v, h1, h2⟩ := binW_ok w
      refine ⟨.val v h, v, h, ?_, .inl rfl, h2⟩
      simp only [aOp, opBin, bnd_some]
      exact ⟨a, ha, b, hb, v, h1, rfl⟩
    · exact w.elim
  · rename_i t x i
    split at w
    · rename_i a b ha hb
      obtain ⟨v, h1, h2⟩ := indexW_ok w
      refine ⟨.val v h, v, h, ?_, .inl rfl, h2⟩
      simp only [aOp, opIndex, bnd_some]
      exact ⟨a, ha, b, hb, v, h1, rfl⟩
    · exact w.elim
  · rename_i t x lo hi mx
    split at w
    · rename_i x' lo' hi' mx' h1 h2 h3 h4
      obtain ⟨v, g1, g2⟩ := sliceW_ok w
      refine ⟨.val v h, v, h, ?_, .inl rfl, g2⟩
      simp only [aOp, opSlice, bnd_some]
      exact ⟨x', h1, lo', h2, hi', h3, mx', h4, v, g1, rfl⟩
    · exact w.elim
  · rename_i it isStr
    split at w
    · rename_i v hv
      obtain ⟨n, v1, h', g1, g2, g3⟩ := nextW_ok (P := P) (C := C) w
      refine ⟨n, v1, h', ?_, g2, g3⟩
      simp only [aOp, opNext, bnd_some]
      exact ⟨v, hv, g1⟩
    · exact w.elim
  · rename_i c
    split at w
    · rename_i f hf
      split at w
      · rename_i args g first captured h1 h2
        obtain ⟨v, h', g1, g2⟩ := w
        refine ⟨.call g (first.toList ++ (args ++ captured.toList)) h, v, h', ?_, .inr (.inl ⟨_, _, _, rfl, g1⟩), g2⟩
        simp only [aOp, opCall, bnd_some]
        refine ⟨args, h1, ?_⟩
        simp only [hf, bnd_some]
        exact ⟨_, h2, rfl⟩
      · rename_i args l first _ h1 h2
        obtain ⟨v, h', g1, g2⟩ := w
        refine ⟨.yield l (first.toList ++ args) h, v, h', ?_, .inr (.inr ⟨_, _, _, rfl, g1⟩), g2⟩
        simp only [aOp, opCall, bnd_some]
        refine ⟨args, h1, ?_⟩
        simp only [hf, bnd_some]
        exact ⟨_, h2, rfl⟩
      · exact w.elim
    · exact nxW_ok w
  · exact nxW_ok w
end
end Go.Ai
namespace Go.Ai
theorem T.set_self {α : Type} : ∀ (t : T α) (k : Nat), t.set k (t.get k) = t
  | .e, k => by simp
  | .n v l r, 0 => by simp
  | .n v l r, k + 1 => by
    rw [T.set_succ, T.get_succ]
    by_cases hk : k % 2 = 0
    · rw [if_pos hk, if_pos hk, T.set_self l]
    · rw [if_neg hk, if_neg hk, T.set_self r]
theorem T.set_same {α : Type} {t : T α} {k : Nat} {x : Option α} (h : t.get k = x) : t.set k x = t := by rw [← h]; exact T.set_self t k
section
variable {P : Program} {C : Ctx} {h0 : H}

noncomputable def guardW (all : List Oper) (o : Oper) (tm : T Value) (run skip : T Value → Prop) : Prop := match o.guard with
  | none => run tm
  | some (j, want) => match all[j]? with
    | some g => match g.dst with
      | some d => match tm.get d with
        | some (.bool t) => (t = want → run (tm.set d (some (.bool want)))) ∧ (t = !want → skip (tm.set d (some (.bool (!want)))))
        | some (.tuple _) => skip tm
        | _ => False
      | none => False
    | none => False
theorem guardW_ok {all : List Oper} {o : Oper} {tm : T Value} {run skip : T Value → Prop} (w : guardW all o tm run skip) : (wantedA all o tm = some true ∧ run tm) ∨ (wantedA all o tm = some false ∧ skip tm) := by
  unfold guardW at w
  unfold wantedA
  split at w
  · rename_i hg; rw [hg]; exact .inl ⟨rfl, w⟩
  · rename_i j want hg
    rw [hg]
    split at w
    · rename_i g hj
      split at w
      · rename_i d hd
        split at w
        · rename_i t ht
          have e : (bnd (getO (all[j]?) "guard") fun g => bnd (getO g.dst "guard") fun d => bnd (getO (tm.get d) "guard") fun v => match v with
              | .bool b => ok (b == want)
              | _ => ok false) = some (t == want) := by
            simp only [getO_eq, bnd_some, hj]
            refine ⟨g, rfl, d, hd, _, ht, rfl⟩
          by_cases htw : t = want
          · refine .inl ⟨?_, ?_⟩
            · show (bnd (getO (all[j]?) "guard") fun g => bnd (getO g.dst "guard") fun d => bnd (getO (tm.get d) "guard") fun v => match v with
                | .bool b => ok (b == want)
                | _ => ok false) = _
              rw [e, htw]; simp
            · have := w.1 htw
              rwa [T.set_same (by rw [ht, htw])] at this
          · have htw' : t = !want := by cases t <;> cases want <;> simp_all
            refine .inr ⟨?_, ?_⟩
            · show (bnd (getO (all[j]?) "guard") fun g => bnd (getO g.dst "guard") fun d => bnd (getO (tm.get d) "guard") fun v => match v with
                | .bool b => ok (b == want)
                | _ => ok false) = _
              rw [e, htw']; cases want <;> rfl
            · have := w.2 htw'
              rwa [T.set_same (by rw [ht, htw'])] at this
        · rename_i l ht
          refine .inr ⟨?_, w⟩
          show (bnd (getO (all[j]?) "guard") fun g => bnd (getO g.dst "guard") fun d => bnd (getO (tm.get d) "guard") fun v => match v with
            | .bool b => ok (b == want)
            | _ => ok false) = _
          simp only [getO_eq, bnd_some, hj]
          exact ⟨g, rfl, d, hd, _, ht, rfl⟩
        · exact w.elim
      · exact w.elim
    · exact w.elim

noncomputable def opsW (P : Program) (C : Ctx) (all : List Oper) (K : T Value → H → Prop) (l : List Oper) : T Value → H → Prop :=
  List.rec (motive := fun _ => T Value → H → Prop) K (fun o _ ih tm h => guardW all o tm (fun tm => opW P C o.op tm h fun v h' => ih (putT tm o.dst v) h') (fun tm => ih (putT tm o.dst undef) h)) l

theorem opsW_ok (HC : CtxT P C) {all : List Oper} {K : T Value → H → Prop} : ∀ (l : List Oper) (tm : T Value) (h : H), opsW P C all K l tm h → ∃ tm' h', K tm' h' ∧ ∀ rd df up, TOk P C (.ops rd all l ⟨tm, df, up, h⟩) (.ex .normal ⟨tm', df, up, h'⟩) := by
  intro l
  induction l with
  | nil =>
    intro tm h w
    refine ⟨tm, h, w, fun rd df up => ?_⟩
    intro ρ a w b k cs0 cs ops i hall hl hlen hdst hs hb hg
    exact ⟨.normal, _, rfl, ρ, a, w, cs, hs, rfl, hb, Ext.refl _ _ _, .one stepR_region_end⟩
  | cons o r ih =>
    intro tm h w
    have w : guardW all o tm (fun tm => opW P C o.op tm h fun v h' => opsW P C all K r (putT tm o.dst v) h') (fun tm => opsW P C all K r (putT tm o.dst undef) h) := w
    rcases guardW_ok w with ⟨hw, w⟩ | ⟨hw, w⟩
    · obtain ⟨n, v, h1, ha, hn, w⟩ := opW_ok w
      obtain ⟨tm', h', hk, hrest⟩ := ih _ _ w
      refine ⟨tm', h', hk, fun rd df up => ?_⟩
      intro ρ a w b k cs0 cs ops i hall hl hlen hdst hs hb hg
      have hi : ops[i]? = some o := by
        have : all[i]? = some o := by
          have := congrArg (·[0]?) hl
          simpa using this.symm
        rw [hall] at this; simpa using this
      have hmem : o ∈ all := by rw [hall]; exact List.mem_of_getElem? (by simpa using hi : ops.toList[i]? = some o)
      have hr : r = all.drop (i + 1) := by
        have := congrArg List.tail hl
        simpa [List.tail_drop] using this
      simp only [List.length_cons] at hlen
      have hrange : List.range' i (o :: r).length = i :: List.range' (i + 1) r.length := by simp [List.range'_succ]
      rw [hrange]
      rw [hall] at hw
      have hwant := hs.tm.wanted hw
      obtain ⟨rec, hans, hcall, hround⟩ := hn.ans
      obtain ⟨ρ1, v', w1, q1, q2, q3, q4⟩ := one_put (P := P) (b := b) (k := k) (cs := cs) (rest := List.range' (i + 1) r.length) HC hcall hround ha hans hi hwant hs.tm hs.hp hg
      have hd := hdst o hmem
      obtain ⟨e, s', he, hx⟩ := hrest rd df up ρ1 (a.put o.dst v') w1 b k cs0 cs ops (i + 1) hall hr (by omega) (by rw [Act.put_size']; exact hdst)
        ⟨(hs.tm.mono q3.le).put q1 (fun t ht => by simp only [dstOk, ht] at hd; exact Nat.le_of_ble_eq_true hd), by rw [Act.put_df]; exact hs.df.mono q3.le, q2⟩ (hb.mono q3.le) (hg.mono q3.le)
      rw [Act.put_size'] at hx
      exact ⟨e, s', he, (hx.head q4).andThen q3⟩
    · obtain ⟨tm', h', hk, hrest⟩ := ih _ _ w
      refine ⟨tm', h', hk, fun rd df up => ?_⟩
      intro ρ a w b k cs0 cs ops i hall hl hlen hdst hs hb hg
      have hi : ops[i]? = some o := by
        have : all[i]? = some o := by
          have := congrArg (·[0]?) hl
          simpa using this.symm
        rw [hall] at this; simpa using this
      have hmem : o ∈ all := by rw [hall]; exact List.mem_of_getElem? (by simpa using hi : ops.toList[i]? = some o)
      have hr : r = all.drop (i + 1) := by
        have := congrArg List.tail hl
        simpa [List.tail_drop] using this
      simp only [List.length_cons] at hlen
      have hrange : List.range' i (o :: r).length = i :: List.range' (i + 1) r.length := by simp [List.range'_succ]
      rw [hrange]
      rw [hall] at hw
      have hwant := hs.tm.wanted hw
      have hstep : step P (lone (b.atR a (.inRegion ops (i :: List.range' (i + 1) r.length) :: k)) cs w) = .next (lone (b.atR (a.put o.dst undef) (.inRegion ops (List.range' (i + 1) r.length) :: k)) cs w) := by
        have := stepR_op_skip (P := P) (b := b) (a := a) (k := k) (cs := cs) (w := w) (ops := ops) (i := i) (rest := List.range' (i + 1) r.length) (by simp [hi, hwant])
        rw [hi] at this; exact this
      have hd := hdst o hmem
      obtain ⟨e, s', he, hx⟩ := hrest rd df up ρ (a.put o.dst undef) w b k cs0 cs ops (i + 1) hall hr (by omega) (by rw [Act.put_size']; exact hdst)
        ⟨hs.tm.put (.tuple .nil) (fun t ht => by simp only [dstOk, ht] at hd; exact Nat.le_of_ble_eq_true hd), by rw [Act.put_df]; exact hs.df, hs.hp⟩ hb hg
      rw [Act.put_size'] at hx
      exact ⟨e, s', he, hx.head (.one hstep)⟩

/-- as 'lookOk', but that each entry is opened first -/
noncomputable def pairW (rx : Nat) (xk : Nat) (xf : Option (List Nat)) (y : Ent) : Bool := match y with
  | ⟨yi, yk, yf⟩ => match rx.testBit yi with
    | true => true
    | false => match xk, yk with
      | 2, 0 => apart xf yf
      | 0, 2 => apart xf yf
      | 2, _ => false
      | _, 2 => false
      | _, _ => true
noncomputable def lookW (reach : List Nat) : List Ent → Bool
  | [] => true
  | x :: r => match x with
    | ⟨xi, xk, xf⟩ => (r.all fun y => pairW (reach.getD xi 0) xk xf y) && lookW reach r
theorem lookW_eq (reach : List Nat) : ∀ es, lookW reach es = lookOk reach es
  | [] => rfl
  | x :: r => by
    obtain ⟨xi, xk, xf⟩ := x
    simp only [lookW, lookOk, lookW_eq reach r]
    rfl
/-- a lower bound, worked out at once -/
noncomputable def lowK (n : Nat) (K : Nat → Prop) : Prop := Nat.rec (motive := fun _ => Prop) (K 0) (fun k _ => K (k + 1)) n
theorem lowK_eq (n : Nat) (K : Nat → Prop) : lowK n K = K n := by cases n <;> rfl
noncomputable def drawW (P : Program) (C : Ctx) (all : List Oper) (K : T Value → H → Prop) (l : List Oper) : Nat → T Value → H → List Nat → List Ent → Prop :=
  List.rec (motive := fun _ => Nat → T Value → H → List Nat → List Ent → Prop)
    (fun _ tm h reach es => match lookW reach es with | true => K tm h | false => False)
    (fun o _ ih i tm h reach es => match edgesOk i o with
      | false => False
      | true => guardW all o tm
        (fun tm => opW P C o.op tm (h.low0 bigLow) fun v h1 => match entOf i o.op tm es h1.low h.ctr with
          | some es' => lowK (Nat.min h.low h1.low) fun l => ih (i + 1) (putT tm o.dst v) (h1.low0 l) (reach ++ [reachOf reach o]) es'
          | none => False)
        (fun tm => ih (i + 1) (putT tm o.dst undef) h (reach ++ [reachOf reach o]) es)) l
theorem drawW_nil {P : Program} {C : Ctx} {all : List Oper} {K : T Value → H → Prop} {i : Nat} {tm : T Value} {h : H} {reach : List Nat} {es : List Ent} : drawW P C all K [] i tm h reach es = (match lookW reach es with | true => K tm h | false => False) := rfl
theorem drawW_cons {P : Program} {C : Ctx} {all : List Oper} {K : T Value → H → Prop} {o : Oper} {r : List Oper} {i : Nat} {tm : T Value} {h : H} {reach : List Nat} {es : List Ent} : drawW P C all K (o :: r) i tm h reach es = (match edgesOk i o with
      | false => False
      | true => guardW all o tm
        (fun tm => opW P C o.op tm (h.low0 bigLow) fun v h1 => match entOf i o.op tm es h1.low h.ctr with
          | some es' => lowK (Nat.min h.low h1.low) fun l => drawW P C all K r (i + 1) (putT tm o.dst v) (h1.low0 l) (reach ++ [reachOf reach o]) es'
          | none => False)
        (fun tm => drawW P C all K r (i + 1) (putT tm o.dst undef) h (reach ++ [reachOf reach o]) es)) := rfl
theorem drawW_ok {all : List Oper} {K : T Value → H → Prop} : ∀ (l : List Oper) (i : Nat) (tm : T Value) (h : H) (reach : List Nat) (es : List Ent), drawW P C all K l i tm h reach es →
    ∃ tm' h', K tm' h' ∧ ∀ rd df up, Trace P C rd all l i ⟨tm, df, up, h⟩ reach es ⟨tm', df, up, h'⟩ := by
  intro l
  induction l with
  | nil =>
    intro i tm h reach es w
    rw [drawW_nil] at w
    split at w
    · rename_i hl; rw [lookW_eq] at hl; exact ⟨tm, h, w, fun rd df up => .nil hl⟩
    · exact w.elim
  | cons o r ih =>
    intro i tm h reach es w
    rw [drawW_cons] at w
    split at w
    · exact w.elim
    · rename_i hed
      rcases guardW_ok w with ⟨hw, w⟩ | ⟨hw, w⟩
      · obtain ⟨n, v, h1, ha, hn, w⟩ := opW_ok w
        split at w
        · rename_i es' hes
          rw [lowK_eq] at w
          obtain ⟨tm', h', hk, hrest⟩ := ih _ _ _ _ _ w
          refine ⟨tm', h', hk, fun rd df up => ?_⟩
          obtain ⟨rec, hans, hcall, hround⟩ := hn.ans
          exact .op (s1 := ⟨putT tm o.dst v, df, up, h1⟩) rec hed hw hcall hround (ans_one (s := ⟨tm, df, up, h.low0 bigLow⟩) ha hans) hes (hrest rd df up)
        · exact w.elim
      · obtain ⟨tm', h', hk, hrest⟩ := ih _ _ _ _ _ w
        exact ⟨tm', h', hk, fun rd df up => .skip hed hw (hrest rd df up)⟩

theorem opsRegion_ok {rd : Option Nat} {id : Nat} {ops : Array Oper} {s : St} {out : Out} (ho : TOk P C (.ops rd ops.toList ops.toList s) out) : TOk P C (.ex rd (.region id ops false) s) out := by
  intro ρ a w b k cs0 cs hc hs hb hg
  simp only [codeOk, Bool.and_eq_true, List.all_eq_true] at hc
  obtain ⟨e, s', rfl, hx⟩ := ho ρ a w b k cs0 cs ops 0 rfl (by simp) (by simp) hc.1 hs hb hg
  refine ⟨e, s', rfl, ?_⟩
  have hr : List.range' 0 ops.toList.length = List.range ops.size := by rw [List.range_eq_range']; simp
  rw [hr] at hx
  exact hx.head (.one stepR_region)

/-! ### code -/
noncomputable def condW (c : Operand) (s : St) (y n : St → Prop) : Prop := match c with
  | .tmp d => match s.tm.get d with
    | some (.bool t) => (t = true → y ⟨s.tm.set d (some (.bool true)), s.df, s.up, s.hp⟩) ∧ (t = false → n ⟨s.tm.set d (some (.bool false)), s.df, s.up, s.hp⟩)
    | _ => False
  | _ => False
noncomputable def wpC (P : Program) (C : Ctx) (h0 : H) (rd : Option Nat) (c : Code) : (Ex → St → Prop) → St → Prop :=
  Code.rec (motive := fun _ => (Ex → St → Prop) → St → Prop)
    (fun Q s => Q .normal s)
    (fun _ ops draw Q s => match draw with
      | false => opsW P C ops.toList (fun tm h => Q .normal ⟨tm, s.df, s.up, h⟩) ops.toList s.tm s.hp
      | true => drawW P C ops.toList (fun tm h => Q .normal ⟨tm, s.df, s.up, h⟩) ops.toList 0 s.tm s.hp [] [])
    (fun _ _ iha ihb Q s => iha (fun e s1 => match e with | .normal => ihb Q s1 | e => Q e s1) s)
    (fun c _ _ iha ihb Q s => condW c s (iha Q) (ihb Q))
    (fun id _ ih Q s => ih (fun e s1 => match e with | .exit i => (match Nat.beq i id with | true => Q .normal s1 | false => Q (.exit i) s1) | e => Q e s1) s)
    (fun b _ Q s => TB P C h0 rd (.loop b) s Q)
    (fun f ps a b _ _ Q s => TB P C h0 rd (.rangeFunc f ps a b) s Q)
    (fun id Q s => Q (.exit id) s)
    (fun b _ Q s => TB P C h0 rd (.scope b) s Q)
    (fun _ Q s => Q .normal s)
    (fun l Q s => TB P C h0 rd (.goto l) s Q)
    (fun Q s => Q .ret s)
    (fun w Q s => TB P C h0 rd (.refuse w) s Q) c

theorem wpC_ok (HC : CtxT P C) (hng : C.ng ≤ bigLow) {rd : Option Nat} : ∀ (c : Code) (Q : Ex → St → Prop) (s : St), wpC P C h0 rd c Q s → TB P C h0 rd c s Q := by
  intro c
  induction c with
  | skip => intro Q s w; exact TB.skip (fun b a k cs w => stepR_skip) w
  | label l => intro Q s w; exact TB.skip (fun b a k cs w => stepR_label) w
  | region id ops draw =>
    intro Q s w
    cases draw with
    | false =>
      obtain ⟨tm', h', q, ht⟩ := opsW_ok (P := P) HC ops.toList s.tm s.hp (K := fun tm h => Q .normal ⟨tm, s.df, s.up, h⟩) w
      exact TB.of (opsRegion_ok (ht rd s.df s.up)) q
    | true =>
      obtain ⟨tm', h', q, ht⟩ := drawW_ok (P := P) (C := C) (all := ops.toList) (K := fun tm h => Q .normal ⟨tm, s.df, s.up, h⟩) ops.toList 0 s.tm s.hp [] [] w
      exact TB.of (region_ok HC hng (ht rd s.df s.up)) q
  | seq a b iha ihb =>
    intro Q s w
    refine TB.seq ((iha _ s w).mono fun e s1 q => ?_)
    cases e with
    | normal => exact ihb Q s1 q
    | exit i => exact q
    | ret => exact q
    | panic ch => exact q
  | cond c a b iha ihb =>
    intro Q s w
    have w : condW c s (wpC P C h0 rd a Q) (wpC P C h0 rd b Q) := w
    unfold condW at w
    split at w
    · rename_i d
      split at w
      · rename_i t ht
        refine TB.cond (t := t) (by simp only [ev, getO_eq]; exact ht) (fun e => ?_) (fun e => ?_)
        · have := iha Q _ (w.1 e)
          rw [T.set_same (by rw [ht, e])] at this
          exact this
        · have := ihb Q _ (w.2 e)
          rw [T.set_same (by rw [ht, e])] at this
          exact this
      · exact w.elim
    · exact w.elim
  | block id b ihb => intro Q s w; exact TB.block (ihb _ s w)
  | exit id => intro Q s w; exact TB.of exit_ok w
  | ret => intro Q s w; exact TB.of ret_ok w
  | loop b _ => intro Q s w; exact w
  | rangeFunc f ps a b _ _ => intro Q s w; exact w
  | scope b _ => intro Q s w; exact w
  | goto l => intro Q s w; exact w
  | refuse x => intro Q s w; exact w
end
end Go.Ai
namespace Go.Ai
theorem HR.keepw {ρ : Mp} {h : H} {w w1 : World} (r : HR ρ h w) (hs : w.heap.size ≤ w1.heap.size) (hk : ∀ k, k < w.heap.size → w1.heap[k]? = w.heap[k]?) : HR ρ h w1 :=
  ⟨fun b p hb => ⟨(r.dom b p hb).1, Nat.lt_of_lt_of_le (r.dom b p hb).2 hs⟩, r.big, fun b x p h1 h2 => (r.con b x p h1 h2).mono (Mp.le_refl _) (hk _ (r.dom b p h2).2), r.inj, r.fam, r.own⟩
theorem Ext.keepw {ρ : Mp} {h : H} {w w1 : World} (ho : w1.os = w.os) (ht : w1.tape = w.tape) (hu : w1.output = w.output) (hs : w.heap.size ≤ w1.heap.size) (hk : ∀ k, k < w.heap.size → w1.heap[k]? = w.heap[k]?) : Ext ρ h w ρ h w1 :=
  ⟨Mp.le_refl _, Nat.le_refl _, Nat.le_refl _, ho, ht, hu, hs, fun _ _ h => .inl h, fun k hk' _ => hk k hk', fun b x p h1 h2 _ => ⟨b, x, p, h1, h2, rfl, rfl⟩, fun _ _ _ => rfl, fun _ _ _ h1 h2 => absurd h2 (Nat.not_lt.2 h1)⟩
theorem flats_VRk {ρ : Mp} {k : Nat} : ∀ {args : List Value}, args.all (flat k) = true → VRs ρ args args
  | [], _ => .nil
  | x :: xs, h => by simp at h; exact .cons (flat_VR _ _ _ h.1) (flats_VRk (by simpa using h.2))
theorem flats_eq' {ρ : Mp} {k : Nat} : ∀ {args args' : List Value}, args.all (flat k) = true → VRs ρ args args' → args = args'
  | [], _, _, h => by cases h; rfl
  | x :: xs, _, hf, .cons h1 h2 => by
    simp at hf
    rw [VR_flat_eq k _ hf.1 h1, flats_eq' (by simpa using hf.2) h2]
section
variable {P : Program} {C : Ctx} {h0 : H}

/-- the way out of a function: what it returns, and memory -/
noncomputable def recL (C : Ctx) : Rec := fun t => match t with | .leave res tm ds m h => goLeave (fun _ => none) C res tm m h ds | _ => none
noncomputable def finW (C : Ctx) (res : List ResultVar) (Q : Value → H → Prop) (s : St) : Prop := match goLeave (recL C) C res s.tm .returning s.hp s.df with
  | some (.ret v h) => Q v h
  | _ => False
noncomputable def RetW (C : Ctx) (res : List ResultVar) (Q : Value → H → Prop) : Ex → St → Prop
  | .normal, s => finW C res Q s
  | .ret, s => finW C res Q s
  | _, _ => False
theorem recL_ok (HF : CtxF P C) : ∀ t out, recL C t = some out → TOk P C t out := by
  intro t out h
  cases t with
  | leave res tm ds m hh => exact leave_ok HF (rec := fun _ => none) (fun _ _ h => (nomatch h)) h
  | _ => cases h
theorem finW_ok (HF : CtxF P C) {res : List ResultVar} {Q : Value → H → Prop} {s : St} (w : finW C res Q s) : ∃ v h, Q v h ∧ LeaveOk P C res s.tm s.df .returning s.hp (.ret v h) := by
  unfold finW at w
  split at w
  · rename_i v h hg
    exact ⟨v, h, w, leave_ok HF (recL_ok HF) hg⟩
  · exact w.elim

/-- a function's code, run from memory h: it returns, and what is said holds -/
theorem fn_run (HF : CtxF P C) {g n : Nat} {res : List ResultVar} {c : Code} (hft : C.ft.get g = some (.body n res c)) {args : List Value} {Q : Value → H → Prop} (x : TB P C h0 none c ⟨initT n args, [], none, h0⟩ (RetW C res Q))
    {ρ : Mp} {w : World} {args' : List Value} (cs : List Frame) (hv : VRs ρ args args') (hh : HR ρ h0 w) (hg : GlR C.ng ρ) :
    ∃ v h' ρ' v' w', Q v h' ∧ VR ρ' v v' ∧ HR ρ' h' w' ∧ Ext ρ h0 w ρ' h' w' ∧ RetOk P g ⟨args'⟩ w cs v' w' := by
  have hfe := HF.ft g _ hft
  cases hfe with
  | other hb _ => exact absurd rfl (hb _ _ _)
  | @body _ _ _ fn hf hname hb hn hr hc =>
    let b : Frame := { (default : Frame) with fn := g, kind := .normal, roundOf := none }
    let a : Act := { tmps := (⟨args'⟩ : Array Value) ++ Array.replicate (fn.ntmps - (⟨args'⟩ : Array Value).size) undef, defers := [] }
    have hent : Frame.enter P g ⟨args'⟩ .normal = b.atR a [.code c] := enter_eq (P := P) hf hb ⟨args'⟩ .normal b rfl rfl rfl
    have hsize : n ≤ a.tmps.size := by simp [a, hn]; omega
    have hca : codeOk a.tmps.size c = true := codeOk_mono hsize hc
    have hst : StR ρ ⟨initT n args, [], none, h0⟩ a w := ⟨initT_ok hv _, .nil, hh⟩
    have hbo : Bok ρ none none b cs cs := ⟨.none, fun _ => ⟨rfl, rfl⟩, fun m hm => by cases hm⟩
    have hen := run_callFunc_body (P := P) hf hname hb ⟨args'⟩ w
    obtain ⟨e, s1, q, hx⟩ := x ρ w ρ a w b [] cs cs hca hh hg (Ext.refl _ _ _) hst hbo
    rw [← hent] at hx
    obtain ⟨ρ1, a1, w1, cs1, g1, g2, g3, g4, g5⟩ := hx
    have hup : s1.up = none := by
      cases hu : s1.up with
      | none => rfl
      | some m => have := (g3.dfd m hu).1; cases this
    have hcs := (g3.nrm hup).2
    subst hcs
    have fin : ∀ fr : Frame, finW C res Q s1 → fr.mode = .returning → fr.tmps = a1.tmps → fr.defers = a1.defers → fr.kind = .normal → fr.fn = g → Steps P (lone (Frame.enter P g ⟨args'⟩ .normal) cs1 w) (lone fr cs1 w1) →
        ∃ v h' ρ' v' w', Q v h' ∧ VR ρ' v v' ∧ HR ρ' h' w' ∧ Ext ρ h0 w ρ' h' w' ∧ RetOk P g ⟨args'⟩ w cs1 v' w' := by
      intro fr hq f1 f2 f3 f4 f5 hs
      obtain ⟨v, h, hq, hl⟩ := finW_ok HF hq
      rcases hl ρ1 w1 fr cs1 fn (by rw [f2]; exact g1.tm) (by rw [f3]; exact g1.df) (by rw [f1]; exact .returning) (by simp) f4 (by rw [f5]; exact hf) hr g1.hp (hg.mono g4.le) with ⟨v2, h2, ρ2, v', w2, fr', e1, e2, e3, e4, e5, e6, e7⟩ | ⟨_, _, _, _, _, _, e1, _⟩
      · cases e1
        exact ⟨v, h, ρ2, v', w2, hq, e2, e3, g4.trans e4, .inr ⟨hen, fr', hs.trans e5, e6.trans f5, e7⟩⟩
      · cases e1
    cases e with
    | normal => exact fin { b.atR a1 [] with mode := .returning } q rfl rfl rfl rfl rfl (g5.trans (.one (stepR_end rfl)))
    | ret =>
      obtain ⟨k', q'⟩ := g5
      exact fin { b.atR a1 (.code .ret :: k') with mode := .returning } q rfl rfl rfl rfl rfl (q'.trans (.one (stepR_ret rfl)))
    | panic ch => exact q.elim
    | exit id => exact q.elim

/-- a function that leads from plain values to a plain value -/
theorem pure_call (HF : CtxF P C) (hng : C.ng = 0) {g n d k : Nat} {res : List ResultVar} {c : Code} (hft : C.ft.get g = some (.body n res c)) {args : List Value} {v : Value} (hargs : args.all (flat k) = true) (hfl : flat k v = true)
    (x : TB P C (h00 d) none c ⟨initT n args, [], none, h00 d⟩ (RetW C res fun v' _ => v' = v)) : ∀ h, CallOk P C g args h (.ret v h) := by
  intro h ρ w args' cs hv hh hg
  have := flats_eq' hargs hv
  subst this
  obtain ⟨v1, h1, ρ1, v', w', rfl, k2, k3, k4, k5⟩ := fn_run HF hft x cs (flats_VRk hargs) (HR.none d w) (fun g hg => by rw [hng] at hg; exact absurd hg (Nat.not_lt_zero _))
  have := VR_flat_eq k _ hfl k2
  subst this
  have hkeep : ∀ k, k < w.heap.size → w'.heap[k]? = w.heap[k]? := fun k hk => k4.keep k hk fun b x p _ hp => by cases hp
  exact .inl ⟨v1, h, ρ, v1, w', rfl, flat_VR _ _ _ hfl, hh.keepw k4.size hkeep, Ext.keepw k4.os k4.tape k4.output k4.size hkeep, k5⟩
theorem pure_wp (HF : CtxF P C) (hng : C.ng = 0) (d k : Nat) {g n : Nat} {res : List ResultVar} {c : Code} (hft : C.ft.get g = some (.body n res c)) {args : List Value} {v : Value} (hargs : args.all (flat k) = true) (hfl : flat k v = true)
    (w : wpC P C (h00 d) none c (RetW C res fun v' _ => v' = v) ⟨initT n args, [], none, h00 d⟩) : ∀ h, CallOk P C g args h (.ret v h) :=
  pure_call HF hng hft hargs hfl (wpC_ok HF.tt (by rw [hng]; exact Nat.zero_le _) _ _ _ w)

/-- some temporaries alone -/
noncomputable def tmOf (d : Nat) (l : List (Nat × Value)) : T Value :=
  List.rec (motive := fun _ => T Value) (T.mk d) (fun p _ ih => ih.set p.1 (some p.2)) l
theorem tmOf_nil (d : Nat) : tmOf d [] = T.mk d := rfl
theorem tmOf_cons (d i : Nat) (v : Value) (r : List (Nat × Value)) : tmOf d ((i, v) :: r) = (tmOf d r).set i (some v) := rfl
theorem tmOf_get {d : Nat} : ∀ {l : List (Nat × Value)} {i : Nat} {v : Value}, (tmOf d l).get i = some v → (i, v) ∈ l
  | [], i, v, h => by rw [show tmOf d [] = T.mk d from rfl, mk_get] at h; cases h
  | (j, u) :: r, i, v, h => by
    rcases T.get_set _ _ _ _ _ h with ⟨rfl, e⟩ | ⟨_, e⟩
    · cases e; simp
    · exact List.mem_cons_of_mem _ (tmOf_get e)
def Has (tm : T Value) : List (Nat × Value) → Prop
  | [] => True
  | (i, v) :: r => tm.get i = some v ∧ Has tm r
theorem Has.get {tm : T Value} : ∀ {l : List (Nat × Value)}, Has tm l → ∀ i v, (i, v) ∈ l → tm.get i = some v
  | [], _, _, _, h => by simp at h
  | (j, u) :: r, ⟨h1, h2⟩, i, v, h => by
    rcases List.mem_cons.1 h with h | h
    · cases h; exact h1
    · exact Has.get h2 i v h
/-- the temporaries that live alone -/
theorem weak_tm {rd : Option Nat} {d : Nat} {l : List (Nat × Value)} {s : St} (h : Has s.tm l) : Weak C h0 rd ⟨tmOf d l, s.df, s.up, s.hp⟩ s := by
  intro ρ0 w0 ρ a w b cs0 cs _ _ h3 h4 h5
  refine ⟨ρ, h3, ⟨fun i v hv => h4.tm i v (h.get i v (tmOf_get hv)), h4.df, h4.hp⟩, h5⟩
theorem weak_live {rd : Option Nat} {d : Nat} {l : List (Nat × Value)} {s : St} {hp : H} (h : Has s.tm l) (hd : s.df = []) (hu : s.up = none) (hh : s.hp = hp) : Weak C h0 rd ⟨tmOf d l, [], none, hp⟩ s := by
  have := weak_tm (C := C) (h0 := h0) (rd := rd) (d := d) h
  rw [hd, hu, hh] at this
  exact this
/-- .. and plain values alone, without any memory -/
theorem weak_flat {d e k : Nat} {l : List (Nat × Value)} {s : St} (h : Has s.tm l) (hf : (l.all fun p => flat k p.2) = true) (hd : s.df = []) (hu : s.up = none) : Weak C (h00 d) none ⟨tmOf e l, [], none, h00 d⟩ s := by
  intro ρ0 w0 ρ a w b cs0 cs h1 h2 h3 h4 h5
  have hkeep : ∀ k, k < w0.heap.size → w.heap[k]? = w0.heap[k]? := fun k hk => h3.keep k hk fun b x p hx _ => by rw [h00_get] at hx; cases hx
  refine ⟨ρ0, Ext.keepw h3.os h3.tape h3.output h3.size hkeep, ⟨fun i v hv => ?_, ?_, h1.keepw h3.size hkeep⟩, ?_⟩
  · have hm := tmOf_get hv
    have hfl : flat k v = true := by
      rw [List.all_eq_true] at hf; exact hf _ hm
    obtain ⟨v', k1, k2⟩ := h4.tm i v (h.get i v hm)
    rw [← VR_flat_eq k v hfl k2] at k1
    exact ⟨v, k1, flat_VR _ _ _ hfl⟩
  · have := h4.df
    rw [hd] at this
    revert this; generalize a.defers = l; intro hh; cases hh; exact .nil
  · have hro : b.roundOf = none := by have := h5.ro; revert this; generalize b.roundOf = x; intro h; cases h; rfl
    refine ⟨?_, fun _ => h5.nrm hu, fun m hm => (nomatch hm)⟩
    rw [hro]; exact .none
/-- a call by its contract -/
theorem CallW.of {g : Nat} {args : List Value} {h h' : H} {v : Value} {K : Value → H → Prop} (c : CallOk P C g args h (.ret v h')) (k : K v h') : CallW P C g args h K := ⟨v, h', c, k⟩
end
end Go.Ai
namespace Go.Ai
theorem tf {p : Prop} (h : true = false) : p := by cases h
theorem ft {p : Prop} (h : false = true) : p := by cases h
theorem inK_i64 {n : Int} (h : -9223372036854775808 ≤ n ∧ n < 9223372036854775808) : inK .i64 n := by
  unfold inK
  show (if (true && decide (n % 18446744073709551616 ≥ 9223372036854775808)) = true then n % 18446744073709551616 - 18446744073709551616 else n % 18446744073709551616) = n
  by_cases h0 : 0 ≤ n
  · have e : n % 18446744073709551616 = n := Int.emod_eq_of_lt h0 (by omega)
    rw [e, if_neg (by simp; omega)]
  · have e : n % 18446744073709551616 = n + 18446744073709551616 := by omega
    rw [e, if_pos (by simp; omega)]
    omega
theorem inK_u8 {n : Int} (h : 0 ≤ n ∧ n < 256) : inK .u8 n := by
  unfold inK
  show (if (false && decide (n % 256 ≥ 128)) = true then n % 256 - 256 else n % 256) = n
  rw [if_neg (by simp)]
  exact Int.emod_eq_of_lt h.1 h.2
theorem retI {k : IntKind} {a b : Int} (h : a = b) : Value.int k a = Value.int k b := by rw [h]
theorem retB {a b : Bool} (h : a = b) : Value.bool a = Value.bool b := by rw [h]
theorem retS {a b : List UInt8} (h : a = b) : str a = str b := by rw [h]
end Go.Ai
namespace Go.Ai
section
variable {P : Program} {C : Ctx} {h0 : H}
/-- a loop, by what holds at each round's head; memory stays as it is -/
theorem loopW (HC : CtxT P C) (hng : C.ng = 0) {rd : Option Nat} {c : Code} {Q : Ex → St → Prop} {X : Type} {hp : H} (canon : H → X → St) (x : X) {s : St} (hw : Weak C h0 rd (canon hp x) s) (m : X → Nat) (Pre : X → Prop) (hpre : Pre x)
    (hbody : ∀ x, Pre x → wpC P C h0 rd c (fun e s' => match e with | .normal => ∃ x', Pre x' ∧ Weak C h0 rd (canon hp x') s' ∧ m x' < m x | e => Q e s') (canon hp x)) : TB P C h0 rd (.loop c) s Q :=
  TB.loop (canon hp) m Pre (fun x hx => wpC_ok HC (by rw [hng]; exact Nat.zero_le _) _ _ _ (hbody x hx)) hpre hw
end
end Go.Ai
namespace Go.Ai
section
variable {P : Program} {C : Ctx}
/-- a function without a body, by its entry -/
theorem ext_call (HF : CtxF P C) {g : Nat} {fe : FE} (hft : C.ft.get g = some fe) (hb : ∀ n r c, fe ≠ .body n r c) {args : List Value} {h : H} {out : Out} (ho : goFE fe (fun _ => none) args h = some out) : CallOk P C g args h out := by
  cases HF.ft g fe hft with
  | body _ _ _ _ _ _ => exact absurd rfl (hb _ _ _)
  | other _ hoth => exact hoth _ _ _ _ ho
theorem indexByte_call (HF : CtxF P C) {g : Nat} (hft : C.ft.get g = some .indexByte) (l : List UInt8) (c : UInt8) (h : H) : CallOk P C g [str l, .int .u8 c.toNat] h (.ret (.int .i64 (Go.Lib.indexByte l c)) h) := by
  refine ext_call HF hft (by intro _ _ _ e; cases e) ?_
  have e := findIdx_eq (UInt8.ofNat (c.toNat : Int).toNat) l
  rw [Int.toNat_natCast, UInt8.ofNat_toNat] at e
  rw [← e]
  simp only [goFE, cIndexByte, Int.toNat_natCast, UInt8.ofNat_toNat, ok_some]
  rfl
theorem count_call (HF : CtxF P C) {g : Nat} (hft : C.ft.get g = some .count) (l : List UInt8) (c : UInt8) (h : H) : CallOk P C g [str l, .int .u8 c.toNat] h (.ret (.int .i64 (Go.Lib.countByte l c : Nat)) h) := by
  refine ext_call HF hft (by intro _ _ _ e; cases e) ?_
  have e := Go.Lib.count_foldl c l 0
  rw [Int.zero_add] at e
  rw [← e]
  simp only [goFE, cCount, Int.toNat_natCast, UInt8.ofNat_toNat, ok_some]
  rfl
end
end Go.Ai
namespace Go.Ai
section
variable {P : Program} {C : Ctx} {h0 : H}
noncomputable def endW (s : St) (df : List Deferred) (l : Nat) (h : H) (Q : Ex → St → Prop) : Prop := match h.bl.get l with
  | some (.loop st pe tm ps as bd dfs) => match st with
    | .busy => False
    | _ => match pe with
      | none => Q .normal ⟨s.tm, df, s.up, put h l (.loop .exhausted none tm ps as bd dfs) l⟩
      | some (.exit i) => Q (.exit i) ⟨s.tm, df, s.up, put h l (.loop .exhausted (some (.exit i)) tm ps as bd dfs) l⟩
      | some .ret => Q .ret ⟨s.tm, df, s.up, put h l (.loop .exhausted (some .ret) tm ps as bd dfs) l⟩
      | _ => False
  | _ => False
/-- memory with a loop over a function begun -/
noncomputable def hpRange (s : St) (ps : List Nat) (assign body : Code) : H := ⟨(s.hp.bl.set s.hp.ctr (some (.defd true))).set (nrmN (s.hp.ctr + 1)) (some (.loop .ready none s.tm ps assign body s.hp.ctr)), nrmN (nrmN (s.hp.ctr + 1) + 1), s.hp.low⟩
noncomputable def rangeW (P : Program) (C : Ctx) (g : Operand) (ps : Array Tmp) (assign body : Code) (s : St) (Q : Ex → St → Prop) : Prop := match ev 0 s.tm g with
  | some (.func (.func f) first captured) => CallW P C f (first.toList ++ ([.func (.yield (nrmN (s.hp.ctr + 1))) #[] #[]] ++ captured.toList)) (hpRange s ps.toList assign body) fun _ h' =>
      endW s (({ target := .collected s.hp.ctr, args := #[] } : Deferred) :: s.df) (nrmN (s.hp.ctr + 1)) h' Q
  | _ => False
theorem TB.range {g : Operand} {ps : Array Tmp} {assign body : Code} {s : St} {Q : Ex → St → Prop} (w : rangeW P C g ps assign body s Q) : TB P C h0 none (.rangeFunc g ps assign body) s Q := by
  classical
  unfold rangeW at w
  split at w
  · rename_i f first captured hev
    obtain ⟨v, h', hc, w⟩ := w
    have hhp : hpRange s ps.toList assign body = newB (newB s.hp (.defd true)) (Lp.blk ⟨.ready, none, s.tm, ps.toList, assign, body, s.hp.ctr⟩) := by
      unfold hpRange
      rw [nrmN_eq, nrmN_eq]
      rfl
    rw [nrmN_eq] at hc w
    rw [hhp] at hc
    let t0 : Task := .call f (first.toList ++ ([.func (.yield (s.hp.ctr + 1)) #[] #[]] ++ captured.toList)) (newB (newB s.hp (.defd true)) (Lp.blk ⟨.ready, none, s.tm, ps.toList, assign, body, s.hp.ctr⟩))
    let rec' : Rec := fun t => match t with
      | .call a b c => if Task.call a b c = t0 then some (.ret v h') else none
      | .ex rd (.exit i) s => some (.ex (.exit i) s)
      | .ex rd .ret s => some (.ex .ret s)
      | _ => none
    have hrec : ∀ t out, rec' t = some out → TOk P C t out := by
      intro t out ho
      cases t with
      | call a b c =>
        simp only [rec'] at ho
        split at ho
        · rename_i e
          cases ho
          have : TOk P C t0 (.ret v h') := hc
          rw [← e] at this
          exact this
        · cases ho
      | ex rd c s =>
        cases c with
        | exit i => simp only [rec'] at ho; cases ho; exact exit_ok
        | ret => simp only [rec'] at ho; cases ho; exact ret_ok
        | _ => simp [rec'] at ho
      | _ => simp [rec'] at ho
    have hcall : rec' t0 = some (.ret v h') := by simp [rec', t0]
    have key : ∀ out, endLoop rec' none s (s.hp.ctr + 1) h' (({ target := .collected s.hp.ctr, args := #[] } : Deferred) :: s.df) = some out → TOk P C (.ex none (.rangeFunc g ps assign body) s) out := by
      intro out ho
      refine range_ok (rec := rec') hrec ?_
      simp only [exRange, bnd_some, rangeD, ok_some]
      refine ⟨_, hev, _, rfl, ?_⟩
      refine ⟨.call f (first.toList ++ ([.func (.yield (s.hp.ctr + 1)) #[] #[]] ++ captured.toList)) (newB (newB s.hp (.defd true)) (Lp.blk ⟨.ready, none, s.tm, ps.toList, assign, body, s.hp.ctr⟩)), rfl, ?_⟩
      show bnd (rec' t0) _ = _
      rw [hcall]
      exact ho
    unfold endW at w
    split at w
    · rename_i st pe tm ps2 as bd dfs hbl
      have hla : loopAt h' (s.hp.ctr + 1) = some ⟨st, pe, tm, ps2, as, bd, dfs⟩ := by unfold loopAt; rw [hbl]; rfl
      split at w
      · exact w.elim
      · rename_i hnb
        split at w
        · refine TB.of (key _ ?_) w
          simp only [endLoop, bnd_some]
          refine ⟨_, hla, ?_⟩
          cases st <;> first | rfl | exact absurd rfl hnb
        · refine TB.of (key _ ?_) w
          simp only [endLoop, bnd_some]
          refine ⟨_, hla, ?_⟩
          cases st <;> first | rfl | exact absurd rfl hnb
        · refine TB.of (key _ ?_) w
          simp only [endLoop, bnd_some]
          refine ⟨_, hla, ?_⟩
          cases st <;> first | rfl | exact absurd rfl hnb
        · exact w.elim
    · exact w.elim
  · exact w.elim
end
end Go.Ai
namespace Go.Ai
section
variable {P : Program} {C : Ctx}
/-- the end of a round -/
noncomputable def roundEnd (l : Nat) (v : Value) (h' : H) : Ex → St → Prop := fun e s => match s.hp.bl.get l with
  | some (.loop _ _ tm ps as bd dfs) => match e with
    | .normal => v = .bool true ∧ h' = put s.hp l (.loop .ready none tm ps as bd dfs) l
    | .exit i => v = .bool false ∧ h' = put s.hp l (.loop .done (some (.exit i)) tm ps as bd dfs) l
    | .ret => v = .bool false ∧ h' = put s.hp l (.loop .done (some .ret) tm ps as bd dfs) l
    | .panic _ => False
  | _ => False
noncomputable def roundMid (P : Program) (C : Ctx) (h0 : H) (l : Nat) (v : Value) (h' : H) (body : Code) : Ex → St → Prop := fun e s => match e with
  | .normal => match s.hp.bl.get l with
    | some (.loop st pe tm ps as bd dfs) => match st with
      | .ready => wpC P C h0 (some l) body (roundEnd l v h') ⟨s.tm, s.df, s.up, put s.hp l (.loop .busy pe tm ps as bd dfs) l⟩
      | _ => False
    | _ => False
  | _ => False
/-- a round -/
noncomputable def roundW (P : Program) (C : Ctx) (l : Nat) (args : List Value) (h : H) (v : Value) (h' : H) : Prop := match h.bl.get l with
  | some (.loop _ _ tm ps as bd _) => match Nat.beq args.length ps.length with
    | true => wpC P C h (some l) as (roundMid P C h l v h' bd) ⟨setP ps args tm, [], none, h⟩
    | false => False
  | _ => False
theorem loopAt_of {h : H} {l : Nat} {st : LoopState} {pe : Option Code} {tm : T Value} {ps : List Nat} {as bd : Code} {dfs : Nat} (hb : h.bl.get l = some (.loop st pe tm ps as bd dfs)) : loopAt h l = some ⟨st, pe, tm, ps, as, bd, dfs⟩ := by unfold loopAt; rw [hb]; rfl

theorem roundW_ok (HC : CtxT P C) (hng : C.ng ≤ bigLow) {l : Nat} {args : List Value} {h : H} {v : Value} {h' : H} (w : roundW P C l args h v h') : RoundOk P C l args h (.ret v h') := by
  unfold roundW at w
  split at w
  case h_2 => exact w.elim
  rename_i st0 pe0 tm0 ps0 as0 bd0 dfs0 hb0
  split at w
  case h_2 => exact w.elim
  rename_i hlen0
  have A := wpC_ok (P := P) HC hng _ _ _ w
  intro ρ w p args' c cs hp hv hh hg
  obtain ⟨hgb, fn, tmps, pd, hw, ht, hd, hj, hps, hca, hcb⟩ := loopAt_ok hh hp (loopAt_of hb0)
  have h2 := Nat.eq_of_beq_eq_true hlen0
  have hlen := hv.length
  simp only at hw ht hd hj hps hca hcb
  obtain ⟨st1, st2⟩ := setP_ok hv h2.symm hps ht
  let tmps' : Array Value := (ps0.zip args').foldl (fun tmps (t, a) => tmps.setIfInBounds t a) tmps
  have hy : (Instr.yield p.blk ⟨args'⟩).run P w = .ok (.round p.blk fn tmps' as0 bd0) w := by
    simp only [Instr.yield, Sem.run_bind, run_getLoop hw, Result.andThen_ok]
    have hsz : ¬ ((⟨args'⟩ : Array Value).size ≠ (⟨ps0⟩ : Array Nat).size) := by simp; omega
    rw [if_neg hsz]
    simp only [Sem.run_pure]
    congr 2
    simp [tmps']
  let b : Frame := { (default : Frame) with fn := fn, kind := .normal, roundOf := some p.blk }
  have hbf : Frame.round p.blk fn tmps' as0 bd0 .normal = b.atR { tmps := tmps', defers := [] } [.code as0, .beginRound, .code bd0] := by
    simp [Frame.round, Frame.atR, b]
  have hbo : Bok ρ (some l) none b (c :: cs) (c :: cs) := ⟨.some hp, fun _ => ⟨rfl, rfl⟩, fun m hm => by cases hm⟩
  obtain ⟨e, s1, q, ρ1, a1, w1, cs1, g1, g2, g3, g4, g5⟩ := A ρ w ρ { tmps := tmps', defers := [] } w b [.beginRound, .code bd0] (c :: cs) (c :: cs) (by rw [st2]; exact hca) hh hg (Ext.refl _ _ _) ⟨st1, .nil, hh⟩ hbo
  cases e with
  | normal =>
    unfold roundMid at q
    simp only at q
    split at q
    case h_2 => exact q.elim
    rename_i st1' pe1 tm1 ps1 as1 bd1 dfs1 hb1
    split at q
    case h_2 => exact q.elim
    have hp1 := g4.le _ _ hp
    obtain ⟨hgb1, fn1, tmps1, pd1, hw1, ht1, hd1, hj1, hps1, hca1, hcb1⟩ := loopAt_ok g1.hp hp1 (loopAt_of hb1)
    simp only at hw1 ht1 hd1 hj1 hps1 hca1 hcb1
    obtain ⟨w2, k1, k2, k3⟩ := setLoop_ok (P := P) g1.hp hp1 (loopAt_of hb1) .busy pe1 hj1 hw1 ht1 hd1 ⟨hps1, hca1, hcb1⟩
    have hbr : (Instr.beginRound p.blk).run P w1 = .ok () w2 := by
      simp only [Instr.beginRound, Sem.run_bind, run_getLoop hw1, Result.andThen_ok, k1]
      rfl
    have hup1 : s1.up = none := by
      cases hu : s1.up with
      | none => rfl
      | some m => have := (g3.dfd m hu).1; cases this
    have hcs1 := (g3.nrm hup1).2
    subst hcs1
    have hstep := stepR_beginRound (P := P) (b := b) (a := a1) (k := [.code bd0]) (cs := c :: cs) rfl hbr
    obtain ⟨e2, s2, q2, ρ2, a2, w3, cs3, r1, r2, r3, r4, r5⟩ := wpC_ok (P := P) HC hng _ _ _ q ρ w ρ1 a1 w2 b [] (c :: cs) (c :: cs) (by rw [g2, st2]; exact hcb) hh hg (g4.trans k3) ⟨g1.tm, g1.df, k2⟩ g3
    have hup2 : s2.up = none := by
      cases hu : s2.up with
      | none => rfl
      | some m => have := (r3.dfd m hu).1; cases this
    have hcs3 := (r3.nrm hup2).2
    subst hcs3
    unfold roundEnd at q2
    split at q2
    case h_2 => exact q2.elim
    rename_i st2' pe2 tm2 ps2 as2 bd2 dfs2 hb2
    have hp2 := r4.le _ _ hp
    obtain ⟨hgb2, fn2, tmps2, pd2, hw2, ht2, hd2, hj2, hps2, hca2, hcb2⟩ := loopAt_ok r1.hp hp2 (loopAt_of hb2)
    simp only at hw2 ht2 hd2 hj2 hps2 hca2 hcb2
    have fin : ∀ j : Option Code, jumpOk j = true → v = .bool j.isNone → h' = put s2.hp l (.loop (stOf j) j tm2 ps2 as2 bd2 dfs2) l → (∀ w4, (Instr.endRound p.blk j).run P w3 = .ok (.bool j.isNone) w4 → Steps P (lone (b.atR a1 [.code bd0]) (c :: cs) w2) (lone (c.finish (.bool j.isNone)) cs w4)) →
        ∃ v0 h'0 ρ' v' w', Out.ret v h' = .ret v0 h'0 ∧ VR ρ' v0 v' ∧ HR ρ' h'0 w' ∧ Ext ρ h w ρ' h'0 w' ∧
          ∃ fn tmps assign body, (Instr.yield p.blk ⟨args'⟩).run P w = .ok (.round p.blk fn tmps assign body) w ∧ Steps P (lone (Frame.round p.blk fn tmps assign body .normal) (c :: cs) w) (lone (c.finish v') cs w') := by
      intro j hjo hv' hh' hst
      obtain ⟨w4, z1, z2, z3⟩ := setLoop_ok (P := P) r1.hp hp2 (loopAt_of hb2) (stOf j) j hjo hw2 ht2 hd2 ⟨hps2, hca2, hcb2⟩
      have hend : (Instr.endRound p.blk j).run P w3 = .ok (.bool j.isNone) w4 := by
        have : (if j.isNone = true then LoopState.ready else .done) = stOf j := by cases j <;> rfl
        simp only [Instr.endRound, Sem.run_bind, run_getLoop hw2, Result.andThen_ok, this]
        rw [z1]
        rfl
      subst hv' hh'
      refine ⟨_, _, ρ2, .bool j.isNone, w4, rfl, .bool _, z2, r4.trans z3, fn, tmps', as0, bd0, hy, ?_⟩
      rw [hbf]
      exact g5.trans (.head hstep (hst w4 hend))
    cases e2 with
    | normal =>
      exact fin none rfl q2.1 q2.2 fun w4 hend => r5.trans (.one (stepR_round_end rfl rfl hend))
    | exit id =>
      obtain ⟨k', y1, y2⟩ := r5
      exact fin (some (.exit id)) rfl q2.1 q2.2 fun w4 hend => y2.trans (.one (stepR_round_exit rfl rfl (by rw [y1]; rfl) hend))
    | ret =>
      obtain ⟨k', y2⟩ := r5
      exact fin (some .ret) rfl q2.1 q2.2 fun w4 hend => y2.trans (.one (stepR_round_ret rfl rfl hend))
    | panic ch => exact q2.elim
  | exit id => exact q.elim
  | ret => exact q.elim
  | panic ch => exact q.elim
end
end Go.Ai
namespace Go.Ai
section
variable {P : Program} {C : Ctx}
/-- a function, run from memory h to memory h' -/
theorem fn_call (HF : CtxF P C) {g n : Nat} {res : List ResultVar} {c : Code} (hft : C.ft.get g = some (.body n res c)) {args : List Value} {h h' : H} {v : Value}
    (x : TB P C h none c ⟨initT n args, [], none, h⟩ (RetW C res fun v1 h1 => v1 = v ∧ h1 = h')) : CallOk P C g args h (.ret v h') := by
  intro ρ w args' cs hv hh hg
  obtain ⟨v1, h1, ρ1, v', w', ⟨rfl, rfl⟩, k2, k3, k4, k5⟩ := fn_run HF hft x cs hv hh hg
  exact .inl ⟨v1, h1, ρ1, v', w', rfl, k2, k3, k4, k5⟩
theorem fn_wp (HF : CtxF P C) (hng : C.ng = 0) {g n : Nat} {res : List ResultVar} {c : Code} (hft : C.ft.get g = some (.body n res c)) {args : List Value} {h h' : H} {v : Value}
    (w : wpC P C h none c (RetW C res fun v1 h1 => v1 = v ∧ h1 = h') ⟨initT n args, [], none, h⟩) : CallOk P C g args h (.ret v h') :=
  fn_call HF hft (wpC_ok HF.tt (by rw [hng]; exact Nat.zero_le _) _ _ _ w)
/-- a small memory: eight blocks -/
def tree8 (a0 a1 a2 a3 a4 a5 a6 a7 : Option Blk) : T Blk := .n a0 (.n a1 (.n a3 (.n a7 .e .e) (.n none .e .e)) (.n a5 (.n none .e .e) (.n none .e .e))) (.n a2 (.n a4 (.n none .e .e) (.n none .e .e)) (.n a6 (.n none .e .e) (.n none .e .e)))
def ptr (b : Nat) : Value := .pointer (some ⟨b, 0, none⟩)
end
end Go.Ai
namespace Go.Ai
/-- the first loop over a function in some code -/
noncomputable def rangeIn : Code → Option (Code × Code)
  | .seq a b => match rangeIn a with | some x => some x | none => rangeIn b
  | .block _ b => rangeIn b
  | .loop b => rangeIn b
  | .cond _ a b => match rangeIn a with | some x => some x | none => rangeIn b
  | .rangeFunc _ _ a b => some (a, b)
  | _ => none
noncomputable def asgIn (c : Code) : Code := match rangeIn c with | some x => x.1 | none => .skip
noncomputable def bdyIn (c : Code) : Code := match rangeIn c with | some x => x.2 | none => .skip
end Go.Ai
namespace Go.Ai
/-! ### memory, numbered anew -/
noncomputable def rnO (σ : Nat → Nat) (cc b : Nat) (f : Nat → Value) : Option Value := match Nat.blt b cc with | true => some (f (σ b)) | false => none
noncomputable def rnL (g : Value → Option Value) (l : List Value) : Option (List Value) :=
  List.rec (motive := fun _ => Option (List Value)) (some []) (fun v _ ih => match g v with | some v' => (match ih with | some l' => some (v' :: l') | none => none) | none => none) l
noncomputable def rnV (σ : Nat → Nat) (cc : Nat) (d : Nat) : Value → Option Value :=
  Nat.rec (motive := fun _ => Value → Option Value) (fun _ => none) (fun _ ih v => match v with
    | .pointer (some ⟨b, o, none⟩) => rnO σ cc b fun b => .pointer (some ⟨b, o, none⟩)
    | .slice (some ⟨b, o, none⟩) n c => rnO σ cc b fun b => .slice (some ⟨b, o, none⟩) n c
    | .map (some r) => rnO σ cc r fun b => .map (some b)
    | .func (.func f) xs ys => match rnL ih xs.toList with | some xs' => (match rnL ih ys.toList with | some ys' => some (.func (.func f) ⟨xs'⟩ ⟨ys'⟩) | none => none) | none => none
    | .func (.yield l) ⟨[]⟩ ⟨[]⟩ => rnO σ cc l fun b => .func (.yield b) ⟨[]⟩ ⟨[]⟩
    | .agg xs => match rnL ih xs.toList with | some xs' => some (.agg ⟨xs'⟩) | none => none
    | .tuple xs => match rnL ih xs.toList with | some xs' => some (.tuple ⟨xs'⟩) | none => none
    | .iface t v => match ih v with | some v' => some (.iface t v') | none => none
    | .bool b => some (.bool b)
    | .int k n => some (.int k n)
    | .string s => some (.string s)
    | .pointer none => some (.pointer none)
    | .slice none 0 0 => some (.slice none 0 0)
    | .map none => some (.map none)
    | .nilFunc => some .nilFunc
    | .nilIface => some .nilIface
    | _ => none) d
def Mp.ren (ρ : Mp) (σ : Nat → Nat) (cc : Nat) : Mp := fun b => if b < cc then ρ (σ b) else Option.none
theorem rnO_ok {σ : Nat → Nat} {cc b : Nat} {f : Nat → Value} {v : Value} (h : rnO σ cc b f = some v) : b < cc ∧ v = f (σ b) := by
  unfold rnO at h
  split at h
  · rename_i hb; cases h; exact ⟨Nat.le_of_ble_eq_true hb, rfl⟩
  · cases h
theorem ren_at {ρ : Mp} {σ : Nat → Nat} {cc b : Nat} {p : Pl} (hb : b < cc) (h : ρ (σ b) = some p) : ρ.ren σ cc b = some p := by unfold Mp.ren; rw [if_pos hb]; exact h
theorem rnL_ok {g : Value → Option Value} {ρ ρ1 : Mp} (hg : ∀ v v1 v', g v = some v1 → VR ρ v1 v' → VR ρ1 v v') : ∀ {l l1 l' : List Value}, rnL g l = some l1 → VRs ρ l1 l' → VRs ρ1 l l' := by
  intro l
  induction l with
  | nil => intro l1 l' h hv; cases h; cases hv; exact .nil
  | cons v l ih =>
    intro l1 l' h hv
    have h : (match g v with | some v' => (match rnL g l with | some l' => some (v' :: l') | none => none) | none => none) = some l1 := h
    split at h
    · rename_i v1 hv1
      split at h
      · rename_i l2 hl2
        cases h
        cases hv with
        | cons h1 h2 => exact .cons (hg _ _ _ hv1 h1) (ih hl2 h2)
      · cases h
    · cases h
theorem rnV_ok {ρ : Mp} {σ : Nat → Nat} {cc : Nat} : ∀ (d : Nat) (v v1 v' : Value), rnV σ cc d v = some v1 → VR ρ v1 v' → VR (ρ.ren σ cc) v v' := by
  intro d
  induction d with
  | zero => intro v v1 v' h; cases h
  | succ d ih =>
    intro v v1 v' h hv
    cases v with
    | bool b => cases h; cases hv; exact .bool _
    | int k n => cases h; cases hv; exact .int _ _
    | string s => cases h; cases hv; exact .string _
    | nilFunc => cases h; cases hv; exact .nilFunc
    | nilIface => cases h; cases hv; exact .nilIface
    | float k b => cases h
    | complex k a b => cases h
    | pointer q =>
      cases q with
      | none => cases h; cases hv; exact .nilPtr
      | some a =>
        obtain ⟨b, o, e⟩ := a
        cases e with
        | some _ => cases h
        | none =>
          obtain ⟨hb, rfl⟩ := rnO_ok (f := fun b => .pointer (some ⟨b, o, none⟩)) h
          cases hv with | ptr hp => exact .ptr (ren_at hb hp)
    | slice q n c =>
      cases q with
      | none =>
        match n, c, h with
        | 0, 0, h => cases h; cases hv; exact .nilSl
      | some a =>
        obtain ⟨b, o, e⟩ := a
        cases e with
        | some _ => cases h
        | none =>
          obtain ⟨hb, rfl⟩ := rnO_ok (f := fun b => .slice (some ⟨b, o, none⟩) n c) h
          cases hv with | sl hp hl hc ha => exact .sl (ren_at hb hp) hl hc ha
    | map q =>
      cases q with
      | none => cases h; cases hv; exact .nilMap
      | some r =>
        obtain ⟨hb, rfl⟩ := rnO_ok (f := fun b => .map (some b)) h
        cases hv with | map hp => exact .map (ren_at hb hp)
    | chan q => cases q <;> cases h
    | func fn xs ys =>
      obtain ⟨xs⟩ := xs
      obtain ⟨ys⟩ := ys
      cases fn with
      | func f =>
        have h : (match rnL (rnV σ cc d) xs with | some xs' => (match rnL (rnV σ cc d) ys with | some ys' => some (.func (.func f) ⟨xs'⟩ ⟨ys'⟩) | none => none) | none => none) = some v1 := h
        split at h
        · rename_i xs' hxs
          split at h
          · rename_i ys' hys
            cases h
            cases hv with
            | func _ hx hy => exact .func f (rnL_ok (ρ := ρ) (fun a b c hh hr => ih a b c hh hr) hxs hx) (rnL_ok (ρ := ρ) (fun a b c hh hr => ih a b c hh hr) hys hy)
          · cases h
        · cases h
      | yield l =>
        cases xs with
        | nil => cases ys with
          | nil =>
            obtain ⟨hb, rfl⟩ := rnO_ok (f := fun b => .func (.yield b) ⟨[]⟩ ⟨[]⟩) h
            cases hv with | yield hp => exact .yield (ren_at hb hp)
          | cons _ _ => cases h
        | cons _ _ => cases h
      | _ => cases h
    | iface t v =>
      have h : (match rnV σ cc d v with | some v' => some (.iface t v') | none => none) = some v1 := h
      split at h
      · rename_i v2 hv2
        cases h
        cases hv with | iface _ hx => exact .iface t (ih _ _ _ hv2 hx)
      · cases h
    | agg xs =>
      obtain ⟨xs⟩ := xs
      have h : (match rnL (rnV σ cc d) xs with | some xs' => some (.agg ⟨xs'⟩) | none => none) = some v1 := h
      split at h
      · rename_i xs' hxs
        cases h
        cases hv with | agg hx => exact .agg (rnL_ok (ρ := ρ) (fun a b c hh hr => ih a b c hh hr) hxs hx)
      · cases h
    | tuple xs =>
      obtain ⟨xs⟩ := xs
      have h : (match rnL (rnV σ cc d) xs with | some xs' => some (.tuple ⟨xs'⟩) | none => none) = some v1 := h
      split at h
      · rename_i xs' hxs
        cases h
        cases hv with | tuple hx => exact .tuple (rnL_ok (ρ := ρ) (fun a b c hh hr => ih a b c hh hr) hxs hx)
      · cases h

/-- a block, numbered anew: what it holds is the same, but for numbers -/
noncomputable def BlkRn (σ : Nat → Nat) (cc : Nat) (x y : Blk) : Prop := match x, y with
  | .cells cs e _ fz, .cells cs' e' _ fz' => (e = e' ∧ fz = fz') ∧ (((∃ rest, cs' = cs ++ rest) ∧ ∀ v ∈ cs, flat 3 v = true) ∨ rnL (rnV σ cc 3) cs = some cs')
  | .bytes bs e _ fz, .bytes bs' e' _ fz' => (e = e' ∧ fz = fz') ∧ bs = bs'
  | .iter s p, .iter s' p' => s = s' ∧ p = p'
  | .defd o, .defd o' => o = o'
  | _, _ => False
noncomputable def optB (v : Option Blk) (b : Bool) : Bool := match v with | some _ => b | none => true
noncomputable def keysB (cc : Nat) (t : T Blk) : (Nat → Nat) → Bool :=
  T.rec (motive := fun _ => (Nat → Nat) → Bool) (fun _ => true) (fun v _ _ ihl ihr f => optB v (Nat.blt (f 0) cc) && (ihl (fun k => f (2 * k + 1)) && ihr (fun k => f (2 * k + 2)))) t
theorem keysB_ok {cc : Nat} : ∀ {t : T Blk} {f : Nat → Nat}, keysB cc t f = true → ∀ k x, t.get k = some x → f k < cc
  | .e, _, _, k, x, h => by simp at h
  | .n v l r, f, hk, k, x, h => by
    have hk : (optB v (Nat.blt (f 0) cc) && (keysB cc l (fun k => f (2 * k + 1)) && keysB cc r (fun k => f (2 * k + 2)))) = true := hk
    simp only [Bool.and_eq_true] at hk
    cases k with
    | zero =>
      have h : v = some x := h
      subst h
      exact Nat.le_of_ble_eq_true hk.1
    | succ k =>
      rw [T.get_succ] at h
      by_cases hm : k % 2 = 0
      · rw [if_pos hm] at h
        have := keysB_ok hk.2.1 (k / 2) x h
        simpa [show 2 * (k / 2) + 1 = k + 1 by omega] using this
      · rw [if_neg hm] at h
        have := keysB_ok hk.2.2 (k / 2) x h
        simpa [show 2 * (k / 2) + 2 = k + 1 by omega] using this
def nth (L : List Nat) (b : Nat) : Nat := L.getD b 0
/-- the blocks from number i on -/
noncomputable def HeapRn (L : List Nat) (cc : Nat) (t : T Blk) (h : H) (l : List Nat) : Nat → Prop :=
  List.rec (motive := fun _ => Nat → Prop) (fun _ => True) (fun a _ ih i => (match t.get i with
    | none => True
    | some x => match h.bl.get a with
      | some y => BlkRn (nth L) cc x y ∧ ((famOf i x ≤ i) ∧ (famOf i x = i → famOf a y = a))
      | none => False) ∧ ih (i + 1)) l
theorem HeapRn_ok {L : List Nat} {cc : Nat} {t : T Blk} {h : H} : ∀ {l : List Nat} {i : Nat}, HeapRn L cc t h l i → ∀ k a, l[k]? = some a → ∀ x, t.get (i + k) = some x → ∃ y, h.bl.get a = some y ∧ BlkRn (nth L) cc x y ∧ famOf (i + k) x ≤ i + k ∧ (famOf (i + k) x = i + k → famOf a y = a)
  | [], i, _, k, a, hk, _, _ => by simp at hk
  | b :: l, i, hr, k, a, hk, x, hx => by
    have hr : (match t.get i with
      | none => True
      | some x => match h.bl.get b with
        | some y => BlkRn (nth L) cc x y ∧ ((famOf i x ≤ i) ∧ (famOf i x = i → famOf b y = b))
        | none => False) ∧ HeapRn L cc t h l (i + 1) := hr
    cases k with
    | zero =>
      simp at hk; subst hk
      simp only [Nat.add_zero] at hx ⊢
      have h1 := hr.1
      rw [hx] at h1
      simp only at h1
      split at h1
      · rename_i y hy; exact ⟨y, hy, h1.1, h1.2.1, h1.2.2⟩
      · exact h1.elim
    | succ k =>
      have := HeapRn_ok hr.2 k a (by simpa using hk) x (by rw [show i + 1 + k = i + (k + 1) by omega]; exact hx)
      rw [show i + 1 + k = i + (k + 1) by omega] at this
      exact this
noncomputable def HasRn (L : List Nat) (cc : Nat) (tm : T Value) (l : List (Nat × Value)) : Prop :=
  List.rec (motive := fun _ => Prop) True (fun p _ ih => (∃ v, tm.get p.1 = some v ∧ rnV (nth L) cc 3 p.2 = some v) ∧ ih) l
theorem HasRn.get {L : List Nat} {cc : Nat} {tm : T Value} : ∀ {l : List (Nat × Value)}, HasRn L cc tm l → ∀ i v, (i, v) ∈ l → ∃ v1, tm.get i = some v1 ∧ rnV (nth L) cc 3 v = some v1
  | [], _, _, _, h => by simp at h
  | p :: r, hh, i, v, h => by
    have hh : (∃ v, tm.get p.1 = some v ∧ rnV (nth L) cc 3 p.2 = some v) ∧ HasRn L cc tm r := hh
    rcases List.mem_cons.1 h with h | h
    · subst h; exact hh.1
    · exact HasRn.get hh.2 i v h

section
variable {P : Program} {C : Ctx}
/-- memory numbered anew, and what is needed no more left out -/
theorem weak_ren {d e : Nat} {L : List Nat} {l : List (Nat × Value)} {s : St} {t : T Blk} {low : Nat} (ht : HasRn L L.length s.tm l) (hh : HeapRn L L.length t s.hp L 0) (hk : keysB L.length t (fun k => k) = true) (hL : L.Nodup) (hd : s.df = []) (hu : s.up = none)
    (hlow : low ≤ bigLow) : Weak C (h00 d) none ⟨tmOf e l, [], none, ⟨t, L.length, low⟩⟩ s := by
  intro ρ0 w0 ρ a w b cs0 cs h1 h2 h3 h4 h5
  have key : ∀ c x, t.get c = some x → c < L.length ∧ ∃ y, s.hp.bl.get (nth L c) = some y ∧ BlkRn (nth L) L.length x y ∧ famOf c x ≤ c ∧ (famOf c x = c → famOf (nth L c) y = nth L c) := by
    intro c x hx
    have hlt := keysB_ok hk c x hx
    refine ⟨hlt, ?_⟩
    have hg : L[c]? = some (nth L c) := by
      unfold nth
      rw [List.getD_eq_getElem?_getD, List.getElem?_eq_getElem hlt]; rfl
    have := HeapRn_ok hh c (nth L c) hg x (by simpa using hx)
    simpa using this
  have hren : ∀ c p, ρ.ren (nth L) L.length c = some p → c < L.length ∧ ρ (nth L c) = some p := by
    intro c p hc
    unfold Mp.ren at hc
    split at hc
    · exact ⟨by assumption, hc⟩
    · cases hc
  have hρ0 : ∀ c p, ρ0 c = some p → False := fun c p hc => by
    have := (h1.dom c p hc).1
    exact absurd this (Nat.not_lt_zero _)
  refine ⟨ρ.ren (nth L) L.length, ?_, ⟨?_, ?_, ?_⟩, ?_⟩
  · refine { le := fun c p hc => (hρ0 c p hc).elim, ctr := Nat.zero_le _, low := hlow, os := h3.os, tape := h3.tape, output := h3.output, size := h3.size, new := fun c p _ => .inr (Nat.zero_le _),
             keep := fun k hk _ => h3.keep k hk fun b x p hx _ _ => (by rw [h00_get] at hx; cases hx),
             back := ?_, abs := fun c hc _ => absurd hc (Nat.not_lt_zero _), full := ?_ }
    · intro c x p hx hp hlt
      obtain ⟨_, y, hy, _⟩ := key c x hx
      obtain ⟨_, hp'⟩ := hren c p hp
      obtain ⟨b0, x0, p0, k1, _⟩ := h3.back _ y p hy hp' hlt
      rw [h00_get] at k1; cases k1
    · intro c x hx _ hc
      obtain ⟨_, y, hy, _⟩ := key c x hx
      have hb := h4.hp.big _ _ hy
      obtain ⟨p, hp⟩ := h3.full _ y hy (Nat.zero_le _) hb
      exact ⟨p, ren_at hc hp⟩
  · intro i v hv
    obtain ⟨v1, g1, g2⟩ := ht.get i v (tmOf_get hv)
    obtain ⟨v', k1, k2⟩ := h4.tm i v1 g1
    exact ⟨v', k1, rnV_ok 3 _ _ _ g2 k2⟩
  · have := h4.df
    rw [hd] at this
    revert this; generalize a.defers = l; intro hh; cases hh; exact .nil
  · refine ⟨?_, ?_, ?_, ?_, ?_, ?_⟩
    · intro c p hc
      obtain ⟨g1, g2⟩ := hren c p hc
      exact ⟨g1, (h4.hp.dom _ _ g2).2⟩
    · intro c x hx; exact (key c x hx).1
    · intro c x p hx hp
      obtain ⟨_, y, hy, hb, _⟩ := key c x hx
      obtain ⟨_, hp'⟩ := hren c p hp
      have hbr := h4.hp.con _ y p hy hp'
      unfold BlkRn at hb
      split at hb
      · rename_i cs e fam fz cs' e' fam' fz'
        obtain ⟨⟨rfl, rfl⟩, hb⟩ := hb
        cases hbr with
        | cells hw hn hl hc hf =>
          rcases hb with ⟨⟨rest, rfl⟩, hfl⟩ | hb
          · exact .cells hw hn (by simp at hl; omega) (fun j v hv => by
              obtain ⟨v', k1, k2⟩ := hc j v (by rw [List.getElem?_append_left (List.getElem?_eq_some_iff.1 hv).1]; exact hv)
              have hfv := hfl v (List.mem_of_getElem? hv)
              rw [← VR_flat_eq 3 v hfv k2] at k1
              exact ⟨v, k1, flat_VR _ _ _ hfv⟩) hf
          · have hlen : ∀ (l l1 : List Value), rnL (rnV (nth L) L.length 3) l = some l1 → l.length = l1.length ∧ ∀ (j : Nat) (v : Value), l[j]? = some v → ∃ v1, l1[j]? = some v1 ∧ rnV (nth L) L.length 3 v = some v1 := by
              intro l
              induction l with
              | nil => intro l1 h; cases h; exact ⟨rfl, fun j v h => by simp at h⟩
              | cons x l ih =>
                intro l1 h
                have h : (match rnV (nth L) L.length 3 x with | some v' => (match rnL (rnV (nth L) L.length 3) l with | some l' => some (v' :: l') | none => none) | none => none) = some l1 := h
                split at h
                · rename_i x1 hx1
                  split at h
                  · rename_i l2 hl2
                    cases h
                    obtain ⟨e1, e2⟩ := ih _ hl2
                    refine ⟨by simp [e1], fun j v hj => ?_⟩
                    cases j with
                    | zero => simp at hj; subst hj; exact ⟨x1, rfl, hx1⟩
                    | succ j => exact e2 j v (by simpa using hj)
                  · cases h
                · cases h
            obtain ⟨e1, e2⟩ := hlen _ _ hb
            exact .cells hw hn (by rw [e1]; exact hl) (fun j v hv => by
              obtain ⟨v1, k0, k00⟩ := e2 j v hv
              obtain ⟨v', k1, k2⟩ := hc j v1 k0
              exact ⟨v', k1, rnV_ok 3 _ _ _ k00 k2⟩) hf
      · obtain ⟨⟨rfl, rfl⟩, rfl⟩ := hb
        cases hbr with | bytes hw hn hl hc hf => exact .bytes hw hn hl hc hf
      · obtain ⟨rfl, rfl⟩ := hb
        cases hbr with | iter hw ho => exact .iter hw ho
      · subst hb
        cases hbr with | defd hw => exact .defd hw
      · exact hb.elim
    · intro c c' x x' p p' hx hx' hp hp' he
      obtain ⟨_, y, hy, _⟩ := key c x hx
      obtain ⟨_, y', hy', _⟩ := key c' x' hx'
      obtain ⟨g1, g2⟩ := hren c p hp
      obtain ⟨g1', g2'⟩ := hren c' p' hp'
      have := h4.hp.inj _ _ _ _ _ _ hy hy' g2 g2' he
      unfold nth at this
      rw [List.getD_eq_getElem?_getD, List.getD_eq_getElem?_getD, List.getElem?_eq_getElem g1, List.getElem?_eq_getElem g1'] at this
      simp only [Option.getD_some] at this
      exact (List.getElem_inj hL).1 this
    · intro c x hx; exact (key c x hx).2.choose_spec.2.2.1
    · intro c x p hx hp hf
      obtain ⟨_, y, hy, _, _, hf2⟩ := key c x hx
      obtain ⟨_, hp'⟩ := hren c p hp
      exact h4.hp.own _ y p hy hp' (hf2 hf)
  · have hro : b.roundOf = none := by have := h5.ro; revert this; generalize b.roundOf = x; intro h; cases h; rfl
    refine ⟨?_, fun _ => h5.nrm hu, fun m hm => (nomatch hm)⟩
    rw [hro]; exact .none
end
end Go.Ai
namespace Go.Ai
section
variable {P : Program} {C : Ctx} {h0 : H}
theorem LB.next {rd : Option Nat} {c : Code} {s : St} {Q : Ex → St → Prop} (x : TB P C h0 rd c s fun e s1 => match e with | .normal => LB P C h0 rd c s1 Q | e => Q e s1) : LB P C h0 rd c s Q := by
  intro ρ0 w0 ρ a w b k cs0 cs hc h2 h3 h4 h5 h6
  obtain ⟨e, s1, q, g⟩ := x ρ0 w0 ρ a w b (.inLoop c :: k) cs0 cs hc h2 h3 h4 h5 h6
  by_cases he : e = .normal
  · subst he
    obtain ⟨ρ1, a1, w1, cs1, g1, g2, g3, g4, g5⟩ := g
    obtain ⟨e2, s2, q2, hx2⟩ := q ρ0 w0 ρ1 a1 w1 b k cs0 cs1 (by rw [g2]; exact hc) h2 h3 g4 g1 g3
    rw [g2] at hx2
    exact ⟨e2, s2, q2, hx2.head (g5.trans (.one stepR_inLoop))⟩
  · refine ⟨e, s1, ?_, g.pass (exitTo_loop · c k) he⟩
    cases e <;> first | exact absurd rfl he | exact q
theorem TB.ofLB {rd : Option Nat} {c : Code} {s : St} {Q : Ex → St → Prop} (x : LB P C h0 rd c s Q) : TB P C h0 rd (.loop c) s Q := by
  intro ρ0 w0 ρ a w b k cs0 cs hc h2 h3 h4 h5 h6
  obtain ⟨e, s1, q, hx⟩ := x ρ0 w0 ρ a w b k cs0 cs hc h2 h3 h4 h5 h6
  exact ⟨e, s1, q, hx.head (.one stepR_loop)⟩
/-- one more round -/
theorem LB.nextW (HC : CtxT P C) (hng : C.ng = 0) {rd : Option Nat} {c : Code} {s : St} {Q : Ex → St → Prop} (x : wpC P C h0 rd c (fun e s1 => match e with | .normal => LB P C h0 rd c s1 Q | e => Q e s1) s) : LB P C h0 rd c s Q :=
  LB.next (wpC_ok HC (by rw [hng]; exact Nat.zero_le _) _ _ _ x)
/-- a loop, by what holds at each round's head -/
theorem loopV (HC : CtxT P C) (hng : C.ng = 0) {rd : Option Nat} {c : Code} {Q : Ex → St → Prop} {X : Type} (canon : X → St) (x : X) {s : St} (hw : Weak C h0 rd (canon x) s) (m : X → Nat) (Pre : X → Prop) (hpre : Pre x)
    (hbody : ∀ x, Pre x → wpC P C h0 rd c (fun e s' => match e with | .normal => ∃ x', Pre x' ∧ Weak C h0 rd (canon x') s' ∧ m x' < m x | e => Q e s') (canon x)) : TB P C h0 rd (.loop c) s Q :=
  TB.loop canon m Pre (fun x hx => wpC_ok HC (by rw [hng]; exact Nat.zero_le _) _ _ _ (hbody x hx)) hpre hw
end
end Go.Ai
namespace Go.Ai
open Go.Lib (indexByte countByte)
/-! ### texts, by their bytes -/
theorem indexByte_spec (l : List UInt8) (c : UInt8) : (indexByte l c = -1 ∧ c ∉ l) ∨ ∃ j : Nat, indexByte l c = j ∧ j < l.length ∧ l.getD j 0 = c ∧ c ∉ l.take j := by
  induction l with
  | nil => exact .inl ⟨rfl, by simp⟩
  | cons b l ih =>
    by_cases hb : b = c
    · refine .inr ⟨0, ?_, by simp, by simp [hb], by simp⟩
      simp [indexByte, hb]
    · have hb' : (b == c) = false := by simpa using hb
      rcases ih with ⟨h1, h2⟩ | ⟨j, h1, h2, h3, h4⟩
      · refine .inl ⟨?_, ?_⟩
        · simp [indexByte, hb', h1]
        · simp only [List.mem_cons, not_or]; exact ⟨fun e => hb e.symm, h2⟩
      · refine .inr ⟨j + 1, ?_, by simp; exact h2, by simpa using h3, ?_⟩
        · have : ((j : Int) == -1) = false := by rw [beq_eq_false_iff_ne]; omega
          simp [indexByte, hb', h1, this]
        · simp only [List.take_succ_cons, List.mem_cons, not_or]; exact ⟨fun e => hb e.symm, h4⟩
theorem drop_take_all (l : List UInt8) (a : Nat) : (l.drop a).take (l.length - a) = l.drop a := List.take_of_length_le (by simp)
theorem take_split (l : List UInt8) {a p : Nat} (h : a ≤ p) : l.take p = l.take a ++ (l.drop a).take (p - a) := by
  have := List.take_add (l := l) (i := a) (j := p - a)
  rw [show a + (p - a) = p by omega] at this
  exact this
theorem count_split (l : List UInt8) (c : UInt8) {a p : Nat} (h : a ≤ p) : countByte (l.take p) c = countByte (l.take a) c + countByte ((l.drop a).take (p - a)) c := by
  rw [take_split l h]; simp [countByte]
theorem count_zero {l : List UInt8} {c : UInt8} : countByte l c = 0 ↔ c ∉ l := by simp [countByte, List.count_eq_zero]

/-- where the line of a place ends -/
def eol (l : List UInt8) (p : Nat) : Nat := p + ((l.drop p).takeWhile fun b => b != 10).length
/-- where it begins -/
def bol (l : List UInt8) (p : Nat) : Nat := p - ((l.take p).reverse.takeWhile fun b => b != 10).length
theorem takeWhile_len (l : List UInt8) (j : Nat) (h1 : (10 : UInt8) ∉ l.take j) (h2 : j = l.length ∨ (j < l.length ∧ l.getD j 0 = 10)) : (l.takeWhile fun b => b != 10).length = j := by
  induction l generalizing j with
  | nil => rcases h2 with h2 | h2 <;> simp at h2 ⊢; exact h2.symm
  | cons b l ih =>
    cases j with
    | zero =>
      rcases h2 with h2 | ⟨_, h2⟩
      · simp at h2
      · simp at h2; simp [h2]
    | succ j =>
      simp only [List.take_succ_cons, List.mem_cons, not_or] at h1
      have hb : (b != 10) = true := by simpa using fun e => h1.1 e.symm
      rw [List.takeWhile_cons, if_pos hb, List.length_cons, ih j h1.2]
      rcases h2 with h2 | ⟨h2, h3⟩
      · left; simpa using h2
      · right; exact ⟨by simpa using h2, by simpa using h3⟩
theorem getD_drop' (l : List UInt8) (a j : Nat) : (l.drop a).getD j 0 = l.getD (a + j) 0 := by simp [List.getD_eq_getElem?_getD]
theorem eol_of (l : List UInt8) {p e : Nat} (hpe : p ≤ e) (h1 : (10 : UInt8) ∉ (l.drop p).take (e - p)) (h2 : e = l.length ∨ (e < l.length ∧ l.getD e 0 = 10)) : eol l p = e := by
  unfold eol
  rw [takeWhile_len _ (e - p) h1]
  · omega
  · rcases h2 with h2 | ⟨h2, h3⟩
    · left; simp; omega
    · right; refine ⟨by simp; omega, ?_⟩
      rw [getD_drop', show p + (e - p) = e by omega]; exact h3
theorem bol_of (l : List UInt8) {p a : Nat} (hp : p ≤ l.length) (hap : a ≤ p) (h1 : (10 : UInt8) ∉ (l.drop a).take (p - a)) (h2 : a = 0 ∨ l.getD (a - 1) 0 = 10) : bol l p = a := by
  unfold bol
  have hr : (l.take p).reverse = ((l.drop a).take (p - a)).reverse ++ (l.take a).reverse := by rw [take_split l hap, List.reverse_append]
  have hlen : (((l.drop a).take (p - a)).reverse).length = p - a := by simp; omega
  rw [hr, takeWhile_len _ (p - a)]
  · omega
  · rw [List.take_append_of_le_length (by omega), List.take_of_length_le (by omega)]
    simpa using h1
  · rcases h2 with h2 | h2
    · left; subst h2; simp; omega
    · by_cases ha : a = 0
      · left; subst ha; simp; omega
      · right
        refine ⟨by simp; omega, ?_⟩
        rw [List.getD_eq_getElem?_getD, List.getElem?_append_right (by omega), hlen, Nat.sub_self]
        have : (l.take a).reverse[0]? = some (l.getD (a - 1) 0) := by
          rw [List.getElem?_reverse (by simp; omega)]
          simp only [List.length_take, Nat.min_eq_left (show a ≤ l.length by omega), Nat.sub_zero]
          rw [List.getElem?_take, if_pos (by omega), List.getD_eq_getElem?_getD, List.getElem?_eq_getElem (by omega)]
          rfl
        rw [this, h2]; rfl
theorem eol_le (l : List UInt8) {p : Nat} (hp : p ≤ l.length) : p ≤ eol l p ∧ eol l p ≤ l.length := by
  unfold eol
  have : ((l.drop p).takeWhile fun b => b != 10).length ≤ (l.drop p).length := (List.takeWhile_sublist _).length_le
  simp at this
  omega
end Go.Ai
namespace Go.Ai
theorem get_lst (l : List UInt8) (j : Nat) : (ByteArray.mk ⟨l⟩).get! j = l.getD j 0 := by
  show (⟨l⟩ : Array UInt8)[j]! = _
  simp [List.getD_eq_getElem?_getD, getElem!_def]
  rfl
theorem decode_spec (l : List UInt8) (i : Nat) (hi : i < l.length) : ((l.getD i 0).toNat < 128 ∧ Utf8.decode ⟨⟨l⟩⟩ i = ((l.getD i 0).toNat, 1)) ∨
    (128 ≤ (l.getD i 0).toNat ∧ 128 ≤ (Utf8.decode ⟨⟨l⟩⟩ i).1 ∧ 1 ≤ (Utf8.decode ⟨⟨l⟩⟩ i).2 ∧ i + (Utf8.decode ⟨⟨l⟩⟩ i).2 ≤ l.length ∧ ∀ k, k < (Utf8.decode ⟨⟨l⟩⟩ i).2 → 128 ≤ (l.getD (i + k) 0).toNat) := by
  have hs : (ByteArray.mk ⟨l⟩).size = l.length := rfl
  unfold Utf8.decode
  simp only [get_lst, hs, Nat.add_zero]
  by_cases h0 : (l.getD i 0).toNat < 128
  · left; exact ⟨h0, by rw [if_pos h0]⟩
  · right
    refine ⟨by omega, ?_⟩
    rw [if_neg h0]
    have one : (128 ≤ Utf8.runeError ∧ 1 ≤ 1 ∧ i + 1 ≤ l.length ∧ ∀ k, k < 1 → 128 ≤ (l.getD (i + k) 0).toNat) := by
      refine ⟨by decide, Nat.le_refl _, hi, fun k hk => ?_⟩
      have : k = 0 := by omega
      subst this
      simp only [Nat.add_zero]; omega
    have cont : ∀ k, (decide (i + k < l.length) && ((l.getD (i + k) 0).toNat / 64 == 2)) = true → i + k < l.length ∧ 128 ≤ (l.getD (i + k) 0).toNat := by
      intro k h
      simp only [Bool.and_eq_true, decide_eq_true_eq, beq_iff_eq] at h
      exact ⟨h.1, by omega⟩
    split
    · rename_i h
      simp only [Bool.and_eq_true] at h
      have c1 := cont 1 (by simp only [Bool.and_eq_true]; exact h.2)
      split
      · rename_i hc
        refine ⟨hc, by omega, by omega, fun k hk => ?_⟩
        rcases (by omega : k = 0 ∨ k = 1) with rfl | rfl
        · simp only [Nat.add_zero]; omega
        · exact c1.2
      · exact one
    · split
      · rename_i h
        simp only [Bool.and_eq_true] at h
        have c1 := cont 1 (by simp only [Bool.and_eq_true]; exact h.1.2)
        have c2 := cont 2 (by simp only [Bool.and_eq_true]; exact h.2)
        split
        · rename_i hc
          simp only [Bool.and_eq_true, decide_eq_true_eq] at hc
          refine ⟨by omega, by omega, by omega, fun k hk => ?_⟩
          rcases (by omega : k = 0 ∨ k = 1 ∨ k = 2) with rfl | rfl | rfl
          · simp only [Nat.add_zero]; omega
          · exact c1.2
          · exact c2.2
        · exact one
      · split
        · rename_i h
          simp only [Bool.and_eq_true] at h
          have c1 := cont 1 (by simp only [Bool.and_eq_true]; exact h.1.1.2)
          have c2 := cont 2 (by simp only [Bool.and_eq_true]; exact h.1.2)
          have c3 := cont 3 (by simp only [Bool.and_eq_true]; exact h.2)
          split
          · rename_i hc
            simp only [Bool.and_eq_true, decide_eq_true_eq] at hc
            refine ⟨by omega, by omega, by omega, fun k hk => ?_⟩
            rcases (by omega : k = 0 ∨ k = 1 ∨ k = 2 ∨ k = 3) with rfl | rfl | rfl | rfl
            · simp only [Nat.add_zero]; omega
            · exact c1.2
            · exact c2.2
            · exact c3.2
          · exact one
        · exact one
end Go.Ai
namespace Go.Ai
section
variable {P : Program} {C : Ctx}
theorem seqS {rd : Option Nat} {x y : Code} {s s1 : St} {out : Out} (h1 : TOk P C (.ex rd x s) (.ex .normal s1)) (h2 : TOk P C (.ex rd y s1) out) : TOk P C (.ex rd (.seq x y) s) out := by
  intro ρ a w b k cs0 cs hc hs hb hg
  simp only [codeOk, Bool.and_eq_true] at hc
  obtain ⟨e, s2, he, hx⟩ := h1 ρ a w b (.code y :: k) cs0 cs hc.1 hs hb hg
  cases he
  obtain ⟨ρ1, a1, w1, cs1, g1, g2, g3, g4, g5⟩ := hx
  obtain ⟨e2, s2, rfl, hx2⟩ := h2 ρ1 a1 w1 b k cs0 cs1 (by rw [g2]; exact hc.2) g1 g3 (hg.mono g4.le)
  rw [g2] at hx2
  exact ⟨e2, s2, rfl, ((hx2.head g5).andThen g4).head (.one stepR_seq)⟩
theorem seqS' {rd : Option Nat} {x y : Code} {s s1 : St} {e : Ex} (he : e ≠ .normal) (h1 : TOk P C (.ex rd x s) (.ex e s1)) : TOk P C (.ex rd (.seq x y) s) (.ex e s1) := by
  intro ρ a w b k cs0 cs hc hs hb hg
  simp only [codeOk, Bool.and_eq_true] at hc
  obtain ⟨e2, s2, he2, hx⟩ := h1 ρ a w b (.code y :: k) cs0 cs hc.1 hs hb hg
  cases he2
  exact ⟨e, s1, rfl, (hx.pass (exitTo_code · y k) he).head (.one stepR_seq)⟩
theorem condS {rd : Option Nat} {c : Operand} {x y : Code} {s : St} {t : Bool} {out : Out} (he : ev 0 s.tm c = some (.bool t)) (h1 : t = true → TOk P C (.ex rd x s) out) (h2 : t = false → TOk P C (.ex rd y s) out) : TOk P C (.ex rd (.cond c x y) s) out := by
  intro ρ a w b k cs0 cs hc hs hb hg
  simp only [codeOk, Bool.and_eq_true] at hc
  have hv := boolOf_ok (ev0_ok hs.tm he) (b := t) rfl
  have hstep := stepR_cond (P := P) (b := b) (k := k) (cs := cs) (w := w) (x := x) (y := y) hv
  cases t with
  | true => obtain ⟨e, s1, rfl, hx⟩ := h1 rfl ρ a w b k cs0 cs hc.1 hs hb hg; exact ⟨e, s1, rfl, hx.head (.one hstep)⟩
  | false => obtain ⟨e, s1, rfl, hx⟩ := h2 rfl ρ a w b k cs0 cs hc.2 hs hb hg; exact ⟨e, s1, rfl, hx.head (.one hstep)⟩
theorem blockS {rd : Option Nat} {id : Nat} {x : Code} {s s1 : St} {e : Ex} (h1 : TOk P C (.ex rd x s) (.ex e s1)) : TOk P C (.ex rd (.block id x) s) (.ex (match e with | .exit i => (match Nat.beq i id with | true => .normal | false => .exit i) | e => e) s1) := by
  intro ρ a w b k cs0 cs hc hs hb hg
  obtain ⟨e2, s2, he2, hx⟩ := h1 ρ a w b (.inBlock id :: k) cs0 cs hc hs hb hg
  cases he2
  have hx := hx.head (.one (stepR_block (P := P) (b := b) (a := a) (k := k) (cs := cs) (w := w) (id := id) (c := x)))
  obtain ⟨ρ1, a1, w1, cs1, g1, g2, g3, g4, g5⟩ := hx
  cases e with
  | normal => exact ⟨.normal, s1, rfl, ρ1, a1, w1, cs1, g1, g2, g3, g4, g5.trans (.one stepR_inBlock)⟩
  | exit i =>
    obtain ⟨k', q1, q2⟩ := g5
    simp only
    cases hid : Nat.beq i id with
    | true =>
      have hid := Nat.eq_of_beq_eq_true hid
      subst hid
      rw [exitTo_same] at q1
      exact ⟨.normal, s1, rfl, ρ1, a1, w1, cs1, g1, g2, g3, g4, q2.trans (.one (stepR_exit q1))⟩
    | false =>
      have hid : id ≠ i := fun e => by subst e; simp at hid
      rw [exitTo_other hid] at q1
      exact ⟨.exit i, s1, rfl, ρ1, a1, w1, cs1, g1, g2, g3, g4, k', q1, q2⟩
  | ret => exact ⟨.ret, s1, rfl, ρ1, a1, w1, cs1, g1, g2, g3, g4, g5⟩
  | panic ch => exact ⟨.panic ch, s1, rfl, ρ1, a1, w1, cs1, g1, g2, g3, g4, g5⟩

noncomputable def wpS (P : Program) (C : Ctx) (rd : Option Nat) (c : Code) : (Ex → St → Prop) → St → Prop :=
  Code.rec (motive := fun _ => (Ex → St → Prop) → St → Prop)
    (fun Q s => Q .normal s)
    (fun _ ops draw Q s => match draw with
      | false => opsW P C ops.toList (fun tm h => Q .normal ⟨tm, s.df, s.up, h⟩) ops.toList s.tm s.hp
      | true => drawW P C ops.toList (fun tm h => Q .normal ⟨tm, s.df, s.up, h⟩) ops.toList 0 s.tm s.hp [] [])
    (fun _ _ iha ihb Q s => iha (fun e s1 => match e with | .normal => ihb Q s1 | e => Q e s1) s)
    (fun c _ _ iha ihb Q s => condW c s (iha Q) (ihb Q))
    (fun id _ ih Q s => ih (fun e s1 => match e with | .exit i => (match Nat.beq i id with | true => Q .normal s1 | false => Q (.exit i) s1) | e => Q e s1) s)
    (fun _ _ _ _ => False) (fun _ _ _ _ _ _ _ _ => False)
    (fun id Q s => Q (.exit id) s)
    (fun _ _ _ _ => False)
    (fun _ Q s => Q .normal s)
    (fun _ _ _ => False)
    (fun Q s => Q .ret s)
    (fun _ _ _ => False) c
theorem wpS_ok (HC : CtxT P C) (hng : C.ng ≤ bigLow) {rd : Option Nat} : ∀ (c : Code) (Q : Ex → St → Prop) (s : St), wpS P C rd c Q s → ∃ e s', Q e s' ∧ TOk P C (.ex rd c s) (.ex e s') := by
  intro c
  induction c with
  | skip => intro Q s w; exact ⟨_, _, w, skip_ok fun b a k cs w => stepR_skip⟩
  | label l => intro Q s w; exact ⟨_, _, w, skip_ok fun b a k cs w => stepR_label⟩
  | region id ops draw =>
    intro Q s w
    cases draw with
    | false =>
      obtain ⟨tm', h', q, ht⟩ := opsW_ok (P := P) HC ops.toList s.tm s.hp (K := fun tm h => Q .normal ⟨tm, s.df, s.up, h⟩) w
      exact ⟨_, _, q, opsRegion_ok (ht rd s.df s.up)⟩
    | true =>
      obtain ⟨tm', h', q, ht⟩ := drawW_ok (P := P) (C := C) (all := ops.toList) (K := fun tm h => Q .normal ⟨tm, s.df, s.up, h⟩) ops.toList 0 s.tm s.hp [] [] w
      exact ⟨_, _, q, region_ok HC hng (ht rd s.df s.up)⟩
  | seq a b iha ihb =>
    intro Q s w
    obtain ⟨e, s1, q, t⟩ := iha _ s w
    cases e with
    | normal => obtain ⟨e2, s2, q2, t2⟩ := ihb Q s1 q; exact ⟨e2, s2, q2, seqS t t2⟩
    | exit i => exact ⟨_, _, q, seqS' (by simp) t⟩
    | ret => exact ⟨_, _, q, seqS' (by simp) t⟩
    | panic ch => exact ⟨_, _, q, seqS' (by simp) t⟩
  | cond c a b iha ihb =>
    intro Q s w
    replace w : condW c s (wpS P C rd a Q) (wpS P C rd b Q) := w
    unfold condW at w
    split at w
    · rename_i d
      split at w
      · rename_i t ht
        have hev : ev 0 s.tm (.tmp d) = some (.bool t) := by simp only [ev, getO_eq]; exact ht
        cases t with
        | true =>
          have := w.1 rfl
          rw [T.set_same ht] at this
          obtain ⟨e, s1, q, t1⟩ := iha Q _ this
          exact ⟨e, s1, q, condS hev (fun _ => t1) (fun h => by cases h)⟩
        | false =>
          have := w.2 rfl
          rw [T.set_same ht] at this
          obtain ⟨e, s1, q, t1⟩ := ihb Q _ this
          exact ⟨e, s1, q, condS hev (fun h => by cases h) (fun _ => t1)⟩
      · exact w.elim
    · exact w.elim
  | block id b ihb =>
    intro Q s w
    obtain ⟨e, s1, q, t⟩ := ihb _ s w
    refine ⟨_, s1, ?_, blockS t⟩
    cases e with
    | exit i =>
      simp only at q ⊢
      cases hid : Nat.beq i id with
      | true => rw [hid] at q; exact q
      | false => rw [hid] at q; exact q
    | normal => exact q
    | ret => exact q
    | panic ch => exact q
  | exit id => intro Q s w; exact ⟨_, _, w, exit_ok⟩
  | ret => intro Q s w; exact ⟨_, _, w, ret_ok⟩
  | loop b _ => intro Q s w; exact w.elim
  | rangeFunc f ps a b _ _ => intro Q s w; exact w.elim
  | scope b _ => intro Q s w; exact w.elim
  | goto l => intro Q s w; exact w.elim
  | refuse x => intro Q s w; exact w.elim

/-- a function without loops, done in its place -/
theorem CallW.inline (HF : CtxF P C) (hng : C.ng = 0) {g n : Nat} {res : List ResultVar} {c : Code} (hft : C.ft.get g = some (.body n res c)) {args : List Value} {h : H} {K : Value → H → Prop}
    (w : wpS P C none c (RetW C res K) ⟨initT n args, [], none, h⟩) : CallW P C g args h K := by
  obtain ⟨e, s1, q, t⟩ := wpS_ok (P := P) HF.tt (by rw [hng]; exact Nat.zero_le _) _ _ _ w
  have hfin : finW C res K s1 := by
    cases e with
    | normal => exact q
    | ret => exact q
    | exit i => exact q.elim
    | panic ch => exact q.elim
  unfold finW at hfin
  split at hfin
  · rename_i v h' hg
    refine ⟨v, h', ?_, hfin⟩
    refine fn_call HF hft (TB.of t ?_)
    have hf : finW C res (fun v1 h1 => v1 = v ∧ h1 = h') s1 := by unfold finW; rw [hg]; exact ⟨rfl, rfl⟩
    cases e with
    | normal => exact hf
    | ret => exact hf
    | exit i => exact q.elim
    | panic ch => exact q.elim
  · exact hfin.elim
end
end Go.Ai
namespace Go.Ai
section
variable {P : Program} {C : Ctx}
theorem nxW_of {r : R Nx} {f : Value → H → Prop} {g : R Nx → Prop} {v : Value} {h : H} (e : r = some (.val v h)) (k : f v h) : nxW0.match_1 (motive := fun _ => Prop) r f g := by subst e; exact k
def I (p : Nat) : Value := .int .i64 p
theorem oneC_map (S : List Nat) : (S.map I).all oneC = true := by
  rw [List.all_eq_true]; intro v hv; obtain ⟨x, _, rfl⟩ := List.mem_map.1 hv; rfl
/-! ### operations on rows of unknown length -/
theorem app_val {c : Call} {tm : T Value} {h h' : H} {t xt : TypeId} {sV xV v : Value} (hargs : evs C.ng tm c.args.toList = some [sV, xV]) (hcal : c.callee = .builtin .append) (hats : c.argTypes.toList = [t, xt]) (e : aAppend C t xt sV xV h = some (v, h')) :
    aOp (.call c) C tm h = some (.val v h') := by
  simp only [aOp, opCall, bnd_some]
  refine ⟨_, hargs, ?_⟩
  rw [hcal]
  simp only [aBuiltin, hats, bnd_some, valH, ok_some]
  exact ⟨_, e, rfl⟩
theorem aAppend_cells {t xt e : TypeId} {ti xi ei : TI} {a : Addr} {len c n fam fz : Nat} {cs new : List Value} {xV : Value} {h : H} (hti : tinfo C t = some ti) (hd : ti.desc = .slice e) (hxi : tinfo C xt = some xi) (hsrc : isSrc xi.desc = true) (hei : tinfo C e = some ei) (hu : u8T ei = false)
    (hx : srcCells h ei.size xV = some (n, new)) (hn : 0 < n) (hone : new.all oneC = true) (hsm : (len + n) * (ei.bytes + 1) ≤ 1099511627776) (hk : isK c = false) (hb : h.bl.get a.block = some (.cells cs e fam fz)) (hc : c = ucap ei.size) (hle : a.off + len * ei.size ≤ cs.length) (hfz : fzle fz (a.off + len * ei.size) = true) :
    aAppend C t xt (.slice (some a) len c) xV h = some (.slice (some (atNew h)) (len + n) c, moveTo h a.block (.cells (cut cs a.off (len * ei.size) ++ new) e fam (fzcut fz a.off)) fam) := by
  simp only [aAppend, bnd_some, need_some]
  refine ⟨ti, hti, xi, hxi, hsrc, ?_⟩
  rw [hd]
  simp only [bnd_some]
  refine ⟨ei, hei, ?_⟩
  rw [hu]
  simp only [bnd_some, need_some, Bool.and_eq_true]
  refine ⟨(n, new), hx, ⟨Nat.ble_eq_true_of_le hsm, hone⟩, ?_⟩
  obtain ⟨m, rfl⟩ : ∃ m, n = m + 1 := ⟨n - 1, by omega⟩
  simp only [appendC, hk, hb, need_some, Bool.and_eq_true, ok_some]
  exact ⟨⟨by rw [hc]; exact Nat.beq_refl _, Nat.beq_refl _, Nat.ble_eq_true_of_le hle, hfz⟩, trivial⟩
theorem fzle_zero (o : Nat) : fzle 0 o = true := by unfold fzle; exact Nat.ble_eq_true_of_le (Nat.zero_le _)
end
end Go.Ai
namespace Go.Ai
section
variable {P : Program} {C : Ctx}
theorem idx_val {t : TypeId} {x i : Operand} {tm : T Value} {h : H} {ti ei : TI} {e : TypeId} {a : Addr} {n c : Nat} {k : IntKind} {m : Int} (j : Nat) (hx : ev C.ng tm x = some (.slice (some a) n c)) (hi : ev C.ng tm i = some (.int k m)) (hti : tinfo C t = some ti) (hd : ti.desc = .slice e) (hei : tinfo C e = some ei) (hm : m = j) (hj : j < n) :
    aOp (.indexAddr t x i) C tm h = some (.val (.pointer (some (a.add (j * ei.size)))) h) := by
  subst hm
  simp only [aOp, opIndexAddr, bnd_some]
  refine ⟨_, hx, _, hi, _, ?_, rfl⟩
  simp only [aIndexAddr, bnd_some, intOf, ok_some]
  refine ⟨_, rfl, ti, hti, ?_⟩
  rw [hd]
  show bnd (tinfo C e) _ = _
  simp only [bnd_some, need_some, ok_some]
  exact ⟨ei, hei, Nat.ble_eq_true_of_le hj, rfl⟩
theorem load_val {t : TypeId} {x : Operand} {tm : T Value} {h : H} {ti : TI} {a : Addr} {cs : List Value} {e : TypeId} {fam fz : Nat} {v : Value} (hx : ev C.ng tm x = some (.pointer (some a))) (hti : tinfo C t = some ti) (hb : h.bl.get a.block = some (.cells cs e fam fz)) (hle : a.off + ti.size ≤ cs.length) (hv : ofCells ti (cut cs a.off ti.size) = some v) :
    aOp (.load t x) C tm h = some (.val v h) := by
  simp only [aOp, opLoad, bnd_some]
  refine ⟨_, hx, a, rfl, ti, hti, cut cs a.off ti.size, ?_, v, hv, rfl⟩
  simp only [loadC, hb, need_some, ok_some]
  exact ⟨Nat.ble_eq_true_of_le hle, trivial⟩
theorem slice_val {t : TypeId} {ti ei : TI} {e : TypeId} {a : Addr} {n c : Nat} {lo hi : Option Value} (l h : Nat) (hti : tinfo C t = some ti) (hd : ti.desc = .slice e) (hei : tinfo C e = some ei) (hk : isK c = false) (hc : c = ucap ei.size)
    (hlo : (∃ k, lo = some (.int k (l : Nat))) ∨ (lo = none ∧ l = 0)) (hhi : (∃ k, hi = some (.int k (h : Nat))) ∨ (hi = none ∧ h = n)) (h1 : l ≤ h) (h2 : h ≤ n) :
    aSlice C t (.slice (some a) n c) lo hi none = some (.slice (some (a.add (l * ei.size))) (h - l) c) := by
  simp only [aSlice, bnd_some]
  refine ⟨ti, hti, ?_⟩
  rw [hd]
  show bnd (tinfo C e) _ = _
  simp only [bnd_some]
  refine ⟨ei, hei, ?_⟩
  rw [hk]
  show sliceU a n c ei.size lo hi none = _
  simp only [sliceU, need_some, bnd_some, ok_some]
  refine ⟨by rw [hc]; exact Nat.beq_refl _, n, rfl, h, ?_, l, ?_, rfl⟩
  · have := boundW (x := hi) (n := (h : Int)) (d := n) (y := n) (by rcases hhi with h | ⟨h, e⟩; exact .inl h; exact .inr ⟨h, by omega⟩) (by omega) (by omega)
    simpa using this
  · have := boundW (x := lo) (n := (l : Int)) (d := 0) (y := h) (by rcases hlo with h | ⟨h, e⟩; exact .inl h; exact .inr ⟨h, by omega⟩) (by omega) (by omega)
    simpa using this
end
end Go.Ai
namespace Go.Ai
theorem T.get_set_eq {α : Type} : ∀ (t : T α) (k : Nat) (x : α) (y : Option α), t.get k = some x → (t.set k y).get k = y
  | .e, k, x, y, h => by simp at h
  | .n v l r, 0, x, y, h => rfl
  | .n v l r, k + 1, x, y, h => by
    rw [T.get_succ] at h
    rw [T.set_succ]
    by_cases hk : k % 2 = 0
    · rw [if_pos hk] at h
      rw [if_pos hk, T.get_succ, if_pos hk]
      exact T.get_set_eq l _ x y h
    · rw [if_neg hk] at h
      rw [if_neg hk, T.get_succ, if_neg hk]
      exact T.get_set_eq r _ x y h
section
variable {P : Program} {C : Ctx}
/-- what is known of memory, numbered anew, holds of any memory that bears it -/
theorem HR_ren {ρ : Mp} {h : H} {w : World} (r : HR ρ h w) {L : List Nat} {t : T Blk} {low : Nat} (hh : HeapRn L L.length t h L 0) (hk : keysB L.length t (fun k => k) = true) (hL : L.Nodup) : HR (ρ.ren (nth L) L.length) ⟨t, L.length, low⟩ w := by
  have key : ∀ c x, t.get c = some x → c < L.length ∧ ∃ y, h.bl.get (nth L c) = some y ∧ BlkRn (nth L) L.length x y ∧ famOf c x ≤ c ∧ (famOf c x = c → famOf (nth L c) y = nth L c) := by
    intro c x hx
    have hlt := keysB_ok hk c x hx
    refine ⟨hlt, ?_⟩
    have hg : L[c]? = some (nth L c) := by
      unfold nth
      rw [List.getD_eq_getElem?_getD, List.getElem?_eq_getElem hlt]; rfl
    have := HeapRn_ok hh c (nth L c) hg x (by simpa using hx)
    simpa using this
  have hren : ∀ c p, ρ.ren (nth L) L.length c = some p → c < L.length ∧ ρ (nth L c) = some p := by
    intro c p hc
    unfold Mp.ren at hc
    split at hc
    · exact ⟨by assumption, hc⟩
    · cases hc
  refine ⟨?_, ?_, ?_, ?_, ?_, ?_⟩
  · intro c p hc
    obtain ⟨g1, g2⟩ := hren c p hc
    exact ⟨g1, (r.dom _ _ g2).2⟩
  · intro c x hx; exact (key c x hx).1
  · intro c x p hx hp
    obtain ⟨_, y, hy, hb, _⟩ := key c x hx
    obtain ⟨_, hp'⟩ := hren c p hp
    have hbr := r.con _ y p hy hp'
    unfold BlkRn at hb
    split at hb
    · rename_i cs e fam fz cs' e' fam' fz'
      obtain ⟨⟨rfl, rfl⟩, hb⟩ := hb
      cases hbr with
      | cells hw hn hl hc hf =>
        rcases hb with ⟨⟨rest, rfl⟩, hfl⟩ | hb
        · exact .cells hw hn (by simp at hl; omega) (fun j v hv => by
            obtain ⟨v', k1, k2⟩ := hc j v (by rw [List.getElem?_append_left (List.getElem?_eq_some_iff.1 hv).1]; exact hv)
            have hfv := hfl v (List.mem_of_getElem? hv)
            rw [← VR_flat_eq 3 v hfv k2] at k1
            exact ⟨v, k1, flat_VR _ _ _ hfv⟩) hf
        · have hlen : ∀ (l l1 : List Value), rnL (rnV (nth L) L.length 3) l = some l1 → l.length = l1.length ∧ ∀ (j : Nat) (v : Value), l[j]? = some v → ∃ v1, l1[j]? = some v1 ∧ rnV (nth L) L.length 3 v = some v1 := by
            intro l
            induction l with
            | nil => intro l1 h; cases h; exact ⟨rfl, fun j v h => by simp at h⟩
            | cons x l ih =>
              intro l1 h
              have h : (match rnV (nth L) L.length 3 x with | some v' => (match rnL (rnV (nth L) L.length 3) l with | some l' => some (v' :: l') | none => none) | none => none) = some l1 := h
              split at h
              · rename_i x1 hx1
                split at h
                · rename_i l2 hl2
                  cases h
                  obtain ⟨e1, e2⟩ := ih _ hl2
                  refine ⟨by simp [e1], fun j v hj => ?_⟩
                  cases j with
                  | zero => simp at hj; subst hj; exact ⟨x1, rfl, hx1⟩
                  | succ j => exact e2 j v (by simpa using hj)
                · cases h
              · cases h
          obtain ⟨e1, e2⟩ := hlen _ _ hb
          exact .cells hw hn (by rw [e1]; exact hl) (fun j v hv => by
            obtain ⟨v1, k0, k00⟩ := e2 j v hv
            obtain ⟨v', k1, k2⟩ := hc j v1 k0
            exact ⟨v', k1, rnV_ok 3 _ _ _ k00 k2⟩) hf
    · obtain ⟨⟨rfl, rfl⟩, rfl⟩ := hb
      cases hbr with | bytes hw hn hl hc hf => exact .bytes hw hn hl hc hf
    · obtain ⟨rfl, rfl⟩ := hb
      cases hbr with | iter hw ho => exact .iter hw ho
    · subst hb
      cases hbr with | defd hw => exact .defd hw
    · exact hb.elim
  · intro c c' x x' p p' hx hx' hp hp' he
    obtain ⟨_, y, hy, _⟩ := key c x hx
    obtain ⟨_, y', hy', _⟩ := key c' x' hx'
    obtain ⟨g1, g2⟩ := hren c p hp
    obtain ⟨g1', g2'⟩ := hren c' p' hp'
    have := r.inj _ _ _ _ _ _ hy hy' g2 g2' he
    unfold nth at this
    rw [List.getD_eq_getElem?_getD, List.getD_eq_getElem?_getD, List.getElem?_eq_getElem g1, List.getElem?_eq_getElem g1'] at this
    simp only [Option.getD_some] at this
    exact (List.getElem_inj hL).1 this
  · intro c x hx; exact (key c x hx).2.choose_spec.2.2.1
  · intro c x p hx hp hf
    obtain ⟨_, y, hy, _, _, hf2⟩ := key c x hx
    obtain ⟨_, hp'⟩ := hren c p hp
    exact r.own _ y p hy hp' (hf2 hf)

/-- a call that turns some blocks of plain values, and nothing else, wherever these lie -/
theorem call_frame (hng : C.ng = 0) {g : Nat} {args args1 : List Value} {v : Value} {L : List Nat} {t t' : T Blk} {low low' cc' : Nat} (hc : CallOk P C g args ⟨t, L.length, low⟩ (.ret v ⟨t', cc', low'⟩)) (hv : flat 3 v = true)
    {h h1 : H} (ha : rnL (rnV (nth L) L.length 3) args = some args1) (hh : HeapRn L L.length t h L 0) (hk : keysB L.length t (fun k => k) = true) (hL : L.Nodup)
    (hctr : h1.ctr = h.ctr) (hlow : h1.low = 0) (hout : ∀ b, (∀ j x0, j < L.length → t.get j = some x0 → nth L j ≠ b) → h1.bl.get b = h.bl.get b)
    (hin : ∀ j x0, j < L.length → t.get j = some x0 → ∃ cs cs' e fam fz fam1, h.bl.get (nth L j) = some (.cells cs e fam fz) ∧ t'.get j = some (.cells cs' e fam1 fz) ∧ h1.bl.get (nth L j) = some (.cells cs' e fam fz) ∧ ∀ v ∈ cs', flat 3 v = true) : CallOk P C g args1 h (.ret v h1) := by
  classical
  intro ρ w args' cs hva hr hg
  have r1 := HR_ren (low := low) hr hh hk hL
  have hva1 : VRs (ρ.ren (nth L) L.length) args args' := rnL_ok (fun a b c hab hbc => rnV_ok 3 a b c hab hbc) ha hva
  rcases hc _ w args' cs hva1 r1 (fun g hg => by rw [hng] at hg; exact absurd hg (Nat.not_lt_zero _)) with ⟨v1, h2, ρ1, v', w', he, k2, k3, k4, k5⟩ | ⟨_, _, _, _, _, he, _⟩
  case inr => cases he
  cases he
  have hveq := VR_flat_eq 3 _ hv k2
  subst hveq
  have hren : ∀ c p, ρ.ren (nth L) L.length c = some p → c < L.length ∧ ρ (nth L c) = some p := by
    intro c p hc
    unfold Mp.ren at hc
    split at hc
    · exact ⟨by assumption, hc⟩
    · cases hc
  let lv : Nat → Prop := fun b => ∃ j x0, j < L.length ∧ t.get j = some x0 ∧ nth L j = b
  -- what lies elsewhere is as it was
  have keep : ∀ k, k < w.heap.size → (∀ b x p, lv b → h.bl.get b = some x → ρ b = some p → p.blk ≠ k) → w'.heap[k]? = w.heap[k]? := by
    intro k hlt hne
    refine k4.keep k hlt fun b x p hx hp hpk => ?_
    obtain ⟨g1, g2⟩ := hren b p hp
    obtain ⟨cs, cs', e, fam, fz, _, q1, _⟩ := hin b x g1 hx
    exact absurd hpk (hne _ _ p ⟨b, x, g1, hx, rfl⟩ q1 g2)
  have hout' : ∀ b, ¬ lv b → h1.bl.get b = h.bl.get b := fun b hb => hout b fun j x0 hj hx e => hb ⟨j, x0, hj, hx, e⟩
  -- each block of h1 was there, of the same kind
  have back : ∀ b x, h1.bl.get b = some x → ∃ x0, h.bl.get b = some x0 ∧ famOf b x0 = famOf b x := by
    intro b x hx
    by_cases hb : lv b
    · obtain ⟨j, x0, hj, hx0, rfl⟩ := hb
      obtain ⟨cs, cs', e, fam, fz, _, q1, _, q3, _⟩ := hin j x0 hj hx0
      rw [q3] at hx; cases hx
      exact ⟨_, q1, rfl⟩
    · rw [hout' b hb] at hx; exact ⟨x, hx, rfl⟩
  have hr' : HR ρ h1 w' := by
    refine ⟨?_, ?_, ?_, ?_, ?_, ?_⟩
    · intro b p hb; rw [hctr]; exact ⟨(hr.dom b p hb).1, Nat.lt_of_lt_of_le (hr.dom b p hb).2 k4.size⟩
    · intro b x hx; obtain ⟨x0, h0, _⟩ := back b x hx; rw [hctr]; exact hr.big b x0 h0
    · intro b x p hx hp
      by_cases hb : lv b
      · obtain ⟨j, x0, hj, hx0, rfl⟩ := hb
        obtain ⟨cs, cs', e, fam, fz, fam1, q1, q2, q3, q5⟩ := hin j x0 hj hx0
        rw [q3] at hx; cases hx
        have hp1 : ρ1 j = some p := k4.le _ _ (ren_at hj hp)
        have := k3.con j _ p q2 hp1
        cases this with
        | cells hw hn hl hc hf =>
          exact .cells hw hn hl (fun i u hu => by
            obtain ⟨u', z1, z2⟩ := hc i u hu
            have hfu := q5 u (List.mem_of_getElem? hu)
            rw [← VR_flat_eq 3 u hfu z2] at z1
            exact ⟨u, z1, flat_VR _ _ _ hfu⟩) hf
      · rw [hout' b hb] at hx
        refine (hr.con b x p hx hp).mono (Mp.le_refl _) (keep _ (hr.dom b p hp).2 fun c y q hc hy hq he => ?_)
        have := hr.inj _ _ _ _ _ _ hy hx hq hp he
        exact hb (this ▸ hc)
    · intro b b' x x' p p' hx hx' hp hp' he
      obtain ⟨x0, h0, _⟩ := back b x hx
      obtain ⟨x0', h0', _⟩ := back b' x' hx'
      exact hr.inj _ _ _ _ _ _ h0 h0' hp hp' he
    · intro b x hx; obtain ⟨x0, h0, e⟩ := back b x hx; rw [← e]; exact hr.fam b x0 h0
    · intro b x p hx hp hf; obtain ⟨x0, h0, e⟩ := back b x hx; exact hr.own b x0 p h0 hp (e.trans hf)
  refine .inl ⟨v, h1, ρ, v, w', rfl, flat_VR _ _ _ hv, hr', ?_, k5⟩
  refine { le := Mp.le_refl _, ctr := by rw [hctr]; exact Nat.le_refl _, low := by rw [hlow]; exact Nat.zero_le _, os := k4.os, tape := k4.tape, output := k4.output, size := k4.size, new := fun _ _ h => .inl h, keep := ?_, back := ?_, abs := ?_, full := ?_ }
  · intro k hlt hall
    refine keep k hlt fun b x p _ hx hp hpk => ?_
    have := hall _ x p hx hp hpk
    rw [hlow] at this
    exact absurd this (Nat.not_lt_zero _)
  · intro b x p hx hp _
    obtain ⟨x0, h0, e⟩ := back b x hx
    exact ⟨b, x0, p, h0, hp, rfl, e⟩
  · intro b hb hall
    cases hx : h.bl.get b with
    | some x => have := hall x hx; rw [hlow] at this; exact absurd this (Nat.not_lt_zero _)
    | none =>
      by_cases hm : lv b
      · obtain ⟨j, x0, hj, hx0, rfl⟩ := hm
        obtain ⟨_, _, _, _, _, _, q1, _⟩ := hin j x0 hj hx0
        rw [hx] at q1; cases q1
      · rw [hout' b hm, hx]
  · intro b x _ h1' h2'; rw [hctr] at h2'; exact absurd h2' (Nat.not_lt.2 h1')

/-- memory in which one block of plain values lies -/
def hOne (cs : List Value) (e : TypeId) (low : Nat) : H := ⟨tree8 none (some (.cells cs e 0 0)) none none none none none none, 2, low⟩
theorem frameG (hng : C.ng = 0) {g : Nat} {args : List Value} {v : Value} {cs cs' : List Value} {e : TypeId} {low : Nat} {h' : H} {fam' : Nat} (hc : CallOk P C g args (hOne cs e low) (.ret v h')) (hg' : h'.bl.get 1 = some (.cells cs' e fam' 0)) (hv : flat 3 v = true)
    (hf : ∀ v ∈ cs, flat 3 v = true) (hf' : ∀ v ∈ cs', flat 3 v = true) {h : H} {B fam : Nat} {args1 : List Value} (hb : h.bl.get B = some (.cells cs e fam 0)) (ha : rnL (rnV (nth [B + 1, B]) 2 3) args = some args1) :
    CallOk P C g args1 h (.ret v ⟨h.bl.set B (some (.cells cs' e fam 0)), h.ctr, 0⟩) := by
  have h1 : ∀ j x0, (tree8 none (some (.cells cs e 0 0)) none none none none none none : T Blk).get j = some x0 → j = 1 ∧ x0 = .cells cs e 0 0 := by
    intro j x0 hx
    have hlt := keysB_ok (cc := 2) (f := fun k => k) (t := tree8 none (some (.cells cs e 0 0)) none none none none none none) rfl j x0 hx
    rcases (by omega : j = 0 ∨ j = 1) with rfl | rfl
    · cases hx
    · cases hx; exact ⟨rfl, rfl⟩
  refine call_frame hng (L := [B + 1, B]) hc hv ha ⟨trivial, ?_, trivial⟩ rfl (by simp) rfl rfl ?_ ?_
  · show (match h.bl.get B with | some y => BlkRn (nth [B + 1, B]) 2 (.cells cs e 0 0) y ∧ ((famOf 1 (Blk.cells cs e 0 0) ≤ 1) ∧ (famOf 1 (Blk.cells cs e 0 0) = 1 → famOf B y = B)) | none => False)
    rw [hb]
    exact ⟨⟨⟨rfl, rfl⟩, .inl ⟨⟨[], by simp⟩, hf⟩⟩, Nat.zero_le _, fun h => (nomatch h)⟩
  · intro b hne
    exact T.get_set_ne _ _ fun e => hne 1 _ (by simp) rfl e.symm
  · intro j x0 _ hx
    obtain ⟨rfl, rfl⟩ := h1 j x0 hx
    exact ⟨cs, cs', e, fam, 0, fam', hb, hg', T.get_set_eq _ _ _ _ hb, hf'⟩
theorem frame1 (hng : C.ng = 0) {g : Nat} {args : List Value} {v : Value} {cs cs' : List Value} {e : TypeId} {low low' : Nat} (hc : CallOk P C g args (hOne cs e low) (.ret v (hOne cs' e low'))) (hv : flat 3 v = true)
    (hf : ∀ v ∈ cs, flat 3 v = true) (hf' : ∀ v ∈ cs', flat 3 v = true) {h : H} {B fam : Nat} {args1 : List Value} (hb : h.bl.get B = some (.cells cs e fam 0)) (ha : rnL (rnV (nth [B + 1, B]) 2 3) args = some args1) :
    CallOk P C g args1 h (.ret v ⟨h.bl.set B (some (.cells cs' e fam 0)), h.ctr, 0⟩) := frameG hng hc rfl hv hf hf' hb ha
/-- what came beside the one block is let go -/
theorem drop1 (hng : C.ng = 0) {g : Nat} {args : List Value} {v : Value} {cs cs' : List Value} {e : TypeId} {low fam' : Nat} {h' : H} (hc : CallOk P C g args (hOne cs e low) (.ret v h')) (hg' : h'.bl.get 1 = some (.cells cs' e fam' 0)) (hv : flat 3 v = true)
    (hf : ∀ v ∈ cs, flat 3 v = true) (hf' : ∀ v ∈ cs', flat 3 v = true) (ha : rnL (rnV (nth [2, 1]) 2 3) args = some args) : CallOk P C g args (hOne cs e 0) (.ret v (hOne cs' e 0)) :=
  frameG hng hc hg' hv hf hf' (h := hOne cs e 0) (B := 1) (fam := 0) rfl ha
end
end Go.Ai
namespace Go.Ai
open Go.Sort (swp)
/-! ### rows of pairs -/
structure PP where
  a : Nat
  b : Nat
  h : a < 4611686018427387904
instance : Inhabited PP := ⟨⟨0, 0, by decide⟩⟩
def ltP (x y : PP) : Bool := decide (x.a < y.a)
def encP (x : PP) : List Value := [I x.a, I x.b]
def flatL (l : List PP) : List Value := l.flatMap encP
def flatA (d : Array PP) : List Value := flatL d.toList
theorem flatL_len : ∀ l : List PP, (flatL l).length = l.length * 2
  | [] => rfl
  | x :: l => by
    show (encP x ++ flatL l).length = _
    rw [List.length_append, flatL_len l]; simp [encP]; omega
theorem flatA_len (d : Array PP) : (flatA d).length = d.size * 2 := by unfold flatA; rw [flatL_len]; simp
theorem cut_flatL : ∀ (l : List PP) (i : Nat) (h : i < l.length), cut (flatL l) (i * 2) 2 = encP l[i]
  | x :: l, 0, _ => by simp [cut, flatL, encP]
  | x :: l, i + 1, h => by
    have ih := cut_flatL l i (by simpa using h)
    have e : flatL (x :: l) = I x.a :: I x.b :: flatL l := rfl
    rw [e]
    unfold cut at *
    rw [show (i + 1) * 2 = i * 2 + 1 + 1 by omega]
    simpa using ih
theorem cut_flatA {d : Array PP} {i : Nat} (h : i < d.size) : cut (flatA d) (i * 2) 2 = encP d[i]! := by
  unfold flatA
  rw [cut_flatL d.toList i (by simpa using h)]
  rw [getElem!_pos d i h]
  simp
theorem splice_flatL : ∀ (l : List PP) (i : Nat) (x : PP), i < l.length → splice (flatL l) (i * 2) (encP x) = flatL (l.set i x)
  | y :: l, 0, x, _ => by simp [splice, flatL, encP]
  | y :: l, i + 1, x, h => by
    have ih := splice_flatL l i x (by simpa using h)
    have e : ∀ l, flatL (y :: l) = I y.a :: I y.b :: flatL l := fun _ => rfl
    rw [List.set_cons_succ, e, e, ← ih]
    unfold splice
    rw [show (i + 1) * 2 = i * 2 + 1 + 1 by omega]
    simp [encP]
theorem splice_flatA {d : Array PP} {i : Nat} (x : PP) (h : i < d.size) : splice (flatA d) (i * 2) (encP x) = flatA (d.setIfInBounds i x) := by
  unfold flatA
  rw [splice_flatL d.toList i x (by simpa using h)]
  simp
theorem flatA_flat (d : Array PP) : ∀ v ∈ flatA d, flat 3 v = true := by
  intro v hv
  unfold flatA flatL at hv
  rw [List.mem_flatMap] at hv
  obtain ⟨x, _, hx⟩ := hv
  simp [encP] at hx
  rcases hx with rfl | rfl <;> rfl
theorem swp_size (d : Array PP) (i j : Nat) : (swp d i j).size = d.size := by simp [swp]
section
variable {P : Program} {C : Ctx}
theorem store_val {t : TypeId} {x y : Operand} {tm : T Value} {h : H} {ti : TI} {a : Addr} {cs : List Value} {e : TypeId} {fam fz : Nat} {v : Value} (hx : ev C.ng tm x = some (.pointer (some a))) (hy : ev C.ng tm y = some v) (hti : tinfo C t = some ti) (hl : (vcells v).length = ti.size) (hb : h.bl.get a.block = some (.cells cs e fam fz))
    (hle : a.off + (vcells v).length ≤ cs.length) (hfz : fzle fz a.off = true) (h1 : (vcells v).all oneC = true) :
    aOp (.store t x y) C tm h = some (.val undef (put h a.block (.cells (splice cs a.off (vcells v)) e fam fz) fam)) := by
  simp only [aOp, opStore, bnd_some, need_some, ok_some]
  refine ⟨_, hx, a, rfl, v, hy, ti, hti, by rw [hl]; exact Nat.beq_refl _, _, ?_, rfl⟩
  simp only [storeC, hb, need_some, Bool.and_eq_true, ok_some]
  exact ⟨⟨Nat.ble_eq_true_of_le hle, hfz, h1⟩, trivial⟩
end
end Go.Ai
namespace Go.Ai
open Go.Sort (swp)
theorem cut_flatA0 {d : Array PP} {i : Nat} (h : i < d.size) : cut (flatA d) (0 + i * 2) 2 = encP d[i]! := by rw [Nat.zero_add]; exact cut_flatA h
theorem splice_flatA0 {d : Array PP} {i : Nat} (x : PP) (h : i < d.size) : splice (flatA d) (0 + i * 2) (encP x) = flatA (d.setIfInBounds i x) := by rw [Nat.zero_add]; exact splice_flatA x h
def V2P (x : PP) : Value := .agg ⟨encP x⟩
theorem len0 {d : Array PP} {i : Nat} (h : i < d.size) : 0 + i * 2 + 2 ≤ (flatA d).length := by rw [flatA_len]; omega
theorem pair_val {d : Array PP} {i : Nat} (h : i < d.size) : some (Value.agg ⟨cut (flatA d) (0 + i * 2) 2⟩) = some (V2P d[i]!) := congrArg (fun cs => some (Value.agg ⟨cs⟩)) (cut_flatA0 h)
end Go.Ai
namespace Go.Ai
open Go.Sort (swp)
section
variable {P : Program} {C : Ctx}
theorem idx_pair {t : TypeId} {x i : Operand} {tm : T Value} {h : H} {ti ei : TI} {e : TypeId} {b n c : Nat} {k : IntKind} {m : Int} (j : Nat) (hx : ev C.ng tm x = some (.slice (some ⟨b, 0, none⟩) n c)) (hi : ev C.ng tm i = some (.int k m)) (hti : tinfo C t = some ti) (hd : ti.desc = .slice e) (hei : tinfo C e = some ei) (hs : ei.size = 2) (hm : m = j) (hj : j < n) :
    aOp (.indexAddr t x i) C tm h = some (.val (.pointer (some ⟨b, j * 2, none⟩)) h) := by
  rw [idx_val j hx hi hti hd hei hm hj, hs]
  simp [Addr.add]
  try omega
theorem load_pair {t : TypeId} {x : Operand} {tm : T Value} {h : H} {ti : TI} {e : TypeId} {b fam fz : Nat} (d : Array PP) (i : Nat) (hx : ev C.ng tm x = some (.pointer (some ⟨b, i * 2, none⟩))) (hti : tinfo C t = some ti) (hs : ti.size = 2) (hag : ti.agg = true) (hb : h.bl.get b = some (.cells (flatA d) e fam fz)) (hi : i < d.size) :
    aOp (.load t x) C tm h = some (.val (V2P d[i]!) h) := by
  refine load_val hx hti hb (by rw [hs, flatA_len]; simp only; omega) ?_
  rw [hs, cut_flatA hi]
  unfold ofCells
  rw [hag]
  rfl
theorem store_pair {t : TypeId} {x y : Operand} {tm : T Value} {h : H} {ti : TI} {e : TypeId} {b fam : Nat} (d : Array PP) (i : Nat) (z : PP) (hx : ev C.ng tm x = some (.pointer (some ⟨b, i * 2, none⟩))) (hy : ev C.ng tm y = some (V2P z)) (hti : tinfo C t = some ti) (hs : ti.size = 2) (hb : h.bl.get b = some (.cells (flatA d) e fam 0)) (hi : i < d.size) :
    aOp (.store t x y) C tm h = some (.val undef (put h b (.cells (flatA (d.setIfInBounds i z)) e fam 0) fam)) := by
  have := store_val (C := C) (cs := flatA d) hx hy hti (by rw [hs]; rfl) hb (by rw [flatA_len]; show i * 2 + 2 ≤ _; omega) (fzle_zero _) rfl
  rw [this, ← splice_flatA z hi]
  rfl
theorem store_one {t : TypeId} {x y : Operand} {tm : T Value} {ti : TI} {e : TypeId} (d : Array PP) (i : Nat) (z : PP) (hx : ev C.ng tm x = some (.pointer (some ⟨1, i * 2, none⟩))) (hy : ev C.ng tm y = some (V2P z)) (hti : tinfo C t = some ti) (hs : ti.size = 2) (hi : i < d.size) :
    aOp (.store t x y) C tm (hOne (flatA d) e 0) = some (.val undef (hOne (flatA (d.setIfInBounds i z)) e 0)) :=
  store_pair (b := 1) (fam := 0) d i z hx hy hti hs rfl hi
theorem load_one {t : TypeId} {x : Operand} {tm : T Value} {ti : TI} {e : TypeId} (d : Array PP) (i : Nat) (hx : ev C.ng tm x = some (.pointer (some ⟨1, i * 2, none⟩))) (hti : tinfo C t = some ti) (hs : ti.size = 2) (hag : ti.agg = true) (hi : i < d.size) :
    aOp (.load t x) C tm (hOne (flatA d) e 0) = some (.val (V2P d[i]!) (hOne (flatA d) e 0)) :=
  load_pair (b := 1) (fam := 0) (fz := 0) d i hx hti hs hag rfl hi
end
end Go.Ai
namespace Go.Ai
theorem rV_of {r : R Value} {f : Value → Prop} {g : Unit → Prop} {v : Value} (e : r = some v) (k : f v) : valW.match_1 (fun _ => Prop) r f (fun _ => g ()) := by subst e; exact k
theorem quo_nat {C : Ctx} {t : TypeId} {ox oy : Operand} {a b : Int} (p q : Nat) (ha : a = p) (hb : b = q) (hq : 0 < q) (hp : p < 9223372036854775808) :
    aBin C .quo t ox oy (.int .i64 a) (.int .i64 b) = some (I (p / q)) := by
  subst ha; subst hb
  have h1 : aBin C .quo t ox oy (.int .i64 p) (.int .i64 q) = plain (pureOf (binOp .quo t (.int .i64 p) (.int .i64 q))) := rfl
  have hq0 : ¬ ((q : Int) = 0) := by omega
  have hd : (p : Int).tdiv q = ((p / q : Nat) : Int) := rfl
  have hlt : p / q < 9223372036854775808 := Nat.lt_of_le_of_lt (Nat.div_le_self _ _) hp
  have hw : IntKind.wrap .i64 ((p / q : Nat) : Int) = ((p / q : Nat) : Int) := by
    revert hlt
    generalize p / q = r
    intro hlt
    exact inK_i64 (by omega)
  rw [h1]
  simp only [binOp, Op.intDiv, hd, hw, if_neg hq0, ne_eq, not_true_eq_false, if_false]
  rfl
theorem wquo {x y : Int} (p q : Nat) (hx : x = p) (hy : y = q) (hp : p < 9223372036854775808) : IntKind.wrap .i64 (Int.tdiv x y) = ((p / q : Nat) : Int) := by
  subst hx; subst hy
  have hd : (p : Int).tdiv q = ((p / q : Nat) : Int) := rfl
  have hlt : p / q < 9223372036854775808 := Nat.lt_of_le_of_lt (Nat.div_le_self _ _) hp
  rw [hd]
  revert hlt
  generalize p / q = r
  intro hlt
  exact inK_i64 (by omega)
end Go.Ai
namespace Go.Ai
section
variable {P : Program} {C : Ctx} {h0 : H}
/-! ### cuts: what stands between two parts of a code is said once -/
theorem fn_tb (HF : CtxF P C) {g n : Nat} {res : List ResultVar} {c : Code} (hft : C.ft.get g = some (.body n res c)) {args : List Value} {h h' : H} {v : Value}
    (w : TB P C h none c ⟨initT n args, [], none, h⟩ (RetW C res fun v1 h1 => v1 = v ∧ h1 = h')) : CallOk P C g args h (.ret v h') := fn_call HF hft w
theorem tb_wp (HC : CtxT P C) (hng : C.ng = 0) {rd : Option Nat} {c : Code} {Q : Ex → St → Prop} {s : St} (w : wpC P C h0 rd c Q s) : TB P C h0 rd c s Q := wpC_ok HC (by rw [hng]; exact Nat.zero_le _) _ _ _ w
theorem cut_at {rd : Option Nat} {x y : Code} {s : St} {Q : Ex → St → Prop} {Y : Type} (canon : Y → St) (Post : Y → Prop)
    (h1 : TB P C h0 rd x s fun e s1 => match e with | .normal => ∃ z, Post z ∧ Weak C h0 rd (canon z) s1 | e => Q e s1)
    (h2 : ∀ z, Post z → TB P C h0 rd y (canon z) Q) : TB P C h0 rd (.seq x y) s Q := by
  refine TB.seq (h1.mono ?_)
  intro e s1 h
  cases e with
  | normal => obtain ⟨z, hz, hw⟩ := h; exact TB.weak hw (h2 z hz)
  | _ => exact h
theorem loopT {rd : Option Nat} {c : Code} {Q : Ex → St → Prop} {X : Type} (canon : X → St) (x : X) {s : St} (hw : Weak C h0 rd (canon x) s) (m : X → Nat) (Pre : X → Prop) (hpre : Pre x)
    (hbody : ∀ x, Pre x → TB P C h0 rd c (canon x) (fun e s' => match e with | .normal => ∃ x', Pre x' ∧ Weak C h0 rd (canon x') s' ∧ m x' < m x | e => Q e s')) : TB P C h0 rd (.loop c) s Q :=
  TB.loop canon m Pre hbody hpre hw
end
end Go.Ai
namespace Go.Ai
section
variable {P : Program} {C : Ctx}
/-- a call that leads from plain values to a plain value where nothing is known of memory does so everywhere -/
theorem pure_of (hng : C.ng = 0) {g d k : Nat} {args : List Value} {v : Value} {h' : H} (c : CallOk P C g args (h00 d) (.ret v h')) (hargs : args.all (flat k) = true) (hfl : flat k v = true) : ∀ h, CallOk P C g args h (.ret v h) := by
  intro h ρ w args' cs hv hh hg
  have := flats_eq' hargs hv
  subst this
  rcases c Mp.none w args cs (flats_VRk hargs) (HR.none d w) (fun g hg => by rw [hng] at hg; exact absurd hg (Nat.not_lt_zero _)) with ⟨v1, h1, ρ1, v', w', he, k2, k3, k4, k5⟩ | ⟨_, _, _, _, _, he, _⟩
  case inr => cases he
  cases he
  have := VR_flat_eq k _ hfl k2
  subst this
  have hkeep : ∀ k, k < w.heap.size → w'.heap[k]? = w.heap[k]? := fun k hk => k4.keep k hk fun b x p _ hp => by cases hp
  exact .inl ⟨v, h, ρ, v, w', rfl, flat_VR _ _ _ hfl, hh.keepw k4.size hkeep, Ext.keepw k4.os k4.tape k4.output k4.size hkeep, k5⟩
theorem pure_go (HF : CtxF P C) (hng : C.ng = 0) {n g d k : Nat} {args : List Value} {v : Value} {h' : H} (hgo : go C n (.call g args (h00 d)) = some (.ret v h')) (hargs : args.all (flat k) = true) (hfl : flat k v = true) : ∀ h, CallOk P C g args h (.ret v h) :=
  pure_of hng (sound HF (by rw [hng]; exact Nat.zero_le _) n _ _ hgo) hargs hfl
/-- what a run gives, where it gives a number -/
noncomputable def numOf (r : R Out) : Option (IntKind × Int) := match r with | some (.ret (.int k n) _) => some (k, n) | _ => none
theorem numOf_ok {r : R Out} {k : IntKind} {n : Int} (h : numOf r = some (k, n)) : ∃ h', r = some (.ret (.int k n) h') := by
  unfold numOf at h
  split at h
  · cases h; exact ⟨_, rfl⟩
  · cases h
/-- numbers below m, one by one -/
noncomputable def allTo (p : Nat → Bool) (m : Nat) : Bool := Nat.rec (motive := fun _ => Bool) true (fun k ih => p k && ih) m
theorem allTo_ok {p : Nat → Bool} : ∀ {m : Nat}, allTo p m = true → ∀ i, i < m → p i = true
  | 0, _, i, hi => absurd hi (Nat.not_lt_zero _)
  | m + 1, h, i, hi => by
    have h : (p m && allTo p m) = true := h
    rw [Bool.and_eq_true] at h
    by_cases e : i = m
    · subst e; exact h.1
    · exact allTo_ok h.2 i (by omega)
theorem and_le (x y : Int) (m : Nat) (hy : y = m) (hm : m < 18446744073709551616) : (BitVec.ofInt 64 x &&& BitVec.ofInt 64 y).toNat ≤ m := by
  subst hy
  rw [BitVec.toNat_and]
  refine Nat.le_trans Nat.and_le_right ?_
  have : (BitVec.ofInt 64 (m : Int)).toNat = m := by simp; omega
  rw [this]
  exact Nat.le_refl _
theorem inK_u64 {n : Int} (h : 0 ≤ n ∧ n < 18446744073709551616) : inK .u64 n := by
  unfold inK
  show (if (false && decide (n % 18446744073709551616 ≥ 9223372036854775808)) = true then n % 18446744073709551616 - 18446744073709551616 else n % 18446744073709551616) = n
  rw [if_neg (by simp)]
  exact Int.emod_eq_of_lt h.1 h.2
end
end Go.Ai
namespace Go.Ai
section
variable {P : Program} {C : Ctx} {h0 : H}
theorem LB.mono {rd : Option Nat} {c : Code} {s : St} {Q Q' : Ex → St → Prop} (x : LB P C h0 rd c s Q) (h : ∀ e s, Q e s → Q' e s) : LB P C h0 rd c s Q' := by
  intro ρ0 w0 ρ a w b k cs0 cs h1 h2 h3 h4 h5 h6
  obtain ⟨e, s', q, hx⟩ := x ρ0 w0 ρ a w b k cs0 cs h1 h2 h3 h4 h5 h6
  exact ⟨e, s', h e s' q, hx⟩
/-- the first loop in some code -/
noncomputable def loopIn : Code → Option Code
  | .seq a b => match loopIn a with | some x => some x | none => loopIn b
  | .block _ b => loopIn b
  | .loop b => some b
  | .cond _ a b => match loopIn a with | some x => some x | none => loopIn b
  | _ => none
noncomputable def loopBd (c : Code) : Code := match loopIn c with | some x => x | none => .skip
/-- what a function without results gives -/
noncomputable def endQ (C : Ctx) (h' : H) : Ex → St → Prop := fun e s => match e with
  | .ret => finW C [] (fun v1 h1 => v1 = .tuple #[] ∧ h1 = h') s
  | _ => False
end
end Go.Ai
namespace Go.Ai
section
variable {P : Program} {C : Ctx}
/-- memory with one more row of plain cells -/
noncomputable def moreC (h : H) (cs : List Value) (e : TypeId) : H := ⟨h.bl.set (nrmN (h.ctr + 1)) (some (.cells cs e h.ctr 0)), nrmN (nrmN (h.ctr + 1) + 1), h.low⟩
/-- a call that leads from plain values to a row of plain cells, where nothing is known of memory, does so everywhere -/
theorem alloc_of (hng : C.ng = 0) {g d k n c fam b : Nat} {args cs : List Value} {e : TypeId} {h1 : H} (cc : CallOk P C g args (h00 d) (.ret (.slice (some ⟨b, 0, none⟩) n c) h1)) (hargs : args.all (flat k) = true)
    (hb : h1.bl.get b = some (.cells cs e fam 0)) (hf : ∀ v ∈ cs, flat 3 v = true) : ∀ h, CallOk P C g args h (.ret (.slice (some ⟨nrmN (h.ctr + 1), 0, none⟩) n c) (moreC h cs e)) := by
  intro h ρ w args' fs hv hh hg
  have := flats_eq' hargs hv
  subst this
  rcases cc Mp.none w args fs (flats_VRk hargs) (HR.none d w) (fun g hg => by rw [hng] at hg; exact absurd hg (Nat.not_lt_zero _)) with ⟨v1, h2, ρ1, v', w', he, k2, k3, k4, k5⟩ | ⟨_, _, _, _, _, he, _⟩
  case inr => cases he
  cases he
  have hkeep : ∀ k, k < w.heap.size → w'.heap[k]? = w.heap[k]? := fun k hk => k4.keep k hk fun b x p _ hp => by cases hp
  cases k2 with
  | @sl _ _ _ _ cap a p hp hl hc ha =>
    have hfresh : w.heap.size ≤ p.blk := by
      rcases Nat.lt_or_ge p.blk w.heap.size with hlt | hge
      · obtain ⟨b0, x0, p0, g1, _⟩ := k4.back b _ p hb hp hlt
        rw [h00_get] at g1; cases g1
      · exact hge
    have hbr := k3.con b _ p hb hp
    have hdom := (k3.dom b p hp).2
    have hn : ρ (h.ctr + 1) = none := by
      cases hc : ρ (h.ctr + 1) with
      | none => rfl
      | some p => exact absurd (hh.dom _ _ hc).1 (by omega)
    have hm : moreC h cs e = ⟨h.bl.set (h.ctr + 1) (some (.cells cs e h.ctr 0)), h.ctr + 1 + 1, h.low⟩ := by unfold moreC; rw [nrmN_eq, nrmN_eq]
    rw [hm, nrmN_eq]
    have hgt : ∀ b y, (h.bl.set (h.ctr + 1) (some (.cells cs e h.ctr 0))).get b = some y → (b = h.ctr + 1 ∧ y = .cells cs e h.ctr 0) ∨ (b ≠ h.ctr + 1 ∧ h.bl.get b = some y) := by
      intro b y hy
      rcases T.get_set _ _ _ _ _ hy with ⟨e1, e2⟩ | ⟨e1, e2⟩
      · cases e2; exact .inl ⟨e1, rfl⟩
      · exact .inr ⟨e1, e2⟩
    have hput : ∀ b q, (ρ.put (h.ctr + 1) p) b = some q → (b = h.ctr + 1 ∧ q = p) ∨ (b ≠ h.ctr + 1 ∧ ρ b = some q) := by
      intro b q hq
      unfold Mp.put at hq
      split at hq
      · rename_i e1; cases hq; exact .inl ⟨e1, rfl⟩
      · rename_i e1; exact .inr ⟨e1, hq⟩
    have hat : (ρ.put (h.ctr + 1) p) (h.ctr + 1) = some p := by unfold Mp.put; rw [if_pos rfl]
    have hnew : BR (ρ.put (h.ctr + 1) p) w' p (.cells cs e h.ctr 0) := by
      cases hbr with
      | cells hw hn hl hc hf' => exact .cells hw hn hl (fun j v hv => by
          obtain ⟨v', z1, z2⟩ := hc j v hv
          have hfv := hf v (List.mem_of_getElem? hv)
          rw [← VR_flat_eq 3 v hfv z2] at z1
          exact ⟨v, z1, flat_VR _ _ _ hfv⟩) hf'
    refine .inl ⟨_, _, ρ.put (h.ctr + 1) p, .slice (some a) n cap, w', rfl, .sl hat hl hc ha, ⟨?_, ?_, ?_, ?_, ?_, ?_⟩, ?_, k5⟩
    · intro b q hq
      rcases hput b q hq with ⟨rfl, rfl⟩ | ⟨_, hq⟩
      · exact ⟨by simp only; omega, hdom⟩
      · have := hh.dom b q hq
        exact ⟨by simp only; omega, Nat.lt_of_lt_of_le this.2 k4.size⟩
    · intro b y hy
      rcases hgt b y hy with ⟨rfl, _⟩ | ⟨_, hy⟩
      · simp only; omega
      · have := hh.big b y hy
        simp only; omega
    · intro b y q hy hq
      rcases hgt b y hy with ⟨rfl, rfl⟩ | ⟨hne, hy⟩
      · rcases hput _ q hq with ⟨_, rfl⟩ | ⟨h2, _⟩
        · exact hnew
        · exact absurd rfl h2
      · rcases hput b q hq with ⟨h2, _⟩ | ⟨_, hq⟩
        · exact absurd h2 hne
        · exact (hh.con b y q hy hq).mono (Mp.le_put hn) (hkeep _ (hh.dom b q hq).2)
    · intro b b' y y' q q' hy hy' hq hq' he
      rcases hgt b y hy with ⟨rfl, rfl⟩ | ⟨hne, hy⟩
      · rcases hgt b' y' hy' with ⟨rfl, _⟩ | ⟨hne', hy'⟩
        · rfl
        · rcases hput _ q hq with ⟨_, rfl⟩ | ⟨h2, _⟩
          · rcases hput _ q' hq' with ⟨h3, _⟩ | ⟨_, hq'⟩
            · exact absurd h3 hne'
            · have := (hh.dom _ _ hq').2; omega
          · exact absurd rfl h2
      · rcases hput _ q hq with ⟨h3, _⟩ | ⟨_, hq1⟩
        · exact absurd h3 hne
        · have hq := hq1
          rcases hgt b' y' hy' with ⟨rfl, _⟩ | ⟨hne', hy'⟩
          · rcases hput _ q' hq' with ⟨_, rfl⟩ | ⟨h3, _⟩
            · have := (hh.dom _ _ hq1).2; omega
            · exact absurd rfl h3
          · rcases hput _ q' hq' with ⟨h3, _⟩ | ⟨_, hq'⟩
            · exact absurd h3 hne'
            · exact hh.inj _ _ _ _ _ _ hy hy' hq hq' he
    · intro b y hy
      rcases hgt b y hy with ⟨rfl, rfl⟩ | ⟨hne, hy⟩
      · exact Nat.le_succ _
      · exact hh.fam b y hy
    · intro b y q hy hq hfm
      rcases hgt b y hy with ⟨rfl, rfl⟩ | ⟨hne, hy⟩
      · have : h.ctr = h.ctr + 1 := hfm
        omega
      · rcases hput _ q hq with ⟨h3, _⟩ | ⟨_, hq⟩
        · exact absurd h3 hne
        · exact hh.own b y q hy hq hfm
    · refine { le := Mp.le_put hn, ctr := by simp only; omega, low := Nat.le_refl _, os := k4.os, tape := k4.tape, output := k4.output, size := k4.size, new := ?_, keep := fun k hk _ => hkeep k hk, back := ?_, abs := ?_, full := ?_ }
      · intro b q hq
        rcases hput b q hq with ⟨rfl, _⟩ | ⟨_, hq⟩
        · exact .inr (Nat.le_succ _)
        · exact .inl hq
      · intro b y q hy hq hlt
        rcases hgt b y hy with ⟨rfl, rfl⟩ | ⟨hne, hy⟩
        · rcases hput _ q hq with ⟨_, rfl⟩ | ⟨h3, _⟩
          · omega
          · exact absurd rfl h3
        · rcases hput _ q hq with ⟨h3, _⟩ | ⟨_, hq⟩
          · exact absurd h3 hne
          · exact ⟨b, y, q, hy, hq, rfl, rfl⟩
      · intro b hb _
        exact T.get_set_ne _ _ (by omega)
      · intro b y hy h1 h2
        rcases hgt b y hy with ⟨rfl, _⟩ | ⟨hne, hy⟩
        · exact ⟨p, hat⟩
        · have := hh.big b y hy
          omega
end
end Go.Ai
namespace Go.Ai
section
variable {P : Program} {C : Ctx}
/-- a contract over plain values, as a call -/
theorem calls_of (hng : C.ng = 0) {d g k : Nat} {args : List Value} {v : Value} {h' : H} (hc : CallOk P C g args (h00 d) (.ret v h')) {fn : Func} {c : Code} (hf : P.funcs[g]? = some fn) (hname : (fn.name == "runtime.NumGoroutine") = false) (hb : fn.body = some c)
    (hargs : args.all (flat k) = true) (hfl : flat k v = true) (w : World) : Calls P g args.toArray w fun e w' => e = .returned v ∧ Go.RowKit.Below w.heap.size w w' := by
  intro cs
  have hen := run_callFunc_body (P := P) hf hname hb args.toArray w
  rcases hc Mp.none w args cs (flats_VRk hargs) (HR.none d w) (fun g hg => by rw [hng] at hg; exact absurd hg (Nat.not_lt_zero _)) with ⟨v1, h1, ρ', v', w', e1, e2, e3, e4, e5⟩ | ⟨ch, h1, ρ', ch', w', e1, _⟩
  · cases e1
    have hv := VR_flat_eq k _ hfl e2
    subst hv
    rcases e5 with e5 | ⟨_, fr, s1, s2, s3⟩
    · have e5 := hen.symm.trans e5
      cases e5
    · exact ⟨.returned v, w', fr, ⟨rfl, e4.below fun b x p _ hp => by cases hp⟩, s1, s2, s3⟩
  · cases e1
end
end Go.Ai
