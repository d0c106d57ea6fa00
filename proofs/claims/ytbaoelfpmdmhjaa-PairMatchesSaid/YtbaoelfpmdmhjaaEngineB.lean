/- The executor is sound: operations and control. No condition. -/
import Derived.Test.YtbaoelfpmdmhjaaEngineA
import Derived.Deep.AppendSrc
import Derived.Deep.Upon
import Derived.AtR
import Derived.Recover
import Derived.RangeFuncLeaves
namespace Go.Ai
open Go.MapKept (IsKey run_checkKey run_findKey sameBits_self)
section
variable {P : Program} {C : Ctx} {ρ : Mp} {h : H} {w : World} {tm : T Value} {a : Act}

theorem opStore_ok (HC : CtxT P C) (ht : TmR ρ tm a.tmps) (hg : GlR C.ng ρ) (r : HR ρ h w) {t : TypeId} {x y : Operand} {n : Nx} (ho : opStore t x y C tm h = some n) :
    Done ρ h w n ((do Instr.storeAt t (a.eval x) (a.eval y); pure Next.skip : Sem Next).run P w) := by
  simp only [opStore, bnd_some, need_some, ok_some] at ho
  obtain ⟨x0, h1, A, h2, y0, h3, ti, h4, h5, h', h6, rfl⟩ := ho
  have T := HC.tt _ ti (tinfo_some.1 h4)
  obtain ⟨b, o, p, rfl, rfl, hp, hx⟩ := addrOf_ok (ev_ok ht hg h1) h2
  have hy := (ev_ok ht hg h3).vcells
  obtain ⟨w', k1, k2, k3⟩ := storeC_ok (P := P) r hp hy h6
  have h5 := Nat.eq_of_beq_eq_true h5
  have hl := hy.length
  refine done_unit ?_ k2 k3
  rw [hx]
  have hsz : (a.eval y).cells.size = ti.size := by rw [← h5, hl]; simp
  simp [Instr.storeAt, Instr.sureAddr, storeVar, T.run_size, hsz, k1]

/-! ### objects that are no rows -/
theorem setObj_ok (r : HR ρ h w) {b : Nat} {x y : Blk} {p : Pl} (hb : h.bl.get b = some x) (hp : ρ b = some p) (hf : famOf b y = famOf b x) (o o0 : Obj) (ho : w.heap[p.blk]? = some o0) (hc : ∀ c e f, o0 ≠ .cells c e f) (hy : ∀ w' : World, w'.heap[p.blk]? = some o → BR ρ w' p y) :
    ∃ w', (setObj p.blk o).run P w = .ok () w' ∧ HR ρ (put h b y (famOf b x)) w' ∧ Ext ρ h w ρ (put h b y (famOf b x)) w' := by
  have hlt : p.blk < w.heap.size := (Array.getElem?_eq_some_iff.1 ho).1
  refine ⟨{ w with heap := w.heap.setIfInBounds p.blk o }, ?_, ?_⟩
  · simp only [setObj, Sem.run, ho]
    all_goals (cases o0 <;> first | rfl | exact absurd rfl (hc _ _ _))
  · exact put_ok r hb hp hf ⟨rfl, rfl, rfl, by simp, fun j hj => by simp [Ne.symm hj]⟩ (hy _ (by simp [hlt]))

theorem EnsR.length {es es' : List MapEntry} (he : EnsR ρ es es') : es'.length = es.length := by
  induction he with
  | nil => rfl
  | cons _ _ _ ih => simp [ih]
theorem EnsR.modify {k v v' : Value} (hk : VR ρ k k) (hv : VR ρ v v') : ∀ {es es' : List MapEntry} (i : Nat), EnsR ρ es es' → EnsR ρ (es.modify i fun e => { e with key := k, val := v }) (es'.modify i fun e => { e with key := k, val := v' })
  | _, _, i, .nil => by simp; exact .nil
  | _, _, 0, .cons h1 h2 hs => by simp only [List.modify_zero_cons]; exact .cons hv hk hs
  | _, _, i + 1, .cons h1 h2 hs => by simp only [List.modify_succ_cons]; exact .cons h1 h2 (hs.modify hk hv i)
theorem EnsR.push {k v v' : Value} {n : Nat} (hk : VR ρ k k) (hv : VR ρ v v') : ∀ {es es' : List MapEntry}, EnsR ρ es es' → EnsR ρ (es ++ [{ key := k, val := v, born := n }]) (es' ++ [{ key := k, val := v', born := n }])
  | _, _, .nil => .cons hv hk .nil
  | _, _, .cons h1 h2 hs => .cons h1 h2 (hs.push hk hv)
theorem EnsR.eraseIdx : ∀ {es es' : List MapEntry} (i : Nat), EnsR ρ es es' → EnsR ρ (es.eraseIdx i) (es'.eraseIdx i)
  | _, _, i, .nil => by simp; exact .nil
  | _, _, 0, .cons h1 h2 hs => by simpa using hs
  | _, _, i + 1, .cons h1 h2 hs => by simp only [List.eraseIdx_cons_succ]; exact .cons h1 h2 (hs.eraseIdx i)
theorem EnsR.at {es es' : List MapEntry} (he : EnsR ρ es es') : ∀ (i : Nat) (e : MapEntry), es[i]? = some e → ∃ e', es'[i]? = some e' ∧ e'.key = e.key ∧ e'.born = e.born ∧ VR ρ e.val e'.val ∧ VR ρ e.key e.key := by
  induction he with
  | nil => intro i e hi; simp at hi
  | cons h1 h2 hs ih =>
    intro i e hi
    cases i with
    | zero => simp at hi; subst hi; exact ⟨_, rfl, rfl, rfl, h1, h2⟩
    | succ i => simp at hi; obtain ⟨e', k1, k2⟩ := ih i e hi; exact ⟨e', by simpa using k1, k2⟩
theorem EnsR.filter (f : Nat → Bool) {es es' : List MapEntry} (he : EnsR ρ es es') : EnsR ρ (es.filter fun e => f e.born) (es'.filter fun e => f e.born) := by
  induction he with
  | nil => exact .nil
  | @cons k v v' n es es' h1 h2 hs ih =>
    simp only [List.filter_cons]
    cases f n <;> simp
    · exact ih
    · exact .cons h1 h2 ih
theorem EnsR.all (f : Nat → Bool) {es es' : List MapEntry} (he : EnsR ρ es es') : (es.all fun e => f e.born) = (es'.all fun e => f e.born) := by
  induction he with
  | nil => rfl
  | cons h1 h2 hs ih => simp [ih]
theorem EnsR.find (f : Nat → Bool) {es es' : List MapEntry} (he : EnsR ρ es es') {e : MapEntry} (hf : es.find? (fun e => f e.born) = some e) : ∃ e', es'.find? (fun e => f e.born) = some e' ∧ e'.key = e.key ∧ VR ρ e.val e'.val ∧ VR ρ e.key e.key := by
  induction he with
  | nil => simp at hf
  | @cons k v v' n es es' h1 h2 hs ih =>
    simp only [List.find?_cons] at hf ⊢
    cases hfn : f n <;> simp only [hfn] at hf ⊢
    · exact ih hf
    · simp at hf; subst hf; exact ⟨_, rfl, rfl, h1, h2⟩

theorem sameKey_true {k x : Value} (hs : sameKey k x = some true) : x = k := by
  unfold sameKey at hs
  split at hs
  · simp only [need_some, ok_some] at hs
    obtain ⟨h1, h2⟩ := hs
    have h1 := of_decide_eq_true h1
    subst h1
    simp at h2; rw [h2]
  · simp only [ok_some, Go.MapKept.bytes_beq] at hs; rw [hs]
  · simp at hs; rw [hs]
  · simp at hs
theorem plainKey_VR {d : TypeDesc} {k k' : Value} (hk : plainKey d k = true) (hv : VR ρ k k') : VR ρ k k := by
  have := plainKey_eq hk hv; rw [this] at hv; exact hv

theorem update_ok (HC : CtxT P C) (r : HR ρ h w) {t : TypeId} {k v m' k' v' : Value} {b : Nat} {h' : H} (hm : VR ρ (.map (some b)) m') (hk : VR ρ k k') (hv : VR ρ v v') (ho : aUpdate C t k v b h = some h') :
    ∃ w', (Instr.mapUpdate t m' k' v').run P w = .ok () w' ∧ HR ρ h' w' ∧ Ext ρ h w ρ h' w' := by
  simp only [aUpdate, bnd_some, need_some] at ho
  obtain ⟨kd, g1, g2, ec, g3, f, g4, g5⟩ := ho
  obtain ⟨kt, u1, u2⟩ := keyDesc_ok HC g1
  have hkk := plainKey_eq g2 hk
  subst hkk
  have ik := isKey_of g2
  obtain ⟨p, hp, rfl⟩ := hm.map_inv
  obtain ⟨es', k1, k2⟩ := mapAt_ok (r.at' b) hp g3
  obtain ⟨es, c⟩ := ec
  have hgb : h.bl.get b = some (.map es c) := by
    unfold mapAt at g3; split at g3
    · simp at g3; obtain ⟨rfl, rfl⟩ := g3; assumption
    · simp at g3
  obtain ⟨f', f1, f2⟩ := findK_ok g2 k2 g4
  have c1 := run_checkKey (P := P) (w := w) u2 ik false 9999
  have c2 := run_findKey (P := P) (w := w) u2 f1
  cases f2 with
  | none =>
    simp only [ok_some] at g5
    subst g5
    obtain ⟨w', s1, s2, s3⟩ := setObj_ok (P := P) r (y := .map (es ++ [{ key := k', val := v, born := c }]) (c + 1)) hgb hp rfl (.map ((⟨es'⟩ : Array MapEntry).push { key := k', val := v', born := c }) (c + 1)) _ k1 (by simp) (by
      intro w' hw'
      exact .map (es' := es' ++ [{ key := k', val := v', born := c }]) (by simpa using hw') (k2.push hk hv))
    refine ⟨w', ?_, s2, s3⟩
    simp only [Instr.mapUpdate, Sem.run_bind, run_underlying u1, Result.andThen_ok, run_getMap k1, c1, c2]
    exact s1
  | some hv0 =>
    rename_i i v0 v0'
    simp only [ok_some] at g5
    subst g5
    obtain ⟨e, q1, _, q2, q3⟩ := findK_at g4
    obtain ⟨e', q4, q5, q6, q7, q8⟩ := k2.at i e q1
    have hkey : e.key = k' := sameKey_true q3
    obtain ⟨w', s1, s2, s3⟩ := setObj_ok (P := P) r (y := .map (es.modify i fun e => { e with key := k', val := v }) c) hgb hp rfl (.map ((⟨es'⟩ : Array MapEntry).modify i fun e => { e with key := k', val := v' }) c) _ k1 (by simp) (by
      intro w' hw'
      exact .map (es' := es'.modify i fun e => { e with key := k', val := v' }) (by simpa using hw') (k2.modify hk hv i))
    refine ⟨w', ?_, s2, s3⟩
    have hsb : Instr.sameBits 10000 k' k' = true := sameBits_self ik 10000
    simp only [Instr.mapUpdate, Sem.run_bind, run_underlying u1, Result.andThen_ok, run_getMap k1, c1, c2, List.getElem?_toArray, q4, Option.map_some, Option.getD_some, q5, hkey, Instr.keyThatStays, hsb, if_true, Sem.run_pure]
    exact s1
end
end Go.Ai
namespace Go.Ai
open Go.MapKept (IsKey run_checkKey run_findKey sameBits_self)
section
variable {P : Program} {C : Ctx} {ρ : Mp} {h : H} {w : World} {tm : T Value} {a : Act}

theorem opUpdate_ok (HC : CtxT P C) (ht : TmR ρ tm a.tmps) (hg : GlR C.ng ρ) (r : HR ρ h w) {t : TypeId} {m k x : Operand} {n : Nx} (ho : opUpdate t m k x C tm h = some n) :
    Done ρ h w n ((do Instr.mapUpdate t (a.eval m) (a.eval k) (a.eval x); pure Next.skip : Sem Next).run P w) := by
  simp only [opUpdate, bnd_some] at ho
  obtain ⟨m0, h1, k0, h2, x0, h3, h4⟩ := ho
  split at h4
  · simp only [bnd_some, ok_some] at h4
    obtain ⟨h', h5, rfl⟩ := h4
    obtain ⟨w', k1, k2, k3⟩ := update_ok HC r (ev_ok ht hg h1) (ev_ok ht hg h2) (ev_ok ht hg h3) h5
    exact done_unit k1 k2 k3
  · simp at h4

theorem mapAt_get {m : Nat} {ec : List MapEntry × Nat} (g : mapAt h m = some ec) : h.bl.get m = some (.map ec.1 ec.2) := by
  unfold mapAt at g; split at g
  · simp at g; subst g; assumption
  · simp at g

theorem opNext_ok (ht : TmR ρ tm a.tmps) (hg : GlR C.ng ρ) (r : HR ρ h w) {it : Operand} {isStr : Bool} {ty : TypeId} {n : Nx} (ho : opNext it isStr C tm h = some n) :
    Done ρ h w n ((do pure (Next.value (← Instr.next (a.eval it) isStr ty)) : Sem Next).run P w) := by
  simp only [opNext, bnd_some] at ho
  obtain ⟨v0, h1, h2⟩ := ho
  have hv := ev_ok ht hg h1
  revert hv
  generalize a.eval it = v'
  intro hv
  unfold aNext at h2
  split at h2
  · rename_i b
    obtain ⟨b', o, p, e, hp, rfl⟩ := hv.ptr_inv
    cases e
    split at h2
    · rename_i s pos hgb
      cases r.con _ _ _ hgb hp with
      | iter hw ho0 =>
        have hrun : (getObj p.blk).run P w = .ok (.stringIter s pos) w := by simp [getObj, Sem.run, hw]
        split at h2
        · simp at h2
        · split at h2
          · rename_i hlt
            have hlt : pos < s.size := Nat.le_of_ble_eq_true hlt
            simp at h2; subst h2
            obtain ⟨w', s1, s2, s3⟩ := setObj_ok (P := P) r (y := .iter s (pos + (Utf8.decode s pos).2)) hgb hp rfl (.stringIter s (pos + (Utf8.decode s pos).2)) _ hw (by simp) (fun w' hw' => .iter hw' ho0)
            refine done_of (v' := .tuple #[.bool true, .int .i64 pos, .int .i32 (Utf8.decode s pos).1]) ?_ (.tuple (.cons (.bool _) (.cons (.int _ _) (.cons (.int _ _) .nil)))) s2 s3
            simp only [Instr.next, ho0, Nat.add_zero, Sem.run_bind, hrun, Result.andThen_ok, if_pos hlt, s1]
            rfl
          · rename_i hge
            simp at h2; subst h2
            have hge : ¬ pos < s.size := by
              intro hh; have := Nat.ble_eq_true_of_le (show pos + 1 ≤ s.size from hh); simp [Nat.blt, this] at hge
            refine (pass_of (v' := .tuple #[.bool false]) ?_ (.tuple (.cons (.bool _) .nil))).done r
            simp only [Instr.next, ho0, Nat.add_zero, Sem.run_bind, hrun, Result.andThen_ok, if_neg hge]
            rfl
    · rename_i m since seen last hgb
      cases r.con _ _ _ hgb hp with
      | mapIter hw ho0 hm =>
        rename_i m'
        have hrun : (getObj p.blk).run P w = .ok (.mapIter m' since ⟨seen⟩ last) w := by simp [getObj, Sem.run, hw]
        split at h2
        · simp at h2
        · simp at h2; subst h2
          cases hm
          refine (pass_of (v' := .tuple #[.bool false]) ?_ (.tuple (.cons (.bool _) .nil))).done r
          simp only [Instr.next, ho0, Nat.add_zero, Sem.run_bind, hrun, Result.andThen_ok]
          rfl
        · rename_i m
          simp only [bnd_some, need_some] at h2
          obtain ⟨ec, g1, g2, g3, g4⟩ := h2
          cases hm with
          | @some _ pm hpm =>
          obtain ⟨es', k1, k2⟩ := mapAt_ok (r.at' m) hpm g1
          have hfil := k2.filter (fun b => !seen.contains b)
          have hc1 : (!seen.isEmpty && !es'.isEmpty && es'.all (fun e => decide (e.born ≥ last))) = false := by
            have ha := k2.all (fun b => decide (b ≥ last))
            have hlen := k2.length
            have hemp : es'.isEmpty = ec.1.isEmpty := by cases hes : ec.1 <;> cases hes' : es' <;> simp_all
            rw [hemp, ← ha]
            simp only [Bool.or_eq_true] at g2
            rcases g2 with (g2 | g2) | g2
            · simp [g2]
            · simp [g2]
            · have : (ec.1.all fun e => decide (e.born ≥ last)) = false := by simpa using g2
              rw [this]; simp
          have hallold := hfil.all (fun b => decide (b < since))
          rw [g3] at hallold
          have hold : ((es'.filter fun e => !seen.contains e.born).filter fun e => decide (e.born < since)) = es'.filter fun e => !seen.contains e.born := by
            rw [List.filter_eq_self]
            intro e he
            have := hallold.symm
            rw [List.all_eq_true] at this
            exact this e he
          have hnew : ((es'.filter fun e => !seen.contains e.born).filter fun e => decide (e.born ≥ since)) = [] := by
            rw [List.filter_eq_nil_iff]
            intro e he
            have := hallold.symm
            rw [List.all_eq_true] at this
            have := this e he
            simp at this ⊢
            omega
          have hrun2 := run_getMap (P := P) k1
          have hcond : (!(⟨seen⟩ : Array Nat).isEmpty && !(⟨es'⟩ : Array MapEntry).isEmpty && (⟨es'⟩ : Array MapEntry).all fun x => decide (x.born ≥ last)) = false := by simpa using hc1
          revert hold hnew hfil g4
          generalize hL : (es'.filter fun e => !seen.contains e.born) = L
          generalize hL0 : (ec.1.filter fun e => !seen.contains e.born) = L0
          intro g4 hfil hold hnew
          have f1 : Array.filter (fun e : MapEntry => !(⟨seen⟩ : Array Nat).contains e.born) ⟨es'⟩ = ⟨L⟩ := by
            apply Array.ext'
            simpa using hL
          have f2 : Array.filter (fun e : MapEntry => decide (e.born < since)) ⟨L⟩ = ⟨L⟩ := by
            apply Array.ext'
            simpa using hold
          have f3 : Array.filter (fun e : MapEntry => decide (e.born ≥ since)) ⟨L⟩ = #[] := by
            apply Array.ext'
            simpa using hnew
          simp only [Instr.next, ho0, Nat.add_zero, Sem.run_bind, hrun, Result.andThen_ok, hrun2, hcond, Bool.false_eq_true, if_false, f1, f2, f3]
          cases hfil with
          | nil =>
            simp at g4; subst g4
            refine ⟨_, h, ρ, w, .value (.tuple #[.bool false]), .tuple #[.bool false], rfl, ?_, .inl rfl, .tuple (.cons (.bool _) .nil), r, Ext.refl _ _ _⟩
            simp [Question.forced]
          | @cons k v v' bn t t' v1 v2 v3 =>
            cases v3 with
            | cons _ _ _ => simp at g4
            | nil =>
              simp at g4; subst g4
              obtain ⟨w', s1, s2, s3⟩ := setObj_ok (P := P) r (y := .mapIter (some m) since (seen ++ [bn]) ec.2) hgb hp rfl (.mapIter (some pm.blk) since ((⟨seen⟩ : Array Nat).push bn) ec.2) _ hw (by simp) (fun w' hw' => .mapIter (m' := some pm.blk) (by simpa using hw') ho0 (.some hpm))
              refine ⟨_, _, ρ, w', .value (.tuple #[.bool true, k, v']), .tuple #[.bool true, k, v'], rfl, ?_, .inl rfl, .tuple (.cons (.bool _) (.cons v2 (.cons v1 .nil))), s2, s3⟩
              simp only [List.push_toArray] at s1
              simp [Question.forced, s1]
    · simp at h2
  · simp at h2

theorem opEntry_ok (ht : TmR ρ tm a.tmps) (hg : GlR C.ng ρ) (r : HR ρ h w) {it : Operand} {n : Nx} (ho : opEntry it C tm h = some n) :
    Pass P ρ h w n ((do pure (Next.value (← Instr.entry (a.eval it))) : Sem Next).run P w) := by
  simp only [opEntry, bnd_some, val_some] at ho
  obtain ⟨v0, h1, v, h2, rfl⟩ := ho
  have hv := ev_ok ht hg h1
  revert hv
  generalize a.eval it = v'
  intro hv
  unfold aEntry at h2
  split at h2
  · rename_i b
    obtain ⟨b', o, p, e, hp, rfl⟩ := hv.ptr_inv
    cases e
    split at h2
    · rename_i m since seen stepped hgb
      simp only [bnd_some, need_some, ok_some, getO_eq] at h2
      obtain ⟨ec, g1, g2, st, g3, e, g4, rfl⟩ := h2
      have g2 := Nat.eq_of_beq_eq_true g2
      cases r.con _ _ _ hgb hp with
      | mapIter hw ho0 hm =>
        cases hm with
        | @some _ pm hpm =>
          obtain ⟨es', k1, k2⟩ := mapAt_ok (r.at' m) hpm g1
          obtain ⟨e', e1, e2, e3, e4⟩ := k2.find (fun b => b == st) g4
          have hrun : (getObj p.blk).run P w = .ok (.mapIter (some pm.blk) since ⟨seen⟩ stepped) w := by simp [getObj, Sem.run, hw]
          have hrun2 := run_getMap (P := P) k1
          have hb : (⟨seen⟩ : Array Nat).back? = some st := by rw [Array.back?]; simpa [List.getLast?_eq_getElem?] using g3
          have hfind : (⟨es'⟩ : Array MapEntry).find? (fun x => x.born == st) = some e' := by simpa using e1
          refine pass_of (v' := .tuple #[e'.key, e'.val]) ?_ (.tuple (.cons (by rw [e2]; exact e4) (.cons e3 .nil)))
          simp only [Instr.entry, ho0, Nat.add_zero, Sem.run_bind, hrun, Result.andThen_ok, hb, hrun2, g2, bne_self_eq_false, Bool.false_eq_true, if_false, hfind]
          rfl
    · simp at h2
  · simp at h2
end
end Go.Ai
namespace Go.Ai
open Go.MapKept (IsKey run_checkKey run_findKey sameBits_self)
section
variable {P : Program} {C : Ctx} {ρ : Mp} {h : H} {w : World} {tm : T Value} {a : Act}

theorem erase_toList (es : Array MapEntry) (i : Nat) : (es.eraseIdxIfInBounds i).toList = es.toList.eraseIdx i := by
  unfold Array.eraseIdxIfInBounds
  split
  · simp
  · rename_i hlt; rw [List.eraseIdx_of_length_le (by simpa using hlt)]

theorem delete_ok (HC : CtxT P C) (r : HR ρ h w) {t : TypeId} {ats : Array TypeId} {ty : TypeId} {m k m' k' : Value} {h' : H} (ha : ats[0]? = some t) (hm : VR ρ m m') (hk : VR ρ k k') (ho : aDelete C t m k h = some h') :
    ∃ w', (Builtin.delete_ ats ty #[m', k']).run P w = .ok undef w' ∧ HR ρ h' w' ∧ Ext ρ h w ρ h' w' := by
  simp only [aDelete, bnd_some, need_some] at ho
  obtain ⟨kd, g1, g2, g3⟩ := ho
  obtain ⟨kt, u1, u2⟩ := keyDesc_ok HC g1
  have hkk := plainKey_eq g2 hk
  subst hkk
  have ik := isKey_of g2
  split at g3
  · simp at g3; subst g3
    have := hm.nilMap_inv; subst this
    refine ⟨w, ?_, r, Ext.refl _ _ _⟩
    have c1 := run_checkKey (P := P) (w := w) u2 ik true 9999
    simp only [Builtin.delete_, ha, List.getElem?_toArray, List.getElem?_cons_zero, List.getElem?_cons_succ, Sem.run_bind, run_underlying u1, Result.andThen_ok, c1]
    rfl
  · rename_i b
    obtain ⟨p, hp, rfl⟩ := hm.map_inv
    simp only [bnd_some] at g3
    obtain ⟨ec, g4, f, g5, g6⟩ := g3
    obtain ⟨es', k1, k2⟩ := mapAt_ok (r.at' b) hp g4
    have hgb := mapAt_get g4
    obtain ⟨f', f1, f2⟩ := findK_ok g2 k2 g5
    have c1 := fun e => run_checkKey (P := P) (w := w) u2 ik e 9999
    have c2 := run_findKey (P := P) (w := w) u2 f1
    cases f2 with
    | none =>
      simp only [ok_some] at g6
      subst g6
      obtain ⟨w', s1, s2, s3⟩ := setObj_ok (P := P) r (y := .map ec.1 ec.2) hgb hp rfl (.map ⟨es'⟩ ec.2) _ k1 (by simp) (fun w' hw' => .map hw' k2)
      refine ⟨w', ?_, s2, s3⟩
      simp only [Builtin.delete_, ha, List.getElem?_toArray, List.getElem?_cons_zero, List.getElem?_cons_succ, Sem.run_bind, run_underlying u1, Result.andThen_ok, run_getMap k1, c1, c2, s1]
      rfl
    | some hv0 =>
      rename_i i v0 v0'
      simp only [ok_some] at g6
      subst g6
      obtain ⟨w', s1, s2, s3⟩ := setObj_ok (P := P) r (y := .map (ec.1.eraseIdx i) ec.2) hgb hp rfl (.map ((⟨es'⟩ : Array MapEntry).eraseIdxIfInBounds i) ec.2) _ k1 (by simp) (fun w' hw' => .map (es' := es'.eraseIdx i) (by
        rw [hw']; congr 2; exact Array.ext' (erase_toList _ _)) (k2.eraseIdx i))
      refine ⟨w', ?_, s2, s3⟩
      simp only [Builtin.delete_, ha, List.getElem?_toArray, List.getElem?_cons_zero, List.getElem?_cons_succ, Sem.run_bind, run_underlying u1, Result.andThen_ok, run_getMap k1, c1, c2, s1]
      rfl
  · simp at g3

theorem copy_ok (HC : CtxT P C) (r : HR ρ h w) {t : TypeId} {ats : Array TypeId} {ty : TypeId} {d x d' x' : Value} {q : Value × H} (ha : ats[0]? = some t) (hd : VR ρ d d') (hx : VR ρ x x') (ho : aCopy C t d x h = some q) :
    ∃ w', (Builtin.copy_ ats ty #[d', x']).run P w = .ok q.1 w' ∧ VR ρ q.1 q.1 ∧ HR ρ q.2 w' ∧ Ext ρ h w ρ q.2 w' := by
  simp only [aCopy, bnd_some] at ho
  obtain ⟨ti, g1, g2⟩ := ho
  have T := HC.tt _ ti (tinfo_some.1 g1)
  split at g2
  · rename_i e base dlen c hdd
    simp only [bnd_some] at g2
    obtain ⟨ei, g3, slen, g4, g5⟩ := g2
    have E := HC.tt _ ei (tinfo_some.1 g3)
    obtain ⟨base', dcap, rfl, hbase⟩ : ∃ base' dcap, d' = .slice base' dlen dcap ∧ (∀ b o, base = some ⟨b, o, none⟩ → 0 < dlen → ∃ p, ρ b = some p ∧ base' = some ⟨p.blk, p.off + o, none⟩) := by
      cases base with
      | none => obtain ⟨rfl, rfl, rfl⟩ := hd.nilSl_inv; exact ⟨_, _, rfl, fun _ _ e => by cases e⟩
      | some A =>
        obtain ⟨b, o, p, a', cap, rfl, hp, rfl, hl, hc, ha⟩ := hd.sl_inv
        refine ⟨_, _, rfl, fun b' o' e h0 => ?_⟩
        cases e
        exact ⟨p, hp, by rw [ha.resolve_left (by omega)]⟩
    have hlen : (Builtin.lenOf x').run P w = .ok slen w := by
      split at g4
      · rename_i q n c'
        simp at g4; subst g4
        cases q with
        | none => obtain ⟨rfl, rfl, rfl⟩ := hx.nilSl_inv; rfl
        | some q => obtain ⟨_, _, _, _, _, _, _, rfl, _⟩ := hx.sl_inv; rfl
      · simp at g4; subst g4; rw [hx.string_inv]; rfl
      · simp at g4
    have main : ∀ cs : List Value, (Builtin.firstCells ei.size (Nat.min slen dlen) x').run P w = .ok cs.toArray w → ∀ (W : World), (match base' with | some A => storeCells A cs | none => pure () : Sem Unit).run P w = .ok () W →
        (Builtin.copy_ ats ty #[.slice base' dlen dcap, x']).run P w = .ok (.int .i64 (Nat.min slen dlen : Nat)) W := by
      intro cs hcs W hW
      simp only [Builtin.copy_, ha, List.getElem?_toArray, List.getElem?_cons_zero, List.getElem?_cons_succ, Sem.run_bind, run_underlying (hdd ▸ T.und), Result.andThen_ok, hlen, E.run_size, hcs]
      cases base' with
      | none => cases hW; rfl
      | some A => simp only at hW; simp only [Sem.run_bind, hW, Result.andThen_ok]; rfl
    split at g5
    · rename_i h0
      simp at g5; subst g5
      refine ⟨w, ?_, .int _ _, r, Ext.refl _ _ _⟩
      have := main [] (by
        rw [h0]
        split at g4
        · rename_i q n c'
          cases q with
          | none => obtain ⟨rfl, rfl, rfl⟩ := hx.nilSl_inv; simp [Builtin.firstCells]
          | some q =>
            obtain ⟨_, _, _, _, _, _, _, rfl, _⟩ := hx.sl_inv
            exact run_firstCells_some w ei.size 0 _ _ _ [] (by simp) (by simp)
        · rw [hx.string_inv]; simp [Builtin.firstCells]
        · simp at g4) w (by cases base' <;> rfl)
      rw [h0] at this
      exact this
    · rename_i hne
      simp only [bnd_some] at g5
      obtain ⟨cs, g6, g7⟩ := g5
      cases base with
      | none => simp at g7
      | some A =>
        simp only [bnd_some, ok_some] at g7
        obtain ⟨h', g8, rfl⟩ := g7
        obtain ⟨b, o, p, a', cap, rfl, hp, _⟩ := hd.sl_inv
        have hpos : 0 < Nat.min slen dlen := Nat.pos_of_ne_zero hne
        obtain ⟨p', hp', rfl⟩ := hbase b o rfl (Nat.lt_of_lt_of_le hpos (Nat.min_le_right slen dlen))
        rw [hp] at hp'; cases hp'
        have hcells : ∃ cs', (Builtin.firstCells ei.size (Nat.min slen dlen) x').run P w = .ok cs'.toArray w ∧ VRs ρ cs cs' := by
          split at g6
          · rename_i A n c'
            obtain ⟨b2, o2, p2, a2, cap2, rfl, hp2, rfl, hl2, _, ha2⟩ := hx.sl_inv
            obtain ⟨vs', k1, k2, k3⟩ := loadC_ok (r.at' b2) hp2 g6
            simp at g4; subst g4
            have ha2 := ha2.resolve_left (by have := Nat.lt_of_lt_of_le hpos (Nat.min_le_left n dlen); omega)
            subst ha2
            exact ⟨vs', run_firstCells_some w ei.size _ _ _ _ vs' k2 (fun j v hj => by rw [addr_add]; exact k3 j v hj), k1⟩
          · rename_i s
            simp only [need_some, ok_some] at g6
            obtain ⟨hs1, rfl⟩ := g6
            rw [hx.string_inv]
            refine ⟨(s.data.toList.take (Nat.min slen dlen)).map byteV, ?_, bytes_VRs ρ _⟩
            simp only [Builtin.firstCells, Sem.run_pure]
            congr 1
            apply Array.ext'
            simp
            rfl
          · simp at g6
        obtain ⟨cs', k1, k2⟩ := hcells
        obtain ⟨w', s1, s2, s3⟩ := storeC_ok (P := P) r hp k2 g8
        exact ⟨w', main cs' k1 w' s1, .int _ _, s2, s3⟩
  · simp at g2

theorem freeze_turn (w : World) (k o n : Nat) : Turn k w (w.freeze ⟨k, o, none⟩ n) := by
  unfold World.freeze
  split
  · exact ⟨rfl, rfl, rfl, rfl, fun _ _ => rfl⟩
  · exact ⟨rfl, rfl, rfl, by simp, fun j hj => by simp [Array.getElem?_modify, Ne.symm hj]⟩
theorem freeze_get {w : World} {k o n : Nat} {arr : Array Value} {e : TypeId} {fr : Nat × Nat} (hn : n ≠ 0) (hw : w.heap[k]? = some (.cells arr e fr)) :
    (w.freeze ⟨k, o, none⟩ n).heap[k]? = some (.cells arr e (if fr.1 == fr.2 then (o, o + n) else (min fr.1 o, max fr.2 (o + n)))) := by
  unfold World.freeze
  rw [if_neg hn]
  simp only [Array.getElem?_modify, hw, Option.map_some]
  rfl
theorem freeze_fr {p : Pl} {fz : Nat} {fr : Nat × Nat} (hf : FrOk p fz fr) (h2 : fz % 2 = 0) (o n : Nat) : FrOk p (2 * Nat.max (fz / 2) (o + n)) (if fr.1 == fr.2 then (p.off + o, p.off + o + n) else (min fr.1 (p.off + o), max fr.2 (p.off + o + n))) := by
  left
  have hm1 : fz / 2 ≤ Nat.max (fz / 2) (o + n) := Nat.le_max_left _ _
  have hm2 : o + n ≤ Nat.max (fz / 2) (o + n) := Nat.le_max_right _ _
  generalize Nat.max (fz / 2) (o + n) = M at *
  have hf : fr.2 ≤ p.off + fz / 2 := by
    rcases hf with hf | ⟨hf, _⟩
    · exact hf
    · omega
  split <;> simp only <;> omega

theorem uS_def (ats : Array TypeId) (ty : TypeId) (p : Option Addr) (len_ : Value) : ∃ m1 m2 m3 m4 m5 : String, Builtin.unsafeString_ ats ty #[.pointer p, len_] = (do
  let n ← asInt len_
  let some pt := ats[0]? | stuck m1
  if n < 0 then runtimePanic (.error m2)
  if n > IntKind.i64.max then unsupported (.unsafePointer m3)
  match p with
  | none =>
    if n = 0 then pure (.string .empty)
    else runtimePanic (.error m4)
  | some a =>
    if n = 0 then pure (.string .empty)
    else if ← variablesAt a (← elemOf pt) n.toNat then do
      let s ← loadBytes a .empty n.toNat
      freeze a n.toNat
      pure (.string s)
    else unsupported (.unsafePointer m5)) := ⟨_, _, _, _, _, rfl⟩

theorem unsafeString_ok (HC : CtxT P C) (r : HR ρ h w) {pt : TypeId} {ats : Array TypeId} {ty : TypeId} {pa : Option Addr} {k : IntKind} {n : Nat} {d' x' : Value} {q : Value × H} (ha : ats[0]? = some pt) (hd : VR ρ (.pointer pa) d') (hx : VR ρ (.int k (.ofNat n)) x') (ho : aUnsafeString C pt pa n h = some q) :
    ∃ w', (Builtin.unsafeString_ ats ty #[d', x']).run P w = .ok q.1 w' ∧ VR ρ q.1 q.1 ∧ HR ρ q.2 w' ∧ Ext ρ h w ρ q.2 w' := by
  rw [hx.int_inv]
  have hneg : ¬ (Int.ofNat n < 0) := by simp
  unfold aUnsafeString at ho
  split at ho
  · simp at ho; subst ho
    refine ⟨w, ?_, .string _, r, Ext.refl _ _ _⟩
    have hz : ¬ ((Int.ofNat 0) > IntKind.i64.max) := by decide
    cases pa with
    | none => obtain ⟨_, _, _, _, _, e⟩ := uS_def ats ty none (.int k (.ofNat 0)); rw [hd.nilPtr_inv, e]; simp only [asInt, asIntOf, Sem.run_bind, Sem.run_pure, Result.andThen_ok, ha, Sem.run_ite]; rfl
    | some A => obtain ⟨b, o, p, rfl, hp, rfl⟩ := hd.ptr_inv; obtain ⟨_, _, _, _, _, e⟩ := uS_def ats ty (some ⟨p.blk, p.off + o, none⟩) (.int k (.ofNat 0)); rw [e]; simp only [asInt, asIntOf, Sem.run_bind, Sem.run_pure, Result.andThen_ok, ha, Sem.run_ite]; rfl
  · simp at ho
  · rename_i A n0 hn0
    have hn0 : n ≠ 0 := hn0
    simp only [bnd_some] at ho
    obtain ⟨pi, g1, g2⟩ := ho
    have PI := HC.tt _ pi (tinfo_some.1 g1)
    split at g2
    · rename_i pe hpe
      simp only [bnd_some, need_some, Bool.and_eq_true] at g2
      obtain ⟨ei, g3, ⟨g4, g4'⟩, g5⟩ := g2
      have hmax : n ≤ 9223372036854775807 := Nat.le_of_ble_eq_true g4'
      simp only [u8T, Bool.and_eq_true] at g4
      have hsz : ei.size = 1 := Nat.eq_of_beq_eq_true g4.2
      have hcell : P.cellsOf pe = 1 := by rw [cellsOf_eq HC g3, hsz]
      obtain ⟨b, o, p, rfl, hp, rfl⟩ := hd.ptr_inv
      have main : ∀ (bs : List UInt8) (arr : Array Value) (fr : Nat × Nat), bs.length = n → w.heap[p.blk]? = some (.cells arr pe fr) → p.off + o + n ≤ arr.size → (∀ j x, bs[j]? = some x → w.cell? ⟨p.blk, p.off + o + j, none⟩ = some (byteV x)) →
          (Builtin.unsafeString_ ats ty #[.pointer (some ⟨p.blk, p.off + o, none⟩), .int k (.ofNat n)]).run P w = .ok (.string ⟨bs.toArray⟩) (w.freeze ⟨p.blk, p.off + o, none⟩ n) := by
        intro bs arr fr hl hw hle hc
        have hlies := liesAt_here (P := P) (e := pe) (count := arr.size / P.cellsOf pe) (off := p.off + o) (n := n) (by rw [hcell]; omega) (by rw [hcell]; omega) (by rw [hcell]; omega)
        have hlb := Go.Lib.run_loadBytes (P := P) w bs ⟨p.blk, p.off + o, none⟩ .empty (fun j x hx => by rw [addr_add]; exact hc j x hx)
        have hsh := cell_shape hw
        rw [hl] at hlb
        have e1 : ¬ (Int.ofNat n > IntKind.i64.max) := by
          have : IntKind.i64.max = 9223372036854775807 := rfl
          rw [this]; simp; omega
        have e2 : ¬ (Int.ofNat n = 0) := by simp; exact hn0
        obtain ⟨_, _, _, _, _, eu⟩ := uS_def ats ty (some ⟨p.blk, p.off + o, none⟩) (.int k (.ofNat n))
        rw [eu]
        simp only [asInt, asIntOf, Sem.run_bind, Sem.run_pure, Result.andThen_ok, ha, Sem.run_ite, if_neg hneg, if_neg e1, if_neg e2, elemOf, run_underlying (hpe ▸ PI.und), variablesAt, run_program, run_shape, hsh]
        simp [hlies, hlb]
      split at g5
      · rename_i bs e fam fz hgb
        simp only [need_some, ok_some, Bool.and_eq_true] at g5
        obtain ⟨⟨g6, g7, g8⟩, rfl⟩ := g5
        have g6 := Nat.eq_of_beq_eq_true g6
        have g7 := Nat.eq_of_beq_eq_true g7
        have g8 : o + n ≤ bs.length := Nat.le_of_ble_eq_true g8
        subst g7
        obtain ⟨q1, q2⟩ := loadB_ok (r.at' b) hp (n := n) (o := o) (bs := cut bs o n) (by simp [loadB, hgb, Nat.ble_eq_true_of_le g8])
        cases r.con _ _ _ hgb hp with
        | @bytes _ _ _ _ arr fr hw hn hl hc hf =>
          have hrun := main _ arr fr q1 hw (by omega) q2
          have hput := put_ok r (y := .bytes bs e fam (2 * Nat.max (fz / 2) (o + n))) hgb hp rfl (freeze_turn w p.blk (p.off + o) n) (.bytes (freeze_get hn0 hw) hn hl hc (freeze_fr hf g6 o n))
          exact ⟨_, hrun, .string _, hput.1, hput.2⟩
      · rename_i cs e fam fz hgb
        simp only [need_some, bnd_some, ok_some, Bool.and_eq_true] at g5
        obtain ⟨⟨g6, g7, g8⟩, bs, g9, rfl⟩ := g5
        have g6 := Nat.eq_of_beq_eq_true g6
        have g7 := Nat.eq_of_beq_eq_true g7
        have g8 : o + n ≤ cs.length := Nat.le_of_ble_eq_true g8
        subst g7
        obtain ⟨q1, q2⟩ := loadB_ok (r.at' b) hp (n := n) (o := o) (bs := bs) (by simp [loadB, hgb, Nat.ble_eq_true_of_le g8]; exact g9)
        cases r.con _ _ _ hgb hp with
        | @cells _ _ _ _ arr fr hw hn hl hc hf =>
          have hrun := main _ arr fr q1 hw (by omega) q2
          have hput := put_ok r (y := .cells cs e fam (2 * Nat.max (fz / 2) (o + n))) hgb hp rfl (freeze_turn w p.blk (p.off + o) n) (.cells (freeze_get hn0 hw) hn hl hc (freeze_fr hf g6 o n))
          exact ⟨_, hrun, .string _, hput.1, hput.2⟩
      · simp at g5
    · simp at g2
end
end Go.Ai
namespace Go.Ai
section
variable {P : Program} {C : Ctx} {ρ : Mp} {h : H} {w : World} {tm : T Value} {a : Act}

/-- a block that is given up for one of a new number -/
theorem move_ok {w' : World} (r : HR ρ h w) {old : Nat} {x y : Blk} {p p' : Pl} (hb : h.bl.get old = some x) (hp : ρ old = some p) (hf : famOf h.ctr y = famOf old x) 
    (hw : (p'.blk = p.blk ∧ Turn p.blk w w') ∨ (p'.blk = w.heap.size ∧ ∃ o, w' = w.alloc o)) (hy : BR (ρ.put h.ctr p') w' p' y) :
    HR (ρ.put h.ctr p') (moveTo h old y (famOf old x)) w' ∧ Ext ρ h w (ρ.put h.ctr p') (moveTo h old y (famOf old x)) w' := by
  have hle := Mp.le_put (p := p') r.none_ctr
  have hold := r.big _ _ hb
  have hfam := r.fam _ _ hb
  have hg : ∀ b z, (moveTo h old y (famOf old x)).bl.get b = some z → (b = h.ctr ∧ y = z) ∨ (b ≠ h.ctr ∧ b ≠ old ∧ h.bl.get b = some z) := by
    intro b z hz
    rcases T.get_set _ _ _ _ _ hz with ⟨e, e'⟩ | ⟨e, e'⟩
    · exact .inl ⟨e, by cases e'; rfl⟩
    · rcases T.get_set _ _ _ _ _ e' with ⟨_, e3⟩ | ⟨e2, e3⟩
      · cases e3
      · exact .inr ⟨e, e2, e3⟩
  have hpp : ∀ b q, ρ.put h.ctr p' b = some q → (b = h.ctr ∧ q = p') ∨ (b ≠ h.ctr ∧ ρ b = some q) := by
    intro b q hb
    unfold Mp.put at hb
    split at hb
    · rename_i e; cases hb; exact .inl ⟨e, rfl⟩
    · rename_i e; exact .inr ⟨e, hb⟩
  have hsz : w.heap.size ≤ w'.heap.size := by
    rcases hw with ⟨_, t⟩ | ⟨_, o, rfl⟩
    · rw [t.size]; exact Nat.le_refl _
    · simp
  have hp'lt : p'.blk < w'.heap.size := hy.lt
  have hother : ∀ k, k < w.heap.size → k ≠ p.blk → w'.heap[k]? = w.heap[k]? := by
    intro k hk hne
    rcases hw with ⟨_, t⟩ | ⟨_, o, rfl⟩
    · exact t.other k hne
    · exact Go.RowKit.Below.heap_alloc w o k hk
  have hblk : p'.blk = p.blk ∨ w.heap.size ≤ p'.blk := by
    rcases hw with ⟨e, _⟩ | ⟨e, _⟩
    · exact .inl e
    · exact .inr (by rw [e]; exact Nat.le_refl _)
  have hne : ∀ b z q, b ≠ old → h.bl.get b = some z → ρ b = some q → q.blk ≠ p.blk ∧ q.blk < w.heap.size := by
    intro b z q hbo hz hq
    exact ⟨fun e => hbo (r.inj _ _ _ _ _ _ hz hb hq hp e), (r.dom _ _ hq).2⟩
  have hos : w'.os = w.os ∧ w'.tape = w.tape ∧ w'.output = w.output := by
    rcases hw with ⟨_, t⟩ | ⟨_, o, rfl⟩
    · exact ⟨t.os, t.tape, t.output⟩
    · exact ⟨rfl, rfl, rfl⟩
  refine ⟨⟨?_, ?_, ?_, ?_, ?_, ?_⟩, ⟨hle, ?_, Nat.min_le_left _ _, hos.1, hos.2.1, hos.2.2, hsz, ?_, ?_, ?_, ?_, ?_⟩⟩
  · intro b q hq
    rcases hpp b q hq with ⟨rfl, rfl⟩ | ⟨_, h1⟩
    · exact ⟨Nat.lt_succ_self _, hp'lt⟩
    · have := r.dom _ _ h1; exact ⟨Nat.lt_succ_of_lt this.1, Nat.lt_of_lt_of_le this.2 hsz⟩
  · intro b z hz
    rcases hg b z hz with ⟨rfl, _⟩ | ⟨_, _, h1⟩
    · exact Nat.lt_succ_self _
    · exact Nat.lt_succ_of_lt (r.big _ _ h1)
  · intro b z q hz hq
    rcases hg b z hz with ⟨rfl, rfl⟩ | ⟨n1, n2, h1⟩
    · rcases hpp _ q hq with ⟨_, rfl⟩ | ⟨h2, _⟩
      · exact hy
      · exact absurd rfl h2
    · rcases hpp _ q hq with ⟨h2, _⟩ | ⟨_, h2⟩
      · exact absurd h2 n1
      · obtain ⟨e1, e2⟩ := hne b z q n2 h1 h2
        exact (r.con _ _ _ h1 h2).mono hle (hother _ e2 e1)
  · intro b b' z z' q q' hz hz' hq hq' he
    rcases hg b z hz with ⟨rfl, rfl⟩ | ⟨n1, n2, h1⟩ <;> rcases hg b' z' hz' with ⟨rfl, rfl⟩ | ⟨n1', n2', h1'⟩
    · rfl
    · rcases hpp _ q hq with ⟨_, rfl⟩ | ⟨h2, _⟩
      · rcases hpp _ q' hq' with ⟨h2, _⟩ | ⟨_, h2⟩
        · exact absurd h2 n1'
        · obtain ⟨e1, e2⟩ := hne b' z' q' n2' h1' h2
          rcases hblk with e | e
          · exact absurd (he.symm.trans e) e1
          · omega
      · exact absurd rfl h2
    · rcases hpp _ q' hq' with ⟨_, rfl⟩ | ⟨h2, _⟩
      · rcases hpp _ q hq with ⟨h2, _⟩ | ⟨_, h2⟩
        · exact absurd h2 n1
        · obtain ⟨e1, e2⟩ := hne b z q n2 h1 h2
          rcases hblk with e | e
          · exact absurd (he.trans e) e1
          · omega
      · exact absurd rfl h2
    · rcases hpp _ q hq with ⟨h2, _⟩ | ⟨_, h2⟩
      · exact absurd h2 n1
      · rcases hpp _ q' hq' with ⟨h3, _⟩ | ⟨_, h3⟩
        · exact absurd h3 n1'
        · exact r.inj _ _ _ _ _ _ h1 h1' h2 h3 he
  · intro b z hz
    rcases hg b z hz with ⟨rfl, rfl⟩ | ⟨_, _, h1⟩
    · rw [hf]; omega
    · exact r.fam _ _ h1
  · intro b z q hz hq hfa
    rcases hg b z hz with ⟨rfl, rfl⟩ | ⟨n1, _, h1⟩
    · rw [hf] at hfa; omega
    · rcases hpp _ q hq with ⟨h2, _⟩ | ⟨_, h2⟩
      · exact absurd h2 n1
      · exact r.own _ _ _ h1 h2 hfa
  · exact Nat.le_succ _
  · intro b q hq
    rcases hpp b q hq with ⟨rfl, _⟩ | ⟨_, h1⟩
    · exact .inr (Nat.le_refl _)
    · exact .inl h1
  · intro k hk hall
    refine hother k hk fun e => ?_
    have := hall old x p hb hp e.symm
    exact absurd (Nat.lt_of_lt_of_le this (Nat.min_le_right _ _)) (Nat.lt_irrefl _)
  · intro b z q hz hq hlt
    rcases hg b z hz with ⟨rfl, rfl⟩ | ⟨n1, _, h1⟩
    · rcases hpp _ q hq with ⟨_, rfl⟩ | ⟨h2, _⟩
      · rcases hblk with e | e
        · exact ⟨old, x, p, hb, hp, e.symm, hf.symm⟩
        · omega
      · exact absurd rfl h2
    · rcases hpp _ q hq with ⟨h2, _⟩ | ⟨_, h2⟩
      · exact absurd h2 n1
      · exact ⟨b, z, q, h1, h2, rfl, rfl⟩
  · intro b hbc hall
    have hbo : b ≠ old := fun e => by
      subst e
      exact absurd (Nat.lt_of_lt_of_le (hall x hb) (Nat.min_le_right _ _)) (Nat.lt_irrefl _)
    show (((h.bl.set old none).set h.ctr (some y)).get b) = _
    rw [T.get_set_ne _ _ (Nat.ne_of_lt hbc), T.get_set_ne _ _ hbo]
  · intro b _ _ h1 h2
    have : b = h.ctr := Nat.le_antisymm (Nat.le_of_lt_succ h2) h1
    subst this
    exact ⟨_, by unfold Mp.put; rw [if_pos rfl]⟩

/-! ### what append does -/
theorem run_app_room (t tx ty e : TypeId) (i : TypeInfo) (ht : P.underlying t = some (.slice e)) (hi : P.info? e = some i) (b off sLen sCap : Nat) (x : Value) (n : Nat) (news : List Value) (hs : Src P i.size tx x n news w)
    (hroom : sLen + n ≤ sCap) {w' : World} (hst : (storeCells ⟨b, off + sLen * i.size, none⟩ news).run P w = .ok () w') :
    (Builtin.append_ #[t, tx] ty #[.slice (some ⟨b, off, none⟩) sLen sCap, x]).run P w = .ok (.slice (some ⟨b, off, none⟩) (sLen + n) sCap) w' := by
  rcases hs.kind with ⟨e', hk⟩ | hk <;> simp [Builtin.append_, run_underlying ht, run_underlying hk, sizeOf, typeInfo, hi, hs.len, hroom, hs.cells, addr_add, hst]

theorem srcKind (HC : CtxT P C) {xt : TypeId} {xi : TI} (h1 : tinfo C xt = some xi) (h2 : isSrc xi.desc = true) : (∃ e', P.underlying xt = some (.slice e')) ∨ P.underlying xt = some .string := by
  have X := HC.tt _ xi (tinfo_some.1 h1)
  cases hd : xi.desc <;> simp [hd, isSrc] at h2
  · exact .inr (hd ▸ X.und)
  · exact .inl ⟨_, hd ▸ X.und⟩
/-- what is appended: values, of a slice -/
theorem srcC_ok (r : HR ρ h w) {size : Nat} {xt : TypeId} (hk : (∃ e', P.underlying xt = some (.slice e')) ∨ P.underlying xt = some .string) {x x' : Value} {nc : Nat × List Value} (hx : VR ρ x x') (hs : srcCells h size x = some nc) (h1 : nc.2.all oneC = true) :
    ∃ news, Src P size xt x' nc.1 news w ∧ VRs ρ nc.2 news ∧ nc.2.length = nc.1 * size := by
  have mk : ∀ (A : Addr) (n c : Nat) (news : List Value), news.length = n * size → (∀ j u, news[j]? = some u → w.cell? (A.add j) = some u) → (∀ u ∈ news, u.oneCell' = true) → Src P size xt (.slice (some A) n c) n news w := by
    intro A n c news hl hn h1
    exact ⟨hk, fun _ => rfl, run_firstCells_some w size n A n c news hl hn, run_firstCells_some w.drew size n A n c news hl (by simpa using hn), hl, h1⟩
  unfold srcCells at hs
  split at hs
  · simp at hs; subst hs
    obtain ⟨rfl, rfl, rfl⟩ := hx.nilSl_inv
    exact ⟨[], ⟨hk, fun _ => rfl, run_firstCells_none w size 0 0 0, run_firstCells_none w.drew size 0 0 0, by simp, fun _ h => by cases h⟩, .nil, by simp⟩
  · rename_i A n c
    obtain ⟨b, o, p, a', cap, rfl, hp, rfl, hl, hc, ha⟩ := hx.sl_inv
    split at hs
    · simp at hs; subst hs
      exact ⟨[], mk a' 0 cap [] (by simp) (by simp) (by simp), .nil, by simp⟩
    · rename_i hne
      simp only [bnd_some, ok_some] at hs
      obtain ⟨cs, g1, rfl⟩ := hs
      obtain ⟨vs', k1, k2, k3⟩ := loadC_ok (r.at' b) hp g1
      have ha := ha.resolve_left (by intro h0; apply hne; omega)
      subst ha
      refine ⟨vs', mk _ n cap vs' k2 (fun j u hj => by rw [addr_add]; exact k3 j u hj) ?_, k1, by rw [k1.length]; exact k2⟩
      intro u hm
      obtain ⟨j, hj⟩ := List.getElem?_of_mem hm
      have hjl : j < cs.length := by rw [k1.length]; exact (List.getElem?_eq_some_iff.1 hj).1
      obtain ⟨v', q1, q2⟩ := k1.get (List.getElem?_eq_getElem hjl)
      rw [hj] at q1; cases q1
      exact q2.oneC (by simpa using (List.all_eq_true.1 h1) cs[j] (List.getElem_mem hjl))
  · simp at hs
/-- .. bytes -/
theorem srcB_ok (r : HR ρ h w) {xt : TypeId} (hk : (∃ e', P.underlying xt = some (.slice e')) ∨ P.underlying xt = some .string) {x x' : Value} {bs : List UInt8} (hx : VR ρ x x') (hs : srcBytes h x = some bs) :
    Src P 1 xt x' bs.length (bs.map byteV) w := by
  have one : ∀ u ∈ bs.map byteV, u.oneCell' = true := by intro u hu; obtain ⟨_, _, rfl⟩ := List.mem_map.1 hu; rfl
  unfold srcBytes at hs
  split at hs
  · simp at hs; subst hs
    obtain ⟨rfl, rfl, rfl⟩ := hx.nilSl_inv
    exact ⟨hk, fun _ => rfl, run_firstCells_none w 1 0 0 0, run_firstCells_none w.drew 1 0 0 0, by simp, one⟩
  · rename_i A n c
    obtain ⟨b, o, p, a', cap, rfl, hp, rfl, hl, hc, ha⟩ := hx.sl_inv
    split at hs
    · simp at hs; subst hs
      exact ⟨hk, fun _ => rfl, run_firstCells_some w 1 0 _ _ _ [] (by simp) (by simp), run_firstCells_some w.drew 1 0 _ _ _ [] (by simp) (by simp), by simp, one⟩
    · rename_i hne
      obtain ⟨q1, q2⟩ := loadB_ok (r.at' b) hp hs
      have ha := ha.resolve_left (by intro h0; apply hne; omega)
      subst ha
      subst q1
      have hc : ∀ (j : Nat) u, (bs.map byteV)[j]? = some u → w.cell? ((⟨p.blk, p.off + o, none⟩ : Addr).add j) = some u := by
        intro j u hj
        rw [List.getElem?_map] at hj
        obtain ⟨y, hy, rfl⟩ := Option.map_eq_some_iff.1 hj
        rw [addr_add]; exact q2 j y hy
      exact ⟨hk, fun _ => rfl, run_firstCells_some w 1 _ _ _ _ _ (by simp) hc, run_firstCells_some w.drew 1 _ _ _ _ _ (by simp) (by simpa using hc), by simp, one⟩
  · rename_i s
    simp at hs; subst hs
    rw [hx.string_inv]
    have hl : (s.data.toList.map byteV).length = s.size := by simp
    have e : Go.byteCells s = s.data.toList.map byteV := rfl
    refine ⟨hk, fun _ => by simp [Builtin.lenOf], ?_, ?_, by simp, one⟩
    · have := firstCells_string (P := P) s w
      rw [e] at this
      have hs2 : s.data.toList.length = s.size := by simp
      rw [hs2]; exact this
    · have := firstCells_string (P := P) s w.drew
      rw [e] at this
      have hs2 : s.data.toList.length = s.size := by simp
      rw [hs2]; exact this
  · simp at hs

theorem grow_run (HC : CtxT P C) {t xt ty e : TypeId} {ei : TI} (ht : P.underlying t = some (.slice e)) (he : tinfo C e = some ei) {base : Option Addr} {len cap n : Nat} {olds news : List Value} {x : Value}
    (hold : (Builtin.firstCells ei.size len (.slice base len cap)).run P w.drew = .ok olds.toArray w.drew) (hol : olds.length = len * ei.size) (hs : Src P ei.size xt x n news w) (hg : cap < len + n) (hsm : small (len + n) ei.bytes = true) :
    ∃ (gcap : Nat) (arr : Array Value), (Builtin.append_ #[t, xt] ty #[.slice base len cap, x]).run P w = .ok (.slice (some ⟨w.heap.size, 0, none⟩) (len + n) gcap) (w.drew.alloc (.cells arr e)) ∧ len + n ≤ gcap ∧ gcap * ei.size = arr.size ∧
      ∀ (j : Nat) v, (olds ++ news)[j]? = some v → arr[j]? = some v := by
  have E := HC.tt _ ei (tinfo_some.1 he)
  obtain ⟨i, z, i1, i2, i3, i4, i5⟩ := E.inf
  obtain ⟨s1, s2, s3⟩ := small_ok hsm
  have hz := ofCells_cells i5 E.one
  have hzs : z.cells.size = ei.size := by
    have : z.cells.toList = ei.zero := by rw [← hz]; cases z <;> rfl
    rw [← E.len, ← this]; simp
  have hnx := nextslicecap_le hg
  have hb : Builtin.nextslicecap (len + n) cap * i.bytes ≤ 281474976710656 := by
    rw [i3]
    have h1 := Nat.mul_le_mul_right ei.bytes hnx
    have h2 : 2 * (len + n) * ei.bytes = 2 * ((len + n) * ei.bytes) := by rw [Nat.mul_assoc]
    omega
  have hrun := run_append_grow_src (P := P) w t xt ty e i z ht i1 i4 base len cap olds (by rw [i2]; exact hold) x n news (by rw [i2]; exact hs) hg (by omega) hb
  have hge := grownCap_ge w (len + n) cap e
  refine ⟨_, _, hrun, hge, ?_, ?_⟩
  · have hnl := hs.newsLen
    simp only [Array.size_append, List.size_toArray, List.length_append, Builtin.zeroCells, Array.size_map, Array.size_range, hzs, hol, hnl]
    rw [← Nat.add_mul, ← Nat.add_mul]
    congr 1
    omega
  · intro j v hj
    have hlt : j < (olds ++ news).length := (List.getElem?_eq_some_iff.1 hj).1
    rw [Array.getElem?_append_left (by simpa using hlt)]
    simpa using hj

theorem append_get_VR {ρ : Mp} {cs1 cs2 os ns : List Value} {arr : Array Value} (h1 : VRs ρ cs1 os) (h2 : VRs ρ cs2 ns) (ha : ∀ (j : Nat) v, (os ++ ns)[j]? = some v → arr[j]? = some v) : ∀ (j : Nat) v, (cs1 ++ cs2)[j]? = some v → ∃ v', arr[j]? = some v' ∧ VR ρ v v' := by
  intro j v hj
  obtain ⟨v', q1, q2⟩ := (h1.append h2).get hj
  exact ⟨v', ha _ _ q1, q2⟩
theorem fzcut_ok {p : Pl} {fz : Nat} {fr : Nat × Nat} (hf : FrOk p fz fr) (o : Nat) : FrOk ⟨p.blk, p.off + o, p.n⟩ (fzcut fz o) fr := by
  unfold FrOk fzcut at *
  simp only
  rcases hf with hf | ⟨h1, h2⟩
  · left; omega
  · right; exact ⟨by omega, h2⟩

theorem appendC_ok (HC : CtxT P C) (r : HR ρ h w) {t xt ty e : TypeId} {ei : TI} (ht : P.underlying t = some (.slice e)) (he : tinfo C e = some ei) {base : Option Addr} {len c n : Nat} {new news : List Value} {s' x' : Value} {q : Value × H}
    (hsl : VR ρ (.slice base len c) s') (hs : Src P ei.size xt x' n news w) (hv : VRs ρ new news) (hsm : small (len + n) ei.bytes = true) (ho : appendC h e ei.size base len c n new = some q) :
    ∃ v' ρ' w', (Builtin.append_ #[t, xt] ty #[s', x']).run P w = .ok v' w' ∧ VR ρ' q.1 v' ∧ HR ρ' q.2 w' ∧ Ext ρ h w ρ' q.2 w' := by
  have E := HC.tt _ ei (tinfo_some.1 he)
  obtain ⟨i, z, i1, i2, _⟩ := E.inf
  have hs' : Src P i.size xt x' n news w := by rw [i2]; exact hs
  have hnl := hs.newsLen
  have hvl := hv.length
  have nothing : ∀ base' cap', n = 0 → len ≤ cap' → (Builtin.append_ #[t, xt] ty #[.slice base' len cap', x']).run P w = .ok (.slice base' len cap') w := by
    intro base' cap' h0 hle
    subst h0
    have : news = [] := by simpa using hnl
    subst this
    exact run_append_nothing w t xt ty e i ht i1 base' len cap' hle x' hs'
  unfold appendC at ho
  split at ho
  · obtain ⟨rfl, rfl, rfl⟩ := hsl.nilSl_inv
    split at ho
    · simp at ho; subst ho
      exact ⟨_, ρ, w, nothing _ _ rfl (Nat.le_refl _), .nilSl, r, Ext.refl _ _ _⟩
    · rename_i hne
      simp at ho; subst ho
      obtain ⟨gcap, arr, g1, g2, g3, g4⟩ := grow_run (ty := ty) (w := w) HC ht he (base := none) (len := 0) (cap := 0) (n := n) (olds := []) (by exact run_firstCells_none w.drew _ _ _ _) (by simp) hs (by have : n ≠ 0 := hne; omega) hsm
      have hlen : new.length = n * ei.size := by rw [hvl]; exact hnl
      obtain ⟨k1, k2⟩ := newCells_ok (w := w.drew) r.drew (cs := new) (arr := arr) e (0, 0) (by
        rw [hlen, ← g3]; exact Nat.mul_le_mul_right _ (by omega)) (append_get_VR .nil hv g4) rfl
      refine ⟨_, _, _, g1, ?_, k1, Ext.drew.trans k2⟩
      have := sl_new (ρ := ρ) (h := h) (x := ⟨w.heap.size, 0, arr.size⟩) rfl (len := 0 + n) (c := ucap ei.size) (cap := gcap) (by omega) (.inr ⟨ei.size, rfl, by simp [g3]⟩)
      simpa using this
  · rename_i A
    obtain ⟨b, o, p, a', cap, rfl, hp, rfl, hl, hc, ha⟩ := hsl.sl_inv
    split at ho
    · simp at ho; subst ho
      exact ⟨_, ρ, w, nothing _ _ rfl hl, hsl, r, Ext.refl _ _ _⟩
    · rename_i hne
      have hne : n ≠ 0 := hne
      have hlen : new.length = n * ei.size := by rw [hvl]; exact hnl
      split at ho
      · rename_i hk
        obtain ⟨sz, rfl, c2⟩ := hc.unknown hk
        split at ho
        · rename_i cs e' fam fz hgb
          simp only [need_some, ok_some, Bool.and_eq_true] at ho
          obtain ⟨⟨g1, g2, g3, g4⟩, rfl⟩ := ho
          have g1 : sz = ei.size := by have := Nat.eq_of_beq_eq_true g1; simp only [ucap] at this; omega
          have g2 : e = e' := Nat.eq_of_beq_eq_true g2
          have g3 : o + len * ei.size ≤ cs.length := Nat.le_of_ble_eq_true g3
          have g4 : fz ≤ 2 * (o + len * ei.size) + 1 := Nat.le_of_ble_eq_true g4
          subst g1; subst g2
          cases r.con _ _ _ hgb hp with
          | @cells _ _ _ _ arr fr hw hn hl' hcs hf =>
          have hoff : (o + len * ei.size) - o = len * ei.size := by omega
          have hcut : (cut cs o (len * ei.size)).length = len * ei.size := cut_length _ _ _ g3
          by_cases hroom : len + n ≤ cap
          · have ha := ha.resolve_left (by omega)
            subst ha
            have hsp : (len + n) * ei.size ≤ cap * ei.size := Nat.mul_le_mul_right _ hroom
            rw [Nat.add_mul] at hsp
            obtain ⟨w', arr', k1, k2, k3, k4, k5⟩ := run_storeCells_row (P := P) news (p.off + o + len * ei.size) 0 arr w hw (by rw [hnl]; omega) (by
              intro x hx1 hx2 hx3; rcases hf with hh | ⟨_, hh⟩ <;> omega) hs.one
            have hrun := run_app_room (P := P) (w := w) t xt ty e i ht i1 p.blk (p.off + o) len cap x' n news hs' hroom (by rw [i2]; exact k1)
            have hmv := move_ok (p' := ⟨p.blk, p.off + o, p.n⟩) (y := .cells (cut cs o (len * ei.size) ++ new) e fam (fzcut fz o)) r hgb hp rfl (.inl ⟨rfl, k2⟩) (.cells k3 (by simp only; omega) (by
                simp only [List.length_append, hcut, hlen]; omega) (by
                intro j v hj
                rw [k5]
                simp only
                rw [List.getElem?_append, hcut] at hj
                by_cases hjl : j < len * ei.size
                · rw [if_pos hjl] at hj
                  obtain ⟨q1, _⟩ := cut_get _ _ _ _ _ hj
                  obtain ⟨v', q2, q3⟩ := hcs _ _ q1
                  refine ⟨v', ?_, q3.mono (Mp.le_put r.none_ctr)⟩
                  rw [if_neg (by omega)]
                  rw [show p.off + o + j = p.off + (o + j) by omega]; exact q2
                · rw [if_neg hjl] at hj
                  obtain ⟨v', q2, q3⟩ := hv.get hj
                  refine ⟨v', ?_, q3.mono (Mp.le_put r.none_ctr)⟩
                  have : j - len * ei.size < news.length := (List.getElem?_eq_some_iff.1 q2).1
                  rw [if_pos (by omega), show p.off + o + j - (p.off + o + len * ei.size + 0) = j - len * ei.size by omega]
                  exact q2) (fzcut_ok hf o))
            refine ⟨_, _, w', hrun, ?_, hmv.1, hmv.2⟩
            have := VR.sl (o := 0) (a := ⟨p.blk, p.off + o, none⟩) (put_self ρ h.ctr ⟨p.blk, p.off + o, p.n⟩) hroom (c := ucap ei.size) (.inr ⟨ei.size, rfl, by simp only; omega⟩) (.inr (by simp))
            exact this
          · have hrd : ∀ j v, (cut arr.toList (p.off + o) (len * ei.size))[j]? = some v → w.drew.cell? ((⟨p.blk, p.off + o, none⟩ : Addr).add j) = some v := by
              intro j v hj
              obtain ⟨q1, _⟩ := cut_get _ _ _ _ _ hj
              rw [addr_add]
              simp only [World.cell?_drew]
              rw [cell_of hw]
              simpa using q1
            have hcl : (cut arr.toList (p.off + o) (len * ei.size)).length = len * ei.size := cut_length _ _ _ (by simp; omega)
            have hold : (Builtin.firstCells ei.size len (.slice (some a') len cap)).run P w.drew = .ok (cut arr.toList (p.off + o) (len * ei.size)).toArray w.drew := by
              rcases ha with h0 | rfl
              · have : len = 0 := by omega
                subst this
                simpa [cut] using run_firstCells_some (P := P) w.drew ei.size 0 a' 0 cap [] (by simp) (by simp)
              · exact run_firstCells_some w.drew ei.size len _ len cap _ hcl hrd
            obtain ⟨gcap, garr, g1, g2, g3', g4'⟩ := grow_run (ty := ty) (w := w) HC ht he hold hcl hs (by omega) hsm
            have holds : VRs ρ (cut cs o (len * ei.size)) (cut arr.toList (p.off + o) (len * ei.size)) := by
              refine VRs.of_get (by rw [hcl, hcut]) ?_
              intro j v hj
              obtain ⟨q1, q0⟩ := cut_get _ _ _ _ _ hj
              obtain ⟨v', q2, q3⟩ := hcs _ _ q1
              refine ⟨v', ?_, q3⟩
              simp only [cut, List.getElem?_take, List.getElem?_drop, if_pos q0]
              rw [show p.off + o + j = p.off + (o + j) by omega]
              simpa using q2
            have hgl : (cut cs o (len * ei.size) ++ new).length ≤ garr.size := by
              rw [List.length_append, hcut, hlen, ← Nat.add_mul, ← g3']; exact Nat.mul_le_mul_right _ g2
            have hmv := move_ok (w := w.drew) (w' := w.drew.alloc (.cells garr e)) (p' := ⟨w.heap.size, 0, garr.size⟩) (y := .cells (cut cs o (len * ei.size) ++ new) e fam (fzcut fz o)) r.drew hgb hp rfl (.inr ⟨rfl, _, rfl⟩) (.cells (alloc_get w.drew _) rfl (by simpa using hgl) (by
                intro j v hj
                obtain ⟨v', q1, q2⟩ := append_get_VR holds hv g4' j v hj
                exact ⟨v', by simpa using q1, q2.mono (Mp.le_put r.none_ctr)⟩) (.inl (Nat.zero_le _)))
            refine ⟨_, _, _, g1, ?_, hmv.1, Ext.drew.trans hmv.2⟩
            exact sl_new rfl g2 (.inr ⟨ei.size, rfl, by simp [g3']⟩)
        · simp at ho
      · rename_i hk
        obtain ⟨c1, c2⟩ := hc.known hk
        rw [c1] at ho
        split at ho
        · rename_i hle
          have hroom := Nat.le_of_ble_eq_true hle
          simp only [bnd_some, ok_some] at ho
          obtain ⟨h', g1, rfl⟩ := ho
          have ha := ha.resolve_left (by omega)
          subst ha
          rw [addr_add] at g1
          obtain ⟨w', k1, k2, k3⟩ := storeC_ok (P := P) r hp hv g1
          have hrun := run_app_room (P := P) (w := w) t xt ty e i ht i1 p.blk (p.off + o) len cap x' n news hs' hroom (by rw [i2, Nat.add_assoc]; exact k1)
          exact ⟨_, ρ, w', hrun, .sl hp hroom hc (.inr rfl), k2, k3⟩
        · rename_i hle
          have hroom : ¬ (len + n ≤ cap) := fun hh => by rw [Nat.ble_eq_true_of_le hh] at hle; cases hle
          simp only [bnd_some, ok_some] at ho
          obtain ⟨old, g1, rfl⟩ := ho
          have hold : ∃ olds, (Builtin.firstCells ei.size len (.slice (some a') len cap)).run P w.drew = .ok olds.toArray w.drew ∧ olds.length = len * ei.size ∧ VRs ρ old olds := by
            split at g1
            · simp at g1; subst g1
              exact ⟨[], run_firstCells_some (P := P) w.drew ei.size 0 a' 0 cap [] (by simp) (by simp), by simp, .nil⟩
            · rename_i hne0
              obtain ⟨vs', k1, k2, k3⟩ := loadC_ok (r.drew.at' b) hp g1
              have hlc : cap ≠ 0 := by intro h0; apply hne0; omega
              have ha := ha.resolve_left hlc
              subst ha
              exact ⟨vs', run_firstCells_some w.drew ei.size len _ len cap vs' k2 (fun j v hj => by rw [addr_add]; exact k3 j v hj), k2, k1⟩
          obtain ⟨olds, o1, o2, o3⟩ := hold
          obtain ⟨gcap, garr, g1', g2, g3', g4'⟩ := grow_run (ty := ty) (w := w) HC ht he o1 o2 hs (by omega) hsm
          have hgl : (old ++ new).length ≤ garr.size := by
            rw [List.length_append, o3.length, o2, hlen, ← Nat.add_mul, ← g3']; exact Nat.mul_le_mul_right _ g2
          obtain ⟨k1, k2⟩ := newCells_ok (w := w.drew) r.drew (cs := old ++ new) (arr := garr) e (0, 0) hgl (append_get_VR o3 hv g4') rfl
          refine ⟨_, _, _, g1', ?_, k1, Ext.drew.trans k2⟩
          exact sl_new rfl g2 (.inr ⟨ei.size, rfl, by simp [g3']⟩)
end
end Go.Ai
namespace Go.Ai
section
variable {P : Program} {C : Ctx} {ρ : Mp} {h : H} {w : World} {tm : T Value} {a : Act}

theorem bytesOfCells_map : ∀ (ws : List UInt8), bytesOfCells (ws.map byteV) = some ws
  | [] => rfl
  | b :: ws => by
    have hb : b.toNat < 256 := by have := b.toNat_lt; simpa using this
    have : Nat.blt b.toNat 256 = true := Nat.ble_eq_true_of_le hb
    show need (Nat.blt b.toNat 256) "byte" (bnd (bytesOfCells (ws.map byteV)) fun l => ok (UInt8.ofNat b.toNat :: l)) = some (b :: ws)
    rw [bytesOfCells_map ws, this]
    simp
theorem storeB_eq {a : Addr} {ws : List UInt8} {h' : H} (hs : storeB h a ws = some h') : storeC h a (ws.map byteV) = some h' := by
  unfold storeB at hs
  unfold storeC
  split at hs
  · rename_i cs e fam fz hg
    have h1 : (ws.map byteV).all oneC = true := by rw [List.all_eq_true]; intro v hv; obtain ⟨_, _, rfl⟩ := List.mem_map.1 hv; rfl
    simp only [List.length_map, h1, Bool.and_true]
    exact hs
  · rename_i bs e fam fz hg
    simp only [bytesOfCells_map]
    exact hs
  · simp at hs

theorem bytes_get {bs : List UInt8} {os : List Value} {new : List UInt8} {arr : Array Value} (h1 : os = bs.map byteV) (ha : ∀ (j : Nat) v, (os ++ new.map byteV)[j]? = some v → arr[j]? = some v) : ∀ (j : Nat) v, (bs ++ new)[j]? = some v → arr[j]? = some (byteV v) := by
  intro j v hj
  apply ha
  rw [h1, ← List.map_append, List.getElem?_map, hj]
  rfl

theorem appendB_ok (HC : CtxT P C) (r : HR ρ h w) {t xt ty e : TypeId} {ei : TI} (ht : P.underlying t = some (.slice e)) (he : tinfo C e = some ei) {base : Option Addr} {len c : Nat} {new : List UInt8} {s' x' : Value} {q : Value × H}
    (hsz1 : ei.size = 1) (hsl : VR ρ (.slice base len c) s') (hs : Src P 1 xt x' new.length (new.map byteV) w) (hsm : small (len + new.length) ei.bytes = true) (ho : appendB h e base len c new = some q) :
    ∃ v' ρ' w', (Builtin.append_ #[t, xt] ty #[s', x']).run P w = .ok v' w' ∧ VR ρ' q.1 v' ∧ HR ρ' q.2 w' ∧ Ext ρ h w ρ' q.2 w' := by
  have E := HC.tt _ ei (tinfo_some.1 he)
  obtain ⟨i, z, i1, i2, _⟩ := E.inf
  have hi1 : i.size = 1 := i2.trans hsz1
  have hs' : Src P i.size xt x' new.length (new.map byteV) w := by rw [hi1]; exact hs
  have hs2 : Src P ei.size xt x' new.length (new.map byteV) w := by rw [hsz1]; exact hs
  have nothing : ∀ base' cap', new = [] → len ≤ cap' → (Builtin.append_ #[t, xt] ty #[.slice base' len cap', x']).run P w = .ok (.slice base' len cap') w := by
    intro base' cap' h0 hle
    subst h0
    exact run_append_nothing w t xt ty e i ht i1 base' len cap' hle x' hs'
  unfold appendB at ho
  split at ho
  · obtain ⟨rfl, rfl, rfl⟩ := hsl.nilSl_inv
    split at ho
    · simp at ho; subst ho
      exact ⟨_, ρ, w, nothing _ _ rfl (Nat.le_refl _), .nilSl, r, Ext.refl _ _ _⟩
    · rename_i hne
      simp at ho; subst ho
      have hpos : 0 < new.length := List.length_pos_iff.2 hne
      obtain ⟨gcap, arr, g1, g2, g3, g4⟩ := grow_run (ty := ty) (w := w) HC ht he (base := none) (len := 0) (cap := 0) (olds := []) (by exact run_firstCells_none w.drew _ _ _ _) (by simp) hs2 (by omega) hsm
      obtain ⟨k1, k2⟩ := newBytes_ok (w := w.drew) r.drew (bs := new) (arr := arr) e (0, 0) (by rw [← g3, hsz1]; omega) (bytes_get (bs := []) rfl g4) rfl
      refine ⟨_, _, _, g1, ?_, k1, Ext.drew.trans k2⟩
      have := sl_new (ρ := ρ) (h := h) (x := ⟨w.heap.size, 0, arr.size⟩) rfl (len := 0 + new.length) (c := ucap 1) (cap := gcap) (by omega) (.inr ⟨1, rfl, by simp [← g3, hsz1]⟩)
      simpa using this
  · rename_i A
    obtain ⟨b, o, p, a', cap, rfl, hp, rfl, hl, hc, ha⟩ := hsl.sl_inv
    split at ho
    · simp at ho; subst ho
      exact ⟨_, ρ, w, nothing _ _ rfl hl, hsl, r, Ext.refl _ _ _⟩
    · rename_i hne
      have hpos : 0 < new.length := List.length_pos_iff.2 hne
      split at ho
      · rename_i hk
        obtain ⟨sz, rfl, c2⟩ := hc.unknown hk
        split at ho
        · rename_i bs e' fam fz hgb
          simp only [need_some, ok_some, Bool.and_eq_true] at ho
          obtain ⟨⟨g1, g2, g3, g4⟩, rfl⟩ := ho
          have g1 : sz = 1 := by have := Nat.eq_of_beq_eq_true g1; simp only [ucap] at this; omega
          have g2 : e = e' := Nat.eq_of_beq_eq_true g2
          have g3 : o + len ≤ bs.length := Nat.le_of_ble_eq_true g3
          have g4 : fz ≤ 2 * (o + len) + 1 := Nat.le_of_ble_eq_true g4
          subst g1; subst g2
          cases r.con _ _ _ hgb hp with
          | @bytes _ _ _ _ arr fr hw hn hl' hcs hf =>
          have hcut : (cut bs o len).length = len := cut_length _ _ _ g3
          by_cases hroom : len + new.length ≤ cap
          · have ha := ha.resolve_left (by omega)
            subst ha
            obtain ⟨w', arr', k1, k2, k3, k4, k5⟩ := run_storeCells_row (P := P) (new.map byteV) (p.off + o + len) 0 arr w hw (by simp; omega) (by
              intro x hx1 hx2 hx3; rcases hf with hh | ⟨_, hh⟩ <;> omega) hs.one
            have hrun := run_app_room (P := P) (w := w) t xt ty e i ht i1 p.blk (p.off + o) len cap x' new.length _ hs' hroom (by rw [hi1, Nat.mul_one]; exact k1)
            have hmv := move_ok (p' := ⟨p.blk, p.off + o, p.n⟩) (y := .bytes (cut bs o len ++ new) e fam (fzcut fz o)) r hgb hp rfl (.inl ⟨rfl, k2⟩) (.bytes k3 (by simp only; omega) (by
                simp only [List.length_append, hcut]; omega) (by
                intro j v hj
                rw [k5]
                simp only
                rw [List.getElem?_append, hcut] at hj
                by_cases hjl : j < len
                · rw [if_pos hjl] at hj
                  obtain ⟨q1, _⟩ := cut_get _ _ _ _ _ hj
                  have q2 := hcs _ _ q1
                  rw [if_neg (by omega)]
                  rw [show p.off + o + j = p.off + (o + j) by omega]; exact q2
                · rw [if_neg hjl] at hj
                  have : j - len < new.length := (List.getElem?_eq_some_iff.1 hj).1
                  rw [if_pos (by simp; omega), show p.off + o + j - (p.off + o + len + 0) = j - len by omega, List.getElem?_map, hj]
                  rfl) (fzcut_ok hf o))
            refine ⟨_, _, w', hrun, ?_, hmv.1, hmv.2⟩
            exact VR.sl (o := 0) (a := ⟨p.blk, p.off + o, none⟩) (put_self ρ h.ctr ⟨p.blk, p.off + o, p.n⟩) hroom (c := ucap 1) (.inr ⟨1, rfl, by simp only; omega⟩) (.inr (by simp))
          · have hrd : ∀ j v, (cut arr.toList (p.off + o) len)[j]? = some v → w.drew.cell? ((⟨p.blk, p.off + o, none⟩ : Addr).add j) = some v := by
              intro j v hj
              obtain ⟨q1, _⟩ := cut_get _ _ _ _ _ hj
              rw [addr_add]
              simp only [World.cell?_drew]
              rw [cell_of hw]
              simpa using q1
            have hcl : (cut arr.toList (p.off + o) len).length = len := cut_length _ _ _ (by simp; omega)
            have hcl' : (cut arr.toList (p.off + o) len).length = len * ei.size := by rw [hcl, hsz1, Nat.mul_one]
            have hold : (Builtin.firstCells ei.size len (.slice (some a') len cap)).run P w.drew = .ok (cut arr.toList (p.off + o) len).toArray w.drew := by
              rcases ha with h0 | rfl
              · have : len = 0 := by omega
                subst this
                simpa [cut] using run_firstCells_some (P := P) w.drew ei.size 0 a' 0 cap [] (by simp) (by simp)
              · exact run_firstCells_some w.drew ei.size len _ len cap _ hcl' hrd
            obtain ⟨gcap, garr, g1, g2, g3', g4'⟩ := grow_run (ty := ty) (w := w) HC ht he hold hcl' hs2 (by omega) hsm
            have holds : cut arr.toList (p.off + o) len = (cut bs o len).map byteV := by
              apply List.ext_getElem?
              intro j
              by_cases hj : j < len
              · have : (cut bs o len)[j]? = bs[o + j]? := by simp [cut, hj]
                rw [List.getElem?_map, this]
                have hlt : o + j < bs.length := by omega
                have := hcs (o + j) bs[o + j] (List.getElem?_eq_getElem hlt)
                rw [List.getElem?_eq_getElem hlt]
                simp only [cut, List.getElem?_take, List.getElem?_drop, if_pos hj, Option.map_some]
                rw [show p.off + o + j = p.off + (o + j) by omega]
                simpa using this
              · rw [List.getElem?_eq_none (by omega), List.getElem?_eq_none (by simp; omega)]
            have hgl : (cut bs o len ++ new).length ≤ garr.size := by
              rw [List.length_append, hcut, ← g3', hsz1]; omega
            have hmv := move_ok (w := w.drew) (w' := w.drew.alloc (.cells garr e)) (p' := ⟨w.heap.size, 0, garr.size⟩) (y := .bytes (cut bs o len ++ new) e fam (fzcut fz o)) r.drew hgb hp rfl (.inr ⟨rfl, _, rfl⟩) (.bytes (alloc_get w.drew _) rfl (by simpa using hgl) (by
                intro j v hj
                have := bytes_get holds g4' j v hj
                simpa using this) (.inl (Nat.zero_le _)))
            refine ⟨_, _, _, g1, ?_, hmv.1, Ext.drew.trans hmv.2⟩
            exact sl_new rfl g2 (.inr ⟨1, rfl, by simp [← g3', hsz1]⟩)
        · simp at ho
      · rename_i hk
        obtain ⟨c1, c2⟩ := hc.known hk
        rw [c1] at ho
        split at ho
        · rename_i hle
          have hroom := Nat.le_of_ble_eq_true hle
          simp only [bnd_some, ok_some] at ho
          obtain ⟨h', g1, rfl⟩ := ho
          have ha := ha.resolve_left (by omega)
          subst ha
          rw [addr_add] at g1
          obtain ⟨w', k1, k2, k3⟩ := storeC_ok (P := P) r hp (bytes_VRs ρ new) (storeB_eq g1)
          have hrun := run_app_room (P := P) (w := w) t xt ty e i ht i1 p.blk (p.off + o) len cap x' new.length _ hs' hroom (by rw [hi1, Nat.mul_one, Nat.add_assoc]; exact k1)
          exact ⟨_, ρ, w', hrun, .sl hp hroom hc (.inr rfl), k2, k3⟩
        · rename_i hle
          have hroom : ¬ (len + new.length ≤ cap) := fun hh => by rw [Nat.ble_eq_true_of_le hh] at hle; cases hle
          simp only [bnd_some, ok_some] at ho
          obtain ⟨old, g1, rfl⟩ := ho
          have hold : (Builtin.firstCells ei.size len (.slice (some a') len cap)).run P w.drew = .ok (old.map byteV).toArray w.drew ∧ (old.map byteV).length = len * ei.size := by
            split at g1
            · simp at g1; subst g1
              exact ⟨run_firstCells_some (P := P) w.drew ei.size 0 a' 0 cap [] (by simp) (by simp), by simp⟩
            · rename_i hne0
              obtain ⟨k2, k3⟩ := loadB_ok (r.drew.at' b) hp g1
              have hlc : cap ≠ 0 := by intro h0; apply hne0; omega
              have ha := ha.resolve_left hlc
              subst ha
              have hll : (old.map byteV).length = len * ei.size := by rw [hsz1, Nat.mul_one]; simpa using k2
              refine ⟨run_firstCells_some w.drew ei.size len _ len cap _ hll (fun j v hj => ?_), hll⟩
              rw [List.getElem?_map] at hj
              obtain ⟨y, hy, rfl⟩ := Option.map_eq_some_iff.1 hj
              rw [addr_add]; exact k3 j y hy
          obtain ⟨o1, o2⟩ := hold
          obtain ⟨gcap, garr, g1', g2, g3', g4'⟩ := grow_run (ty := ty) (w := w) HC ht he o1 o2 hs2 (by omega) hsm
          have hol : old.length = len := by rw [List.length_map, hsz1, Nat.mul_one] at o2; exact o2
          have hgl : (old ++ new).length ≤ garr.size := by
            rw [List.length_append, hol, ← g3', hsz1]; omega
          obtain ⟨k1, k2⟩ := newBytes_ok (w := w.drew) r.drew (bs := old ++ new) (arr := garr) e (0, 0) hgl (bytes_get rfl g4') rfl
          refine ⟨_, _, _, g1', ?_, k1, Ext.drew.trans k2⟩
          exact sl_new rfl g2 (.inr ⟨1, rfl, by simp [← g3', hsz1]⟩)

theorem append_ok (HC : CtxT P C) (r : HR ρ h w) {t xt ty : TypeId} {s x s' x' : Value} {q : Value × H} (hsl : VR ρ s s') (hx : VR ρ x x') (ho : aAppend C t xt s x h = some q) :
    ∃ v' ρ' w', (Builtin.append_ #[t, xt] ty #[s', x']).run P w = .ok v' w' ∧ VR ρ' q.1 v' ∧ HR ρ' q.2 w' ∧ Ext ρ h w ρ' q.2 w' := by
  simp only [aAppend, bnd_some, need_some] at ho
  obtain ⟨ti, h1, xi, h2, h3, h4⟩ := ho
  have T := HC.tt _ ti (tinfo_some.1 h1)
  have hk := srcKind HC h2 h3
  split at h4
  · rename_i e base len c hd
    simp only [bnd_some] at h4
    obtain ⟨ei, h5, h6⟩ := h4
    split at h6
    · rename_i hu
      simp only [bnd_some, need_some] at h6
      obtain ⟨new, h7, h8, h9⟩ := h6
      simp only [u8T, Bool.and_eq_true] at hu
      exact appendB_ok HC r (hd ▸ T.und) h5 (Nat.eq_of_beq_eq_true hu.2) hsl (srcB_ok r hk hx h7) h8 h9
    · simp only [bnd_some, need_some, Bool.and_eq_true] at h6
      obtain ⟨nc, h7, ⟨h8, h8'⟩, h9⟩ := h6
      obtain ⟨news, g1, g2, _⟩ := srcC_ok r hk hx h7 h8'
      exact appendC_ok HC r (hd ▸ T.und) h5 hsl g1 g2 h8 h9
  · simp at h4
end
end Go.Ai
namespace Go.Ai
section
variable {P : Program} {C : Ctx} {ρ : Mp} {h : H} {w : World} {tm : T Value} {a : Act}

inductive DefR (ρ : Mp) : Deferred → Deferred → Prop
  | fn (g : FuncId) {c c' x x' : List Value} (hc : VRs ρ c c') (hx : VRs ρ x x') : DefR ρ { target := .fn (.func g) ⟨c⟩, args := ⟨x⟩ } { target := .fn (.func g) ⟨c'⟩, args := ⟨x'⟩ }
  | col {r : Nat} {p : Pl} (hr : ρ r = some p) : DefR ρ { target := .collected r, args := #[] } { target := .collected p.blk, args := #[] }
theorem DefR.mono {ρ ρ' : Mp} (hle : ρ.le ρ') {d d' : Deferred} (h : DefR ρ d d') : DefR ρ' d d' := by
  cases h with
  | fn g hc hx => exact .fn g (hc.mono hle) (hx.mono hle)
  | col hr => exact .col (hle _ _ hr)

def NxOk (P : Program) (ρ : Mp) (h : H) (w : World) (n : Nx) (res : Result Next) : Prop := match n with
  | .val v h' => Done ρ h w (.val v h') res
  | .call g args h' => h' = h ∧ ∃ args' : List Value, VRs ρ args args' ∧ res = (callFunc g ⟨args'⟩).run P w
  | .yield l args h' => h' = h ∧ ∃ p, ∃ args' : List Value, ρ l = some p ∧ VRs ρ args args' ∧ res = (Instr.yield p.blk ⟨args'⟩).run P w
  | .defer d h' => h' = h ∧ ∃ d', DefR ρ d d' ∧ res = .ok (.defer d') w
  | .panic v h' => h' = h ∧ ∃ v', VR ρ v v' ∧ res = .halt (.panic v') w
  | .recover h' => h' = h ∧ res = .ok .recover w

theorem Done.nx {n : Nx} {res : Result Next} (d : Done ρ h w n res) : NxOk P ρ h w n res := by
  obtain ⟨v, h', ρ', w', nx, v', rfl, hh⟩ := d
  exact ⟨v, h', ρ', w', nx, v', rfl, hh⟩

theorem aFn_ok {f f' : Value} {args args' : List Value} (hf : VR ρ f f') (hx : VRs ρ args args') {n : Nx} (ho : aFn f args h = some n) {type : TypeId} (c : Call) (hc : ∃ g, c.callee = .value g ∧ a.eval g = f') (ha : c.args.map a.eval = ⟨args'⟩) :
    NxOk P ρ h w n ((do let d ← resolve a.eval c type; invoke d.target d.args : Sem Next).run P w) := by
  obtain ⟨g, hc1, hc2⟩ := hc
  unfold aFn at ho
  split at ho
  · rename_i g first captured
    simp at ho; subst ho
    obtain ⟨xs', ys', rfl, h1, h2⟩ := hf.func_inv
    refine ⟨rfl, xs'.toList ++ (args' ++ ys'.toList), h1.append (hx.append h2), ?_⟩
    simp only [resolve, hc1, hc2, ha, Deferred.ofValue, Sem.run_bind, Sem.run_pure, Result.andThen_ok, invoke]
    congr 2
    apply Array.ext'
    simp
  · rename_i l first _
    simp at ho; subst ho
    obtain ⟨p, hp, h1, rfl⟩ := hf.yield_inv
    subst h1
    refine ⟨rfl, p, args', hp, by simpa using hx, ?_⟩
    simp only [resolve, hc1, hc2, ha, Deferred.ofValue, Sem.run_bind, Sem.run_pure, Result.andThen_ok, invoke]
    congr 2
    apply Array.ext'
    simp
  · simp at ho

theorem VRs.one_inv {x : Value} {ys : List Value} (hv : VRs ρ [x] ys) : ∃ y, ys = [y] ∧ VR ρ x y := by
  cases hv with | cons h1 h2 => cases h2; exact ⟨_, rfl, h1⟩
theorem VRs.two_inv {x x2 : Value} {ys : List Value} (hv : VRs ρ [x, x2] ys) : ∃ y y2, ys = [y, y2] ∧ VR ρ x y ∧ VR ρ x2 y2 := by
  cases hv with | cons h1 h2 => cases h2 with | cons h2 h3 => cases h3; exact ⟨_, _, rfl, h1, h2⟩

theorem builtin_ok (HC : CtxT P C) (r : HR ρ h w) {b : Builtin} {ats : Array TypeId} {type : TypeId} {consts : Array Bool} {args args' : List Value} (hx : VRs ρ args args') {n : Nx} (ho : aBuiltin C b ats.toList args h = some n) :
    NxOk P ρ h w n ((builtin b ats type consts ⟨args'⟩).run P w) := by
  have at0 : ∀ {t : TypeId} {l : List TypeId}, ats.toList = t :: l → ats[0]? = some t := by
    intro t l e; rw [← Array.getElem?_toList, e]; rfl
  unfold aBuiltin at ho
  split at ho
  · split at ho
    · rename_i t l x e
      simp only [bnd_some, val_some] at ho
      obtain ⟨v, h1, rfl⟩ := ho
      obtain ⟨x', rfl, hx'⟩ := hx.one_inv
      obtain ⟨k1, k2⟩ := len_ok (P := P) (ty := type) (w := w) HC hx' (at0 e) h1 (fun b _ => r.at' b)
      exact ((pass_of k1 k2).done r).nx
    · simp at ho
  · split at ho
    · rename_i t l x e
      simp only [bnd_some, val_some] at ho
      obtain ⟨v, h1, rfl⟩ := ho
      obtain ⟨x', rfl, hx'⟩ := hx.one_inv
      obtain ⟨k1, k2⟩ := cap_ok (P := P) (ty := type) (w := w) HC hx' (at0 e) h1
      exact ((pass_of k1 k2).done r).nx
    · simp at ho
  · split at ho
    · rename_i t xt s x e
      simp only [bnd_some, valH, ok_some] at ho
      obtain ⟨q, h1, rfl⟩ := ho
      obtain ⟨s', x', rfl, hs', hx'⟩ := hx.two_inv
      have : ats = #[t, xt] := Array.ext' (by simpa using e)
      subst this
      obtain ⟨v', ρ', w', k1, k2, k3, k4⟩ := append_ok (P := P) (ty := type) HC r hs' hx' h1
      exact (done_of k1 k2 k3 k4).nx
    · simp at ho
  · split at ho
    · rename_i t l d x e
      simp only [bnd_some, valH, ok_some] at ho
      obtain ⟨q, h1, rfl⟩ := ho
      obtain ⟨s', x', rfl, hs', hx'⟩ := hx.two_inv
      obtain ⟨w', k1, k2, k3, k4⟩ := copy_ok (P := P) (ty := type) HC r (at0 e) hs' hx' h1
      exact (done_of k1 k2 k3 k4).nx
    · simp at ho
  · split at ho
    · rename_i x rest
      simp only [need_some, bnd_some, val_some] at ho
      obtain ⟨hf, v, h1, rfl⟩ := ho
      have := flats_eq hx hf
      subst this
      obtain ⟨k1, k2⟩ := plain_ok (P := P) h1
      refine ((pass_of (s := Builtin.min_ ats type ⟨x :: rest⟩) ?_ (k2 ρ)).done r).nx
      exact k1 w
    · simp at ho
  · split at ho
    · rename_i x rest
      simp only [need_some, bnd_some, val_some] at ho
      obtain ⟨hf, v, h1, rfl⟩ := ho
      have := flats_eq hx hf
      subst this
      obtain ⟨k1, k2⟩ := plain_ok (P := P) h1
      refine ((pass_of (s := Builtin.max_ ats type ⟨x :: rest⟩) ?_ (k2 ρ)).done r).nx
      exact k1 w
    · simp at ho
  · simp at ho; subst ho
    exact ⟨rfl, rfl⟩
  · split at ho
    · rename_i t l m k e
      simp only [bnd_some, ok_some] at ho
      obtain ⟨h', h1, rfl⟩ := ho
      obtain ⟨s', x', rfl, hs', hx'⟩ := hx.two_inv
      obtain ⟨w', k1, k3, k4⟩ := delete_ok (P := P) (ty := type) HC r (at0 e) hs' hx' h1
      exact (done_of k1 (.tuple .nil) k3 k4).nx
    · simp at ho
  · split at ho
    · simp at ho; subst ho
      obtain ⟨x', rfl, hx'⟩ := hx.one_inv
      obtain ⟨rfl, rfl, rfl⟩ := hx'.nilSl_inv
      exact ((pass_of (s := Builtin.unsafeSliceData_ ats type #[.slice none 0 0]) rfl .nilPtr).done r).nx
    · rename_i A n c
      split at ho
      · simp at ho
      · rename_i hne
        simp at ho; subst ho
        obtain ⟨x', rfl, hx'⟩ := hx.one_inv
        obtain ⟨b, o, p, a', cap, rfl, hp, rfl, hl, hc, ha⟩ := hx'.sl_inv
        have hcap : cap ≠ 0 := by intro h0; apply hne; omega
        have ha := ha.resolve_left hcap
        subst ha
        exact ((pass_of (s := Builtin.unsafeSliceData_ ats type #[.slice (some ⟨p.blk, p.off + o, none⟩) n cap]) (Go.Lib.run_unsafeSliceData_row w ats type _ n cap hcap) (.ptr hp)).done r).nx
    · simp at ho
  · split at ho
    · rename_i pt l pa k n e
      simp only [bnd_some, valH, ok_some] at ho
      obtain ⟨q, h1, rfl⟩ := ho
      obtain ⟨s', x', rfl, hs', hx'⟩ := hx.two_inv
      obtain ⟨w', k1, k2, k3, k4⟩ := unsafeString_ok (P := P) (ty := type) HC r (at0 e) hs' hx' h1
      exact (done_of k1 k2 k3 k4).nx
    · simp at ho
  · simp at ho

theorem aOp_ok (HC : CtxT P C) (ht : TmR ρ tm a.tmps) (hg : GlR C.ng ρ) (r : HR ρ h w) {o : Oper} {n : Nx} (ho : aOp o.op C tm h = some n) :
    NxOk P ρ h w n ((execOp a.eval o).run P w) := by
  obtain ⟨dst, op, type, pos, after, guard⟩ := o
  simp only at ho
  cases op <;> simp only [aOp] at ho <;> (try simp only [execOp])
  all_goals first
    | exact ((opMove_ok ht hg ho).done r).nx
    | exact ((opPick_ok ht hg ho).done r).nx
    | exact (opAlloc_ok HC r ho).nx
    | exact (opBox_ok ht hg r ho).nx
    | exact ((opBuild_ok HC ht hg ho).done r).nx
    | exact (opBuildSlice_ok HC ht hg r ho).nx
    | exact ((opLoad_ok HC ht hg ho (fun b _ _ => r.at' b)).done r).nx
    | exact (opStore_ok HC ht hg r ho).nx
    | exact ((opBin_ok HC ht hg ho).done r).nx
    | exact ((opUn_ok ht hg ho).done r).nx
    | exact (opConv_ok HC ht hg r ho).nx
    | exact ((opIface_ok HC ht hg ho).done r).nx
    | exact ((opFunc_ok ht hg ho).done r).nx
    | exact (opMap_ok HC ht hg r ho).nx
    | exact (opMakeSlice_ok HC ht hg r ho).nx
    | exact ((opSlice_ok HC ht hg ho).done r).nx
    | exact ((opFieldAddr_ok HC ht hg ho).done r).nx
    | exact ((opField_ok HC ht hg ho).done r).nx
    | exact ((opIndexAddr_ok HC ht hg ho).done r).nx
    | exact ((opIndex_ok HC ht hg ho).done r).nx
    | exact ((opLookup_ok HC ht hg ho (fun b _ => r.at' b)).done r).nx
    | exact (opUpdate_ok HC ht hg r ho).nx
    | exact (opRange_ok HC ht hg r ho).nx
    | exact (opNext_ok ht hg r ho).nx
    | exact ((opEntry_ok ht hg r ho).done r).nx
    | exact ((opAssert_ok HC ht hg ho).done r).nx
    | exact ((opExtract_ok ht hg ho).done r).nx
    | (simp [opNone] at ho; done)
    | skip
  · rename_i x
    exact ((opNilCheck_ok (o := ⟨dst, .nilCheck x, type, pos, after, guard⟩) ht hg rfl ho).done r).nx
  · rename_i c
    simp only [opCall, bnd_some] at ho
    obtain ⟨args, h1, h2⟩ := ho
    have hv := evs_ok (a := a) ht hg h1
    have hmap : c.args.map a.eval = ⟨c.args.toList.map a.eval⟩ := by apply Array.ext'; simp
    split at h2
    · rename_i b hc
      simp only [resolve, hc, Sem.run_bind, Sem.run_pure, Result.andThen_ok, invoke, hmap]
      exact builtin_ok HC r hv h2
    · rename_i f hc
      simp only [bnd_some] at h2
      obtain ⟨fv, h3, h4⟩ := h2
      exact aFn_ok (type := type) (ev_ok ht hg h3) hv h4 c ⟨f, hc, rfl⟩ hmap
    · simp at h2
  · rename_i c
    simp only [opDefer, bnd_some] at ho
    obtain ⟨args, h1, h2⟩ := ho
    have hv := evs_ok (a := a) ht hg h1
    have hmap : c.args.map a.eval = ⟨c.args.toList.map a.eval⟩ := by apply Array.ext'; simp
    split at h2
    · rename_i f hc
      simp only [bnd_some] at h2
      obtain ⟨fv, h3, h4⟩ := h2
      split at h4
      · rename_i g first captured
        simp at h4; subst h4
        obtain ⟨xs', ys', he, k1, k2⟩ := (ev_ok (a := a) ht hg h3).func_inv
        obtain ⟨fs⟩ := first; obtain ⟨cs⟩ := captured
        refine ⟨rfl, { target := .fn (.func g) ys', args := xs' ++ ⟨c.args.toList.map a.eval⟩ }, ?_, ?_⟩
        · obtain ⟨ys'⟩ := ys'; obtain ⟨xs'⟩ := xs'
          have := DefR.fn (ρ := ρ) g k2 (k1.append hv)
          simpa using this
        · simp only [resolve, hc, he, Deferred.ofValue, Sem.run_bind, Sem.run_pure, Result.andThen_ok, hmap]
      · simp at h4
    · simp at h2
  · rename_i x
    simp only [opPanic, bnd_some] at ho
    obtain ⟨v, h1, h2⟩ := ho
    have hv := ev_ok (a := a) ht hg h1
    split at h2
    · simp at h2; subst h2
      obtain ⟨v', he, k1⟩ := hv.iface_inv
      refine ⟨rfl, _, hv, ?_⟩
      rw [he]
      simp [Instr.panic, Result.andThen]
    · simp at h2
end
end Go.Ai
namespace Go.Ai

inductive ChR (ρ : Mp) : List PanicEntry → List PanicEntry → Prop
  | nil : ChR ρ [] []
  | cons {v v' : Value} {r g : Bool} {c c' : List PanicEntry} (h : VR ρ v v') (hs : ChR ρ c c') : ChR ρ ({ v := v, recovered := r, goexit := g } :: c) ({ v := v', recovered := r, goexit := g } :: c')
inductive ModeR (ρ : Mp) : FrameMode → FrameMode → Prop
  | run : ModeR ρ .run .run
  | returning : ModeR ρ .returning .returning
  | panicking {c c' : List PanicEntry} (h : ChR ρ c c') : ModeR ρ (.panicking c) (.panicking c')
inductive DefsR (ρ : Mp) : List Deferred → List Deferred → Prop
  | nil : DefsR ρ [] []
  | cons {d d' : Deferred} {l l' : List Deferred} (h : DefR ρ d d') (hs : DefsR ρ l l') : DefsR ρ (d :: l) (d' :: l')

section mono
variable {ρ ρ' : Mp} (hle : ρ.le ρ')
include hle
theorem ChR.mono {c c' : List PanicEntry} (h : ChR ρ c c') : ChR ρ' c c' := by
  induction h with
  | nil => exact .nil
  | cons h _ ih => exact .cons (h.mono hle) ih
theorem ModeR.mono {m m' : FrameMode} (h : ModeR ρ m m') : ModeR ρ' m m' := by
  cases h with
  | run => exact .run
  | returning => exact .returning
  | panicking h => exact .panicking (h.mono hle)
theorem DefsR.mono {l l' : List Deferred} (h : DefsR ρ l l') : DefsR ρ' l l' := by
  induction h with
  | nil => exact .nil
  | cons h _ ih => exact .cons (h.mono hle) ih
end mono

structure StR (ρ : Mp) (s : St) (a : Act) (w : World) : Prop where
  tm : TmR ρ s.tm a.tmps
  df : DefsR ρ s.df a.defers
  hp : HR ρ s.hp w
structure Bok (ρ : Mp) (rd : Option Nat) (up : Option FrameMode) (b : Frame) (cs0 cs : List Frame) : Prop where
  ro : OptR ρ rd b.roundOf
  nrm : up = none → b.kind = .normal ∧ cs = cs0
  dfd : ∀ m, up = some m → b.kind = .deferred ∧ rd = none ∧ ∃ c rest m', cs0 = c :: rest ∧ cs = { c with mode := m' } :: rest ∧ ModeR ρ m m'
theorem Bok.mono {ρ ρ' : Mp} (hle : ρ.le ρ') {rd : Option Nat} {up : Option FrameMode} {b : Frame} {cs0 cs : List Frame} (h : Bok ρ rd up b cs0 cs) : Bok ρ' rd up b cs0 cs :=
  ⟨h.ro.mono hle, h.nrm, fun m hm => let ⟨h1, h2, c, rest, m', h3, h4, h5⟩ := h.dfd m hm; ⟨h1, h2, c, rest, m', h3, h4, h5.mono hle⟩⟩

def ExOk (P : Program) (b : Frame) (k : List Item) (cs0 : List Frame) (M : Machine) (n0 : Nat) (ρ : Mp) (h : H) (w : World) (rd : Option Nat) (e : Ex) (s : St) : Prop :=
  ∃ ρ' a' w' cs', StR ρ' s a' w' ∧ a'.tmps.size = n0 ∧ Bok ρ' rd s.up b cs0 cs' ∧ Ext ρ h w ρ' s.hp w' ∧ match e with
    | .normal => Steps P M (lone (b.atR a' k) cs' w')
    | .exit id => ∃ k', exitTo id k' = exitTo id k ∧ Steps P M (lone (b.atR a' (.code (.exit id) :: k')) cs' w')
    | .ret => ∃ k', Steps P M (lone (b.atR a' (.code .ret :: k')) cs' w')
    | .panic ch => ∃ k' ch', ChR ρ' ch ch' ∧ Steps P M (lone { b.atR a' k' with mode := .panicking ch' } cs' w')

theorem ExOk.head {P : Program} {b : Frame} {k : List Item} {cs0 : List Frame} {M M' : Machine} {n0 : Nat} {ρ : Mp} {h : H} {w : World} {rd : Option Nat} {e : Ex} {s : St} (hs : Steps P M M') (x : ExOk P b k cs0 M' n0 ρ h w rd e s) : ExOk P b k cs0 M n0 ρ h w rd e s := by
  obtain ⟨ρ', a', w', cs', h1, h2, h3, h4, h5⟩ := x
  refine ⟨ρ', a', w', cs', h1, h2, h3, h4, ?_⟩
  cases e with
  | normal => exact hs.trans h5
  | exit id => obtain ⟨k', g1, g2⟩ := h5; exact ⟨k', g1, hs.trans g2⟩
  | ret => obtain ⟨k', g2⟩ := h5; exact ⟨k', hs.trans g2⟩
  | panic ch => obtain ⟨k', ch', g1, g2⟩ := h5; exact ⟨k', ch', g1, hs.trans g2⟩
/-- first to one state, from there on -/
theorem ExOk.andThen {P : Program} {b : Frame} {k : List Item} {cs0 : List Frame} {M : Machine} {n0 : Nat} {ρ ρ1 : Mp} {h h1 : H} {w w1 : World} {rd : Option Nat} {e : Ex} {s : St} (he : Ext ρ h w ρ1 h1 w1) (x : ExOk P b k cs0 M n0 ρ1 h1 w1 rd e s) : ExOk P b k cs0 M n0 ρ h w rd e s := by
  obtain ⟨ρ', a', w', cs', g1, g2, g3, g4, g5⟩ := x
  exact ⟨ρ', a', w', cs', g1, g2, g3, he.trans g4, g5⟩

/-- what is asked of a function that is called -/
def RetOk (P : Program) (g : Nat) (args : Array Value) (w : World) (cs : List Frame) (v : Value) (w' : World) : Prop :=
  (callFunc g args).run P w = .ok (.value v) w' ∨
  ((callFunc g args).run P w = .ok (.enter g args) w ∧ ∃ fr, Steps P (lone (Frame.enter P g args .normal) cs w) (lone fr cs w') ∧ fr.fn = g ∧ fr.leaving P w' (.returned v))
def PanOk (P : Program) (g : Nat) (args : Array Value) (w : World) (cs : List Frame) (ch : List PanicEntry) (w' : World) : Prop :=
  (callFunc g args).run P w = .ok (.enter g args) w ∧ ∃ fr, Steps P (lone (Frame.enter P g args .normal) cs w) (lone fr cs w') ∧ fr.fn = g ∧ fr.leaving P w' (.panicked ch)
def CallOk (P : Program) (C : Ctx) (g : Nat) (args : List Value) (h : H) (out : Out) : Prop :=
  ∀ ρ w (args' : List Value) (cs : List Frame), VRs ρ args args' → HR ρ h w → GlR C.ng ρ →
    (∃ v h' ρ' v' w', out = .ret v h' ∧ VR ρ' v v' ∧ HR ρ' h' w' ∧ Ext ρ h w ρ' h' w' ∧ RetOk P g ⟨args'⟩ w cs v' w') ∨
    (∃ ch h' ρ' ch' w', out = .pan ch h' ∧ ChR ρ' ch ch' ∧ HR ρ' h' w' ∧ Ext ρ h w ρ' h' w' ∧ PanOk P g ⟨args'⟩ w cs ch' w')
/-- .. of a round -/
def RoundOk (P : Program) (C : Ctx) (l : Nat) (args : List Value) (h : H) (out : Out) : Prop :=
  ∀ ρ w p (args' : List Value) (c : Frame) (cs : List Frame), ρ l = some p → VRs ρ args args' → HR ρ h w → GlR C.ng ρ →
    ∃ v h' ρ' v' w', out = .ret v h' ∧ VR ρ' v v' ∧ HR ρ' h' w' ∧ Ext ρ h w ρ' h' w' ∧
      ∃ fn tmps assign body, (Instr.yield p.blk ⟨args'⟩).run P w = .ok (.round p.blk fn tmps assign body) w ∧
        Steps P (lone (Frame.round p.blk fn tmps assign body .normal) (c :: cs) w) (lone (c.finish v') cs w')

section steps
variable {P : Program} {b : Frame} {a : Act} {k : List Item} {cs : List Frame} {w : World} {ops : Array Oper} {i : Nat} {rest : List Nat} {o : Oper}

theorem fin_put (ho : ops[i]? = some o) (v : Value) : (b.atR a (.inRegion ops (i :: rest) :: k)).finish v = b.atR (a.put o.dst v) (.inRegion ops rest :: k) := by
  rw [Frame.finish_atR, ho]; rfl
theorem semAt_of {nx : Result Next} (hr : (execOp a.eval o).run P w = nx) (hd : b.roundOf = none ∨ ∀ c, o.op ≠ .defer c) : (o.semAt b.roundOf a.eval).run P w = nx := by
  rcases hd with hd | hd
  · rw [hd, Oper.semAt_none]; exact hr
  · rw [Oper.semAt_eq _ _ _ hd]; exact hr

theorem stepR_value (ho : ops[i]? = some o) (hw : Region.wanted o (yielded ops a.tmps) = true) {v : Value} {w' : World} (hr : (o.semAt b.roundOf a.eval).run P w = .ok (.value v) w') :
    step P (lone (b.atR a (.inRegion ops (i :: rest) :: k)) cs w) = .next (lone (b.atR (a.put o.dst v) (.inRegion ops rest :: k)) cs w') := by
  refine step_lone_go ?_
  rw [stepGR_op ho hw, ← fin_put ho]; simp [stepG.apply, hr]
theorem stepR_skip' (ho : ops[i]? = some o) (hw : Region.wanted o (yielded ops a.tmps) = true) {w' : World} (hr : (o.semAt b.roundOf a.eval).run P w = .ok .skip w') :
    step P (lone (b.atR a (.inRegion ops (i :: rest) :: k)) cs w) = .next (lone (b.atR (a.put o.dst undef) (.inRegion ops rest :: k)) cs w') := by
  refine step_lone_go ?_
  rw [stepGR_op ho hw]
  have := fin_put (b := b) (a := a) (k := k) (rest := rest) ho undef
  rw [← this]; simp [stepG.apply, hr]; rfl
theorem stepR_defer (ho : ops[i]? = some o) (hw : Region.wanted o (yielded ops a.tmps) = true) {d : Deferred} {w' : World} (hr : (o.semAt b.roundOf a.eval).run P w = .ok (.defer d) w') :
    step P (lone (b.atR a (.inRegion ops (i :: rest) :: k)) cs w) = .next (lone (b.atR ({ a with defers := d :: a.defers }.put o.dst undef) (.inRegion ops rest :: k)) cs w') := by
  refine step_lone_go ?_
  have : ({ b.atR a (.inRegion ops (i :: rest) :: k) with defers := d :: a.defers } : Frame).finish undef =
      b.atR ({ a with defers := d :: a.defers }.put o.dst undef) (.inRegion ops rest :: k) := by
    have := Frame.finish_atR b { a with defers := d :: a.defers } ops i rest k undef
    rw [ho] at this; exact this
  rw [stepGR_op ho hw]; simp only [stepG.apply, Sem.runT_eq, hr, GStep.bare_after]
  exact congrArg (fun fr => GStep.go { frame := fr, callers := cs, status := .running, dying := none } w') this
theorem stepR_enter (ho : ops[i]? = some o) (hw : Region.wanted o (yielded ops a.tmps) = true) {f : FuncId} {args : Array Value} {w' : World} (hr : (o.semAt b.roundOf a.eval).run P w = .ok (.enter f args) w') :
    step P (lone (b.atR a (.inRegion ops (i :: rest) :: k)) cs w) = .next (lone (Frame.enter P f args .normal) (b.atR a (.inRegion ops (i :: rest) :: k) :: cs) w') :=
  step_lone_go (by rw [stepGR_op ho hw]; simp [stepG.apply, hr, Frame.atR])
theorem stepR_round (ho : ops[i]? = some o) (hw : Region.wanted o (yielded ops a.tmps) = true) {l : Nat} {f : FuncId} {tmps : Array Value} {assign body : Code} {w' : World} (hr : (o.semAt b.roundOf a.eval).run P w = .ok (.round l f tmps assign body) w') :
    step P (lone (b.atR a (.inRegion ops (i :: rest) :: k)) cs w) = .next (lone (Frame.round l f tmps assign body .normal) (b.atR a (.inRegion ops (i :: rest) :: k) :: cs) w') :=
  step_lone_go (by rw [stepGR_op ho hw]; simp [stepG.apply, hr, Frame.atR])
theorem stepR_panic (ho : ops[i]? = some o) (hw : Region.wanted o (yielded ops a.tmps) = true) {v : Value} {w' : World} (hr : (o.semAt b.roundOf a.eval).run P w = .halt (.panic v) w') :
    step P (lone (b.atR a (.inRegion ops (i :: rest) :: k)) cs w) = .next (lone { b.atR a (.inRegion ops (i :: rest) :: k) with mode := .panicking [{ v, recovered := false }] } cs w') :=
  step_lone_go (by rw [stepGR_op ho hw, ← Frame.raise_atR]; simp [stepG.apply, hr])
theorem stepR_recover (ho : ops[i]? = some o) (hw : Region.wanted o (yielded ops a.tmps) = true) {w' : World} (hro : b.roundOf = none) (hr : (o.semAt b.roundOf a.eval).run P w = .ok .recover w') {v : Value} {cs' : List Frame}
    (ht : (b.kind = .deferred ∧ recoverD cs = some (v, cs')) ∨ ((b.kind = .normal ∨ (b.kind = .deferred ∧ recoverD cs = none)) ∧ v = .nilIface ∧ cs' = cs)) :
    step P (lone (b.atR a (.inRegion ops (i :: rest) :: k)) cs w) = .next (lone (b.atR (a.put o.dst v) (.inRegion ops rest :: k)) cs' w') := by
  refine step_lone_go ?_
  rw [stepGR_op ho hw, ← fin_put ho]
  have hrof : (b.atR a (.inRegion ops (i :: rest) :: k)).roundOf = none := hro
  rcases ht with ⟨hk, ht⟩ | ⟨hk | ⟨hk, ht⟩, rfl, rfl⟩
  · have htr := tryRecover_deferred (fr := b.atR a (.inRegion ops (i :: rest) :: k)) hk cs
    rw [ht] at htr
    simp only [stepG.apply, Sem.runT_eq, hr, GStep.bare_after, hrof, htr]
    rfl
  · have htr : tryRecover (b.atR a (.inRegion ops (i :: rest) :: k)) cs' = none := by
      have : (b.atR a (.inRegion ops (i :: rest) :: k)).kind = .normal := hk
      cases cs' <;> simp [tryRecover, this]
    simp only [stepG.apply, Sem.runT_eq, hr, GStep.bare_after, hrof, htr]
    rfl
  · have htr := tryRecover_deferred (fr := b.atR a (.inRegion ops (i :: rest) :: k)) hk cs'
    rw [ht] at htr
    simp only [stepG.apply, Sem.runT_eq, hr, GStep.bare_after, hrof, htr]
    rfl
end steps

theorem TmR.put {ρ : Mp} {tm : T Value} {a : Act} {v v' : Value} (ht : TmR ρ tm a.tmps) (hv : VR ρ v v') {d : Option Nat} (hd : ∀ t, d = some t → t < a.tmps.size) : TmR ρ (putT tm d v) (a.put d v').tmps := by
  cases d with
  | none => exact ht
  | some t =>
    intro j u hu
    have hlt := hd t rfl
    rcases T.get_set _ _ _ _ _ hu with ⟨rfl, e⟩ | ⟨hne, e⟩
    · cases e
      exact ⟨v', by simp [Act.put, hlt], hv⟩
    · obtain ⟨u', h1, h2⟩ := ht j u e
      exact ⟨u', by simp only [Act.put]; rw [Array.getElem?_setIfInBounds_ne (Ne.symm hne)]; exact h1, h2⟩
theorem Act.put_size' (a : Act) (d : Option Nat) (v : Value) : (a.put d v).tmps.size = a.tmps.size := by cases d <;> simp [Act.put]
theorem Act.put_df (a : Act) (d : Option Nat) (v : Value) : (a.put d v).defers = a.defers := by cases d <;> rfl
end Go.Ai
namespace Go.Ai
section
variable {P : Program} {C : Ctx}

theorem popUp_ok {ρ : Mp} {up : Option FrameMode} {m m' : FrameMode} {v : Value} {m2 : FrameMode} (hup : up = some m) (hm : ModeR ρ m m') (hp : popUp up = some (v, m2)) (c : Frame) (rest : List Frame) :
    ∃ v' m2', recoverD ({ c with mode := m' } :: rest) = some (v', { c with mode := m2' } :: rest) ∧ VR ρ v v' ∧ ModeR ρ m2 m2' := by
  subst hup
  unfold popUp at hp
  split at hp
  · rename_i u older he
    cases he
    simp at hp
    obtain ⟨rfl, rfl⟩ := hp
    cases hm with
    | panicking hc =>
      cases hc with
      | cons hv hs => exact ⟨_, _, rfl, hv, .panicking (.cons hv hs)⟩
  · cases hp
theorem popUp_none {ρ : Mp} {up : Option FrameMode} {m m' : FrameMode} (hup : up = some m) (hm : ModeR ρ m m') (hp : popUp up = none) (c : Frame) (rest : List Frame) :
    recoverD ({ c with mode := m' } :: rest) = none := by
  subst hup
  cases hm with
  | run => rfl
  | returning => rfl
  | panicking hc =>
    cases hc with
    | nil => rfl
    | @cons v v' r g c c' hv hs =>
      cases r <;> cases g <;> first | rfl | (simp [popUp] at hp)

theorem one_ok (HC : CtxT P C) {rec : Rec} (hcall : ∀ g args h out, rec (.call g args h) = some out → CallOk P C g args h out) (hround : ∀ l args h out, rec (.round l args h) = some out → RoundOk P C l args h out)
    {rd : Option Nat} {o : Oper} {s : St} {out : Out} (ho : tOne rd o s C rec = some out)
    {ρ : Mp} {a : Act} {w : World} {b : Frame} {k : List Item} {cs0 cs : List Frame} {ops : Array Oper} {i : Nat} {rest : List Nat} (hi : ops[i]? = some o) (hw : Region.wanted o (yielded ops a.tmps) = true)
    (hd : dstOk a.tmps.size o = true) (hs : StR ρ s a w) (hb : Bok ρ rd s.up b cs0 cs) (hg : GlR C.ng ρ) :
    ∃ e s', out = .ex e s' ∧ ExOk P b (.inRegion ops rest :: k) cs0 (lone (b.atR a (.inRegion ops (i :: rest) :: k)) cs w) a.tmps.size ρ s.hp w rd e s' := by
  simp only [tOne, bnd_some] at ho
  obtain ⟨n, h1, h2⟩ := ho
  have hx := aOp_ok (P := P) (a := a) HC hs.tm hg hs.hp h1
  have hdst : ∀ t, o.dst = some t → t < a.tmps.size := by
    intro t ht
    simp only [dstOk, ht] at hd
    exact Nat.le_of_ble_eq_true hd
  have hnd : (∀ d h', n ≠ .defer d h') → ∀ c, o.op ≠ .defer c := by
    intro hn c hc
    rw [hc] at h1
    simp only [aOp, opDefer, bnd_some] at h1
    obtain ⟨args, _, h1⟩ := h1
    split at h1
    · simp only [bnd_some] at h1
      obtain ⟨fv, _, h1⟩ := h1
      split at h1
      · simp at h1; exact hn _ _ h1.symm
      · simp at h1
    · simp at h1
  cases n with
  | val v h' =>
    obtain ⟨v0, h0, ρ', w', nx, v', he, hr, hnx, hv, hh, hext⟩ := hx
    cases he
    simp only [goNx, nxVal, ok_some] at h2
    subst h2
    refine ⟨.normal, _, rfl, ρ', a.put o.dst v', w', cs, ⟨(hs.tm.mono hext.le).put hv hdst, by rw [Act.put_df]; exact hs.df.mono hext.le, hh⟩, Act.put_size' _ _ _, hb.mono hext.le, hext, ?_⟩
    have hsem := semAt_of (P := P) (b := b) (a := a) hr (.inr (hnd (by simp)))
    rcases hnx with rfl | ⟨rfl, rfl⟩
    · exact .one (stepR_value hi hw hsem)
    · exact .one (stepR_skip' hi hw hsem)
  | call g args h' =>
    obtain ⟨rfl, args', hargs, hr⟩ := hx
    simp only [goNx, nxCall, bnd_some] at h2
    obtain ⟨r, h3, h4⟩ := h2
    rcases hcall _ _ _ _ h3 ρ w args' (b.atR a (.inRegion ops (i :: rest) :: k) :: cs) hargs hs.hp hg with ⟨v, h', ρ', v', w', rfl, hv, hh, hext, hret⟩ | ⟨ch, h', ρ', ch', w', rfl, hc, hh, hext, hpan⟩
    · simp at h4; subst h4
      refine ⟨.normal, _, rfl, ρ', a.put o.dst v', w', cs, ⟨(hs.tm.mono hext.le).put hv hdst, by rw [Act.put_df]; exact hs.df.mono hext.le, hh⟩, Act.put_size' _ _ _, hb.mono hext.le, hext, ?_⟩
      rcases hret with hret | ⟨hen, hst⟩
      · rw [hret] at hr
        exact .one (stepR_value hi hw (semAt_of hr (.inr (hnd (by simp)))))
      · rw [hen] at hr
        obtain ⟨fr, s1, s2, s3⟩ := hst
        refine .head (stepR_enter hi hw (semAt_of hr (.inr (hnd (by simp))))) (s1.trans (.one ?_))
        rw [← fin_put hi]
        exact step_leave_returned s3
    · simp at h4; subst h4
      refine ⟨.panic ch, _, rfl, ρ', a, w', cs, ⟨hs.tm.mono hext.le, hs.df.mono hext.le, hh⟩, rfl, hb.mono hext.le, hext, .inRegion ops (i :: rest) :: k, ch', hc, ?_⟩
      obtain ⟨hen, hst⟩ := hpan
      rw [hen] at hr
      obtain ⟨fr, s1, s2, s3⟩ := hst
      refine .head (stepR_enter hi hw (semAt_of hr (.inr (hnd (by simp))))) (s1.trans (.one ?_))
      rw [← Frame.raise_atR]
      exact step_leave_panicked s3
  | yield l args h' =>
    obtain ⟨rfl, p, args', hp, hargs, hr⟩ := hx
    simp only [goNx, nxYield, bnd_some] at h2
    obtain ⟨r, h3, h4⟩ := h2
    obtain ⟨v, h', ρ', v', w', rfl, hv, hh, hext, fn, tmps, assign, body, hy, hst⟩ := hround _ _ _ _ h3 ρ w p args' (b.atR a (.inRegion ops (i :: rest) :: k)) cs hp hargs hs.hp hg
    simp at h4; subst h4
    refine ⟨.normal, _, rfl, ρ', a.put o.dst v', w', cs, ⟨(hs.tm.mono hext.le).put hv hdst, by rw [Act.put_df]; exact hs.df.mono hext.le, hh⟩, Act.put_size' _ _ _, hb.mono hext.le, hext, ?_⟩
    rw [hy] at hr
    refine .head (stepR_round hi hw (semAt_of hr (.inr (hnd (by simp))))) ?_
    rw [fin_put hi] at hst
    exact hst
  | defer d h' =>
    obtain ⟨rfl, d', hdr, hr⟩ := hx
    simp only [goNx, nxDefer] at h2
    cases rd with
    | some l => simp at h2
    | none =>
      simp at h2; subst h2
      have hro : b.roundOf = none := by have := hb.ro; revert this; generalize b.roundOf = x; intro h; cases h; rfl
      refine ⟨.normal, _, rfl, ρ, { a with defers := d' :: a.defers }.put o.dst undef, w, cs, ⟨?_, ?_, hs.hp⟩, Act.put_size' _ _ _, hb, Ext.refl _ _ _, ?_⟩
      · exact TmR.put (a := { a with defers := d' :: a.defers }) hs.tm (.tuple .nil) hdst
      · rw [Act.put_df]; exact .cons hdr hs.df
      · exact .one (stepR_defer hi hw (semAt_of hr (.inl hro)))
  | panic v h' =>
    obtain ⟨rfl, v', hv, hr⟩ := hx
    simp only [goNx, nxPanic, ok_some] at h2
    subst h2
    refine ⟨.panic _, _, rfl, ρ, a, w, cs, ⟨hs.tm, hs.df, hs.hp⟩, rfl, hb, Ext.refl _ _ _, .inRegion ops (i :: rest) :: k, [{ v := v', recovered := false }], .cons hv .nil, ?_⟩
    exact .one (stepR_panic hi hw (semAt_of hr (.inr (hnd (by simp)))))
  | recover h' =>
    obtain ⟨rfl, hr⟩ := hx
    simp only [goNx, nxRecover] at h2
    cases rd with
    | some l => simp at h2
    | none =>
      have hro : b.roundOf = none := by have := hb.ro; revert this; generalize b.roundOf = x; intro h; cases h; rfl
      have hsem := semAt_of (P := P) (b := b) (a := a) hr (.inr (hnd (by simp)))
      simp only at h2
      cases hup : s.up with
      | none =>
        rw [hup] at h2
        simp [popUp] at h2; subst h2
        have hn := hb.nrm hup
        refine ⟨.normal, _, rfl, ρ, a.put o.dst .nilIface, w, cs, ⟨hs.tm.put .nilIface hdst, by rw [Act.put_df]; exact hs.df, hs.hp⟩, Act.put_size' _ _ _, ?_, Ext.refl _ _ _, .one (stepR_recover hi hw hro hsem (.inr ⟨.inl hn.1, rfl, rfl⟩))⟩
        simpa [St.with] using hb
      | some m =>
        obtain ⟨hk, _, c, rest', m', e1, e2, e3⟩ := hb.dfd m hup
        cases hpp : popUp s.up with
        | some vm =>
          rw [hpp] at h2
          simp at h2; subst h2
          obtain ⟨v, m2⟩ := vm
          obtain ⟨v', m2', g1, g2, g3⟩ := popUp_ok hup e3 hpp c rest'
          refine ⟨.normal, _, rfl, ρ, a.put o.dst v', w, { c with mode := m2' } :: rest', ⟨hs.tm.put g2 hdst, by rw [Act.put_df]; exact hs.df, hs.hp⟩, Act.put_size' _ _ _, ⟨hb.ro, (by simp), ?_⟩, Ext.refl _ _ _, ?_⟩
          · intro m3 hm3
            simp at hm3; subst hm3
            exact ⟨hk, rfl, c, rest', m2', e1, rfl, g3⟩
          · subst e2
            exact .one (stepR_recover hi hw hro hsem (.inl ⟨hk, g1⟩))
        | none =>
          rw [hpp] at h2
          simp at h2; subst h2
          have g1 := popUp_none hup e3 hpp c rest'
          refine ⟨.normal, _, rfl, ρ, a.put o.dst .nilIface, w, cs, ⟨hs.tm.put .nilIface hdst, by rw [Act.put_df]; exact hs.df, hs.hp⟩, Act.put_size' _ _ _, hb, Ext.refl _ _ _, ?_⟩
          subst e2
          exact .one (stepR_recover hi hw hro hsem (.inr ⟨.inr ⟨hk, g1⟩, rfl, rfl⟩))
end
end Go.Ai
namespace Go.Ai
section
variable {P : Program} {C : Ctx}

/-! ### the trace of a region that draws -/
inductive Trace (P : Program) (C : Ctx) (rd : Option Nat) (all : List Oper) : List Oper → Nat → St → List Nat → List Ent → St → Prop
  | nil {i : Nat} {s : St} {reach : List Nat} {es : List Ent} (h : lookOk reach es = true) : Trace P C rd all [] i s reach es s
  | skip {o : Oper} {r : List Oper} {i : Nat} {s sf : St} {reach : List Nat} {es : List Ent} (he : edgesOk i o = true) (hw : wantedA all o s.tm = some false)
      (ht : Trace P C rd all r (i + 1) (s.with (putT s.tm o.dst undef) s.hp) (reach ++ [reachOf reach o]) es sf) : Trace P C rd all (o :: r) i s reach es sf
  | op {o : Oper} {r : List Oper} {i : Nat} {s s1 sf : St} {reach : List Nat} {es es' : List Ent} (rec : Rec) (he : edgesOk i o = true) (hw : wantedA all o s.tm = some true)
      (hcall : ∀ g args h out, rec (.call g args h) = some out → CallOk P C g args h out) (hround : ∀ l args h out, rec (.round l args h) = some out → RoundOk P C l args h out)
      (ho : tOne (some 0) o (s.heap (s.hp.low0 bigLow)) C rec = some (.ex .normal s1)) (hes : entOf i o.op s.tm es s1.hp.low s.hp.ctr = some es')
      (ht : Trace P C rd all r (i + 1) (s1.heap (s1.hp.low0 (Nat.min s.hp.low s1.hp.low))) (reach ++ [reachOf reach o]) es' sf) : Trace P C rd all (o :: r) i s reach es sf

def LeaveOk (P : Program) (C : Ctx) (res : List ResultVar) (tm : T Value) (ds : List Deferred) (m : FrameMode) (h : H) (out : Out) : Prop :=
  ∀ ρ w fr cs fn, TmR ρ tm fr.tmps → DefsR ρ ds fr.defers → ModeR ρ m fr.mode → m ≠ .run → fr.kind = .normal → P.funcs[fr.fn]? = some fn → fn.results.toList = res → HR ρ h w → GlR C.ng ρ →
    (∃ v h' ρ' v' w' fr', out = .ret v h' ∧ VR ρ' v v' ∧ HR ρ' h' w' ∧ Ext ρ h w ρ' h' w' ∧ Steps P (lone fr cs w) (lone fr' cs w') ∧ fr'.fn = fr.fn ∧ fr'.leaving P w' (.returned v')) ∨
    (∃ ch h' ρ' ch' w' fr', out = .pan ch h' ∧ ChR ρ' ch ch' ∧ HR ρ' h' w' ∧ Ext ρ h w ρ' h' w' ∧ Steps P (lone fr cs w) (lone fr' cs w') ∧ fr'.fn = fr.fn ∧ fr'.leaving P w' (.panicked ch'))

def TOk (P : Program) (C : Ctx) : Task → Out → Prop
  | .ex rd c s, out => ∀ ρ a w b k cs0 cs, codeOk a.tmps.size c = true → StR ρ s a w → Bok ρ rd s.up b cs0 cs → GlR C.ng ρ →
      ∃ e s', out = .ex e s' ∧ ExOk P b k cs0 (lone (b.atR a (.code c :: k)) cs w) a.tmps.size ρ s.hp w rd e s'
  | .ops rd all l s, out => ∀ ρ a w b k cs0 cs (ops : Array Oper) (i : Nat), all = ops.toList → l = all.drop i → i + l.length = ops.size → (∀ o ∈ all, dstOk a.tmps.size o = true) →
      StR ρ s a w → Bok ρ rd s.up b cs0 cs → GlR C.ng ρ →
      ∃ e s', out = .ex e s' ∧ ExOk P b k cs0 (lone (b.atR a (.inRegion ops (List.range' i l.length) :: k)) cs w) a.tmps.size ρ s.hp w rd e s'
  | .draw rd all l i s reach es, out => ∃ sf, out = .ex .normal sf ∧ Trace P C rd all l i s reach es sf
  | .one _ _ _, _ => True
  | .round l args h, out => RoundOk P C l args h out
  | .call g args h, out => CallOk P C g args h out
  | .leave res tm ds m h, out => LeaveOk P C res tm ds m h out

inductive FEok (P : Program) (C : Ctx) (g : Nat) : FE → Prop
  | body {n : Nat} {res : List ResultVar} {c : Code} {fn : Func} (hf : P.funcs[g]? = some fn) (hname : (fn.name == "runtime.NumGoroutine") = false) (hb : fn.body = some c) (hn : fn.ntmps = n) (hr : fn.results.toList = res) (hc : codeOk n c = true) : FEok P C g (.body n res c)
  | other {fe : FE} (hb : ∀ n r c, fe ≠ .body n r c) (h : ∀ rec args h out, goFE fe rec args h = some out → CallOk P C g args h out) : FEok P C g fe
structure CtxF (P : Program) (C : Ctx) : Prop where
  tt : CtxT P C
  ft : ∀ g fe, C.ft.get g = some fe → FEok P C g fe

/-! ### plain code -/
def asB : Value → Option Bool
  | .bool b => some b
  | _ => none
theorem TmR.wanted {ρ : Mp} {tm : T Value} {tmps : Array Value} (ht : TmR ρ tm tmps) {ops : Array Oper} {o : Oper} {w : Bool} (hw : wantedA ops.toList o tm = some w) : Region.wanted o (yielded ops tmps) = w := by
  unfold wantedA at hw
  unfold Region.wanted
  split at hw
  · simp at hw; subst hw; rename_i he; simp [he]
  · rename_i j want he
    simp only [bnd_some, getO_eq] at hw
    obtain ⟨g, h1, d, h2, v, h3, h4⟩ := hw
    obtain ⟨v', k1, k2⟩ := ht _ _ h3
    simp only [he]
    have hy : yielded ops tmps j = asB v' := by
      unfold yielded
      rw [Array.getElem?_toList] at h1
      rw [h1]
      simp only [Option.bind_some, h2, k1]
      cases v' <;> rfl
    rw [hy]
    split at h4
    · rename_i b
      simp at h4; subst h4
      rw [k2.bool_inv]
      cases b <;> cases want <;> rfl
    · rename_i hnb
      simp at h4; subst h4
      cases k2 <;> first | rfl | (exact absurd rfl (hnb _))

theorem ops_ok (HC : CtxT P C) {n : Nat} (ih : ∀ m, m < n + 1 → ∀ t out, go C m t = some out → TOk P C t out) {rd : Option Nat} {all l : List Oper} {s : St} {out : Out} (ho : goOps (go C n) rd all s l = some out) : TOk P C (.ops rd all l s) out := by
  intro ρ a w b k cs0 cs ops i hall hl hlen hdst hs hb hg
  cases l with
  | nil =>
    simp [goOps] at ho; subst ho
    exact ⟨.normal, s, rfl, ρ, a, w, cs, hs, rfl, hb, Ext.refl _ _ _, .one stepR_region_end⟩
  | cons o r =>
    have hi : ops[i]? = some o := by
      have : all[i]? = some o := by
        have := congrArg (·[0]?) hl
        simpa using this.symm
      rw [hall] at this; simpa using this
    have hmem : o ∈ all := by rw [hall]; exact List.mem_of_getElem? (by simpa using hi : ops.toList[i]? = some o)
    have hr : r = all.drop (i + 1) := by
      have := congrArg List.tail hl
      simpa [List.tail_drop] using this
    simp only [List.length_cons] at hlen
    have hrange : List.range' i (o :: r).length = i :: List.range' (i + 1) r.length := by simp [List.range'_succ]
    rw [hrange]
    simp only [goOps, bnd_some] at ho
    obtain ⟨wt, h1, h2⟩ := ho
    rw [hall] at h1
    have hw := hs.tm.wanted h1
    cases wt with
    | false =>
      have hstep : step P (lone (b.atR a (.inRegion ops (i :: List.range' (i + 1) r.length) :: k)) cs w) = .next (lone (b.atR (a.put o.dst undef) (.inRegion ops (List.range' (i + 1) r.length) :: k)) cs w) := by
        have := stepR_op_skip (P := P) (b := b) (a := a) (k := k) (cs := cs) (w := w) (ops := ops) (i := i) (rest := List.range' (i + 1) r.length) (by simp [hi, hw])
        rw [hi] at this; exact this
      have hd := hdst o hmem
      have := ih n (Nat.lt_succ_self _) _ _ h2 ρ (a.put o.dst undef) w b k cs0 cs ops (i + 1) hall hr (by omega) (by rw [Act.put_size']; exact hdst) ⟨hs.tm.put (.tuple .nil) (fun t ht => by
        simp only [dstOk, ht] at hd; exact Nat.le_of_ble_eq_true hd), by rw [Act.put_df]; exact hs.df, hs.hp⟩ hb hg
      obtain ⟨e, s', he, hx⟩ := this
      rw [Act.put_size'] at hx
      exact ⟨e, s', he, hx.head (.one hstep)⟩
    | true =>
      simp only [bnd_some, tagE] at h2
      obtain ⟨x, h3, h4⟩ := h2
      cases n with
      | zero => simp [go] at h3
      | succ m =>
        have hone : tOne rd o s C (go C m) = some x := h3
        obtain ⟨e, s1, rfl, ρ1, a1, w1, cs1, g1, g2, g3, g4, g5⟩ := one_ok (P := P) HC (rec := go C m) (fun g args h out hh => ih m (by omega) _ _ hh) (fun l args h out hh => ih m (by omega) _ _ hh) hone (rest := List.range' (i + 1) r.length) (k := k) hi hw (hdst o hmem) hs hb hg
        cases e with
        | normal =>
          simp only at h4
          have := ih (m + 1) (by omega) _ _ h4 ρ1 a1 w1 b k cs0 cs1 ops (i + 1) hall hr (by omega) (by rw [g2]; exact hdst) g1 g3 (hg.mono g4.le)
          obtain ⟨e, s', he, hx⟩ := this
          rw [g2] at hx
          exact ⟨e, s', he, (hx.head g5).andThen g4⟩
        | exit id =>
          simp at h4; subst h4
          obtain ⟨k', q1, q2⟩ := g5
          exact ⟨_, _, rfl, ρ1, a1, w1, cs1, g1, g2, g3, g4, k', q1, q2⟩
        | ret =>
          simp at h4; subst h4
          obtain ⟨k', q2⟩ := g5
          exact ⟨_, _, rfl, ρ1, a1, w1, cs1, g1, g2, g3, g4, k', q2⟩
        | panic ch =>
          simp at h4; subst h4
          obtain ⟨k', ch', q1, q2⟩ := g5
          exact ⟨_, _, rfl, ρ1, a1, w1, cs1, g1, g2, g3, g4, k', ch', q1, q2⟩

theorem draw_ok {n : Nat} (ih : ∀ m, m < n + 1 → ∀ t out, go C m t = some out → TOk P C t out) {rd : Option Nat} {all l : List Oper} {i : Nat} {s : St} {reach : List Nat} {es : List Ent} {out : Out} (ho : goDraw (go C n) rd all i s reach es l = some out) : TOk P C (.draw rd all l i s reach es) out := by
  cases l with
  | nil =>
    simp only [goDraw, need_some, ok_some] at ho
    obtain ⟨h1, rfl⟩ := ho
    exact ⟨s, rfl, .nil h1⟩
  | cons o r =>
    simp only [goDraw, need_some, bnd_some] at ho
    obtain ⟨h1, wt, h2, h3⟩ := ho
    cases wt with
    | false =>
      obtain ⟨sf, rfl, ht⟩ := ih n (Nat.lt_succ_self _) _ _ h3
      exact ⟨sf, rfl, .skip h1 h2 ht⟩
    | true =>
      simp only [bnd_some, tagE] at h3
      obtain ⟨x, h4, h5⟩ := h3
      cases n with
      | zero => simp [go] at h4
      | succ m =>
        have hone : tOne (some 0) o (s.heap (s.hp.low0 bigLow)) C (go C m) = some x := h4
        split at h5
        · rename_i s1
          simp only [bnd_some] at h5
          obtain ⟨es', h6, h7⟩ := h5
          obtain ⟨sf, rfl, ht⟩ := ih (m + 1) (by omega) _ _ h7
          exact ⟨sf, rfl, .op (go C m) h1 h2 (fun g args h out hh => ih m (by omega) _ _ hh) (fun l args h out hh => ih m (by omega) _ _ hh) hone h6 ht⟩
        · simp at h5
end
end Go.Ai
namespace Go.Ai
section
variable {P : Program} {C : Ctx}

theorem exitTo_code (id : Nat) (c : Code) (k : List Item) : exitTo id (.code c :: k) = exitTo id k := rfl
theorem exitTo_loop (id : Nat) (c : Code) (k : List Item) : exitTo id (.inLoop c :: k) = exitTo id k := rfl
theorem exitTo_same (id : Nat) (k : List Item) : exitTo id (.inBlock id :: k) = some k := by simp [exitTo]
theorem exitTo_other {id id' : Nat} (h : id' ≠ id) (k : List Item) : exitTo id (.inBlock id' :: k) = exitTo id k := by simp [exitTo, h]

/-- code behind which something stands: what does not end normally leaves it behind -/
theorem ExOk.pass {b : Frame} {k k1 : List Item} {cs0 : List Frame} {M : Machine} {n0 : Nat} {ρ : Mp} {h : H} {w : World} {rd : Option Nat} {e : Ex} {s : St} (hk : ∀ id, exitTo id k1 = exitTo id k) (hn : e ≠ .normal)
    (x : ExOk P b k1 cs0 M n0 ρ h w rd e s) : ExOk P b k cs0 M n0 ρ h w rd e s := by
  obtain ⟨ρ', a', w', cs', h1, h2, h3, h4, h5⟩ := x
  refine ⟨ρ', a', w', cs', h1, h2, h3, h4, ?_⟩
  cases e with
  | normal => exact absurd rfl hn
  | exit id => obtain ⟨k', g1, g2⟩ := h5; exact ⟨k', g1.trans (hk id), g2⟩
  | ret => exact h5
  | panic ch => exact h5

theorem seq_ok {n : Nat} (ih : ∀ m, m < n + 1 → ∀ t out, go C m t = some out → TOk P C t out) {rd : Option Nat} {x y : Code} {s : St} {out : Out} (ho : exSeq x y (go C n) rd s = some out) : TOk P C (.ex rd (.seq x y) s) out := by
  intro ρ a w b k cs0 cs hc hs hb hg
  simp only [exSeq, bnd_some] at ho
  obtain ⟨r, h1, h2⟩ := ho
  simp only [codeOk, Bool.and_eq_true] at hc
  obtain ⟨e, s1, rfl, hx⟩ := ih n (Nat.lt_succ_self _) _ _ h1 ρ a w b (.code y :: k) cs0 cs hc.1 hs hb hg
  by_cases he : e = .normal
  · subst he
    obtain ⟨ρ1, a1, w1, cs1, g1, g2, g3, g4, g5⟩ := hx
    obtain ⟨e2, s2, rfl, hx2⟩ := ih n (Nat.lt_succ_self _) _ _ h2 ρ1 a1 w1 b k cs0 cs1 (by rw [g2]; exact hc.2) g1 g3 (hg.mono g4.le)
    rw [g2] at hx2
    exact ⟨e2, s2, rfl, ((hx2.head g5).andThen g4).head (.one stepR_seq)⟩
  · have : out = .ex e s1 := by cases e <;> simp_all
    subst this
    exact ⟨e, s1, rfl, (hx.pass (exitTo_code · y k) he).head (.one stepR_seq)⟩

theorem cond_ok {n : Nat} (ih : ∀ m, m < n + 1 → ∀ t out, go C m t = some out → TOk P C t out) {rd : Option Nat} {c : Operand} {x y : Code} {s : St} {out : Out} (ho : exCond c x y (go C n) rd s = some out) : TOk P C (.ex rd (.cond c x y) s) out := by
  intro ρ a w b k cs0 cs hc hs hb hg
  simp only [exCond, bnd_some] at ho
  obtain ⟨v, h1, t, h2, h3⟩ := ho
  simp only [codeOk, Bool.and_eq_true] at hc
  have hv := boolOf_ok (ev0_ok hs.tm h1) h2
  have hstep := stepR_cond (P := P) (b := b) (k := k) (cs := cs) (w := w) (x := x) (y := y) hv
  cases t with
  | true =>
    obtain ⟨e, s1, rfl, hx⟩ := ih n (Nat.lt_succ_self _) _ _ h3 ρ a w b k cs0 cs hc.1 hs hb hg
    exact ⟨e, s1, rfl, hx.head (.one hstep)⟩
  | false =>
    obtain ⟨e, s1, rfl, hx⟩ := ih n (Nat.lt_succ_self _) _ _ h3 ρ a w b k cs0 cs hc.2 hs hb hg
    exact ⟨e, s1, rfl, hx.head (.one hstep)⟩

theorem block_ok {n : Nat} (ih : ∀ m, m < n + 1 → ∀ t out, go C m t = some out → TOk P C t out) {rd : Option Nat} {id : Nat} {x : Code} {s : St} {out : Out} (ho : exBlock id x (go C n) rd s = some out) : TOk P C (.ex rd (.block id x) s) out := by
  intro ρ a w b k cs0 cs hc hs hb hg
  simp only [exBlock, bnd_some] at ho
  obtain ⟨r, h1, h2⟩ := ho
  obtain ⟨e, s1, rfl, hx⟩ := ih n (Nat.lt_succ_self _) _ _ h1 ρ a w b (.inBlock id :: k) cs0 cs hc hs hb hg
  have hx := hx.head (.one (stepR_block (P := P) (b := b) (a := a) (k := k) (cs := cs) (w := w) (id := id) (c := x)))
  obtain ⟨ρ1, a1, w1, cs1, g1, g2, g3, g4, g5⟩ := hx
  cases e with
  | normal =>
    simp at h2; subst h2
    exact ⟨_, _, rfl, ρ1, a1, w1, cs1, g1, g2, g3, g4, g5.trans (.one stepR_inBlock)⟩
  | exit i =>
    simp only at h2
    obtain ⟨k', q1, q2⟩ := g5
    split at h2
    · rename_i hid
      have hid := Nat.eq_of_beq_eq_true hid
      subst hid
      simp at h2; subst h2
      rw [exitTo_same] at q1
      exact ⟨.normal, _, rfl, ρ1, a1, w1, cs1, g1, g2, g3, g4, q2.trans (.one (stepR_exit q1))⟩
    · rename_i hid
      have hid : id ≠ i := fun e => by subst e; simp at hid
      simp at h2; subst h2
      rw [exitTo_other hid] at q1
      exact ⟨.exit i, _, rfl, ρ1, a1, w1, cs1, g1, g2, g3, g4, k', q1, q2⟩
  | ret =>
    simp at h2; subst h2
    exact ⟨_, _, rfl, ρ1, a1, w1, cs1, g1, g2, g3, g4, g5⟩
  | panic ch =>
    simp at h2; subst h2
    exact ⟨_, _, rfl, ρ1, a1, w1, cs1, g1, g2, g3, g4, g5⟩

theorem loop_in {n : Nat} (ih : ∀ m, m < n + 1 → ∀ t out, go C m t = some out → TOk P C t out) {rd : Option Nat} {x : Code} : ∀ m, m ≤ n → ∀ (s : St) (out : Out), exLoop x (go C m) rd s = some out →
    ∀ ρ a w b k cs0 cs, codeOk a.tmps.size x = true → StR ρ s a w → Bok ρ rd s.up b cs0 cs → GlR C.ng ρ →
      ∃ e s', out = .ex e s' ∧ ExOk P b k cs0 (lone (b.atR a (.code x :: .inLoop x :: k)) cs w) a.tmps.size ρ s.hp w rd e s' := by
  intro m
  induction m with
  | zero =>
    intro _ s out ho
    simp only [exLoop, bnd_some] at ho
    obtain ⟨r, h1, _⟩ := ho
    simp [go] at h1
  | succ m ihm =>
    intro hm s out ho ρ a w b k cs0 cs hc hs hb hg
    simp only [exLoop, bnd_some] at ho
    obtain ⟨r, h1, h2⟩ := ho
    obtain ⟨e, s1, rfl, hx⟩ := ih (m + 1) (by omega) _ _ h1 ρ a w b (.inLoop x :: k) cs0 cs hc hs hb hg
    by_cases he : e = .normal
    · subst he
      obtain ⟨ρ1, a1, w1, cs1, g1, g2, g3, g4, g5⟩ := hx
      have h2 : exLoop x (go C m) rd s1 = some out := h2
      obtain ⟨e2, s2, rfl, hx2⟩ := ihm (by omega) s1 out h2 ρ1 a1 w1 b k cs0 cs1 (by rw [g2]; exact hc) g1 g3 (hg.mono g4.le)
      rw [g2] at hx2
      exact ⟨e2, s2, rfl, (hx2.head (g5.trans (.one stepR_inLoop))).andThen g4⟩
    · have : out = .ex e s1 := by cases e <;> simp_all
      subst this
      exact ⟨e, s1, rfl, hx.pass (exitTo_loop · x k) he⟩
theorem loop_ok {n : Nat} (ih : ∀ m, m < n + 1 → ∀ t out, go C m t = some out → TOk P C t out) {rd : Option Nat} {x : Code} {s : St} {out : Out} (ho : exLoop x (go C n) rd s = some out) : TOk P C (.ex rd (.loop x) s) out := by
  intro ρ a w b k cs0 cs hc hs hb hg
  obtain ⟨e, s1, rfl, hx⟩ := loop_in ih n (Nat.le_refl _) s out ho ρ a w b k cs0 cs hc hs hb hg
  exact ⟨e, s1, rfl, hx.head (.one stepR_loop)⟩

theorem skip_ok {rd : Option Nat} {c : Code} {s : St} (hstep : ∀ (b : Frame) (a : Act) (k : List Item) (cs : List Frame) (w : World), step P (lone (b.atR a (.code c :: k)) cs w) = .next (lone (b.atR a k) cs w)) : TOk P C (.ex rd c s) (.ex .normal s) := by
  intro ρ a w b k cs0 cs _ hs hb _
  exact ⟨_, _, rfl, ρ, a, w, cs, hs, rfl, hb, Ext.refl _ _ _, .one (hstep b a k cs w)⟩
theorem exit_ok {rd : Option Nat} {id : Nat} {s : St} : TOk P C (.ex rd (.exit id) s) (.ex (.exit id) s) := by
  intro ρ a w b k cs0 cs _ hs hb _
  exact ⟨_, _, rfl, ρ, a, w, cs, hs, rfl, hb, Ext.refl _ _ _, k, rfl, .refl _ _⟩
theorem ret_ok {rd : Option Nat} {s : St} : TOk P C (.ex rd .ret s) (.ex .ret s) := by
  intro ρ a w b k cs0 cs _ hs hb _
  exact ⟨_, _, rfl, ρ, a, w, cs, hs, rfl, hb, Ext.refl _ _ _, k, .refl _ _⟩

/-! ### functions -/
theorem mk_get {α : Type} : ∀ (d j : Nat), (T.mk d : T α).get j = none := by
  intro d
  induction d with
  | zero => intro j; simp [T.mk]
  | succ d ih =>
    intro j
    show (T.n none (T.mk d) (T.mk d) : T α).get j = none
    cases j with
    | zero => rfl
    | succ j => rw [T.get_succ]; split <;> exact ih _
theorem putArgs_get : ∀ (args : List Value) (i : Nat) (t : T Value) (j : Nat) (v : Value), (putArgs args i t).get j = some v → (i ≤ j ∧ args[j - i]? = some v) ∨ t.get j = some v
  | [], i, t, j, v, h => .inr h
  | x :: xs, i, t, j, v, h => by
    rcases putArgs_get xs (i + 1) _ j v h with ⟨h1, h2⟩ | h1
    · refine .inl ⟨by omega, ?_⟩
      rw [show j - i = (j - (i + 1)) + 1 by omega]; simpa using h2
    · rcases T.get_set _ _ _ _ _ h1 with ⟨rfl, e⟩ | ⟨_, e⟩
      · cases e; exact .inl ⟨Nat.le_refl _, by simp⟩
      · exact .inr e
theorem initT_ok {ρ : Mp} {n : Nat} {args args' : List Value} (hv : VRs ρ args args') (m : Nat) : TmR ρ (initT n args) ((⟨args'⟩ : Array Value) ++ Array.replicate m undef) := by
  intro i v hi
  rcases putArgs_get _ _ _ _ _ hi with ⟨_, h1⟩ | h1
  · simp at h1
    obtain ⟨v', h2, h3⟩ := hv.get h1
    have hlt : i < args'.length := (List.getElem?_eq_some_iff.1 h2).1
    exact ⟨v', by rw [Array.getElem?_append_left (by simpa using hlt)]; simpa using h2, h3⟩
  · rw [mk_get] at h1; cases h1

theorem run_callFunc_body {g : Nat} {fn : Func} {c : Code} (hf : P.funcs[g]? = some fn) (hname : (fn.name == "runtime.NumGoroutine") = false) (hb : fn.body = some c) (args : Array Value) (w : World) :
    (callFunc g args).run P w = .ok (.enter g args) w := by
  have h1 : fn.name ≠ "runtime.NumGoroutine" := by simpa using hname
  simp [callFunc, hf, h1, hb]
theorem enter_eq {g : Nat} {fn : Func} {c : Code} (hf : P.funcs[g]? = some fn) (hb : fn.body = some c) (args : Array Value) (kind : CallKind) (b : Frame) (h1 : b.fn = g) (h2 : b.kind = kind) (h3 : b.roundOf = none) :
    Frame.enter P g args kind = b.atR { tmps := args ++ Array.replicate (fn.ntmps - args.size) undef, defers := [] } [.code c] := by
  subst h1; subst h2
  simp [Frame.enter, Frame.atR, hf, hb, h3]
  rfl

theorem dstOk_mono {n m : Nat} (h : n ≤ m) {o : Oper} (hd : dstOk n o = true) : dstOk m o = true := by
  unfold dstOk at *
  split at hd
  · have := Nat.le_of_ble_eq_true hd; exact Nat.ble_eq_true_of_le (by omega)
  · rfl
theorem codeOk_mono {n m : Nat} (h : n ≤ m) : ∀ {c : Code}, codeOk n c = true → codeOk m c = true := by
  intro c
  induction c with
  | region id ops draw =>
    intro hc
    simp only [codeOk, Bool.and_eq_true, List.all_eq_true] at hc ⊢
    exact ⟨fun o ho => dstOk_mono h (hc.1 o ho), hc.2⟩
  | seq a b iha ihb => intro hc; simp only [codeOk, Bool.and_eq_true] at hc ⊢; exact ⟨iha hc.1, ihb hc.2⟩
  | cond c a b iha ihb => intro hc; simp only [codeOk, Bool.and_eq_true] at hc ⊢; exact ⟨iha hc.1, ihb hc.2⟩
  | block id b ihb => intro hc; exact ihb hc
  | loop b ihb => intro hc; exact ihb hc
  | rangeFunc g ps a b iha ihb =>
    intro hc
    simp only [codeOk, Bool.and_eq_true, List.all_eq_true] at hc ⊢
    exact ⟨fun p hp => by have := Nat.le_of_ble_eq_true (hc.1 p hp); exact Nat.ble_eq_true_of_le (by omega), iha hc.2.1, ihb hc.2.2⟩
  | _ => intro _; rfl

theorem call_ok (HF : CtxF P C) {n : Nat} (ih : ∀ m, m < n + 1 → ∀ t out, go C m t = some out → TOk P C t out) {g : Nat} {args : List Value} {h : H} {out : Out} (ho : tCall g args h C (go C n) = some out) : TOk P C (.call g args h) out := by
  simp only [tCall, bnd_some, getO_eq] at ho
  obtain ⟨fe, h1, h2⟩ := ho
  have hfe := HF.ft g fe h1
  cases hfe with
  | other _ hoth => exact hoth _ _ _ _ h2
  | @body nt res c fn hf hname hb hn hr hc =>
    intro ρ w args' cs hv hh hg
    simp only [goFE, cBody, bnd_some] at h2
    obtain ⟨r, h3, h4⟩ := h2
    let b : Frame := { (default : Frame) with fn := g, kind := .normal, roundOf := none }
    let a : Act := { tmps := (⟨args'⟩ : Array Value) ++ Array.replicate (fn.ntmps - (⟨args'⟩ : Array Value).size) undef, defers := [] }
    have hent : Frame.enter P g ⟨args'⟩ .normal = b.atR a [.code c] := enter_eq (P := P) hf hb ⟨args'⟩ .normal b rfl rfl rfl
    have hsize : nt ≤ a.tmps.size := by simp [a, hn]; omega
    have hca : codeOk a.tmps.size c = true := codeOk_mono hsize hc
    have hst : StR ρ ⟨initT nt args, [], none, h⟩ a w := ⟨initT_ok hv _, .nil, hh⟩
    have hbo : Bok ρ none none b cs cs := ⟨.none, fun _ => ⟨rfl, rfl⟩, fun m hm => by cases hm⟩
    have hen := run_callFunc_body (P := P) hf hname hb ⟨args'⟩ w
    -- the way out
    have leave : ∀ (m m' : FrameMode) (s : St) (fr : Frame) (ρ1 : Mp) (w1 : World), go C n (.leave res s.tm s.df m s.hp) = some out → m ≠ .run → ModeR ρ1 m m' → StR ρ1 s { tmps := fr.tmps, defers := fr.defers } w1 → Ext ρ h w ρ1 s.hp w1 →
        fr.mode = m' → fr.kind = .normal → fr.fn = g → Steps P (lone (Frame.enter P g ⟨args'⟩ .normal) cs w) (lone fr cs w1) →
        (∃ v h' ρ' v' w', out = .ret v h' ∧ VR ρ' v v' ∧ HR ρ' h' w' ∧ Ext ρ h w ρ' h' w' ∧ RetOk P g ⟨args'⟩ w cs v' w') ∨
        (∃ ch h' ρ' ch' w', out = .pan ch h' ∧ ChR ρ' ch ch' ∧ HR ρ' h' w' ∧ Ext ρ h w ρ' h' w' ∧ PanOk P g ⟨args'⟩ w cs ch' w') := by
      intro m m' s fr ρ1 w1 hgo hm hmr hsr hext hfm hfk hff hsteps
      subst hfm
      rcases ih n (Nat.lt_succ_self _) _ _ hgo ρ1 w1 fr cs fn hsr.tm hsr.df hmr hm hfk (by rw [hff]; exact hf) hr hsr.hp (hg.mono hext.le) with ⟨v, h', ρ', v', w', fr', e1, e2, e3, e4, e5, e6, e7⟩ | ⟨ch, h', ρ', ch', w', fr', e1, e2, e3, e4, e5, e6, e7⟩
      · exact .inl ⟨v, h', ρ', v', w', e1, e2, e3, hext.trans e4, .inr ⟨hen, fr', hsteps.trans e5, e6.trans hff, e7⟩⟩
      · exact .inr ⟨ch, h', ρ', ch', w', e1, e2, e3, hext.trans e4, hen, fr', hsteps.trans e5, e6.trans hff, e7⟩
    obtain ⟨e, s1, rfl, hx⟩ := ih n (Nat.lt_succ_self _) _ _ h3 ρ a w b [] cs cs hca hst hbo hg
    rw [← hent] at hx
    obtain ⟨ρ1, a1, w1, cs1, g1, g2, g3, g4, g5⟩ := hx
    have hcs : s1.up = none → cs1 = cs := fun hu => (g3.nrm hu).2
    have hup : s1.up = none := by
      cases hu : s1.up with
      | none => rfl
      | some m => have := (g3.dfd m hu).1; cases this
    have hcs := hcs hup
    subst hcs
    cases e with
    | normal =>
      exact leave .returning .returning s1 { b.atR a1 [] with mode := .returning } ρ1 w1 h4 (by simp) .returning ⟨g1.tm, g1.df, g1.hp⟩ g4 rfl rfl rfl (g5.trans (.one (stepR_end rfl)))
    | ret =>
      obtain ⟨k', q⟩ := g5
      exact leave .returning .returning s1 { b.atR a1 (.code .ret :: k') with mode := .returning } ρ1 w1 h4 (by simp) .returning ⟨g1.tm, g1.df, g1.hp⟩ g4 rfl rfl rfl (q.trans (.one (stepR_ret rfl)))
    | panic ch =>
      obtain ⟨k', ch', q1, q⟩ := g5
      exact leave (.panicking ch) (.panicking ch') s1 { b.atR a1 k' with mode := .panicking ch' } ρ1 w1 h4 (by simp) (.panicking q1) ⟨g1.tm, g1.df, g1.hp⟩ g4 rfl rfl rfl q
    | exit id => simp at h4
end
end Go.Ai
namespace Go.Ai
section
variable {P : Program} {C : Ctx}

def resVal (tmps : Array Value) : ResultVar → Sem Value
  | .tmp t => pure (tmps.getD t Go.undef)
  | .cell a t => do loadVar t (← asAddr (tmps.getD a Go.undef))
theorem resultsOf_ok (HC : CtxT P C) {ρ : Mp} {tm : T Value} {tmps : Array Value} {h : H} {w : World} (ht : TmR ρ tm tmps) (r : HR ρ h w) : ∀ {res : List ResultVar} {vs : List Value}, resultsOf C tm h res = some vs →
    ∃ vs', (res.mapM (resVal tmps)).run P w = .ok vs' w ∧ VRs ρ vs vs'
  | [], vs, hv => by simp [resultsOf] at hv; subst hv; exact ⟨[], rfl, .nil⟩
  | .tmp t :: res, vs, hv => by
    simp only [resultsOf, bnd_some, getO_eq, ok_some] at hv
    obtain ⟨v, h1, vs0, h2, rfl⟩ := hv
    obtain ⟨v', k1, k2⟩ := ht _ _ h1
    obtain ⟨vs', k3, k4⟩ := resultsOf_ok HC ht r h2
    refine ⟨v' :: vs', ?_, .cons k2 k4⟩
    have : tmps.getD t Go.undef = v' := by simp [Array.getD_eq_getD_getElem?, k1]
    simp only [List.mapM_cons, resVal, Sem.run_bind, Sem.run_pure, Result.andThen_ok, this, k3]
  | .cell a t :: res, vs, hv => by
    simp only [resultsOf, bnd_some, getO_eq, ok_some] at hv
    obtain ⟨v0, h1, A, h2, ti, h3, cs, h4, v, h5, vs0, h6, rfl⟩ := hv
    obtain ⟨v', k1, k2⟩ := ht _ _ h1
    obtain ⟨b, o, p, rfl, rfl, hp, rfl⟩ := addrOf_ok k2 h2
    obtain ⟨u', u1, u2⟩ := loadVar_ok (P := P) HC h3 (r.at' b) hp h4 h5
    obtain ⟨vs', k3, k4⟩ := resultsOf_ok HC ht r h6
    refine ⟨u' :: vs', ?_, .cons u2 k4⟩
    have : tmps.getD a Go.undef = .pointer (some ⟨p.blk, p.off + o, none⟩) := by simp [Array.getD_eq_getD_getElem?, k1]
    simp only [List.mapM_cons, resVal, Sem.run_bind, Sem.run_pure, Result.andThen_ok, this, asAddr, u1, k3]
theorem results_ok (HC : CtxT P C) {ρ : Mp} {tm : T Value} {tmps : Array Value} {h : H} {w : World} (ht : TmR ρ tm tmps) (r : HR ρ h w) {fn : Func} {res : List ResultVar} (hr : fn.results.toList = res) {vs : List Value} (hv : resultsOf C tm h res = some vs) :
    ∃ v', (results fn tmps).run P w = .ok v' w ∧ VR ρ (tupled vs) v' := by
  obtain ⟨vs', k1, k2⟩ := resultsOf_ok (P := P) HC ht r hv
  subst hr
  have hm : (fn.results.mapM (resVal tmps)).run P w = .ok vs'.toArray w := by
    rw [Array.mapM_eq_mapM_toList, Sem.run_map, k1]
    rfl
  have hrun : (results fn tmps).run P w = .ok (if h : vs'.toArray.size = 1 then vs'.toArray[0] else .tuple vs'.toArray) w := by
    have hres : results fn tmps = (do let vs ← fn.results.mapM (resVal tmps); pure (if h : vs.size = 1 then vs[0] else .tuple vs)) := by
      unfold results
      congr 1
    rw [hres, Sem.run_bind, hm]
    rfl
  refine ⟨_, hrun, ?_⟩
  unfold tupled
  split
  · rename_i v
    obtain ⟨y, rfl, hy⟩ := k2.one_inv
    simpa using hy
  · rename_i hne
    have hl := k2.length
    rw [dif_neg]
    · exact .tuple k2
    · intro h1
      have : vs.length = 1 := by rw [hl]; simpa using h1
      match vs, this with
      | [v], _ => exact hne v rfl

theorem settled_ok {ρ : Mp} {m m' : FrameMode} (h : ModeR ρ m m') : ModeR ρ (settled m) (settle m') := by
  cases h with
  | run => exact .run
  | returning => exact .returning
  | panicking hc =>
    cases hc with
    | nil => exact .panicking .nil
    | @cons v v' r g c c' hv hs =>
      cases r with
      | false => exact .panicking (.cons hv hs)
      | true =>
        simp only [settled, settle]
        have key : ∀ {c c' : List PanicEntry}, ChR ρ c c' → ChR ρ (c.dropWhile (!·.goexit)) (c'.dropWhile (!·.goexit)) := by
          intro c c' hcc
          induction hcc with
          | nil => exact .nil
          | @cons v v' r g c c' hv hs ih =>
            cases g
            · simpa [List.dropWhile] using ih
            · simpa [List.dropWhile] using ChR.cons hv hs
        have := key hs
        revert this
        generalize c.dropWhile (!·.goexit) = d
        generalize c'.dropWhile (!·.goexit) = d'
        intro hd
        cases hd with
        | nil => exact .returning
        | cons hv hs => exact .panicking (.cons hv hs)
theorem settled_run {m : FrameMode} (h : m ≠ .run) : settled m ≠ .run := by
  unfold settled
  split
  · split <;> simp
  · exact h

theorem leave_ok (HF : CtxF P C) {rec : Rec} (ih : ∀ t out, rec t = some out → TOk P C t out) {res : List ResultVar} {tm : T Value} {ds : List Deferred} {m : FrameMode} {h : H} {out : Out} (ho : goLeave rec C res tm m h ds = some out) : TOk P C (.leave res tm ds m h) out := by
  intro ρ w fr cs fn ht hd hm hrun hk hf hr hh hg
  cases ds with
  | nil =>
    have hdf : fr.defers = [] := by revert hd; generalize fr.defers = l; intro hd; cases hd; rfl
    simp only [goLeave] at ho
    split at ho
    · simp only [bnd_some, ok_some] at ho
      obtain ⟨vs, h1, rfl⟩ := ho
      obtain ⟨v', k1, k2⟩ := results_ok (P := P) HF.tt ht hh hr h1
      have hmode : fr.mode = .returning := by revert hm; generalize fr.mode = x; intro hm; cases hm; rfl
      exact .inl ⟨_, _, ρ, v', w, fr, rfl, k2, hh, Ext.refl _ _ _, .refl _ _, rfl, hmode, hdf, hk, fn, hf, k1⟩
    · rename_i ch
      simp at ho; subst ho
      obtain ⟨ch', hmode, hc⟩ : ∃ ch', fr.mode = .panicking ch' ∧ ChR ρ ch ch' := by
        revert hm; generalize fr.mode = x; intro hm; cases hm with | panicking hc => exact ⟨_, rfl, hc⟩
      exact .inr ⟨_, _, ρ, ch', w, fr, rfl, hc, hh, Ext.refl _ _ _, .refl _ _, rfl, hmode, hdf, fn, hf⟩
    · simp at ho
  | cons d ds =>
    obtain ⟨d', ds', hdf, hd1, hd2⟩ : ∃ d' ds', fr.defers = d' :: ds' ∧ DefR ρ d d' ∧ DefsR ρ ds ds' := by
      revert hd; generalize fr.defers = l; intro hd; cases hd with | cons h1 h2 => exact ⟨_, _, rfl, h1, h2⟩
    have hfm : fr.mode ≠ .run := by
      intro e; rw [e] at hm; cases hm; exact hrun rfl
    simp only [goLeave] at ho
    cases hd1 with
    | @col rr p hp =>
      simp only at ho
      split at ho
      · rename_i hgb
        cases hh.con _ _ _ hgb hp with
        | defd hw =>
          obtain ⟨w', s1, s2, s3⟩ := setObj_ok (P := P) hh (y := .defd false) hgb hp rfl (.deferred none) _ hw (by simp) (fun w' hw' => .defd hw')
          have htake : (Instr.takeDeferred p.blk).run P w = .ok [] w' := by
            have hget : (getObj p.blk).run P w = .ok (.deferred (some [])) w := by simp [getObj, Sem.run, hw]
            simp only [Instr.takeDeferred, Sem.run_bind, hget, Result.andThen_ok, s1]
            rfl
          have hstep := step_collected (P := P) (cs := cs) hfm hdf rfl htake
          rcases ih _ _ ho ρ w' { fr with defers := [] ++ ds' } cs fn ht (by simpa using hd2) hm hrun hk hf hr s2 hg with ⟨v, h', ρ', v', w2, fr', e1, e2, e3, e4, e5, e6, e7⟩ | ⟨ch, h', ρ', ch', w2, fr', e1, e2, e3, e4, e5, e6, e7⟩
          · exact .inl ⟨v, h', ρ', v', w2, fr', e1, e2, e3, s3.trans e4, .head hstep e5, e6, e7⟩
          · exact .inr ⟨ch, h', ρ', ch', w2, fr', e1, e2, e3, s3.trans e4, .head hstep e5, e6, e7⟩
      · simp at ho
    | @fn g c c' x x' hc hx =>
      simp only [leaveD, bnd_some, getO_eq] at ho
      obtain ⟨fe, h1, h2⟩ := ho
      split at h2
      · rename_i nt code
        have hft := HF.ft g _ h1
        cases hft with
        | other hnb hoth => exact absurd rfl (hnb _ _ _)
        | @body _ _ _ fn2 hf2 hname2 hb2 hn2 hr2 hc2 =>
          simp only [bnd_some] at h2
          obtain ⟨r, h3, h4⟩ := h2
          let b : Frame := { (default : Frame) with fn := g, kind := .deferred, roundOf := none }
          let args' : Array Value := ⟨x' ++ c'⟩
          let a : Act := { tmps := args' ++ Array.replicate (fn2.ntmps - args'.size) undef, defers := [] }
          have hent : Frame.enter P g args' .deferred = b.atR a [.code code] := enter_eq (P := P) hf2 hb2 args' .deferred b rfl rfl rfl
          have hinv : (invoke (.fn (.func g) ⟨c'⟩) ⟨x'⟩).run P w = .ok (.enter g args') w := by
            simp only [invoke]
            have : (⟨x'⟩ : Array Value) ++ (⟨c'⟩ : Array Value) = args' := by apply Array.ext'; simp [args']
            rw [this]
            exact run_callFunc_body hf2 hname2 hb2 _ w
          have hstep := step_defer (P := P) (cs := cs) (fr := fr) hfm hdf rfl hinv
          rw [hent] at hstep
          have hsize : nt ≤ a.tmps.size := by simp [a, hn2]; omega
          have hst : StR ρ ⟨initT nt (x ++ c), [], some m, h⟩ a w := ⟨initT_ok (hx.append hc) _, .nil, hh⟩
          have hbo : Bok ρ none (some m) b ({ fr with defers := ds' } :: cs) ({ fr with defers := ds' } :: cs) := ⟨.none, (fun hm => by cases hm), fun m2 hm2 => by cases hm2; exact ⟨rfl, rfl, { fr with defers := ds' }, cs, fr.mode, rfl, rfl, hm⟩⟩
          obtain ⟨e, s1, rfl, hx⟩ := ih _ _ h3 ρ a w b [] _ _ (codeOk_mono hsize hc2) hst hbo hg
          obtain ⟨ρ1, a1, w1, cs1, g1, g2, g3, g4, g5⟩ := hx
          -- the deferred call's own way out, and on
          have fin : ∀ (m2 : FrameMode) (frX : Frame), s1.df = [] → s1.up = some m2 → notRun m2 = true ∧ rec (.leave res tm ds (settled m2) s1.hp) = some out → frX.mode = .returning → frX.defers = a1.defers → frX.tmps = a1.tmps → frX.fn = g → frX.kind = .deferred →
              Steps P (lone fr cs w) (lone frX cs1 w1) →
              (∃ v h' ρ' v' w' fr', out = .ret v h' ∧ VR ρ' v v' ∧ HR ρ' h' w' ∧ Ext ρ h w ρ' h' w' ∧ Steps P (lone fr cs w) (lone fr' cs w') ∧ fr'.fn = fr.fn ∧ fr'.leaving P w' (.returned v')) ∨
              (∃ ch h' ρ' ch' w' fr', out = .pan ch h' ∧ ChR ρ' ch ch' ∧ HR ρ' h' w' ∧ Ext ρ h w ρ' h' w' ∧ Steps P (lone fr cs w) (lone fr' cs w') ∧ fr'.fn = fr.fn ∧ fr'.leaving P w' (.panicked ch')) := by
            intro m2 frX q1 q2 q3 q4 q5 q6 q7 q8 q9
            obtain ⟨_, _, cc, rest, m2', z1, z2, z3⟩ := g3.dfd m2 q2
            cases z1
            subst z2
            have hdfX : frX.defers = [] := by
              rw [q5]
              have := g1.df
              rw [q1] at this
              revert this; generalize a1.defers = l; intro hh; cases hh; rfl
            have hgo : frX.going P w1 (.returned (.tuple #[])) := by
              refine ⟨q4, hdfX, fn2, by rw [q7]; exact hf2, ?_⟩
              have : fn2.results = #[] := Array.ext' (by simpa using hr2)
              exact results_none this _ P w1
            have hst2 := step_going_returned (P := P) (cs := cs) (c := { { fr with defers := ds' } with mode := m2' }) q8 hgo
            have hm2run : m2 ≠ .run := by
              intro e; rw [e] at q3; simp [notRun] at q3
            rcases ih _ _ q3.2 ρ1 w1 { { fr with defers := ds' } with mode := settle m2' } cs fn (ht.mono g4.le) (hd2.mono g4.le) (settled_ok z3) (settled_run hm2run) hk hf hr g1.hp (hg.mono g4.le) with ⟨v, h', ρ', v', w2, fr', e1, e2, e3, e4, e5, e6, e7⟩ | ⟨ch, h', ρ', ch', w2, fr', e1, e2, e3, e4, e5, e6, e7⟩
            · exact .inl ⟨v, h', ρ', v', w2, fr', e1, e2, e3, g4.trans e4, q9.trans (.head hst2 e5), e6, e7⟩
            · exact .inr ⟨ch, h', ρ', ch', w2, fr', e1, e2, e3, g4.trans e4, q9.trans (.head hst2 e5), e6, e7⟩
          cases e with
          | normal =>
            simp only at h4
            split at h4
            · rename_i m2 hdf2 hup2
              simp only [need_some] at h4
              exact fin m2 { b.atR a1 [] with mode := .returning } hdf2 hup2 h4 rfl rfl rfl rfl rfl (.head hstep (g5.trans (.one (stepR_end rfl))))
            · simp at h4
          | ret =>
            simp only at h4
            obtain ⟨k', q⟩ := g5
            split at h4
            · rename_i m2 hdf2 hup2
              simp only [need_some] at h4
              exact fin m2 { b.atR a1 (.code .ret :: k') with mode := .returning } hdf2 hup2 h4 rfl rfl rfl rfl rfl (.head hstep (q.trans (.one (stepR_ret rfl))))
            · simp at h4
          | exit id => simp at h4
          | panic ch => simp at h4
      · simp at h2
end
end Go.Ai
namespace Go.Ai
section
variable {P : Program} {C : Ctx}

theorem loopAt_ok {ρ : Mp} {h : H} {w : World} {l : Nat} {p : Pl} {x : Lp} (r : HR ρ h w) (hp : ρ l = some p) (hl : loopAt h l = some x) :
    h.bl.get l = some x.blk ∧ ∃ (fn : FuncId) (tmps : Array Value) (pd : Pl), w.heap[p.blk]? = some (.loop { state := x.st, pending := x.pending, fn, tmps, params := ⟨x.ps⟩, assign := x.assign, body := x.body, defers := pd.blk }) ∧ TmR ρ x.tm tmps ∧ ρ x.dfs = some pd ∧
      (jumpOk x.pending = true ∧ (∀ q ∈ x.ps, q < tmps.size) ∧ codeOk tmps.size x.assign = true ∧ codeOk tmps.size x.body = true) := by
  unfold loopAt at hl
  split at hl
  · rename_i a b c d e f g hg
    simp at hl; subst hl
    refine ⟨hg, ?_⟩
    cases r.con _ _ _ hg hp with
    | loop hw ht hd hk => exact ⟨_, _, _, hw, ht, hd, hk⟩
  · simp at hl
theorem run_getLoop {w : World} {l : Nat} {r : Loop} (hw : w.heap[l]? = some (.loop r)) : (Instr.getLoop l).run P w = .ok r w := by
  have : (getObj l).run P w = .ok (.loop r) w := by simp [getObj, Sem.run, hw]
  simp only [Instr.getLoop, Sem.run_bind, this, Result.andThen_ok]
  rfl
/-- the loop's record is set anew -/
theorem setLoop_ok {ρ : Mp} {h : H} {w : World} {l : Nat} {p : Pl} {x : Lp} (r : HR ρ h w) (hp : ρ l = some p) (hl : loopAt h l = some x) (st : LoopState) (pe : Option Code) (hpe : jumpOk pe = true) {fn : FuncId} {tmps : Array Value} {pd : Pl}
    (hw : w.heap[p.blk]? = some (.loop { state := x.st, pending := x.pending, fn, tmps, params := ⟨x.ps⟩, assign := x.assign, body := x.body, defers := pd.blk })) (ht : TmR ρ x.tm tmps) (hd : ρ x.dfs = some pd)
    (hk : (∀ q ∈ x.ps, q < tmps.size) ∧ codeOk tmps.size x.assign = true ∧ codeOk tmps.size x.body = true) :
    ∃ w', (setObj p.blk (.loop { state := st, pending := pe, fn, tmps, params := ⟨x.ps⟩, assign := x.assign, body := x.body, defers := pd.blk })).run P w = .ok () w' ∧
      HR ρ (put h l { x with st := st, pending := pe }.blk l) w' ∧ Ext ρ h w ρ (put h l { x with st := st, pending := pe }.blk l) w' := by
  obtain ⟨hg, _⟩ := loopAt_ok r hp hl
  exact setObj_ok (P := P) r (y := { x with st := st, pending := pe }.blk) hg hp rfl _ _ hw (by simp) (fun w' hw' => .loop hw' ht hd ⟨hpe, hk⟩)

theorem setP_ok {ρ : Mp} : ∀ {ps : List Nat} {args args' : List Value} {tm : T Value} {tmps : Array Value}, VRs ρ args args' → ps.length = args.length → (∀ q ∈ ps, q < tmps.size) → TmR ρ tm tmps →
    TmR ρ (setP ps args tm) ((ps.zip args').foldl (fun tmps (t, a) => tmps.setIfInBounds t a) tmps) ∧ ((ps.zip args').foldl (fun tmps (t, a) => tmps.setIfInBounds t a) tmps).size = tmps.size
  | [], args, args', tm, tmps, _, _, _, ht => by cases args <;> exact ⟨ht, rfl⟩
  | p :: ps, v :: vs, _, tm, tmps, .cons (v' := v') hv hs, hl, hp, ht => by
    have h1 : TmR ρ (tm.set p (some v)) (tmps.setIfInBounds p v') := by
      have := TmR.put (a := ({ tmps := tmps, defers := [] } : Act)) ht hv (d := some p) (fun t ht => by cases ht; exact hp p (by simp))
      exact this
    have := setP_ok (ps := ps) hs (by simpa using hl) (tmps := tmps.setIfInBounds p v') (fun q hq => by simpa using hp q (by simp [hq])) h1
    show TmR ρ (setP ps vs (tm.set p (some v))) _ ∧ _
    simpa using this

theorem round_ok {n : Nat} (ih : ∀ m, m < n + 1 → ∀ t out, go C m t = some out → TOk P C t out) {l : Nat} {args : List Value} {h : H} {out : Out} (ho : goRound (go C n) l args h = some out) : TOk P C (.round l args h) out := by
  intro ρ w p args' c cs hp hv hh hg
  simp only [goRound, bnd_some, need_some] at ho
  obtain ⟨x, h1, h2, r, h3, h4⟩ := ho
  obtain ⟨hgb, fn, tmps, pd, hw, ht, hd, hj, hps, hca, hcb⟩ := loopAt_ok hh hp h1
  have h2 := Nat.eq_of_beq_eq_true h2
  have hlen := hv.length
  obtain ⟨st1, st2⟩ := setP_ok hv h2.symm hps ht
  let tmps' : Array Value := (x.ps.zip args').foldl (fun tmps (t, a) => tmps.setIfInBounds t a) tmps
  have hy : (Instr.yield p.blk ⟨args'⟩).run P w = .ok (.round p.blk fn tmps' x.assign x.body) w := by
    simp only [Instr.yield, Sem.run_bind, run_getLoop hw, Result.andThen_ok]
    have hsz : ¬ ((⟨args'⟩ : Array Value).size ≠ (⟨x.ps⟩ : Array Nat).size) := by simp; omega
    rw [if_neg hsz]
    simp only [Sem.run_pure]
    congr 2
    simp [tmps']
  let b : Frame := { (default : Frame) with fn := fn, kind := .normal, roundOf := some p.blk }
  have hb0 : Frame.round p.blk fn tmps' x.assign x.body .normal = b.atR { tmps := tmps', defers := [] } [.code x.assign, .beginRound, .code x.body] := by
    simp [Frame.round, Frame.atR, b]
  have hbo : Bok ρ (some l) none b (c :: cs) (c :: cs) := ⟨.some hp, fun _ => ⟨rfl, rfl⟩, fun m hm => by cases hm⟩
  obtain ⟨e, s1, rfl, ρ1, a1, w1, cs1, g1, g2, g3, g4, g5⟩ := ih n (Nat.lt_succ_self _) _ _ h3 ρ { tmps := tmps', defers := [] } w b [.beginRound, .code x.body] (c :: cs) (c :: cs) (by rw [st2]; exact hca) ⟨st1, .nil, hh⟩ hbo hg
  cases e with
  | normal =>
    simp only [bnd_some] at h4
    obtain ⟨y, h5, h6⟩ := h4
    have hp1 := g4.le _ _ hp
    obtain ⟨hgb1, fn1, tmps1, pd1, hw1, ht1, hd1, hj1, hps1, hca1, hcb1⟩ := loopAt_ok g1.hp hp1 h5
    split at h6
    · rename_i hready
      simp only [bnd_some] at h6
      obtain ⟨r2, h7, h8⟩ := h6
      obtain ⟨w2, k1, k2, k3⟩ := setLoop_ok (P := P) g1.hp hp1 h5 .busy y.pending hj1 hw1 ht1 hd1 ⟨hps1, hca1, hcb1⟩
      have hbr : (Instr.beginRound p.blk).run P w1 = .ok () w2 := by
        simp only [Instr.beginRound, Sem.run_bind, run_getLoop hw1, Result.andThen_ok, k1, hready]
        rfl
      have hstep := stepR_beginRound (P := P) (b := b) (a := a1) (k := [.code x.body]) (cs := cs1) rfl hbr
      have hup1 : s1.up = none := by
        cases hu : s1.up with
        | none => rfl
        | some m => have := (g3.dfd m hu).1; cases this
      have hcs1 := (g3.nrm hup1).2
      subst hcs1
      obtain ⟨e2, s2, rfl, ρ2, a2, w3, cs3, q1, q2, q3, q4, q5⟩ := ih n (Nat.lt_succ_self _) _ _ h7 ρ1 a1 w2 b [] (c :: cs) (c :: cs) (by rw [g2, st2]; exact hcb) ⟨g1.tm, g1.df, k2⟩ g3 (hg.mono g4.le)
      simp only [bnd_some] at h8
      obtain ⟨j, h9, z, h10, h11⟩ := h8
      simp at h11; subst h11
      have hup2 : s2.up = none := by
        cases hu : s2.up with
        | none => rfl
        | some m => have := (q3.dfd m hu).1; cases this
      have hcs3 := (q3.nrm hup2).2
      subst hcs3
      have hp2 := q4.le _ _ hp1
      obtain ⟨hgb2, fn2, tmps2, pd2, hw2, ht2, hd2, hj2, hps2, hca2, hcb2⟩ := loopAt_ok q1.hp hp2 h10
      have hjo : jumpOk j = true := by cases e2 <;> simp [jumpOf] at h9 <;> subst h9 <;> rfl
      obtain ⟨w4, z1, z2, z3⟩ := setLoop_ok (P := P) q1.hp hp2 h10 (stOf j) j hjo hw2 ht2 hd2 ⟨hps2, hca2, hcb2⟩
      have hend : (Instr.endRound p.blk j).run P w3 = .ok (.bool j.isNone) w4 := by
        have : (if j.isNone = true then LoopState.ready else .done) = stOf j := by cases j <;> rfl
        simp only [Instr.endRound, Sem.run_bind, run_getLoop hw2, Result.andThen_ok, this]
        rw [z1]
        rfl
      refine ⟨_, _, ρ2, .bool j.isNone, w4, rfl, .bool _, z2, ((g4.trans k3).trans q4).trans z3, fn, tmps', x.assign, x.body, hy, ?_⟩
      rw [hb0]
      refine g5.trans (.head hstep ?_)
      cases e2 with
      | normal =>
        simp [jumpOf] at h9; subst h9
        exact q5.trans (.one (stepR_round_end rfl rfl hend))
      | exit id =>
        simp [jumpOf] at h9; subst h9
        obtain ⟨k', y1, y2⟩ := q5
        exact y2.trans (.one (stepR_round_exit rfl rfl (by rw [y1]; rfl) hend))
      | ret =>
        simp [jumpOf] at h9; subst h9
        obtain ⟨k', y2⟩ := q5
        exact y2.trans (.one (stepR_round_ret rfl rfl hend))
      | panic ch => simp [jumpOf] at h9
    · simp at h6
  | exit id => simp at h4
  | ret => simp at h4
  | panic ch => simp at h4
end
end Go.Ai
namespace Go.Ai
section
variable {P : Program} {C : Ctx}

theorem stepR_rangeValue {b : Frame} {a : Act} {k : List Item} {cs : List Frame} {w : World} {g : Operand} {ps : Array Tmp} {assign body : Code} {l : Nat} {mark : List Deferred} {w₁ w₁' w₂ : World} {d : Deferred} {v : Value}
    (he : (Instr.enterLoop b.fn a.tmps ps assign body b.roundOf).run P w = .ok (l, mark) w₁)
    (hres : (resolve a.eval (rangeCall g l) 0).run P w₁ = .ok d w₁') (hinv : (invoke d.target d.args).run P w₁' = .ok (.value v) w₂) :
    step P (lone (b.atR a (.code (.rangeFunc g ps assign body) :: k)) cs w) =
      .next (lone (b.atR { a with defers := mark ++ a.defers } (.endRangeFunc l :: k)) cs w₂) :=
  step_lone_go (by
    have hev := Frame.eval_atR b { a with defers := mark ++ a.defers } (.inRangeFunc l :: k)
    simp only [Frame.atR] at hev
    have hres' : Sem.run P (resolve ({ tmps := a.tmps, defers := mark ++ a.defers } : Act).eval { callee := .value g, args := #[.const (.func (.yield l) #[] #[])], argTypes := #[] } 0) w₁ = .ok d w₁' := hres
    simp [stepG, stepG.exec, Frame.atR, Sem.runT_eq, he, GStep.bare_after, stepG.apply, hev, Sem.run_bind, hres', hinv, Result.andThen, Frame.finish])

theorem DefsR.app {ρ : Mp} {a a' : List Deferred} (h : DefsR ρ a a') {c c' : List Deferred} (h2 : DefsR ρ c c') : DefsR ρ (a ++ c) (a' ++ c') := by
  induction h with
  | nil => exact h2
  | cons h _ ih => exact .cons h ih

theorem endLoop_ok {rec : Rec} (ih : ∀ t out, rec t = some out → TOk P C t out) {rd : Option Nat} {s : St} {l : Nat} {h : H} {df : List Deferred} {out : Out} (ho : endLoop rec rd s l h df = some out)
    {ρ : Mp} {a : Act} {w : World} {b : Frame} {k : List Item} {cs0 cs : List Frame} {p : Pl} (hp : ρ l = some p) (ht : TmR ρ s.tm a.tmps) (hd : DefsR ρ df a.defers) (hh : HR ρ h w) (hb : Bok ρ rd s.up b cs0 cs) (hg : GlR C.ng ρ) :
    ∃ e s', out = .ex e s' ∧ ExOk P b k cs0 (lone (b.atR a (.endRangeFunc p.blk :: k)) cs w) a.tmps.size ρ h w rd e s' := by
  simp only [endLoop, bnd_some] at ho
  obtain ⟨x, h1, h2⟩ := ho
  obtain ⟨hgb, fn, tmps, pd, hw, htm, hdf, hj, hps, hca, hcb⟩ := loopAt_ok hh hp h1
  split at h2
  · simp at h2
  · rename_i hnb
    obtain ⟨w', k1, k2, k3⟩ := setLoop_ok (P := P) hh hp h1 .exhausted x.pending hj hw htm hdf ⟨hps, hca, hcb⟩
    have hend : (Instr.endLoop p.blk).run P w = .ok x.pending w' := by
      have hst : (x.st == LoopState.busy) = false := by cases hx : x.st <;> first | rfl | exact absurd hx hnb
      simp only [Instr.endLoop, Sem.run_bind, run_getLoop hw, Result.andThen_ok, hst, Bool.false_eq_true, if_false]
      simp only [Sem.run_pure]
      rw [k1]
      rfl
    have hstep := stepR_endRangeFunc (P := P) (b := b) (a := a) (k := k) (cs := cs) hend
    split at h2
    · rename_i hpn
      simp at h2; subst h2
      rw [hpn] at hstep
      exact ⟨_, _, rfl, ρ, a, w', cs, ⟨ht, hd, k2⟩, rfl, hb, k3, .one hstep⟩
    · rename_i c hpn
      rw [hpn] at hstep hj
      have hcc : codeOk a.tmps.size c = true := by cases c <;> simp [jumpOk] at hj <;> rfl
      obtain ⟨e, s1, rfl, hx⟩ := ih _ _ h2 ρ a w' b k cs0 cs hcc ⟨ht, hd, k2⟩ hb hg
      exact ⟨e, s1, rfl, (hx.head (.one hstep)).andThen k3⟩

theorem range_ok {rec : Rec} (ih : ∀ t out, rec t = some out → TOk P C t out) {rd : Option Nat} {g : Operand} {ps : Array Tmp} {assign body : Code} {s : St} {out : Out} (ho : exRange g ps assign body rec rd s = some out) : TOk P C (.ex rd (.rangeFunc g ps assign body) s) out := by
  intro ρ a w b k cs0 cs hc hs hb hg
  simp only [exRange, bnd_some] at ho
  obtain ⟨fv, h1, d, h2, nx, h3, h4⟩ := ho
  simp only [codeOk, Bool.and_eq_true, List.all_eq_true] at hc
  have hps : ∀ q ∈ ps.toList, q < a.tmps.size := fun q hq => Nat.le_of_ble_eq_true (hc.1 q hq)
  -- the record
  have hrec : ∃ ρ1 w1 w2 mark pd, ρ1 d.1 = some pd ∧ HR ρ1 d.2.1 w1 ∧ Ext ρ s.hp w ρ1 d.2.1 w1 ∧ DefsR ρ1 d.2.2 (mark ++ a.defers) ∧
      w2 = w1.alloc (.loop { state := .ready, pending := none, fn := b.fn, tmps := a.tmps, params := ps, assign, body, defers := pd.blk }) ∧
      (Instr.enterLoop b.fn a.tmps ps assign body b.roundOf).run P w = .ok (w1.heap.size, mark) w2 := by
    cases rd with
    | none =>
      have hro : b.roundOf = none := by have := hb.ro; revert this; generalize b.roundOf = x; intro h; cases h; rfl
      simp [rangeD] at h2; subst h2
      obtain ⟨k1, k2⟩ := newB_ok hs.hp (.defd true) (.deferred (some [])) 0 (Nat.le_refl _) (.defd (alloc_get w _))
      refine ⟨_, _, _, [{ target := .collected w.heap.size, args := #[] }], ⟨w.heap.size, 0, 0⟩, put_self _ _ _, k1, k2, ?_, rfl, ?_⟩
      · exact .cons (.col (p := ⟨w.heap.size, 0, 0⟩) (put_self _ _ _)) (hs.df.mono k2.le)
      · simp [Instr.enterLoop, hro]
    | some l =>
      simp only [rangeD, bnd_some, ok_some] at h2
      obtain ⟨x, h5, rfl⟩ := h2
      obtain ⟨p, hro, hp⟩ : ∃ p, b.roundOf = some p.blk ∧ ρ l = some p := by
        have := hb.ro; revert this; generalize b.roundOf = x; intro h; cases h with | some h => exact ⟨_, rfl, h⟩
      obtain ⟨hgb, fn, tmps, pd, hw, htm, hdf, _⟩ := loopAt_ok hs.hp hp h5
      refine ⟨ρ, w, _, [], pd, hdf, hs.hp, Ext.refl _ _ _, hs.df, rfl, ?_⟩
      simp [Instr.enterLoop, hro, run_getLoop hw]
  obtain ⟨ρ1, w1, w2, mark, pd, hpd, hh1, hext1, hdf1, rfl, hent⟩ := hrec
  obtain ⟨k1, k2⟩ := newB_ok hh1 (Lp.blk ⟨.ready, none, s.tm, ps.toList, assign, body, d.1⟩) (.loop { state := .ready, pending := none, fn := b.fn, tmps := a.tmps, params := ps, assign, body, defers := pd.blk }) 0 (Nat.le_refl _)
    (.loop (fn := b.fn) (tmps := a.tmps) (pd := pd) (alloc_get w1 _) ((hs.tm.mono hext1.le).mono (Mp.le_put hh1.none_ctr)) (Mp.le_put hh1.none_ctr _ _ hpd) ⟨rfl, hps, hc.2.1, hc.2.2⟩)
  have hlp : (ρ1.put d.2.1.ctr ⟨w1.heap.size, 0, 0⟩) d.2.1.ctr = some ⟨w1.heap.size, 0, 0⟩ := put_self _ _ _
  have hext2 := hext1.trans k2
  have hfv := (ev0_ok (a := a) hs.tm h1).mono hext2.le
  have hyv : VRs (ρ1.put d.2.1.ctr ⟨w1.heap.size, 0, 0⟩) [.func (.yield d.2.1.ctr) #[] #[]] [.func (.yield w1.heap.size) #[] #[]] := .cons (.yield hlp) .nil
  generalize hW : w1.alloc (.loop { state := .ready, pending := none, fn := b.fn, tmps := a.tmps, params := ps, assign, body, defers := pd.blk }) = W at *
  have hnx := aFn_ok (P := P) (a := a) (type := 0) (w := W) hfv hyv h3 (rangeCall g w1.heap.size) ⟨g, rfl, rfl⟩ (by simp [Act.eval])
  split at h4
  · rename_i f args h'
    obtain ⟨rfl, args', hargs, hr⟩ := hnx
    simp only [bnd_some] at h4
    obtain ⟨r, h5, h6⟩ := h4
    -- the call
    have hres : ∃ dd, (resolve a.eval (rangeCall g w1.heap.size) 0).run P W = .ok dd W ∧ (invoke dd.target dd.args).run P W = (callFunc f ⟨args'⟩).run P W := by
      rw [Sem.run_bind] at hr
      have hev : ∃ gg xs ys, a.eval g = .func gg xs ys := by
        unfold aFn at h3
        split at h3
        · obtain ⟨xs', ys', he, _⟩ := hfv.func_inv; exact ⟨_, _, _, he⟩
        · obtain ⟨p, _, _, he⟩ := hfv.yield_inv; exact ⟨_, _, _, he⟩
        · simp at h3
      obtain ⟨gg, xs, ys, hev⟩ := hev
      have hq : ∃ dd, (resolve a.eval (rangeCall g w1.heap.size) 0).run P W = .ok dd W := by
        simp only [resolve, hev, Deferred.ofValue, Sem.run_pure]
        exact ⟨_, rfl⟩
      obtain ⟨dd, hq⟩ := hq
      rw [hq] at hr
      exact ⟨dd, hq, hr⟩
    obtain ⟨dd, q1, q2⟩ := hres
    let a2 : Act := { a with defers := mark ++ a.defers }
    have hbm : Bok (ρ1.put d.2.1.ctr ⟨w1.heap.size, 0, 0⟩) rd s.up b cs0 cs := hb.mono hext2.le
    rcases ih _ _ h5 _ W args' (b.atR a2 (.inRangeFunc w1.heap.size :: k) :: cs) hargs k1 (hg.mono hext2.le) with ⟨v, h2', ρ', v', w', rfl, hv, hh', hext', hret⟩ | ⟨ch, h2', ρ', ch', w', rfl, hc', hh', hext', hpan⟩
    · simp only at h6
      have htm2 : TmR ρ' s.tm a2.tmps := (hs.tm.mono hext2.le).mono hext'.le
      have hdf2 : DefsR ρ' d.2.2 a2.defers := (hdf1.mono k2.le).mono hext'.le
      obtain ⟨e, s', he, hx⟩ := endLoop_ok (P := P) (a := a2) (k := k) (w := w') (b := b) (cs := cs) ih h6 (hext'.le _ _ hlp) htm2 hdf2 hh' (hbm.mono hext'.le) ((hg.mono hext2.le).mono hext'.le)
      refine ⟨e, s', he, (hx.head ?_).andThen (hext2.trans hext')⟩
      rcases hret with hret | ⟨hen, fr, t1, t2, t3⟩
      · exact .one (stepR_rangeValue hent q1 (q2.trans hret))
      · refine .head (stepR_rangeFunc hent q1 (q2.trans hen)) (t1.trans (.one ?_))
        have := step_leave_returned (P := P) (c := b.atR a2 (.inRangeFunc w1.heap.size :: k)) (cs := cs) t3
        rw [finish_atR_inRangeFunc] at this
        exact this
    · simp at h6; subst h6
      obtain ⟨hen, fr, t1, t2, t3⟩ := hpan
      refine ⟨_, _, rfl, ρ', a2, w', cs, ⟨(hs.tm.mono hext2.le).mono hext'.le, (hdf1.mono k2.le).mono hext'.le, hh'⟩, rfl, hbm.mono hext'.le, hext2.trans hext', .inRangeFunc w1.heap.size :: k, ch', hc', ?_⟩
      refine .head (stepR_rangeFunc hent q1 (q2.trans hen)) (t1.trans (.one ?_))
      have := step_leave_panicked (P := P) (c := b.atR a2 (.inRangeFunc w1.heap.size :: k)) (cs := cs) t3
      rw [Frame.raise_atR] at this
      exact this
  · simp at h4
end
end Go.Ai
