/- Contracts. Conditions: as each theorem says. -/
import Derived.Test.YtbaoelfpmdmhjaaWalkH
import Derived.Test.YtbaoelfpmdmhjaaWalkF
import Derived.Test.YtbaoelfpmdmhjaaRows
import Derived.ProofKit
import Derived.HandedShaped
import Derived.Shelf.Vars
set_option maxRecDepth 100000
namespace Go.Proofs.Ytbaoelfpmdmhjaa
open Go.Ai
open Go.ChangeShapes Go.WideShapes Go.ChangeAt Go.RowKit Go.WideElems
open Go.ChangeMaps (open_string shut_string)
theorem Try.own : ownKnob Try.prog.godebug = none := by kernel_rfl
theorem Try.laidOut : laidOutB Try.prog = true := by kernel_rfl
theorem matches_calls (s t : ByteArray) (n m : Int) (w : World) (hc : w.cell? ⟨0, 0, none⟩ = some (.int .i64 m)) : Calls Try.prog 5 #[.string s, .int .i64 n, .string t] w fun e w' => e = .returned (.bool true) ∧ Go.RowKit.Below w.heap.size w w' := by
  have hs : Value.string s = str s.data.toList := by cases s; simp [str]
  have ht : Value.string t = str t.data.toList := by cases t; simp [str]
  have := calls_wp1 CF1 (g := 5) (n := 75) (res := [.tmp 6]) (c := codeOf Try.f5) rfl (k := 3) hc Try.func5 (by kernel_rfl) (by kernel_rfl) (args := [str s.data.toList, .int .i64 n, str t.data.toList]) (v := .bool true) rfl rfl (fun e fz => pairMatches_wp s.data.toList t.data.toList n m e fz) (cb := codeOf Try.f5)
  rw [hs, ht]
  exact this
theorem matches_lifted (os : Os) (started : os.Started) (H : Type) (enc : TypeId × Value → H) :
    ReturnsInHanded {} Try.checked os 5 .any (Rows.pairMatchesSpec.pre6 enc Try.prog Try.f5 Rows.pairMatchesRow.domain false) (Rows.pairMatchesSpec.post enc Try.prog Try.f5 false true false false) := by
  refine returnsInHanded_of_change_shaped (C := Try.checked) Try.own started (by kernel_rfl) Try.func5
    (ChangeSpec.witness6 (enc := enc) (C := Try.checked) false ⟨#[], #[.string ⟨#[]⟩, .int .i64 0, .string ⟨#[]⟩], []⟩ 8 (by kernel_rfl) (by kernel_rfl) (by kernel_rfl) (by kernel_rfl)) ?_
  intro W base args ds gs before hval0 hW hcnd _ hsh _
  obtain ⟨m, hm⟩ := cell_of_shapedOpen_int (P := Try.prog) (g := 0) (t := 3) (zero := #[.int .i64 0]) hsh (of_decide_eq_true (by kernel_rfl)) (by kernel_rfl) rfl (by kernel_rfl) (by kernel_rfl) Try.underlying3
  have hval : ∀ (j : Nat) t v, Try.f5.params[j]? = some t → args[j]? = some v → Value.okWide Try.prog W .any base t v := hval0
  have hW' := hW
  obtain ⟨p, q, hA0, hV, rfl, hfz, hnd⟩ := hW
  have hA : DataW.TrodAll enc Try.prog W 0 (fun _ => true) true Try.f5.params.toList args.toList ds p := hA0
  rw [Try.params5] at hA hval
  obtain ⟨v0, v1, v2, d0, d1, d2, p0, p1, p2, rfl, rfl, rfl, h0, h1, h2⟩ := trodAll_three hA
  obtain ⟨rfl, rfl⟩ := trodVars_none hV
  obtain ⟨s, rfl, rfl, rfl, ws⟩ := open_string Try.underlying9 (hval 0 9 v0 rfl rfl) h0
  obtain ⟨n, rfl, rfl, rfl, wn⟩ := open_int Try.underlying3 (hval 1 3 v1 rfl rfl) h1
  obtain ⟨t, rfl, rfl, rfl, wt⟩ := open_string Try.underlying9 (hval 2 9 v2 rfl rfl) h2
  clear hA0 hval0
  refine (matches_calls s t n m W hm).mono fun e W' ⟨he, hB⟩ => ?_
  subst he
  refine ⟨_, rfl, _, _, _, [], [], [], hW', ?_, ?_, ?_, hB.frame _, fun h => by cases h⟩
  · exact trodAll_mk1 (shut_bool Try.underlying4 true)
  · exact trodAll_mk3 (shut_string Try.underlying9 ws) (shut_int Try.underlying3 wn) (shut_string Try.underlying9 wt)
  · rfl
/-- The mate of a bracket, and the pair around a place, are as the document says: PairMatches answers true at every text, place and kind. -/
theorem pairMatches_holds : Rows.PairMatchesSaid :=
  OpenClaim.holds_of_wide 5 Try.f5 rfl rfl rfl rfl rfl rfl rfl ⟨rfl, rfl, rfl, rfl, rfl⟩ rfl rfl rfl rfl rfl (by kernel_rfl) Try.func5 (by kernel_rfl)
    (of_decide_eq_true (by kernel_rfl)) (by unfold Func.isWrapper; first | (rw [if_pos (by decide +kernel)]; kernel_rfl) | (rw [if_neg (by decide +kernel)]; exact ⟨rfl, rfl⟩))
    (fun os started H enc _ => matches_lifted os started H enc)
end Go.Proofs.Ytbaoelfpmdmhjaa
