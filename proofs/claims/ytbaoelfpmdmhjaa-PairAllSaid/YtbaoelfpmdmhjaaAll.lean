/- PairAll answers true at every text and every kind, whatever the package variable MaxLen holds, and leaves its arguments as they were. Conditions: none. -/
import Derived.Test.YtbaoelfpmdmhjaaWalkG
import Derived.Test.YtbaoelfpmdmhjaaWalkF
import Derived.Test.YtbaoelfpmdmhjaaRows
import Derived.ProofKit
import Derived.HandedShaped
import Derived.Shelf.Vars
set_option maxRecDepth 100000
namespace Go.Proofs.Ytbaoelfpmdmhjaa
open Go.Ai
open Go.ChangeShapes Go.WideShapes Go.ChangeAt Go.RowKit Go.WideElems
open Go.ChangeMaps (open_string shut_string)
theorem Try.own : ownKnob Try.prog.godebug = none := by kernel_rfl
theorem Try.laidOut : laidOutB Try.prog = true := by kernel_rfl
theorem all_calls (s t : ByteArray) (m : Int) (w : World) (hc : w.cell? ⟨0, 0, none⟩ = some (.int .i64 m)) : Calls Try.prog 3 #[.string s, .string t] w fun e w' => e = .returned (.bool true) ∧ Go.RowKit.Below w.heap.size w w' := by
  have hs : Value.string s = str s.data.toList := by cases s; simp [str]
  have ht : Value.string t = str t.data.toList := by cases t; simp [str]
  have := calls_wp1 CF1 (g := 3) (n := 33) (res := [.tmp 4]) (c := codeOf Try.f3) rfl (k := 3) hc Try.func3 (by kernel_rfl) (by kernel_rfl) (args := [str s.data.toList, str t.data.toList]) (v := .bool true) rfl rfl (fun e fz => pairAll_wp s.data.toList t.data.toList m e fz) (cb := codeOf Try.f3)
  rw [hs, ht]
  exact this
theorem all_lifted (os : Os) (started : os.Started) (H : Type) (enc : TypeId × Value → H) :
    ReturnsInHanded {} Try.checked os 3 .any (Rows.pairAllSpec.pre6 enc Try.prog Try.f3 Rows.pairAllRow.domain false) (Rows.pairAllSpec.post enc Try.prog Try.f3 false true false false) := by
  refine returnsInHanded_of_change_shaped (C := Try.checked) Try.own started (by kernel_rfl) Try.func3
    (ChangeSpec.witness6 (enc := enc) (C := Try.checked) false ⟨#[], #[.string ⟨#[]⟩, .string ⟨#[]⟩], []⟩ 8 (by kernel_rfl) (by kernel_rfl) (by kernel_rfl) (by kernel_rfl)) ?_
  intro W base args ds gs before hval0 hW hcnd _ hsh _
  obtain ⟨m, hm⟩ := cell_of_shapedOpen_int (P := Try.prog) (g := 0) (t := 3) (zero := #[.int .i64 0]) hsh (of_decide_eq_true (by kernel_rfl)) (by kernel_rfl) rfl (by kernel_rfl) (by kernel_rfl) Try.underlying3
  have hval : ∀ (j : Nat) t v, Try.f3.params[j]? = some t → args[j]? = some v → Value.okWide Try.prog W .any base t v := hval0
  have hW' := hW
  obtain ⟨p, q, hA0, hV, rfl, hfz, hnd⟩ := hW
  have hA : DataW.TrodAll enc Try.prog W 0 (fun _ => true) true Try.f3.params.toList args.toList ds p := hA0
  rw [Try.params3] at hA hval
  obtain ⟨v0, v1, d0, d1, p0, p1, rfl, rfl, rfl, h0, h1⟩ := trodAll_two hA
  obtain ⟨rfl, rfl⟩ := trodVars_none hV
  obtain ⟨s, rfl, rfl, rfl, ws⟩ := open_string Try.underlying9 (hval 0 9 v0 rfl rfl) h0
  obtain ⟨t, rfl, rfl, rfl, wt⟩ := open_string Try.underlying9 (hval 1 9 v1 rfl rfl) h1
  clear hA0 hval0
  refine (all_calls s t m W hm).mono fun e W' ⟨he, hB⟩ => ?_
  subst he
  refine ⟨_, rfl, _, _, _, [], [], [], hW', ?_, ?_, ?_, hB.frame _, fun h => by cases h⟩
  · exact trodAll_mk1 (shut_bool Try.underlying4 true)
  · exact trodAll_mk2 (shut_string Try.underlying9 ws) (shut_string Try.underlying9 wt)
  · rfl
/-- All pairs of any kind in any text are as the document says: PairAll answers true at every text and every kind. -/
theorem pairAll_holds : Rows.PairAllSaid :=
  OpenClaim.holds_of_wide 3 Try.f3 rfl rfl rfl rfl rfl rfl rfl ⟨rfl, rfl, rfl, rfl, rfl⟩ rfl rfl rfl rfl rfl (by kernel_rfl) Try.func3 (by kernel_rfl)
    (of_decide_eq_true (by kernel_rfl)) (by unfold Func.isWrapper; first | (rw [if_pos (by decide +kernel)]; kernel_rfl) | (rw [if_neg (by decide +kernel)]; exact ⟨rfl, rfl⟩))
    (fun os started H enc _ => all_lifted os started H enc)
end Go.Proofs.Ytbaoelfpmdmhjaa
