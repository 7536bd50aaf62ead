/- DistortShiftsAreTransposed: for every input the law returns true, and each argument reads behind the call as it read before. No conditions. -/
import Derived.Test.YtpdjiokmafoppaaLTrans
import Derived.Test.YtpdjiokmafoppaaFrame2
import Derived.Test.YtpdjiokmafoppaaInit
namespace Go.Proofs.Ytpdjiokmafoppaa
open Go.ChangeShapes Go.WideShapes Go.ChangeAt Go.RowKit

set_option maxRecDepth 100000 in
theorem distortShiftsAreTransposed_lifted (os : Os) (started : os.Started) (H : Type) (enc : TypeId × Value → H) :
    ReturnsInHanded {} Try.checked os 16 .any (Rows.distortShiftsAreTransposedSpec.pre6 enc Try.prog Try.f16 Rows.distortShiftsAreTransposedRow.domain false) (Rows.distortShiftsAreTransposedSpec.post enc Try.prog Try.f16 false true false false) := by
  refine returnsInHanded_of_change (C := Try.checked) own started (by kernel_rfl) Try.func16
    (ChangeSpec.witness6 (enc := enc) (C := Try.checked) false ⟨#[], #[.agg #[.int .i64 0, .int .i64 0, .slice none 0 0], .slice none 0 0], []⟩ 8 (by kernel_rfl) (by kernel_rfl) (by kernel_rfl) (by kernel_rfl)) ?_
  intro W base args ds gs before hval0 hW hcnd _
  have hval : ∀ (j : Nat) t v, Try.f16.params[j]? = some t → args[j]? = some v → Value.okWide Try.prog W .any base t v := hval0
  have hW' := hW
  obtain ⟨p, q, hA0, hV, rfl, hfz, hnd⟩ := hW
  have hA : DataW.TrodAll enc Try.prog W 0 (fun _ => true) true Try.f16.params.toList args.toList ds p := hA0
  rw [Try.params16] at hA hval
  obtain ⟨v0, vs0, d0, ds0, pl0, ql0, hargs, rfl, rfl, h0, r0⟩ := trodAll_cons hA
  obtain ⟨v1, vs1, d1, ds1, pl1, ql1, rfl, rfl, rfl, h1, r1⟩ := trodAll_cons r0
  obtain ⟨rfl, rfl, rfl⟩ := trodAll_nil r1
  obtain rfl : args = #[v0, v1] := by cases args; simp_all
  obtain ⟨rfl, rfl⟩ := trodVars_none hV
  have k0 := h0
  have k1 := h1
  obtain ⟨W0, K0, A0, n0, c0, p0, rfl, hn0, hp0, hr0⟩ := read_image (hval 0 26 v0 rfl rfl) h0
  obtain ⟨A1, n1, c1, p1, rfl, hn1, hp1, hr1⟩ := read_list (hval 1 52 v1 rfl rfl) h1
  clear hA0 hval0 hcnd
  refine (DistortShiftsAreTransposed_walk W0 K0 A0 n0 c0 p0 hn0 hp0 hr0 A1 n1 c1 p1 hn1 hp1 hr1).mono fun e W1 ⟨he, bel⟩ => ?_
  subst he
  exact ⟨_, rfl, _, _, _, [], _, [], hW', trodAll_mk1 (shut_bool Try.underlying4 _), (trodAll_cons_mk (still_reads (by kernel_rfl) (of_decide_eq_true (by kernel_rfl)) k0 bel) (trodAll_cons_mk (still_reads (by kernel_rfl) (of_decide_eq_true (by kernel_rfl)) k1 bel) trodAll_mk0)), rfl, bel.frame _, fun h => by cases h⟩

theorem distortShiftsAreTransposed_k9 : (Rows.distortShiftsAreTransposedRow.inPlace == Try.prog.inPlace 16) = true := by kernel_rfl
theorem distortShiftsAreTransposed_k10 : (Rows.distortShiftsAreTransposedRow.unfollowed == Try.prog.unfollowed 16) = true := by kernel_rfl
theorem distortShiftsAreTransposed_k11 : (Rows.distortShiftsAreTransposedRow.recurses == Try.prog.recurses 16) = true := by kernel_rfl
theorem distortShiftsAreTransposed_k12 : (Rows.distortShiftsAreTransposedRow.named == Try.prog.varsNamed 16) = true := by kernel_rfl
theorem distortShiftsAreTransposed_joined : joinedFacts Try.prog 16 Try.f16 Rows.distortShiftsAreTransposedSpec Rows.distortShiftsAreTransposedRow = true :=
  joined_of (by kernel_rfl) f_laid f_maps (by kernel_rfl) (by kernel_rfl) (by kernel_rfl) f_stops (by kernel_rfl) f_knobs distortShiftsAreTransposed_k9 distortShiftsAreTransposed_k10 distortShiftsAreTransposed_k11 distortShiftsAreTransposed_k12 (by kernel_rfl) (by kernel_rfl) (by kernel_rfl) (by kernel_rfl) (by kernel_rfl) (by kernel_rfl) (by kernel_rfl) (by kernel_rfl) (by kernel_rfl) (by rw [f_plain]; rfl) (by kernel_rfl) f_heard f_enter (by rw [f_final]; rfl) (by rw [f_make]; rfl) (by kernel_rfl) (by kernel_rfl) (by kernel_rfl) (by kernel_rfl)
theorem distortShiftsAreTransposed_named : Try.prog.funcNamed Rows.distortShiftsAreTransposedRow.func = some 16 := by kernel_rfl
theorem distortShiftsAreTransposed_holds : Rows.DistortShiftsAreTransposedSaid :=
  OpenClaim.holds_of_wide 16 Try.f16 rfl rfl rfl rfl rfl rfl rfl ⟨rfl, rfl, rfl, rfl, rfl⟩ rfl rfl rfl rfl rfl distortShiftsAreTransposed_named Try.func16 distortShiftsAreTransposed_joined
    (of_decide_eq_true (by kernel_rfl)) (by unfold Func.isWrapper; first | (rw [if_pos (by decide +kernel)]; kernel_rfl) | (rw [if_neg (by decide +kernel)]; exact ⟨rfl, rfl⟩))
    (fun os started H enc _ => distortShiftsAreTransposed_lifted os started H enc)

#print axioms distortShiftsAreTransposed_holds
end Go.Proofs.Ytpdjiokmafoppaa
