/- DistortSmearMatchesSpec: for every input the law returns true, and each argument reads behind the call as it read before. No conditions. -/
import Derived.Test.YtpdjiokmafoppaaLSmear
import Derived.Test.YtpdjiokmafoppaaFrame
import Derived.Test.YtpdjiokmafoppaaInit
namespace Go.Proofs.Ytpdjiokmafoppaa
open Go.ChangeShapes Go.WideShapes Go.ChangeAt Go.RowKit

set_option maxRecDepth 100000 in
theorem distortSmearMatchesSpec_lifted (os : Os) (started : os.Started) (H : Type) (enc : TypeId × Value → H) :
    ReturnsInHanded {} Try.checked os 11 .any (Rows.distortSmearMatchesSpecSpec.pre6 enc Try.prog Try.f11 Rows.distortSmearMatchesSpecRow.domain false) (Rows.distortSmearMatchesSpecSpec.post enc Try.prog Try.f11 false true false false) := by
  refine returnsInHanded_of_change (C := Try.checked) own started (by kernel_rfl) Try.func11
    (ChangeSpec.witness6 (enc := enc) (C := Try.checked) false ⟨#[], #[.agg #[.int .i64 0, .int .i64 0, .slice none 0 0]], []⟩ 8 (by kernel_rfl) (by kernel_rfl) (by kernel_rfl) (by kernel_rfl)) ?_
  intro W base args ds gs before hval0 hW hcnd _
  have hval : ∀ (j : Nat) t v, Try.f11.params[j]? = some t → args[j]? = some v → Value.okWide Try.prog W .any base t v := hval0
  have hW' := hW
  obtain ⟨p, q, hA0, hV, rfl, hfz, hnd⟩ := hW
  have hA : DataW.TrodAll enc Try.prog W 0 (fun _ => true) true Try.f11.params.toList args.toList ds p := hA0
  rw [Try.params11] at hA hval
  obtain ⟨v0, vs0, d0, ds0, pl0, ql0, hargs, rfl, rfl, h0, r0⟩ := trodAll_cons hA
  obtain ⟨rfl, rfl, rfl⟩ := trodAll_nil r0
  obtain rfl : args = #[v0] := by cases args; simp_all
  obtain ⟨rfl, rfl⟩ := trodVars_none hV
  have k0 := h0
  obtain ⟨W0, K0, A0, n0, c0, p0, rfl, hn0, hp0, hr0⟩ := read_image (hval 0 26 v0 rfl rfl) h0
  clear hA0 hval0 hcnd
  refine (DistortSmearMatchesSpec_walk W0 K0 A0 n0 c0 p0 hn0 hp0 hr0).mono fun e W1 ⟨he, bel⟩ => ?_
  subst he
  exact ⟨_, rfl, _, _, _, [], _, [], hW', trodAll_mk1 (shut_bool Try.underlying4 _), (trodAll_cons_mk (still_reads (by kernel_rfl) (of_decide_eq_true (by kernel_rfl)) k0 bel) trodAll_mk0), rfl, bel.frame _, fun h => by cases h⟩

theorem distortSmearMatchesSpec_k9 : (Rows.distortSmearMatchesSpecRow.inPlace == Try.prog.inPlace 11) = true := by kernel_rfl
theorem distortSmearMatchesSpec_k10 : (Rows.distortSmearMatchesSpecRow.unfollowed == Try.prog.unfollowed 11) = true := by kernel_rfl
theorem distortSmearMatchesSpec_k11 : (Rows.distortSmearMatchesSpecRow.recurses == Try.prog.recurses 11) = true := by kernel_rfl
theorem distortSmearMatchesSpec_k12 : (Rows.distortSmearMatchesSpecRow.named == Try.prog.varsNamed 11) = true := by kernel_rfl
theorem distortSmearMatchesSpec_joined : joinedFacts Try.prog 11 Try.f11 Rows.distortSmearMatchesSpecSpec Rows.distortSmearMatchesSpecRow = true :=
  joined_of (by kernel_rfl) f_laid f_maps (by kernel_rfl) (by kernel_rfl) (by kernel_rfl) f_stops (by kernel_rfl) f_knobs distortSmearMatchesSpec_k9 distortSmearMatchesSpec_k10 distortSmearMatchesSpec_k11 distortSmearMatchesSpec_k12 (by kernel_rfl) (by kernel_rfl) (by kernel_rfl) (by kernel_rfl) (by kernel_rfl) (by kernel_rfl) (by kernel_rfl) (by kernel_rfl) (by kernel_rfl) (by rw [f_plain]; rfl) (by kernel_rfl) f_heard f_enter (by rw [f_final]; rfl) (by rw [f_make]; rfl) (by kernel_rfl) (by kernel_rfl) (by kernel_rfl) (by kernel_rfl)
theorem distortSmearMatchesSpec_named : Try.prog.funcNamed Rows.distortSmearMatchesSpecRow.func = some 11 := by kernel_rfl
theorem distortSmearMatchesSpec_holds : Rows.DistortSmearMatchesSpecSaid :=
  OpenClaim.holds_of_wide 11 Try.f11 rfl rfl rfl rfl rfl rfl rfl ⟨rfl, rfl, rfl, rfl, rfl⟩ rfl rfl rfl rfl rfl distortSmearMatchesSpec_named Try.func11 distortSmearMatchesSpec_joined
    (of_decide_eq_true (by kernel_rfl)) (by unfold Func.isWrapper; first | (rw [if_pos (by decide +kernel)]; kernel_rfl) | (rw [if_neg (by decide +kernel)]; exact ⟨rfl, rfl⟩))
    (fun os started H enc _ => distortSmearMatchesSpec_lifted os started H enc)

#print axioms distortSmearMatchesSpec_holds
end Go.Proofs.Ytpdjiokmafoppaa
