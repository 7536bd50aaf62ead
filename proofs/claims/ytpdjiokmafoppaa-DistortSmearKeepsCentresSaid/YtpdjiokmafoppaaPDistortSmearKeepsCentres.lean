/- DistortSmearKeepsCentres: for every input the law returns true, and each argument reads behind the call as it read before. No conditions. -/
import Derived.Test.YtpdjiokmafoppaaLKeep
import Derived.Test.YtpdjiokmafoppaaFrame2
import Derived.Test.YtpdjiokmafoppaaInit
namespace Go.Proofs.Ytpdjiokmafoppaa
open Go.ChangeShapes Go.WideShapes Go.ChangeAt Go.RowKit

set_option maxRecDepth 100000 in
theorem distortSmearKeepsCentres_lifted (os : Os) (started : os.Started) (H : Type) (enc : TypeId × Value → H) :
    ReturnsInHanded {} Try.checked os 19 .any (Rows.distortSmearKeepsCentresSpec.pre6 enc Try.prog Try.f19 Rows.distortSmearKeepsCentresRow.domain false) (Rows.distortSmearKeepsCentresSpec.post enc Try.prog Try.f19 false true false false) := by
  refine returnsInHanded_of_change (C := Try.checked) own started (by kernel_rfl) Try.func19
    (ChangeSpec.witness6 (enc := enc) (C := Try.checked) false ⟨#[], #[.agg #[.int .i64 0, .int .i64 0, .int .i64 0, .slice none 0 0], .int .i64 0, .int .i64 0, .int .i64 0, .int .i64 0], []⟩ 8 (by kernel_rfl) (by kernel_rfl) (by kernel_rfl) (by kernel_rfl)) ?_
  intro W base args ds gs before hval0 hW hcnd _
  have hval : ∀ (j : Nat) t v, Try.f19.params[j]? = some t → args[j]? = some v → Value.okWide Try.prog W .any base t v := hval0
  have hW' := hW
  obtain ⟨p, q, hA0, hV, rfl, hfz, hnd⟩ := hW
  have hA : DataW.TrodAll enc Try.prog W 0 (fun _ => true) true Try.f19.params.toList args.toList ds p := hA0
  rw [Try.params19] at hA hval
  obtain ⟨v0, vs0, d0, ds0, pl0, ql0, hargs, rfl, rfl, h0, r0⟩ := trodAll_cons hA
  obtain ⟨v1, vs1, d1, ds1, pl1, ql1, rfl, rfl, rfl, h1, r1⟩ := trodAll_cons r0
  obtain ⟨v2, vs2, d2, ds2, pl2, ql2, rfl, rfl, rfl, h2, r2⟩ := trodAll_cons r1
  obtain ⟨v3, vs3, d3, ds3, pl3, ql3, rfl, rfl, rfl, h3, r3⟩ := trodAll_cons r2
  obtain ⟨v4, vs4, d4, ds4, pl4, ql4, rfl, rfl, rfl, h4, r4⟩ := trodAll_cons r3
  obtain ⟨rfl, rfl, rfl⟩ := trodAll_nil r4
  obtain rfl : args = #[v0, v1, v2, v3, v4] := by cases args; simp_all
  obtain ⟨rfl, rfl⟩ := trodVars_none hV
  have k0 := h0
  have k1 := h1
  have k2 := h2
  have k3 := h3
  have k4 := h4
  obtain ⟨L0, R0, C0, A0, n0, c0, p0, rfl, hn0, hp0, hr0⟩ := read_grid (hval 0 24 v0 rfl rfl) h0
  obtain ⟨x1, rfl, hx1⟩ := read_num (hval 1 3 v1 rfl rfl) h1
  obtain ⟨x2, rfl, hx2⟩ := read_num (hval 2 3 v2 rfl rfl) h2
  obtain ⟨x3, rfl, hx3⟩ := read_num (hval 3 3 v3 rfl rfl) h3
  obtain ⟨x4, rfl, hx4⟩ := read_num (hval 4 3 v4 rfl rfl) h4
  clear hA0 hval0 hcnd
  refine (DistortSmearKeepsCentres_walk L0 R0 C0 A0 n0 c0 p0 hn0 hp0 hr0 x1 hx1 x2 hx2 x3 hx3 x4 hx4).mono fun e W1 ⟨he, bel⟩ => ?_
  subst he
  exact ⟨_, rfl, _, _, _, [], _, [], hW', trodAll_mk1 (shut_bool Try.underlying4 _), (trodAll_cons_mk (still_reads (by kernel_rfl) (of_decide_eq_true (by kernel_rfl)) k0 bel) (trodAll_cons_mk (still_reads (by kernel_rfl) (of_decide_eq_true (by kernel_rfl)) k1 bel) (trodAll_cons_mk (still_reads (by kernel_rfl) (of_decide_eq_true (by kernel_rfl)) k2 bel) (trodAll_cons_mk (still_reads (by kernel_rfl) (of_decide_eq_true (by kernel_rfl)) k3 bel) (trodAll_cons_mk (still_reads (by kernel_rfl) (of_decide_eq_true (by kernel_rfl)) k4 bel) trodAll_mk0))))), rfl, bel.frame _, fun h => by cases h⟩

theorem distortSmearKeepsCentres_k9 : (Rows.distortSmearKeepsCentresRow.inPlace == Try.prog.inPlace 19) = true := by kernel_rfl
theorem distortSmearKeepsCentres_k10 : (Rows.distortSmearKeepsCentresRow.unfollowed == Try.prog.unfollowed 19) = true := by kernel_rfl
theorem distortSmearKeepsCentres_k11 : (Rows.distortSmearKeepsCentresRow.recurses == Try.prog.recurses 19) = true := by kernel_rfl
theorem distortSmearKeepsCentres_k12 : (Rows.distortSmearKeepsCentresRow.named == Try.prog.varsNamed 19) = true := by kernel_rfl
theorem distortSmearKeepsCentres_joined : joinedFacts Try.prog 19 Try.f19 Rows.distortSmearKeepsCentresSpec Rows.distortSmearKeepsCentresRow = true :=
  joined_of (by kernel_rfl) f_laid f_maps (by kernel_rfl) (by kernel_rfl) (by kernel_rfl) f_stops (by kernel_rfl) f_knobs distortSmearKeepsCentres_k9 distortSmearKeepsCentres_k10 distortSmearKeepsCentres_k11 distortSmearKeepsCentres_k12 (by kernel_rfl) (by kernel_rfl) (by kernel_rfl) (by kernel_rfl) (by kernel_rfl) (by kernel_rfl) (by kernel_rfl) (by kernel_rfl) (by kernel_rfl) (by rw [f_plain]; rfl) (by kernel_rfl) f_heard f_enter (by rw [f_final]; rfl) (by rw [f_make]; rfl) (by kernel_rfl) (by kernel_rfl) (by kernel_rfl) (by kernel_rfl)
theorem distortSmearKeepsCentres_named : Try.prog.funcNamed Rows.distortSmearKeepsCentresRow.func = some 19 := by kernel_rfl
theorem distortSmearKeepsCentres_holds : Rows.DistortSmearKeepsCentresSaid :=
  OpenClaim.holds_of_wide 19 Try.f19 rfl rfl rfl rfl rfl rfl rfl ⟨rfl, rfl, rfl, rfl, rfl⟩ rfl rfl rfl rfl rfl distortSmearKeepsCentres_named Try.func19 distortSmearKeepsCentres_joined
    (of_decide_eq_true (by kernel_rfl)) (by unfold Func.isWrapper; first | (rw [if_pos (by decide +kernel)]; kernel_rfl) | (rw [if_neg (by decide +kernel)]; exact ⟨rfl, rfl⟩))
    (fun os started H enc _ => distortSmearKeepsCentres_lifted os started H enc)

#print axioms distortSmearKeepsCentres_holds
end Go.Proofs.Ytpdjiokmafoppaa
