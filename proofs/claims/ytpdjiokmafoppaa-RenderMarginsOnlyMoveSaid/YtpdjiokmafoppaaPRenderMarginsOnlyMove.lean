/- RenderMarginsOnlyMove: for every input the law returns true, and each argument reads behind the call as it read before. No conditions. -/
import Derived.Test.YtpdjiokmafoppaaRMO
import Derived.Test.YtpdjiokmafoppaaFrame
import Derived.Test.YtpdjiokmafoppaaInit
namespace Go.Proofs.Ytpdjiokmafoppaa
open Go.ChangeShapes Go.WideShapes Go.ChangeAt Go.RowKit

set_option maxRecDepth 100000 in
theorem renderMarginsOnlyMove_lifted (os : Os) (started : os.Started) (H : Type) (enc : TypeId × Value → H) :
    ReturnsInHanded {} Try.checked os 4 .any (Rows.renderMarginsOnlyMoveSpec.pre6 enc Try.prog Try.f4 Rows.renderMarginsOnlyMoveRow.domain false) (Rows.renderMarginsOnlyMoveSpec.post enc Try.prog Try.f4 false true false false) := by
  refine returnsInHanded_of_change (C := Try.checked) own started (by kernel_rfl) Try.func4
    (ChangeSpec.witness6 (enc := enc) (C := Try.checked) false ⟨#[], #[.agg #[.int .i64 0, .int .i64 0, .int .i64 0, .slice none 0 0], .int .i64 0, .int .i64 0, .int .i64 0, .int .i64 0, .int .i64 0], []⟩ 8 (by kernel_rfl) (by kernel_rfl) (by kernel_rfl) (by kernel_rfl)) ?_
  intro W base args ds gs before hval0 hW hcnd _
  have hval : ∀ (j : Nat) t v, Try.f4.params[j]? = some t → args[j]? = some v → Value.okWide Try.prog W .any base t v := hval0
  have hW' := hW
  obtain ⟨p, q, hA0, hV, rfl, hfz, hnd⟩ := hW
  have hA : DataW.TrodAll enc Try.prog W 0 (fun _ => true) true Try.f4.params.toList args.toList ds p := hA0
  rw [Try.params4] at hA hval
  obtain ⟨v0, vs0, d0, ds0, pl0, ql0, hargs, rfl, rfl, h0, r0⟩ := trodAll_cons hA
  obtain ⟨v1, vs1, d1, ds1, pl1, ql1, rfl, rfl, rfl, h1, r1⟩ := trodAll_cons r0
  obtain ⟨v2, vs2, d2, ds2, pl2, ql2, rfl, rfl, rfl, h2, r2⟩ := trodAll_cons r1
  obtain ⟨v3, vs3, d3, ds3, pl3, ql3, rfl, rfl, rfl, h3, r3⟩ := trodAll_cons r2
  obtain ⟨v4, vs4, d4, ds4, pl4, ql4, rfl, rfl, rfl, h4, r4⟩ := trodAll_cons r3
  obtain ⟨v5, vs5, d5, ds5, pl5, ql5, rfl, rfl, rfl, h5, r5⟩ := trodAll_cons r4
  obtain ⟨rfl, rfl, rfl⟩ := trodAll_nil r5
  obtain rfl : args = #[v0, v1, v2, v3, v4, v5] := by cases args; simp_all
  obtain ⟨rfl, rfl⟩ := trodVars_none hV
  have k0 := h0
  have k1 := h1
  have k2 := h2
  have k3 := h3
  have k4 := h4
  have k5 := h5
  obtain ⟨L0, R0, C0, A0, n0, c0, p0, rfl, hn0, hp0, hr0⟩ := read_grid (hval 0 24 v0 rfl rfl) h0
  obtain ⟨x1, rfl, hx1⟩ := read_num (hval 1 3 v1 rfl rfl) h1
  obtain ⟨x2, rfl, hx2⟩ := read_num (hval 2 3 v2 rfl rfl) h2
  obtain ⟨x3, rfl, hx3⟩ := read_num (hval 3 3 v3 rfl rfl) h3
  obtain ⟨x4, rfl, hx4⟩ := read_num (hval 4 3 v4 rfl rfl) h4
  obtain ⟨x5, rfl, hx5⟩ := read_num (hval 5 3 v5 rfl rfl) h5
  clear hA0 hval0 hcnd
  refine (RenderMarginsOnlyMove_walk L0 R0 C0 A0 n0 c0 p0 hn0 hp0 hr0 x1 hx1 x2 hx2 x3 hx3 x4 hx4 x5 hx5).mono fun e W1 ⟨he, bel⟩ => ?_
  subst he
  exact ⟨_, rfl, _, _, _, [], _, [], hW', trodAll_mk1 (shut_bool Try.underlying4 _), (trodAll_cons_mk (still_reads (by kernel_rfl) (of_decide_eq_true (by kernel_rfl)) k0 bel) (trodAll_cons_mk (still_reads (by kernel_rfl) (of_decide_eq_true (by kernel_rfl)) k1 bel) (trodAll_cons_mk (still_reads (by kernel_rfl) (of_decide_eq_true (by kernel_rfl)) k2 bel) (trodAll_cons_mk (still_reads (by kernel_rfl) (of_decide_eq_true (by kernel_rfl)) k3 bel) (trodAll_cons_mk (still_reads (by kernel_rfl) (of_decide_eq_true (by kernel_rfl)) k4 bel) (trodAll_cons_mk (still_reads (by kernel_rfl) (of_decide_eq_true (by kernel_rfl)) k5 bel) trodAll_mk0)))))), rfl, bel.frame _, fun h => by cases h⟩

theorem renderMarginsOnlyMove_k9 : (Rows.renderMarginsOnlyMoveRow.inPlace == Try.prog.inPlace 4) = true := by kernel_rfl
theorem renderMarginsOnlyMove_k10 : (Rows.renderMarginsOnlyMoveRow.unfollowed == Try.prog.unfollowed 4) = true := by kernel_rfl
theorem renderMarginsOnlyMove_k11 : (Rows.renderMarginsOnlyMoveRow.recurses == Try.prog.recurses 4) = true := by kernel_rfl
theorem renderMarginsOnlyMove_k12 : (Rows.renderMarginsOnlyMoveRow.named == Try.prog.varsNamed 4) = true := by kernel_rfl
theorem renderMarginsOnlyMove_joined : joinedFacts Try.prog 4 Try.f4 Rows.renderMarginsOnlyMoveSpec Rows.renderMarginsOnlyMoveRow = true :=
  joined_of (by kernel_rfl) f_laid f_maps (by kernel_rfl) (by kernel_rfl) (by kernel_rfl) f_stops (by kernel_rfl) f_knobs renderMarginsOnlyMove_k9 renderMarginsOnlyMove_k10 renderMarginsOnlyMove_k11 renderMarginsOnlyMove_k12 (by kernel_rfl) (by kernel_rfl) (by kernel_rfl) (by kernel_rfl) (by kernel_rfl) (by kernel_rfl) (by kernel_rfl) (by kernel_rfl) (by kernel_rfl) (by rw [f_plain]; rfl) (by kernel_rfl) f_heard f_enter (by rw [f_final]; rfl) (by rw [f_make]; rfl) (by kernel_rfl) (by kernel_rfl) (by kernel_rfl) (by kernel_rfl)
theorem renderMarginsOnlyMove_named : Try.prog.funcNamed Rows.renderMarginsOnlyMoveRow.func = some 4 := by kernel_rfl
theorem renderMarginsOnlyMove_holds : Rows.RenderMarginsOnlyMoveSaid :=
  OpenClaim.holds_of_wide 4 Try.f4 rfl rfl rfl rfl rfl rfl rfl ⟨rfl, rfl, rfl, rfl, rfl⟩ rfl rfl rfl rfl rfl renderMarginsOnlyMove_named Try.func4 renderMarginsOnlyMove_joined
    (of_decide_eq_true (by kernel_rfl)) (by unfold Func.isWrapper; first | (rw [if_pos (by decide +kernel)]; kernel_rfl) | (rw [if_neg (by decide +kernel)]; exact ⟨rfl, rfl⟩))
    (fun os started H enc _ => renderMarginsOnlyMove_lifted os started H enc)

#print axioms renderMarginsOnlyMove_holds
end Go.Proofs.Ytpdjiokmafoppaa
