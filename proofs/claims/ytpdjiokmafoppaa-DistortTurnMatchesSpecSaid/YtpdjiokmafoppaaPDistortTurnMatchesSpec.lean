/- DistortTurnMatchesSpec: for every input the law returns true, and each argument reads behind the call as it read before. No conditions. -/
import Derived.Test.YtpdjiokmafoppaaLTurn
import Derived.Test.YtpdjiokmafoppaaFrame2
import Derived.Test.YtpdjiokmafoppaaInit
namespace Go.Proofs.Ytpdjiokmafoppaa
open Go.ChangeShapes Go.WideShapes Go.ChangeAt Go.RowKit

set_option maxRecDepth 100000 in
theorem distortTurnMatchesSpec_lifted (os : Os) (started : os.Started) (H : Type) (enc : TypeId × Value → H) :
    ReturnsInHanded {} Try.checked os 13 .any (Rows.distortTurnMatchesSpecSpec.pre6 enc Try.prog Try.f13 Rows.distortTurnMatchesSpecRow.domain false) (Rows.distortTurnMatchesSpecSpec.post enc Try.prog Try.f13 false true false false) := by
  refine returnsInHanded_of_change (C := Try.checked) own started (by kernel_rfl) Try.func13
    (ChangeSpec.witness6 (enc := enc) (C := Try.checked) false ⟨#[], #[.agg #[.int .i64 0, .int .i64 0, .slice none 0 0], .int .i64 0, .int .i64 0], []⟩ 8 (by kernel_rfl) (by kernel_rfl) (by kernel_rfl) (by kernel_rfl)) ?_
  intro W base args ds gs before hval0 hW hcnd _
  have hval : ∀ (j : Nat) t v, Try.f13.params[j]? = some t → args[j]? = some v → Value.okWide Try.prog W .any base t v := hval0
  have hW' := hW
  obtain ⟨p, q, hA0, hV, rfl, hfz, hnd⟩ := hW
  have hA : DataW.TrodAll enc Try.prog W 0 (fun _ => true) true Try.f13.params.toList args.toList ds p := hA0
  rw [Try.params13] at hA hval
  obtain ⟨v0, vs0, d0, ds0, pl0, ql0, hargs, rfl, rfl, h0, r0⟩ := trodAll_cons hA
  obtain ⟨v1, vs1, d1, ds1, pl1, ql1, rfl, rfl, rfl, h1, r1⟩ := trodAll_cons r0
  obtain ⟨v2, vs2, d2, ds2, pl2, ql2, rfl, rfl, rfl, h2, r2⟩ := trodAll_cons r1
  obtain ⟨rfl, rfl, rfl⟩ := trodAll_nil r2
  obtain rfl : args = #[v0, v1, v2] := by cases args; simp_all
  obtain ⟨rfl, rfl⟩ := trodVars_none hV
  have k0 := h0
  have k1 := h1
  have k2 := h2
  obtain ⟨W0, K0, A0, n0, c0, p0, rfl, hn0, hp0, hr0⟩ := read_image (hval 0 26 v0 rfl rfl) h0
  obtain ⟨x1, rfl, hx1⟩ := read_num (hval 1 3 v1 rfl rfl) h1
  obtain ⟨x2, rfl, hx2⟩ := read_num (hval 2 3 v2 rfl rfl) h2
  clear hA0 hval0 hcnd
  refine (DistortTurnMatchesSpec_walk W0 K0 A0 n0 c0 p0 hn0 hp0 hr0 x1 hx1 x2 hx2).mono fun e W1 ⟨he, bel⟩ => ?_
  subst he
  exact ⟨_, rfl, _, _, _, [], _, [], hW', trodAll_mk1 (shut_bool Try.underlying4 _), (trodAll_cons_mk (still_reads (by kernel_rfl) (of_decide_eq_true (by kernel_rfl)) k0 bel) (trodAll_cons_mk (still_reads (by kernel_rfl) (of_decide_eq_true (by kernel_rfl)) k1 bel) (trodAll_cons_mk (still_reads (by kernel_rfl) (of_decide_eq_true (by kernel_rfl)) k2 bel) trodAll_mk0))), rfl, bel.frame _, fun h => by cases h⟩

theorem distortTurnMatchesSpec_k9 : (Rows.distortTurnMatchesSpecRow.inPlace == Try.prog.inPlace 13) = true := by kernel_rfl
theorem distortTurnMatchesSpec_k10 : (Rows.distortTurnMatchesSpecRow.unfollowed == Try.prog.unfollowed 13) = true := by kernel_rfl
theorem distortTurnMatchesSpec_k11 : (Rows.distortTurnMatchesSpecRow.recurses == Try.prog.recurses 13) = true := by kernel_rfl
theorem distortTurnMatchesSpec_k12 : (Rows.distortTurnMatchesSpecRow.named == Try.prog.varsNamed 13) = true := by kernel_rfl
theorem distortTurnMatchesSpec_joined : joinedFacts Try.prog 13 Try.f13 Rows.distortTurnMatchesSpecSpec Rows.distortTurnMatchesSpecRow = true :=
  joined_of (by kernel_rfl) f_laid f_maps (by kernel_rfl) (by kernel_rfl) (by kernel_rfl) f_stops (by kernel_rfl) f_knobs distortTurnMatchesSpec_k9 distortTurnMatchesSpec_k10 distortTurnMatchesSpec_k11 distortTurnMatchesSpec_k12 (by kernel_rfl) (by kernel_rfl) (by kernel_rfl) (by kernel_rfl) (by kernel_rfl) (by kernel_rfl) (by kernel_rfl) (by kernel_rfl) (by kernel_rfl) (by rw [f_plain]; rfl) (by kernel_rfl) f_heard f_enter (by rw [f_final]; rfl) (by rw [f_make]; rfl) (by kernel_rfl) (by kernel_rfl) (by kernel_rfl) (by kernel_rfl)
theorem distortTurnMatchesSpec_named : Try.prog.funcNamed Rows.distortTurnMatchesSpecRow.func = some 13 := by kernel_rfl
theorem distortTurnMatchesSpec_holds : Rows.DistortTurnMatchesSpecSaid :=
  OpenClaim.holds_of_wide 13 Try.f13 rfl rfl rfl rfl rfl rfl rfl ⟨rfl, rfl, rfl, rfl, rfl⟩ rfl rfl rfl rfl rfl distortTurnMatchesSpec_named Try.func13 distortTurnMatchesSpec_joined
    (of_decide_eq_true (by kernel_rfl)) (by unfold Func.isWrapper; first | (rw [if_pos (by decide +kernel)]; kernel_rfl) | (rw [if_neg (by decide +kernel)]; exact ⟨rfl, rfl⟩))
    (fun os started H enc _ => distortTurnMatchesSpec_lifted os started H enc)

#print axioms distortTurnMatchesSpec_holds
end Go.Proofs.Ytpdjiokmafoppaa
