/- DistortDamageMatchesSpec: for every input the law returns true, and each argument reads behind the call as it read before. No conditions. -/
import Derived.Test.YtpdjiokmafoppaaLDam
import Derived.Test.YtpdjiokmafoppaaFrame2
import Derived.Test.YtpdjiokmafoppaaInit
namespace Go.Proofs.Ytpdjiokmafoppaa
open Go.ChangeShapes Go.WideShapes Go.ChangeAt Go.RowKit

set_option maxRecDepth 100000 in
theorem distortDamageMatchesSpec_lifted (os : Os) (started : os.Started) (H : Type) (enc : TypeId × Value → H) :
    ReturnsInHanded {} Try.checked os 18 .any (Rows.distortDamageMatchesSpecSpec.pre6 enc Try.prog Try.f18 Rows.distortDamageMatchesSpecRow.domain false) (Rows.distortDamageMatchesSpecSpec.post enc Try.prog Try.f18 false true false false) := by
  refine returnsInHanded_of_change (C := Try.checked) own started (by kernel_rfl) Try.func18
    (ChangeSpec.witness6 (enc := enc) (C := Try.checked) false ⟨#[], #[.agg #[.int .i64 0, .int .i64 0, .slice none 0 0], .slice none 0 0, .agg #[.int .i64 0, .int .i64 0, .int .i64 0, .int .i64 0, .slice none 0 0]], []⟩ 8 (by kernel_rfl) (by kernel_rfl) (by kernel_rfl) (by kernel_rfl)) ?_
  intro W base args ds gs before hval0 hW hcnd _
  have hval : ∀ (j : Nat) t v, Try.f18.params[j]? = some t → args[j]? = some v → Value.okWide Try.prog W .any base t v := hval0
  have hW' := hW
  obtain ⟨p, q, hA0, hV, rfl, hfz, hnd⟩ := hW
  have hA : DataW.TrodAll enc Try.prog W 0 (fun _ => true) true Try.f18.params.toList args.toList ds p := hA0
  rw [Try.params18] at hA hval
  obtain ⟨v0, vs0, d0, ds0, pl0, ql0, hargs, rfl, rfl, h0, r0⟩ := trodAll_cons hA
  obtain ⟨v1, vs1, d1, ds1, pl1, ql1, rfl, rfl, rfl, h1, r1⟩ := trodAll_cons r0
  obtain ⟨v2, vs2, d2, ds2, pl2, ql2, rfl, rfl, rfl, h2, r2⟩ := trodAll_cons r1
  obtain ⟨rfl, rfl, rfl⟩ := trodAll_nil r2
  obtain rfl : args = #[v0, v1, v2] := by cases args; simp_all
  obtain ⟨rfl, rfl⟩ := trodVars_none hV
  have k0 := h0
  have k1 := h1
  have k2 := h2
  obtain ⟨W0, K0, A0, n0, c0, p0, rfl, hn0, hp0, hr0⟩ := read_image (hval 0 26 v0 rfl rfl) h0
  obtain ⟨A1, n1, c1, p1, rfl, hn1, hp1, hr1⟩ := read_list (hval 1 52 v1 rfl rfl) h1
  obtain ⟨a2, b2, d2, e2, A2, n2, c2, p2, rfl, hi2, hn2, hp2, hr2⟩ := read_tear (hval 2 95 v2 rfl rfl) h2
  clear hA0 hval0 hcnd
  refine (DistortDamageMatchesSpec_walk W0 K0 A0 n0 c0 p0 hn0 hp0 hr0 A1 n1 c1 p1 hn1 hp1 hr1 a2 b2 d2 e2 A2 n2 c2 p2 hi2 hn2 hp2 hr2).mono fun e W1 ⟨he, bel⟩ => ?_
  subst he
  exact ⟨_, rfl, _, _, _, [], _, [], hW', trodAll_mk1 (shut_bool Try.underlying4 _), (trodAll_cons_mk (still_reads (by kernel_rfl) (of_decide_eq_true (by kernel_rfl)) k0 bel) (trodAll_cons_mk (still_reads (by kernel_rfl) (of_decide_eq_true (by kernel_rfl)) k1 bel) (trodAll_cons_mk (still_reads (by kernel_rfl) (of_decide_eq_true (by kernel_rfl)) k2 bel) trodAll_mk0))), rfl, bel.frame _, fun h => by cases h⟩

theorem distortDamageMatchesSpec_k9 : (Rows.distortDamageMatchesSpecRow.inPlace == Try.prog.inPlace 18) = true := by kernel_rfl
theorem distortDamageMatchesSpec_k10 : (Rows.distortDamageMatchesSpecRow.unfollowed == Try.prog.unfollowed 18) = true := by kernel_rfl
theorem distortDamageMatchesSpec_k11 : (Rows.distortDamageMatchesSpecRow.recurses == Try.prog.recurses 18) = true := by kernel_rfl
theorem distortDamageMatchesSpec_k12 : (Rows.distortDamageMatchesSpecRow.named == Try.prog.varsNamed 18) = true := by kernel_rfl
theorem distortDamageMatchesSpec_joined : joinedFacts Try.prog 18 Try.f18 Rows.distortDamageMatchesSpecSpec Rows.distortDamageMatchesSpecRow = true :=
  joined_of (by kernel_rfl) f_laid f_maps (by kernel_rfl) (by kernel_rfl) (by kernel_rfl) f_stops (by kernel_rfl) f_knobs distortDamageMatchesSpec_k9 distortDamageMatchesSpec_k10 distortDamageMatchesSpec_k11 distortDamageMatchesSpec_k12 (by kernel_rfl) (by kernel_rfl) (by kernel_rfl) (by kernel_rfl) (by kernel_rfl) (by kernel_rfl) (by kernel_rfl) (by kernel_rfl) (by kernel_rfl) (by rw [f_plain]; rfl) (by kernel_rfl) f_heard f_enter (by rw [f_final]; rfl) (by rw [f_make]; rfl) (by kernel_rfl) (by kernel_rfl) (by kernel_rfl) (by kernel_rfl)
theorem distortDamageMatchesSpec_named : Try.prog.funcNamed Rows.distortDamageMatchesSpecRow.func = some 18 := by kernel_rfl
theorem distortDamageMatchesSpec_holds : Rows.DistortDamageMatchesSpecSaid :=
  OpenClaim.holds_of_wide 18 Try.f18 rfl rfl rfl rfl rfl rfl rfl ⟨rfl, rfl, rfl, rfl, rfl⟩ rfl rfl rfl rfl rfl distortDamageMatchesSpec_named Try.func18 distortDamageMatchesSpec_joined
    (of_decide_eq_true (by kernel_rfl)) (by unfold Func.isWrapper; first | (rw [if_pos (by decide +kernel)]; kernel_rfl) | (rw [if_neg (by decide +kernel)]; exact ⟨rfl, rfl⟩))
    (fun os started H enc _ => distortDamageMatchesSpec_lifted os started H enc)

#print axioms distortDamageMatchesSpec_holds
end Go.Proofs.Ytpdjiokmafoppaa
