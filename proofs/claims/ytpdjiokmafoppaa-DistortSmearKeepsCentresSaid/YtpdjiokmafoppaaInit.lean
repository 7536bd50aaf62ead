/- Closed facts of the translated program that the kernel would not hold in one piece: its head, read word by word; the facts of a row joined one by one. No conditions. -/
import Derived.Test.YtpdjiokmafoppaaRows
import Derived.JoinedOf
import Derived.KernelRfl
namespace Go.Proofs.Ytpdjiokmafoppaa
open Go
def chars (l : List Nat) : List Char := l.map Char.ofNat
def iniA : List Nat := [104, 97, 114, 110, 101, 115, 115]
def iniB : List Nat := [55, 99, 52, 53, 51, 99, 50, 97, 52, 53, 97, 53, 98, 102, 57, 100, 101, 54, 97, 52, 100, 53, 100, 97, 99, 49, 50, 53, 51, 54, 51, 102, 54, 54, 57, 101, 55, 97, 101, 101, 97, 56, 100, 100, 56, 55, 49, 98, 49, 56, 101, 102, 102, 53, 52, 55, 48, 54, 49, 99, 101, 101, 97, 56]
def iniC : List Nat := [99, 117, 116]
def iniR : List Nat := [97, 116, 32, 115, 99, 114, 105, 112, 116, 111, 114, 105, 117, 109, 47, 115, 99, 114, 105, 112, 116, 111, 114, 105, 117, 109, 108, 97, 119, 54, 46, 82, 101, 110, 100, 101, 114, 77, 97, 116, 99, 104, 101, 115, 83, 112, 101, 99, 32, 115, 99, 114, 105, 112, 116, 111, 114, 105, 117, 109, 47, 115, 99, 114, 105, 112, 116, 111, 114, 105, 117, 109, 108, 97, 119, 54, 46, 82, 101, 110, 100, 101, 114, 77, 97, 114, 103, 105, 110, 115, 79, 110, 108, 121, 77, 111, 118, 101, 32, 115, 99, 114, 105, 112, 116, 111, 114, 105, 117, 109, 47, 115, 99, 114, 105, 112, 116, 111, 114, 105, 117, 109, 108, 97, 119, 54, 46, 70, 105, 116, 82, 97, 110, 103, 101, 77, 97, 116, 99, 104, 101, 115, 83, 112, 101, 99, 32, 115, 99, 114, 105, 112, 116, 111, 114, 105, 117, 109, 47, 115, 99, 114, 105, 112, 116, 111, 114, 105, 117, 109, 108, 97, 119, 54, 46, 70, 105, 116, 70, 105, 108, 108, 77, 97, 116, 99, 104, 101, 115, 83, 112, 101, 99, 32, 115, 99, 114, 105, 112, 116, 111, 114, 105, 117, 109, 47, 115, 99, 114, 105, 112, 116, 111, 114, 105, 117, 109, 108, 97, 119, 54, 46, 70, 105, 116, 77, 111, 114, 101, 80, 111, 105, 110, 116, 115, 78, 97, 114, 114, 111, 119, 32, 115, 99, 114, 105, 112, 116, 111, 114, 105, 117, 109, 47, 115, 99, 114, 105, 112, 116, 111, 114, 105, 117, 109, 108, 97, 119, 54, 46, 70, 105, 116, 70, 105, 108, 108, 73, 115, 69, 120, 97, 99, 116, 32, 115, 99, 114, 105, 112, 116, 111, 114, 105, 117, 109, 47, 115, 99, 114, 105, 112, 116, 111, 114, 105, 117, 109, 108, 97, 119, 54, 46, 70, 105, 116, 84, 104, 114, 111, 117, 103, 104, 77, 97, 116, 99, 104, 101, 115, 83, 112, 101, 99, 32, 115, 99, 114, 105, 112, 116, 111, 114, 105, 117, 109, 47, 115, 99, 114, 105, 112, 116, 111, 114, 105, 117, 109, 108, 97, 119, 54, 46, 70, 105, 116, 70, 105, 110, 100, 115, 76, 105, 110, 101, 115, 32, 115, 99, 114, 105, 112, 116, 111, 114, 105, 117, 109, 47, 115, 99, 114, 105, 112, 116, 111, 114, 105, 117, 109, 108, 97, 119, 54, 46, 68, 105, 115, 116, 111, 114, 116, 83, 109, 101, 97, 114, 77, 97, 116, 99, 104, 101, 115, 83, 112, 101, 99, 32, 115, 99, 114, 105, 112, 116, 111, 114, 105, 117, 109, 47, 115, 99, 114, 105, 112, 116, 111, 114, 105, 117, 109, 108, 97, 119, 54, 46, 68, 105, 115, 116, 111, 114, 116, 83, 109, 101, 97, 114, 84, 117, 114, 110, 115, 32, 115, 99, 114, 105, 112, 116, 111, 114, 105, 117, 109, 47, 115, 99, 114, 105, 112, 116, 111, 114, 105, 117, 109, 108, 97, 119, 54, 46, 68, 105, 115, 116, 111, 114, 116, 84, 117, 114, 110, 77, 97, 116, 99, 104, 101, 115, 83, 112, 101, 99, 32, 115, 99, 114, 105, 112, 116, 111, 114, 105, 117, 109, 47, 115, 99, 114, 105, 112, 116, 111, 114, 105, 117, 109, 108, 97, 119, 54, 46, 68, 105, 115, 116, 111, 114, 116, 84, 117, 114, 110, 115, 67, 111, 109, 112, 111, 115, 101, 32, 115, 99, 114, 105, 112, 116, 111, 114, 105, 117, 109, 47, 115, 99, 114, 105, 112, 116, 111, 114, 105, 117, 109, 108, 97, 119, 54, 46, 68, 105, 115, 116, 111, 114, 116, 83, 104, 105, 102, 116, 115, 77, 97, 116, 99, 104, 83, 112, 101, 99, 32, 115, 99, 114, 105, 112, 116, 111, 114, 105, 117, 109, 47, 115, 99, 114, 105, 112, 116, 111, 114, 105, 117, 109, 108, 97, 119, 54, 46, 68, 105, 115, 116, 111, 114, 116, 83, 104, 105, 102, 116, 115, 65, 114, 101, 84, 114, 97, 110, 115, 112, 111, 115, 101, 100, 32, 115, 99, 114, 105, 112, 116, 111, 114, 105, 117, 109, 47, 115, 99, 114, 105, 112, 116, 111, 114, 105, 117, 109, 108, 97, 119, 54, 46, 68, 105, 115, 116, 111, 114, 116, 84, 101, 97, 114, 115, 65, 114, 101, 76, 111, 99, 97, 108, 32, 115, 99, 114, 105, 112, 116, 111, 114, 105, 117, 109, 47, 115, 99, 114, 105, 112, 116, 111, 114, 105, 117, 109, 108, 97, 119, 54, 46, 68, 105, 115, 116, 111, 114, 116, 68, 97, 109, 97, 103, 101, 77, 97, 116, 99, 104, 101, 115, 83, 112, 101, 99, 32, 115, 99, 114, 105, 112, 116, 111, 114, 105, 117, 109, 47, 115, 99, 114, 105, 112, 116, 111, 114, 105, 117, 109, 108, 97, 119, 54, 46, 68, 105, 115, 116, 111, 114, 116, 83, 109, 101, 97, 114, 75, 101, 101, 112, 115, 67, 101, 110, 116, 114, 101, 115, 32, 115, 99, 114, 105, 112, 116, 111, 114, 105, 117, 109, 47, 115, 99, 114, 105, 112, 116, 111, 114, 105, 117, 109, 108, 97, 119, 54, 46, 68, 105, 115, 116, 111, 114, 116, 65, 112, 112, 108, 121, 77, 97, 116, 99, 104, 101, 115, 83, 112, 101, 99, 32, 115, 99, 114, 105, 112, 116, 111, 114, 105, 117, 109, 47, 115, 99, 114, 105, 112, 116, 111, 114, 105, 117, 109, 108, 97, 119, 54, 46, 83, 97, 109, 112, 108, 101, 83, 116, 114, 97, 105, 103, 104, 116, 77, 97, 116, 99, 104, 101, 115, 83, 112, 101, 99, 32, 115, 99, 114, 105, 112, 116, 111, 114, 105, 117, 109, 47, 115, 99, 114, 105, 112, 116, 111, 114, 105, 117, 109, 108, 97, 119, 54, 46, 83, 97, 109, 112, 108, 101, 67, 101, 108, 108, 115, 77, 97, 116, 99, 104, 83, 112, 101, 99, 32, 115, 99, 114, 105, 112, 116, 111, 114, 105, 117, 109, 47, 115, 99, 114, 105, 112, 116, 111, 114, 105, 117, 109, 108, 97, 119, 54, 46, 68, 105, 115, 116, 111, 114, 116, 83, 99, 97, 110, 77, 97, 116, 99, 104, 101, 115, 83, 112, 101, 99, 32, 115, 99, 114, 105, 112, 116, 111, 114, 105, 117, 109, 47, 115, 99, 114, 105, 112, 116, 111, 114, 105, 117, 109, 108, 97, 119, 54, 46, 68, 105, 115, 116, 111, 114, 116, 83, 99, 97, 110, 75, 101, 101, 112, 115, 67, 101, 110, 116, 114, 101, 115]
theorem ini_eq : Try.prog.initOrder = String.ofList (chars (iniA ++ 32 :: (iniB ++ 32 :: (iniC ++ 32 :: iniR)))) := by kernel_rfl
theorem ini_list : Try.prog.initOrder.toList = chars (iniA ++ 32 :: (iniB ++ 32 :: (iniC ++ 32 :: iniR))) := by rw [ini_eq, String.toList_ofList]
theorem words_app : ∀ (pre r : List Nat), (∀ c ∈ pre, Char.ofNat c ≠ Char.ofNat 32) → wordsSigns (chars (pre ++ 32 :: r)) = chars pre :: wordsSigns (chars r)
  | [], r, _ => by
    show wordsSigns (Char.ofNat 32 :: chars r) = _
    rw [wordsSigns]
    rfl
  | a :: pre, r, h => by
    have ih := words_app pre r (fun c hc => h c (List.mem_cons_of_mem _ hc))
    show wordsSigns (Char.ofNat a :: chars (pre ++ 32 :: r)) = _
    rw [wordsSigns, ih]
    · rfl
    · exact h a List.mem_cons_self
theorem ini_words : wordsSigns Try.prog.initOrder.toList = chars iniA :: chars iniB :: chars iniC :: wordsSigns (chars iniR) := by
  rw [ini_list, words_app _ _ (by decide), words_app _ _ (by decide), words_app _ _ (by decide)]
theorem ini_behind : behindMainWord (wordsSigns Try.prog.initOrder.toList) = chars iniC :: wordsSigns (chars iniR) := by
  rw [ini_words]
  simp only [behindMainWord]
  rw [if_pos (by decide +kernel)]
theorem isCut : chars iniC = "cut".toList := by decide +kernel
theorem ini_cut : ∃ tl, behindMainWord (wordsSigns Try.prog.initOrder.toList) = "cut".toList :: tl := ⟨_, by rw [ini_behind, isCut]⟩
theorem strip_none (tl : List (List Char)) : stripLifts liftWords ("cut".toList :: tl) = ([], "cut".toList :: tl) := by kernel_rfl
section
variable {P : Program}
theorem headLifts_of (h : ∃ tl, behindMainWord (wordsSigns P.initOrder.toList) = "cut".toList :: tl) : P.headLifts = [] := by
  obtain ⟨tl, h⟩ := h
  unfold Program.headLifts
  rw [h, strip_none]
  exact ite_self _
theorem enter_of (h : ∃ tl, behindMainWord (wordsSigns P.initOrder.toList) = "cut".toList :: tl) (h1 : P.laysLater = false) (h2 : P.bearsReflect = false) (h3 : P.doorFits [] = true) : P.mayEnter = true := by
  obtain ⟨tl, h⟩ := h
  unfold Program.mayEnter
  rw [h]
  simp only [strip_none, h1, h2, h3]
  simp
theorem final_of (h : ∃ tl, behindMainWord (wordsSigns P.initOrder.toList) = "cut".toList :: tl) : P.liftsFinal = false := by
  have hl := headLifts_of h
  obtain ⟨tl, h⟩ := h
  unfold Program.liftsFinal
  rw [h, hl]
  simp
theorem make_of (h : ∃ tl, behindMainWord (wordsSigns P.initOrder.toList) = "cut".toList :: tl) : P.make = some .cut := by
  obtain ⟨tl, h⟩ := h
  unfold Program.make
  rw [h]
  simp
end
theorem f_lays : Try.prog.laysLater = false := by kernel_rfl
theorem f_refl : Try.prog.bearsReflect = false := by kernel_rfl
theorem f_door : Try.prog.doorFits [] = true := by kernel_rfl
theorem f_enter : Try.prog.mayEnter = true := enter_of ini_cut f_lays f_refl f_door
theorem f_final : Try.prog.liftsFinal = false := final_of ini_cut
theorem f_make : Try.prog.make = some .cut := make_of ini_cut

/-- The closed facts of a row, one by one. -/
theorem joined_of {P : Program} {f : FuncId} {fn : Func} {s : ChangeSpec} {c : OpenClaim} (h0 : (c.wf (OpenSpec.ofChange s)) = true) (h1 : (laidOutB P) = true) (h2 : (mapsRowed P) = true) (h3 : (fn.params.all (P.readableRec ·)) = true) (h4 : (namedTie P c.named s.vars) = true) (h5 : ((c.stops == [])) = true) (h6 : ((P.stops == [])) = true) (h7 : ((c.knobs == [])) = true) (h8 : ((P.stopKnobs == [])) = true) (h9 : ((c.inPlace == P.inPlace f)) = true) (h10 : ((c.unfollowed == P.unfollowed f)) = true) (h11 : ((c.recurses == P.recurses f)) = true) (h12 : ((c.named == P.varsNamed f)) = true) (h13 : ((c.maps == (fn.params.toList ++ s.plain.varTypes P).any (P.mapsRec ·))) = true) (h14 : ((c.ifaces == (fn.params.toList ++ s.plain.varTypes P).any (P.ifacesRec ·))) = true) (h15 : ((c.mapsOut == P.mapsAmong fn.resultTypes.toList)) = true) (h16 : ((c.loops == (fn.params.toList ++ s.plain.varTypes P).any (P.loopsFrom ·))) = true) (h17 : ((c.wideKeys == (fn.params.toList ++ s.plain.varTypes P ++ fn.resultTypes.toList).any (P.wideKeysFrom ·))) = true) (h18 : (s.vars.all (P.varReadable ·)) = true) (h19 : (fn.resultTypes.all (fun t => P.readableRec t && decide (t < P.types.size))) = true) (h20 : ((c.ifacesOut == fn.resultTypes.toList.any (P.ifacesRec ·))) = true) (h21 : ((c.loopsOut == fn.resultTypes.toList.any (P.loopsFrom ·))) = true) (h22 : ((c.plainKeys == P.plainKeys)) = true) (h23 : (c.shortTexts.isNone) = true) (h24 : (P.stopsHeard) = true) (h25 : (P.mayEnter) = true) (h26 : ((c.lifted == P.liftsFinal)) = true) (h27 : ((P.make == some c.make)) = true) (h28 : ((c.kinds == (if c.domain.isEmpty then [] else fn.params.toList.map fun t => match P.underlying t with | some (.int k) => some k | _ => none))) = true) (h29 : ((c.pinned == c.pinnedBy)) = true) (h30 : ((c.veiled == (fn.params.toList ++ s.plain.varTypes P ++ fn.resultTypes.toList).any (P.veiledRec ·))) = true) (h31 : (c.veiledFits P fn.params.toList (fn.params.toList ++ s.plain.varTypes P ++ fn.resultTypes.toList)) = true) : joinedFacts P f fn s c = true := by
  unfold joinedFacts
  simp only [h0, h1, h2, h3, h4, h5, h6, h7, h8, h9, h10, h11, h12, h13, h14, h15, h16, h17, h18, h19, h20, h21, h22, h23, h24, h25, h26, h27, h29, h30, h31, Bool.and_self, Bool.true_and, Bool.and_true]
  exact h28

theorem f_laid : laidOutB Try.prog = true := by kernel_rfl
theorem f_maps : mapsRowed Try.prog = true := by kernel_rfl
theorem f_stops : (Try.prog.stops == []) = true := by kernel_rfl
theorem f_knobs : (Try.prog.stopKnobs == []) = true := by kernel_rfl
theorem f_plain : Try.prog.plainKeys = true := by kernel_rfl
theorem f_heard : Try.prog.stopsHeard = true := by kernel_rfl
end Go.Proofs.Ytpdjiokmafoppaa
