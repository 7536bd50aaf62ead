/- Words for memory and the smallest contracts: the functions that make a fault. No conditions. -/
import Derived.Test.YtpdjiokmafoppaaRows
import Derived.WalkKit
import Derived.WalkSpells
import Derived.WalkLawsBesides
import Derived.Deep.OwnRows
import Derived.Deep.QuietTactic
import Derived.BigQuiet
import Derived.Lib.Hide
import Derived.Deep.LoopGhost
import Derived.Deep.RegionWith
import Derived.Deep.DeepCutAuto
import Derived.Deep.RegionHeld3
import Derived.StillTailTactics
import Derived.Deep.DeepFit
import Derived.Deep.Light
namespace Go.Proofs.Ytpdjiokmafoppaa
open Go.RowKit

/-! How many blocks lie ahead: for simp. -/
@[simp, go_sem] theorem lt_2 (n : Nat) : n < n + 1 + 1 := by omega
@[simp, go_sem] theorem lt_3 (n : Nat) : n < n + 1 + 1 + 1 := by omega
@[simp, go_sem] theorem lt_4 (n : Nat) : n < n + 1 + 1 + 1 + 1 := by omega
@[simp, go_sem] theorem lt_5 (n : Nat) : n < n + 1 + 1 + 1 + 1 + 1 := by omega
@[simp, go_sem] theorem lt_6 (n : Nat) : n < n + 1 + 1 + 1 + 1 + 1 + 1 := by omega
@[simp, go_sem] theorem lt1_3 (n : Nat) : n + 1 < n + 1 + 1 + 1 := by omega
@[simp, go_sem] theorem lt1_4 (n : Nat) : n + 1 < n + 1 + 1 + 1 + 1 := by omega
@[simp, go_sem] theorem lt1_5 (n : Nat) : n + 1 < n + 1 + 1 + 1 + 1 + 1 := by omega
@[simp, go_sem] theorem lt1_6 (n : Nat) : n + 1 < n + 1 + 1 + 1 + 1 + 1 + 1 := by omega
@[simp, go_sem] theorem lt2_3 (n : Nat) : n + 2 < n + 1 + 1 + 1 := by omega
@[simp, go_sem] theorem lt2_4 (n : Nat) : n + 2 < n + 1 + 1 + 1 + 1 := by omega
@[simp, go_sem] theorem lt2_5 (n : Nat) : n + 2 < n + 1 + 1 + 1 + 1 + 1 := by omega
@[simp, go_sem] theorem lt2_6 (n : Nat) : n + 2 < n + 1 + 1 + 1 + 1 + 1 + 1 := by omega
@[simp, go_sem] theorem lt3_4 (n : Nat) : n + 3 < n + 1 + 1 + 1 + 1 := by omega
@[simp, go_sem] theorem lt3_5 (n : Nat) : n + 3 < n + 1 + 1 + 1 + 1 + 1 := by omega
@[simp, go_sem] theorem lt3_6 (n : Nat) : n + 3 < n + 1 + 1 + 1 + 1 + 1 + 1 := by omega
@[simp, go_sem] theorem lt4_5 (n : Nat) : n + 4 < n + 1 + 1 + 1 + 1 + 1 := by omega
@[simp, go_sem] theorem lt4_6 (n : Nat) : n + 4 < n + 1 + 1 + 1 + 1 + 1 + 1 := by omega
@[simp, go_sem] theorem lt5_6 (n : Nat) : n + 5 < n + 1 + 1 + 1 + 1 + 1 + 1 := by omega
@[go_sem] theorem ltS1 {a b : Nat} (h : a < b) : a < b + 1 := by omega
@[go_sem] theorem ltS2 {a b : Nat} (h : a < b) : a < b + 1 + 1 := by omega
@[go_sem] theorem ltS3 {a b : Nat} (h : a < b) : a < b + 1 + 1 + 1 := by omega

/-- The value of a fault. -/
abbrev fv (c i : Int) : Value := .agg #[.int .i64 c, .int .i64 i]

theorem bcell {W w1 : World} (hb : Below W.heap.size W w1) : (∀ b o, b < W.heap.size → w1.cell? ⟨b, o, none⟩ = W.cell? ⟨b, o, none⟩) ∧ (∀ b o, b < W.heap.size → w1.frozen? ⟨b, o, none⟩ = W.frozen? ⟨b, o, none⟩) :=
  ⟨fun b o h => hb.cell (p := ⟨b, o, none⟩) h, fun b o h => hb.frozen (p := ⟨b, o, none⟩) h⟩

theorem below_drewN {B : Nat} {a w : World} (h : Below B a w) (n : Nat) : Below B a (w.drewN n) := ⟨h.os, h.tape, h.output, h.size, h.block⟩

theorem quiet_add_left {P : Program} {f : FuncId} {args : Array Value} {w : World} {a n : Nat} {v : Value}
    (h : Calls P f args (w.drewN (a + n)) fun e w' => e = .returned v ∧ w.drewN (a + n) = w') :
    Calls P f args (w.drewN (a + n)) fun e w'' => e = .returned v ∧ ∃ m, w'' = w.drewN (a + m) :=
  h.mono fun _ _ ⟨he, hm⟩ => ⟨he, n, hm.symm⟩
theorem quiet_left {P : Program} {f : FuncId} {args : Array Value} {w : World} {n : Nat} {v : Value}
    (h : Calls P f args (w.drewN n) fun e w' => e = .returned v ∧ w.drewN n = w') : Calls P f args (w.drewN n) fun e w'' => e = .returned v ∧ ∃ m, w'' = w.drewN m :=
  h.mono fun _ _ ⟨he, hm⟩ => ⟨he, n, hm.symm⟩

/-- All values of p are bytes. -/
def Byt (p : Nat → Int) : Prop := ∀ i, 0 ≤ p i ∧ p i ≤ 255

/-- The slice (A, n) reads as the values f 0 .. f (n - 1). -/
def Rd (w : World) (A : Option Addr) (n : Nat) (f : Nat → Value) : Prop :=
  0 < n → ∃ b off, A = some ⟨b, off, none⟩ ∧ ∀ i, i < n → w.cell? ⟨b, off + i, none⟩ = some (f i)
/-- .. as bytes. -/
abbrev RdB (w : World) (A : Option Addr) (n : Nat) (p : Nat → Int) : Prop := Rd w A n (fun i => .int .u8 (p i))
/-- .. as numbers of the type int. -/
abbrev RdI (w : World) (A : Option Addr) (n : Nat) (p : Nat → Int) : Prop := Rd w A n (fun i => .int .i64 (p i))

section
variable {w w' : World} {A : Option Addr} {n : Nat} {f g : Nat → Value}
theorem Rd.keep (h : Rd w A n f) (hk : ∀ b o, b < w.heap.size → w'.cell? ⟨b, o, none⟩ = w.cell? ⟨b, o, none⟩) : Rd w' A n f := by
  intro hn
  obtain ⟨b, off, e, hc⟩ := h hn
  exact ⟨b, off, e, fun i hi => (hk _ _ (World.block_lt_of_cell? _ _ (hc i hi))).trans (hc i hi)⟩
theorem Rd.below (h : Rd w A n f) (hb : Below w.heap.size w w') : Rd w' A n f := h.keep (bcell hb).1
theorem Rd.alloc (h : Rd w A n f) (o : Obj) : Rd (w.alloc o) A n f := h.below ((Below.refl _ _).alloc (Nat.le_refl _) _)
theorem Rd.drew (h : Rd w A n f) : Rd w.drew A n f := h
theorem Rd.drewN (h : Rd w A n f) (k : Nat) : Rd (w.drewN k) A n f := h
theorem Rd.congr (h : Rd w A n f) (e : ∀ i, i < n → f i = g i) : Rd w A n g := by
  intro hn
  obtain ⟨b, off, ea, hc⟩ := h hn
  exact ⟨b, off, ea, fun i hi => (hc i hi).trans (by rw [e i hi])⟩
theorem Rd.zero : Rd w A 0 f := fun h => absurd h (Nat.not_lt_zero _)
theorem Rd.of_row {b : Nat} {t : TypeId} (h : w.rowIs b t n f) : Rd w (some ⟨b, 0, none⟩) n f :=
  fun _ => ⟨b, 0, rfl, fun i hi => by rw [Nat.zero_add]; exact h.cell hi⟩
end

/-- The first i < n with q i, or -1. -/
def ff (q : Nat → Bool) (n : Nat) : Int := match (List.range n).find? q with | some i => (i : Int) | none => -1
theorem ff_hit {q : Nat → Bool} {n k : Nat} (hk : k < n) (hq : q k = true) (hb : ∀ j, j < k → q j = false) : ff q n = k := by
  unfold ff
  rw [show (List.range n).find? q = some k from List.find?_range_eq_some.2 ⟨hq, List.mem_range.2 hk, fun j hj => by simp [hb j hj]⟩]
theorem ff_none {q : Nat → Bool} {n : Nat} (hb : ∀ j, j < n → q j = false) : ff q n = -1 := by
  unfold ff
  rw [show (List.range n).find? q = none from List.find?_range_eq_none.2 fun j hj => by simp [hb j hj]]
theorem ff_cases (q : Nat → Bool) (n : Nat) : (ff q n = -1 ∧ ∀ j, j < n → q j = false) ∨ ∃ k : Nat, k < n ∧ q k = true ∧ (∀ j, j < k → q j = false) ∧ ff q n = k := by
  rcases h : (List.range n).find? q with _ | k
  · exact .inl ⟨by unfold ff; rw [h], fun j hj => by simpa using List.find?_range_eq_none.1 h j hj⟩
  · obtain ⟨h1, h2, h3⟩ := List.find?_range_eq_some.1 h
    exact .inr ⟨k, List.mem_range.1 h2, h1, fun j hj => by simpa using h3 j hj, by unfold ff; rw [h]⟩
theorem ff_congr {q r : Nat → Bool} {n : Nat} (h : ∀ j, j < n → q j = r j) : ff q n = ff r n := by
  rcases ff_cases q n with ⟨e, hq⟩ | ⟨k, hk, hq, hb, e⟩
  · rw [e, ff_none (fun j hj => by rw [← h j hj]; exact hq j hj)]
  · rw [e, ff_hit hk (by rw [← h k hk]; exact hq) (fun j hj => by rw [← h j (by omega)]; exact hb j hj)]
theorem none_step {q : Nat → Bool} {k : Nat} (h : ∀ j, j < k → q j = false) (hk : q k = false) : ∀ j, j < k + 1 → q j = false := by
  intro j hj
  by_cases e : j = k
  · subst e; exact hk
  · exact h j (by omega)

set_option maxHeartbeats 400000 in
theorem At_any (c i : Int) (w : World) :
    Calls Try.prog 36 #[.int .i64 c, .int .i64 i] w fun e w' => e = .returned (fv c i) ∧ Below w.heap.size w w' := by
  go_enter Try.func36, Try.ntmps36
  go_wp2
  exact bodyPost_ret (v := fv c i) (by simp [results, Try.results36, go_sem]) rfl ⟨rfl, (Below.refl _ _).alloc (Nat.le_refl _) _⟩

set_option maxHeartbeats 400000 in
theorem rfault_any (c i : Int) (w : World) :
    Calls Try.prog 95 #[.int .i64 c, .int .i64 i] w fun e w' => e = .returned (fv c i) ∧ Below w.heap.size w w' := by
  go_enter Try.func95, Try.ntmps95
  go_wp2
  exact bodyPost_ret (v := fv c i) (by simp [results, Try.results95, go_sem]) rfl ⟨rfl, (Below.refl _ _).alloc (Nat.le_refl _) _⟩

set_option maxHeartbeats 400000 in
theorem fitfault_any (c i : Int) (w : World) :
    Calls Try.prog 101 #[.int .i64 c, .int .i64 i] w fun e w' => e = .returned (fv c i) ∧ Below w.heap.size w w' := by
  go_enter Try.func101, Try.ntmps101
  go_wp2
  exact bodyPost_ret (v := fv c i) (by simp [results, Try.results101, go_sem]) rfl ⟨rfl, (Below.refl _ _).alloc (Nat.le_refl _) _⟩

set_option maxHeartbeats 400000 in
theorem dfault_any (c i : Int) (w : World) :
    Calls Try.prog 115 #[.int .i64 c, .int .i64 i] w fun e w' => e = .returned (fv c i) ∧ Below w.heap.size w w' := by
  go_enter Try.func115, Try.ntmps115
  go_wp2
  exact bodyPost_ret (v := fv c i) (by simp [results, Try.results115, go_sem]) rfl ⟨rfl, (Below.refl _ _).alloc (Nat.le_refl _) _⟩

set_option maxHeartbeats 400000 in
theorem pfault_any (c i : Int) (w : World) :
    Calls Try.prog 152 #[.int .i64 c, .int .i64 i] w fun e w' => e = .returned (fv c i) ∧ Below w.heap.size w w' := by
  go_enter Try.func152, Try.ntmps152
  go_wp2
  exact bodyPost_ret (v := fv c i) (by simp [results, Try.results152, go_sem]) rfl ⟨rfl, (Below.refl _ _).alloc (Nat.le_refl _) _⟩

set_option maxHeartbeats 400000 in
theorem tfault_any (c i : Int) (w : World) :
    Calls Try.prog 157 #[.int .i64 c, .int .i64 i] w fun e w' => e = .returned (fv c i) ∧ Below w.heap.size w w' := by
  go_enter Try.func157, Try.ntmps157
  go_wp2
  exact bodyPost_ret (v := fv c i) (by simp [results, Try.results157, go_sem]) rfl ⟨rfl, (Below.refl _ _).alloc (Nat.le_refl _) _⟩

set_option maxHeartbeats 400000 in
theorem lfault_any (c i : Int) (w : World) :
    Calls Try.prog 178 #[.int .i64 c, .int .i64 i] w fun e w' => e = .returned (fv c i) ∧ Below w.heap.size w w' := by
  go_enter Try.func178, Try.ntmps178
  go_wp2
  exact bodyPost_ret (v := fv c i) (by simp [results, Try.results178, go_sem]) rfl ⟨rfl, (Below.refl _ _).alloc (Nat.le_refl _) _⟩
end Go.Proofs.Ytpdjiokmafoppaa
