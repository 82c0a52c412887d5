/- Written by a program of this session (wip/tool/px.py) over the kit's print: what the code that the law PastSources reaches computes, function by function, and the law's row. -/
import Derived.Test.YtmenkbdaabjojaaPPastSourcesx0
namespace Go.Proofs.Ytmenkbdaabjojaa.PPastSources
open Go.RowKit Go.Proofs.YtmenkbdaabjojaaX Go.Proofs.YtmenkbdaabjojaaW.PrintWords Go.Proofs.YtmenkbdaabjojaaW.PrintLast Go.Proofs.YtmenkbdaabjojaaW.PrintMore
open Go.Proofs.YtmenkbdaabjojaaW.PrintWords.Aside0 renaming mk → zM
attribute [local go_sem] max2_int min2_int max_two min_two max_three min_three max_four min_four   -- for this text's walks alone
set_option linter.unusedVariables false
set_option linter.unusedSimpArgs false

attribute [local go_sem] px_store_float px_neg_float px_call40
/-! ### ropewayref01_Parts: function 52 -/
def ropewayref01_Parts.f (a0 : Int) : Option (Int × Int × Int) := some (a0 / 9223372036854775808, Go.bits .and .u64 (a0 / 4503599627370496) 2047, Go.bits .and .u64 a0 4503599627370495)
set_option maxHeartbeats 8000000 in
set_option maxRecDepth 100000 in
theorem ropewayref01_Parts.calls (a0 : Int) (r1 : Int) (r2 : Int) (r3 : Int) (w : World) (h : ropewayref01_Parts.f a0 = some (r1, r2, r3)) :
    Calls Try.prog 52 #[.int .u64 a0] w fun e w' => e = .returned (.tuple #[.int .u64 r1, .int .u64 r2, .int .u64 r3]) ∧ Drawn0 w w' := by
  have H : (some (a0 / 9223372036854775808, Go.bits .and .u64 (a0 / 4503599627370496) 2047, Go.bits .and .u64 a0 4503599627370495)) = some (r1, r2, r3) := h
  clear h
  simp only [Option.some.injEq, Prod.mk.injEq] at H
  obtain ⟨rfl, rfl, rfl⟩ := H
  go_enter Try.func52, Try.ntmps52
  go_wp2
  go_ret3
  exact ⟨by first | rfl | (simp; done) | (simp [*]; done) | (simp; grind), by repeat (first | exact Drawn0.refl _ | apply Drawn0.step)⟩
/-! ### ropewayref01_Clean: function 39 -/
def ropewayref01_Clean.f (a0 : Int) : Option (Int) := (ropewayref01_Parts.f a0).bind fun bt327 => (if bt327.2.1 = 2047 then (if bt327.2.2 = 0 then (some a0) else (some 9221120237041090561)) else (some a0))
set_option maxHeartbeats 8000000 in
set_option maxRecDepth 100000 in
theorem ropewayref01_Clean.calls (a0 : Int) (r : Int) (w : World) (h : ropewayref01_Clean.f a0 = some r) :
    Calls Try.prog 39 #[.int .u64 a0] w fun e w' => e = .returned (.int .u64 r) ∧ Drawn0 w w' := by
  have H : ((ropewayref01_Parts.f a0).bind fun bt327 => (if bt327.2.1 = 2047 then (if bt327.2.2 = 0 then (some a0) else (some 9221120237041090561)) else (some a0))) = some r := h
  clear h
  replace H := Option.bind_eq_some_iff.mp H
  obtain ⟨⟨t327, t328, t329⟩, A20, H⟩ := H
  replace H : (if t328 = 2047 then (if t329 = 0 then (some a0) else (some 9221120237041090561)) else (some a0)) = some r := H
  have A2 := zM A20
  clear A20
  by_cases c3 : t328 = 2047
  rotate_left
  · rw [if_neg c3] at H
    have c3b0 : (t328 == 2047) = false := beq_eq_false_iff_ne.mpr c3
    have c3b1 : (t328 != 2047) = true := bne_iff_ne.mpr c3
    obtain rfl := Option.some.inj H
    go_enter Try.func39, Try.ntmps39
    go_wp2_with (first | ((with_reducible refine gate_callee (f := 52) rfl ?_); refine goL_ (some 8) Try.func52 #[.int .u64 a0] ?_; (with_reducible refine (ropewayref01_Parts.calls a0 t327 t328 t329 _ A2.out).mono ?_); rintro e w' ⟨rfl, ⟨nd, rfl⟩⟩; refine ⟨_, rfl, ?_⟩))
    go_ret
    exact ⟨by first | rfl | (simp; done) | (simp [*]; done) | (simp; grind), by repeat (first | exact Drawn0.refl _ | apply Drawn0.step)⟩
  rw [if_pos c3] at H
  have c3b0 : (t328 == 2047) = true := beq_iff_eq.mpr c3
  have c3b1 : (t328 != 2047) = false := bne_eq_false_iff_eq.mpr c3
  clear c3
  by_cases c4 : t329 = 0
  rotate_left
  · rw [if_neg c4] at H
    have c4b0 : (t329 == 0) = false := beq_eq_false_iff_ne.mpr c4
    have c4b1 : (t329 != 0) = true := bne_iff_ne.mpr c4
    obtain rfl := Option.some.inj H
    go_enter Try.func39, Try.ntmps39
    go_wp2_with (first | ((with_reducible refine gate_callee (f := 52) rfl ?_); refine goL_ (some 8) Try.func52 #[.int .u64 a0] ?_; (with_reducible refine (ropewayref01_Parts.calls a0 t327 t328 t329 _ A2.out).mono ?_); rintro e w' ⟨rfl, ⟨nd, rfl⟩⟩; refine ⟨_, rfl, ?_⟩))
    go_ret
    exact ⟨by first | rfl | (simp; done) | (simp [*]; done) | (simp; grind), by repeat (first | exact Drawn0.refl _ | apply Drawn0.step)⟩
  rw [if_pos c4] at H
  have c4b0 : (t329 == 0) = true := beq_iff_eq.mpr c4
  have c4b1 : (t329 != 0) = false := bne_eq_false_iff_eq.mpr c4
  clear c4
  obtain rfl := Option.some.inj H
  go_enter Try.func39, Try.ntmps39
  go_wp2_with (first | ((with_reducible refine gate_callee (f := 52) rfl ?_); refine goL_ (some 8) Try.func52 #[.int .u64 a0] ?_; (with_reducible refine (ropewayref01_Parts.calls a0 t327 t328 t329 _ A2.out).mono ?_); rintro e w' ⟨rfl, ⟨nd, rfl⟩⟩; refine ⟨_, rfl, ?_⟩))
  go_ret
  exact ⟨by first | rfl | (simp; done) | (simp [*]; done) | (simp; grind), by repeat (first | exact Drawn0.refl _ | apply Drawn0.step)⟩
/-! ### ropewayref01_Bits: function 21 -/
def ropewayref01_Bits.f (a0 : Nat) : Option (Int) := (ropewayref01_Clean.f ((a0 : Nat) : Int)).bind fun t330 => (some t330)
set_option maxHeartbeats 8000000 in
set_option maxRecDepth 100000 in
theorem ropewayref01_Bits.calls (a0 : Nat) (r : Int) (w : World) (h : ropewayref01_Bits.f a0 = some r) :
    Calls Try.prog 21 #[.float .f64 a0] w fun e w' => e = .returned (.int .u64 r) ∧ Drawn0 w w' := by
  have H : ((ropewayref01_Clean.f ((a0 : Nat) : Int)).bind fun t330 => (some t330)) = some r := h
  clear h
  replace H := Option.bind_eq_some_iff.mp H
  obtain ⟨t330, A20, H⟩ := H
  replace H : (some t330) = some r := H
  have A2 := zM A20
  clear A20
  obtain rfl := Option.some.inj H
  go_enter Try.func21, Try.ntmps21
  go_wp2_with (first | ((with_reducible refine gate_callee (f := 39) rfl ?_); refine goL_ (some 5) Try.func39 #[.int .u64 ((a0 : Nat) : Int)] ?_; (with_reducible refine (ropewayref01_Clean.calls ((a0 : Nat) : Int) t330 _ A2.out).mono ?_); rintro e w' ⟨rfl, ⟨nd, rfl⟩⟩; refine ⟨_, rfl, ?_⟩))
  go_ret
  exact ⟨by first | rfl | (simp; done) | (simp [*]; done) | (simp; grind), by repeat (first | exact Drawn0.refl _ | apply Drawn0.step)⟩
end Go.Proofs.Ytmenkbdaabjojaa.PPastSources
