/- Written by a program of this session (wip/tool/px.py) over the kit's print: what the code that the law NumBits reaches computes, function by function, and the law's row. -/
import Derived.Test.YtnbjlcjlcjefjaaPNumBitsx0
import Derived.Test.YtnbjlcjlcjefjaaPNumBitsx1
namespace Go.Proofs.Ytnbjlcjlcjefjaa.PNumBits
open Go.RowKit Go.Proofs.YtnbjlcjlcjefjaaX Go.Proofs.YtnbjlcjlcjefjaaW.PrintWords Go.Proofs.YtnbjlcjlcjefjaaW.PrintLast Go.Proofs.YtnbjlcjlcjefjaaW.PrintMore
attribute [local go_sem] max2_int min2_int max_two min_two max_three min_three max_four min_four   -- for this text's walks alone
set_option linter.unusedVariables false
set_option linter.unusedSimpArgs false

attribute [local go_sem] px_store_float px_neg_float px_call27 px_call31
/-! ### ropewaylaw01_NumBits: function 5 -/
def ropewaylaw01_NumBits.f (k : Nat) (a0 : Nat) (a1 : Int) : Option (Bool) := (num_Of.f a1).bind fun t125 => ((ropewaylaw01_numAlive.f k).bind fun t126 => (if t126 = true then ((num_Bits.f a0).bind fun t127 => ((ropewayref01_Bits.f a0).bind fun t128 => (if t127 = t128 then ((num_Bits.f t125).bind fun t129 => ((ropewayref01_Clean.f a1).bind fun t130 => (if t129 = t130 then ((num_Kind.f a0).bind fun t131 => ((ropewayref01_Kind.f t128).bind fun t132 => (if t131 = t132 then ((num_Kind.f t125).bind fun t133 => ((ropewayref01_Kind.f a1).bind fun t134 => (some (t133 == t134)))) else (some false)))) else (some false)))) else (some false)))) else (some false)))
theorem ropewaylaw01_NumBits.mono : ∀ a0 a1 k, LeO (ropewaylaw01_NumBits.f k a0 a1) (ropewaylaw01_NumBits.f (k + 1) a0 a1) := by
  intro a0 a1 k
  unfold ropewaylaw01_NumBits.f
  repeat' first
      | (with_reducible exact ropewaylaw01_numAlive.mono _)
      | (with_reducible exact LeO.refl _)
      | (with_reducible exact LeO.none _)
      | (with_reducible refine LeO.ite ?_ ?_)
      | (with_reducible refine LeO.bind ?_ (fun _ => ?_))
      | exact ropewaylaw01_numAlive.mono _
      | exact LeO.none _
      | refine LeO.ite ?_ ?_
      | refine LeO.bind ?_ (fun _ => ?_)
set_option maxHeartbeats 8000000 in
set_option maxRecDepth 100000 in
theorem ropewaylaw01_NumBits.calls (k : Nat) (a0 : Nat) (a1 : Int) (r : Bool) (w : World) (h : ropewaylaw01_NumBits.f k a0 a1 = some r) :
    Calls Try.prog 5 #[.float .f64 a0, .int .u64 a1] w fun e w' => e = .returned (.bool r) ∧ Drawn0 w w' := by
  have H : ((num_Of.f a1).bind fun t125 => ((ropewaylaw01_numAlive.f k).bind fun t126 => (if t126 = true then ((num_Bits.f a0).bind fun t127 => ((ropewayref01_Bits.f a0).bind fun t128 => (if t127 = t128 then ((num_Bits.f t125).bind fun t129 => ((ropewayref01_Clean.f a1).bind fun t130 => (if t129 = t130 then ((num_Kind.f a0).bind fun t131 => ((ropewayref01_Kind.f t128).bind fun t132 => (if t131 = t132 then ((num_Kind.f t125).bind fun t133 => ((ropewayref01_Kind.f a1).bind fun t134 => (some (t133 == t134)))) else (some false)))) else (some false)))) else (some false)))) else (some false)))) = some r := h
  clear h
  replace H := Option.bind_eq_some_iff.mp H
  obtain ⟨t125, A30, H⟩ := H
  replace H : ((ropewaylaw01_numAlive.f k).bind fun t126 => (if t126 = true then ((num_Bits.f a0).bind fun t127 => ((ropewayref01_Bits.f a0).bind fun t128 => (if t127 = t128 then ((num_Bits.f t125).bind fun t129 => ((ropewayref01_Clean.f a1).bind fun t130 => (if t129 = t130 then ((num_Kind.f a0).bind fun t131 => ((ropewayref01_Kind.f t128).bind fun t132 => (if t131 = t132 then ((num_Kind.f t125).bind fun t133 => ((ropewayref01_Kind.f a1).bind fun t134 => (some (t133 == t134)))) else (some false)))) else (some false)))) else (some false)))) else (some false))) = some r := H
  have A3 := Aside0.mk A30
  clear A30
  replace H := Option.bind_eq_some_iff.mp H
  obtain ⟨t126, A40, H⟩ := H
  replace H : (if t126 = true then ((num_Bits.f a0).bind fun t127 => ((ropewayref01_Bits.f a0).bind fun t128 => (if t127 = t128 then ((num_Bits.f t125).bind fun t129 => ((ropewayref01_Clean.f a1).bind fun t130 => (if t129 = t130 then ((num_Kind.f a0).bind fun t131 => ((ropewayref01_Kind.f t128).bind fun t132 => (if t131 = t132 then ((num_Kind.f t125).bind fun t133 => ((ropewayref01_Kind.f a1).bind fun t134 => (some (t133 == t134)))) else (some false)))) else (some false)))) else (some false)))) else (some false)) = some r := H
  have A4 := Aside0.mk A40
  clear A40
  by_cases c5 : t126 = true
  · subst c5
    have H1 : ((num_Bits.f a0).bind fun t127 => ((ropewayref01_Bits.f a0).bind fun t128 => (if t127 = t128 then ((num_Bits.f t125).bind fun t129 => ((ropewayref01_Clean.f a1).bind fun t130 => (if t129 = t130 then ((num_Kind.f a0).bind fun t131 => ((ropewayref01_Kind.f t128).bind fun t132 => (if t131 = t132 then ((num_Kind.f t125).bind fun t133 => ((ropewayref01_Kind.f a1).bind fun t134 => (some (t133 == t134)))) else (some false)))) else (some false)))) else (some false)))) = some r := by rw [if_pos rfl] at H; exact H
    clear H
    have H := H1
    clear H1
    replace H := Option.bind_eq_some_iff.mp H
    obtain ⟨t127, A60, H⟩ := H
    replace H : ((ropewayref01_Bits.f a0).bind fun t128 => (if t127 = t128 then ((num_Bits.f t125).bind fun t129 => ((ropewayref01_Clean.f a1).bind fun t130 => (if t129 = t130 then ((num_Kind.f a0).bind fun t131 => ((ropewayref01_Kind.f t128).bind fun t132 => (if t131 = t132 then ((num_Kind.f t125).bind fun t133 => ((ropewayref01_Kind.f a1).bind fun t134 => (some (t133 == t134)))) else (some false)))) else (some false)))) else (some false))) = some r := H
    have A6 := Aside0.mk A60
    clear A60
    replace H := Option.bind_eq_some_iff.mp H
    obtain ⟨t128, A70, H⟩ := H
    replace H : (if t127 = t128 then ((num_Bits.f t125).bind fun t129 => ((ropewayref01_Clean.f a1).bind fun t130 => (if t129 = t130 then ((num_Kind.f a0).bind fun t131 => ((ropewayref01_Kind.f t128).bind fun t132 => (if t131 = t132 then ((num_Kind.f t125).bind fun t133 => ((ropewayref01_Kind.f a1).bind fun t134 => (some (t133 == t134)))) else (some false)))) else (some false)))) else (some false)) = some r := H
    have A7 := Aside0.mk A70
    clear A70
    by_cases c8 : t127 = t128
    · rw [if_pos c8] at H
      have c8b0 : (t127 == t128) = true := beq_iff_eq.mpr c8
      have c8b1 : (t127 != t128) = false := bne_eq_false_iff_eq.mpr c8
      clear c8
      replace H := Option.bind_eq_some_iff.mp H
      obtain ⟨t129, A90, H⟩ := H
      replace H : ((ropewayref01_Clean.f a1).bind fun t130 => (if t129 = t130 then ((num_Kind.f a0).bind fun t131 => ((ropewayref01_Kind.f t128).bind fun t132 => (if t131 = t132 then ((num_Kind.f t125).bind fun t133 => ((ropewayref01_Kind.f a1).bind fun t134 => (some (t133 == t134)))) else (some false)))) else (some false))) = some r := H
      have A9 := Aside0.mk A90
      clear A90
      replace H := Option.bind_eq_some_iff.mp H
      obtain ⟨t130, A100, H⟩ := H
      replace H : (if t129 = t130 then ((num_Kind.f a0).bind fun t131 => ((ropewayref01_Kind.f t128).bind fun t132 => (if t131 = t132 then ((num_Kind.f t125).bind fun t133 => ((ropewayref01_Kind.f a1).bind fun t134 => (some (t133 == t134)))) else (some false)))) else (some false)) = some r := H
      have A10 := Aside0.mk A100
      clear A100
      by_cases c11 : t129 = t130
      · rw [if_pos c11] at H
        have c11b0 : (t129 == t130) = true := beq_iff_eq.mpr c11
        have c11b1 : (t129 != t130) = false := bne_eq_false_iff_eq.mpr c11
        clear c11
        replace H := Option.bind_eq_some_iff.mp H
        obtain ⟨t131, A120, H⟩ := H
        replace H : ((ropewayref01_Kind.f t128).bind fun t132 => (if t131 = t132 then ((num_Kind.f t125).bind fun t133 => ((ropewayref01_Kind.f a1).bind fun t134 => (some (t133 == t134)))) else (some false))) = some r := H
        have A12 := Aside0.mk A120
        clear A120
        replace H := Option.bind_eq_some_iff.mp H
        obtain ⟨t132, A130, H⟩ := H
        replace H : (if t131 = t132 then ((num_Kind.f t125).bind fun t133 => ((ropewayref01_Kind.f a1).bind fun t134 => (some (t133 == t134)))) else (some false)) = some r := H
        have A13 := Aside0.mk A130
        clear A130
        by_cases c14 : t131 = t132
        · rw [if_pos c14] at H
          have c14b0 : (t131 == t132) = true := beq_iff_eq.mpr c14
          have c14b1 : (t131 != t132) = false := bne_eq_false_iff_eq.mpr c14
          clear c14
          replace H := Option.bind_eq_some_iff.mp H
          obtain ⟨t133, A150, H⟩ := H
          replace H : ((ropewayref01_Kind.f a1).bind fun t134 => (some (t133 == t134))) = some r := H
          have A15 := Aside0.mk A150
          clear A150
          replace H := Option.bind_eq_some_iff.mp H
          obtain ⟨t134, A160, H⟩ := H
          replace H : (some (t133 == t134)) = some r := H
          have A16 := Aside0.mk A160
          clear A160
          obtain rfl := Option.some.inj H
          go_enter Try.func5, Try.ntmps5
          go_wp2_with (first | ((with_reducible refine gate_callee (f := 11) rfl ?_); refine goesL_ (some 7) rfl rfl Try.func11 (by kernel_rfl) rfl #[.int .u64 a1] rfl (by (try simp only [List.map_toArray, List.map_cons, List.map_nil]); first | done | rfl | (simp only [List.length_drop, List.length_take]; rfl)) ?_; (with_reducible refine (num_Of.calls a1 t125 _ A3.out).mono ?_); rintro e w' ⟨rfl, ⟨nd, rfl⟩⟩; refine ⟨_, rfl, ?_⟩) | ((with_reducible refine gate_callee (f := 13) rfl ?_); refine goesL_ (some 8) rfl rfl Try.func13 (by kernel_rfl) rfl #[] rfl (by (try simp only [List.map_toArray, List.map_cons, List.map_nil]); first | done | rfl | (simp only [List.length_drop, List.length_take]; rfl)) ?_; (with_reducible refine (ropewaylaw01_numAlive.calls k  true _ A4.out).mono ?_); rintro e w' ⟨rfl, ⟨nd, rfl⟩⟩; refine ⟨_, rfl, ?_⟩) | (go_at_call 17; (with_reducible refine (num_Bits.calls a0 t127 _ A6.out).mono ?_); rintro e w' ⟨rfl, ⟨nd, rfl⟩⟩) | (go_at_call 18; (with_reducible refine (ropewayref01_Bits.calls a0 t128 _ A7.out).mono ?_); rintro e w' ⟨rfl, ⟨nd, rfl⟩⟩) | (go_at_call 17; (with_reducible refine (num_Bits.calls t125 t129 _ A9.out).mono ?_); rintro e w' ⟨rfl, ⟨nd, rfl⟩⟩) | (go_at_call 12; (with_reducible refine (ropewayref01_Clean.calls a1 t130 _ A10.out).mono ?_); rintro e w' ⟨rfl, ⟨nd, rfl⟩⟩) | (go_at_call 19; (with_reducible refine (num_Kind.calls a0 t131 _ A12.out).mono ?_); rintro e w' ⟨rfl, ⟨nd, rfl⟩⟩) | (go_at_call 20; (with_reducible refine (ropewayref01_Kind.calls t128 t132 _ A13.out).mono ?_); rintro e w' ⟨rfl, ⟨nd, rfl⟩⟩) | (go_at_call 19; (with_reducible refine (num_Kind.calls t125 t133 _ A15.out).mono ?_); rintro e w' ⟨rfl, ⟨nd, rfl⟩⟩) | (go_at_call 20; (with_reducible refine (ropewayref01_Kind.calls a1 t134 _ A16.out).mono ?_); rintro e w' ⟨rfl, ⟨nd, rfl⟩⟩))
          go_ret
          exact ⟨by first | rfl | (simp; done) | (simp [*]; done), by repeat (first | exact Drawn0.refl _ | apply Drawn0.step)⟩
        · rw [if_neg c14] at H
          have c14b0 : (t131 == t132) = false := beq_eq_false_iff_ne.mpr c14
          have c14b1 : (t131 != t132) = true := bne_iff_ne.mpr c14
          obtain rfl := Option.some.inj H
          go_enter Try.func5, Try.ntmps5
          go_wp2_with (first | ((with_reducible refine gate_callee (f := 11) rfl ?_); refine goesL_ (some 7) rfl rfl Try.func11 (by kernel_rfl) rfl #[.int .u64 a1] rfl (by (try simp only [List.map_toArray, List.map_cons, List.map_nil]); first | done | rfl | (simp only [List.length_drop, List.length_take]; rfl)) ?_; (with_reducible refine (num_Of.calls a1 t125 _ A3.out).mono ?_); rintro e w' ⟨rfl, ⟨nd, rfl⟩⟩; refine ⟨_, rfl, ?_⟩) | ((with_reducible refine gate_callee (f := 13) rfl ?_); refine goesL_ (some 8) rfl rfl Try.func13 (by kernel_rfl) rfl #[] rfl (by (try simp only [List.map_toArray, List.map_cons, List.map_nil]); first | done | rfl | (simp only [List.length_drop, List.length_take]; rfl)) ?_; (with_reducible refine (ropewaylaw01_numAlive.calls k  true _ A4.out).mono ?_); rintro e w' ⟨rfl, ⟨nd, rfl⟩⟩; refine ⟨_, rfl, ?_⟩) | (go_at_call 17; (with_reducible refine (num_Bits.calls a0 t127 _ A6.out).mono ?_); rintro e w' ⟨rfl, ⟨nd, rfl⟩⟩) | (go_at_call 18; (with_reducible refine (ropewayref01_Bits.calls a0 t128 _ A7.out).mono ?_); rintro e w' ⟨rfl, ⟨nd, rfl⟩⟩) | (go_at_call 17; (with_reducible refine (num_Bits.calls t125 t129 _ A9.out).mono ?_); rintro e w' ⟨rfl, ⟨nd, rfl⟩⟩) | (go_at_call 12; (with_reducible refine (ropewayref01_Clean.calls a1 t130 _ A10.out).mono ?_); rintro e w' ⟨rfl, ⟨nd, rfl⟩⟩) | (go_at_call 19; (with_reducible refine (num_Kind.calls a0 t131 _ A12.out).mono ?_); rintro e w' ⟨rfl, ⟨nd, rfl⟩⟩) | (go_at_call 20; (with_reducible refine (ropewayref01_Kind.calls t128 t132 _ A13.out).mono ?_); rintro e w' ⟨rfl, ⟨nd, rfl⟩⟩))
          go_ret
          exact ⟨by first | rfl | (simp; done) | (simp [*]; done), by repeat (first | exact Drawn0.refl _ | apply Drawn0.step)⟩
      · rw [if_neg c11] at H
        have c11b0 : (t129 == t130) = false := beq_eq_false_iff_ne.mpr c11
        have c11b1 : (t129 != t130) = true := bne_iff_ne.mpr c11
        obtain rfl := Option.some.inj H
        go_enter Try.func5, Try.ntmps5
        go_wp2_with (first | ((with_reducible refine gate_callee (f := 11) rfl ?_); refine goesL_ (some 7) rfl rfl Try.func11 (by kernel_rfl) rfl #[.int .u64 a1] rfl (by (try simp only [List.map_toArray, List.map_cons, List.map_nil]); first | done | rfl | (simp only [List.length_drop, List.length_take]; rfl)) ?_; (with_reducible refine (num_Of.calls a1 t125 _ A3.out).mono ?_); rintro e w' ⟨rfl, ⟨nd, rfl⟩⟩; refine ⟨_, rfl, ?_⟩) | ((with_reducible refine gate_callee (f := 13) rfl ?_); refine goesL_ (some 8) rfl rfl Try.func13 (by kernel_rfl) rfl #[] rfl (by (try simp only [List.map_toArray, List.map_cons, List.map_nil]); first | done | rfl | (simp only [List.length_drop, List.length_take]; rfl)) ?_; (with_reducible refine (ropewaylaw01_numAlive.calls k  true _ A4.out).mono ?_); rintro e w' ⟨rfl, ⟨nd, rfl⟩⟩; refine ⟨_, rfl, ?_⟩) | (go_at_call 17; (with_reducible refine (num_Bits.calls a0 t127 _ A6.out).mono ?_); rintro e w' ⟨rfl, ⟨nd, rfl⟩⟩) | (go_at_call 18; (with_reducible refine (ropewayref01_Bits.calls a0 t128 _ A7.out).mono ?_); rintro e w' ⟨rfl, ⟨nd, rfl⟩⟩) | (go_at_call 17; (with_reducible refine (num_Bits.calls t125 t129 _ A9.out).mono ?_); rintro e w' ⟨rfl, ⟨nd, rfl⟩⟩) | (go_at_call 12; (with_reducible refine (ropewayref01_Clean.calls a1 t130 _ A10.out).mono ?_); rintro e w' ⟨rfl, ⟨nd, rfl⟩⟩))
        go_ret
        exact ⟨by first | rfl | (simp; done) | (simp [*]; done), by repeat (first | exact Drawn0.refl _ | apply Drawn0.step)⟩
    · rw [if_neg c8] at H
      have c8b0 : (t127 == t128) = false := beq_eq_false_iff_ne.mpr c8
      have c8b1 : (t127 != t128) = true := bne_iff_ne.mpr c8
      obtain rfl := Option.some.inj H
      go_enter Try.func5, Try.ntmps5
      go_wp2_with (first | ((with_reducible refine gate_callee (f := 11) rfl ?_); refine goesL_ (some 7) rfl rfl Try.func11 (by kernel_rfl) rfl #[.int .u64 a1] rfl (by (try simp only [List.map_toArray, List.map_cons, List.map_nil]); first | done | rfl | (simp only [List.length_drop, List.length_take]; rfl)) ?_; (with_reducible refine (num_Of.calls a1 t125 _ A3.out).mono ?_); rintro e w' ⟨rfl, ⟨nd, rfl⟩⟩; refine ⟨_, rfl, ?_⟩) | ((with_reducible refine gate_callee (f := 13) rfl ?_); refine goesL_ (some 8) rfl rfl Try.func13 (by kernel_rfl) rfl #[] rfl (by (try simp only [List.map_toArray, List.map_cons, List.map_nil]); first | done | rfl | (simp only [List.length_drop, List.length_take]; rfl)) ?_; (with_reducible refine (ropewaylaw01_numAlive.calls k  true _ A4.out).mono ?_); rintro e w' ⟨rfl, ⟨nd, rfl⟩⟩; refine ⟨_, rfl, ?_⟩) | (go_at_call 17; (with_reducible refine (num_Bits.calls a0 t127 _ A6.out).mono ?_); rintro e w' ⟨rfl, ⟨nd, rfl⟩⟩) | (go_at_call 18; (with_reducible refine (ropewayref01_Bits.calls a0 t128 _ A7.out).mono ?_); rintro e w' ⟨rfl, ⟨nd, rfl⟩⟩))
      go_ret
      exact ⟨by first | rfl | (simp; done) | (simp [*]; done), by repeat (first | exact Drawn0.refl _ | apply Drawn0.step)⟩
  · replace c5 := Bool.eq_false_iff.mpr c5
    subst c5
    have H1 : (some false) = some r := by rw [if_neg (show ¬ (false = true) by decide)] at H; exact H
    clear H
    have H := H1
    clear H1
    obtain rfl := Option.some.inj H
    go_enter Try.func5, Try.ntmps5
    go_wp2_with (first | ((with_reducible refine gate_callee (f := 11) rfl ?_); refine goesL_ (some 7) rfl rfl Try.func11 (by kernel_rfl) rfl #[.int .u64 a1] rfl (by (try simp only [List.map_toArray, List.map_cons, List.map_nil]); first | done | rfl | (simp only [List.length_drop, List.length_take]; rfl)) ?_; (with_reducible refine (num_Of.calls a1 t125 _ A3.out).mono ?_); rintro e w' ⟨rfl, ⟨nd, rfl⟩⟩; refine ⟨_, rfl, ?_⟩) | ((with_reducible refine gate_callee (f := 13) rfl ?_); refine goesL_ (some 8) rfl rfl Try.func13 (by kernel_rfl) rfl #[] rfl (by (try simp only [List.map_toArray, List.map_cons, List.map_nil]); first | done | rfl | (simp only [List.length_drop, List.length_take]; rfl)) ?_; (with_reducible refine (ropewaylaw01_numAlive.calls k  false _ A4.out).mono ?_); rintro e w' ⟨rfl, ⟨nd, rfl⟩⟩; refine ⟨_, rfl, ?_⟩))
    go_ret
    exact ⟨by first | rfl | (simp; done) | (simp [*]; done), by repeat (first | exact Drawn0.refl _ | apply Drawn0.step)⟩

/-- THE ONE PURE STATEMENT of ropewaylaw01_NumBits. -/
def ropewaylaw01_NumBits.Pure : Prop := ∀ (a0 : Nat) (a1 : Int), a0 < 18446744073709551616 → (Lit.int .u64 a1).wf = true → ∃ k, ropewaylaw01_NumBits.f k a0 a1 = some true

end Go.Proofs.Ytnbjlcjlcjefjaa.PNumBits
