/- Written by a program of this session (wip/tool/px.py) over the kit's print: what the code that the law NumNext reaches computes, function by function, and the law's row. -/
import Derived.Test.YtnbjlcjlcjefjaaPNumNextx0
import Derived.Test.YtnbjlcjlcjefjaaPNumNextx1
namespace Go.Proofs.Ytnbjlcjlcjefjaa.PNumNext
open Go.RowKit Go.Proofs.YtnbjlcjlcjefjaaX Go.Proofs.YtnbjlcjlcjefjaaW.PrintWords Go.Proofs.YtnbjlcjlcjefjaaW.PrintLast Go.Proofs.YtnbjlcjlcjefjaaW.PrintMore
attribute [local go_sem] max2_int min2_int max_two min_two max_three min_three max_four min_four   -- for this text's walks alone
set_option linter.unusedVariables false
set_option linter.unusedSimpArgs false

attribute [local go_sem] px_store_float px_neg_float px_call27 px_call31
/-! ### ropewaylaw01_NumNext: function 9 -/
def ropewaylaw01_NumNext.j0 : Nat → Nat → Nat → Bool → Option (Bool)
  | 0, _, _, _ => none
  | k + 1, x5, x6, x21 => if x21 = true then (some true) else ((math_Inf.f 1).bind fun t128 => ((math_Nextafter.f k x5 t128).bind fun t129 => ((num_Less.f k x5 t129).bind fun t130 => (if t130 = true then ((num_Less.f k x5 x6).bind fun t131 => (if t131 = true then ((num_Less.f k x6 t129).bind fun t132 => (if t132 = true then ((math_Copysign.f 0 13830554455654793216).bind fun t133 => ((num_Same.f x5 t133).bind fun t134 => (if t134 = true then ((num_Same.f x6 0).bind fun t135 => (some t135)) else (some false)))) else (some true))) else (some true))) else (some false)))))
def ropewaylaw01_NumNext.f (k : Nat) (a0 : Int) (a1 : Int) : Option (Bool) := (ropewaylaw01_numAlive.f k).bind fun t122 => (if t122 = true then ((num_Of.f a0).bind fun t123 => ((num_Of.f a1).bind fun t124 => ((num_Kind.f t123).bind fun t125 => (if t125 = 0 then (ropewaylaw01_NumNext.j0 k t123 t124 true) else ((math_Inf.f 1).bind fun t126 => ((num_Same.f t123 t126).bind fun t127 => (ropewaylaw01_NumNext.j0 k t123 t124 t127))))))) else (some false))
theorem ropewaylaw01_NumNext.mono_l : ∀ k, (∀ y0 y1 y2, LeO (ropewaylaw01_NumNext.j0 k y0 y1 y2) (ropewaylaw01_NumNext.j0 (k + 1) y0 y1 y2))
  | 0 => fun _ _ _ r h => by simp [ropewaylaw01_NumNext.j0] at h
  | k + 1 => by
    have ih0 := ropewaylaw01_NumNext.mono_l k
    · intro y0 y1 y2
      unfold ropewaylaw01_NumNext.j0
      repeat' first
      | (with_reducible exact ih0 _ _ _)
      | (with_reducible exact math_Nextafter.mono _ _ _)
      | (with_reducible exact num_Less.mono _ _ _)
      | (with_reducible exact ropewaylaw01_numAlive.mono _)
      | (with_reducible exact LeO.refl _)
      | (with_reducible exact LeO.none _)
      | (with_reducible refine LeO.ite ?_ ?_)
      | (with_reducible refine LeO.bind ?_ (fun _ => ?_))
      | exact ih0 _ _ _
      | exact math_Nextafter.mono _ _ _
      | exact num_Less.mono _ _ _
      | exact ropewaylaw01_numAlive.mono _
      | exact LeO.none _
      | refine LeO.ite ?_ ?_
      | refine LeO.bind ?_ (fun _ => ?_)
theorem ropewaylaw01_NumNext.mono : ∀ a0 a1 k, LeO (ropewaylaw01_NumNext.f k a0 a1) (ropewaylaw01_NumNext.f (k + 1) a0 a1) := by
  intro a0 a1 k
  have ih0 := ropewaylaw01_NumNext.mono_l k
  unfold ropewaylaw01_NumNext.f
  repeat' first
      | (with_reducible exact ih0 _ _ _)
      | (with_reducible exact math_Nextafter.mono _ _ _)
      | (with_reducible exact num_Less.mono _ _ _)
      | (with_reducible exact ropewaylaw01_numAlive.mono _)
      | (with_reducible exact LeO.refl _)
      | (with_reducible exact LeO.none _)
      | (with_reducible refine LeO.ite ?_ ?_)
      | (with_reducible refine LeO.bind ?_ (fun _ => ?_))
      | exact ih0 _ _ _
      | exact math_Nextafter.mono _ _ _
      | exact num_Less.mono _ _ _
      | exact ropewaylaw01_numAlive.mono _
      | exact LeO.none _
      | refine LeO.ite ?_ ?_
      | refine LeO.bind ?_ (fun _ => ?_)
set_option maxHeartbeats 8000000 in
set_option maxRecDepth 100000 in
theorem ropewaylaw01_NumNext.calls (k : Nat) (a0 : Int) (a1 : Int) (r : Bool) (w : World) (h : ropewaylaw01_NumNext.f k a0 a1 = some r) :
    Calls Try.prog 9 #[.int .u64 a0, .int .u64 a1] w fun e w' => e = .returned (.bool r) ∧ Drawn0 w w' := by
  have H : ((ropewaylaw01_numAlive.f k).bind fun t122 => (if t122 = true then ((num_Of.f a0).bind fun t123 => ((num_Of.f a1).bind fun t124 => ((num_Kind.f t123).bind fun t125 => (if t125 = 0 then (ropewaylaw01_NumNext.j0 k t123 t124 true) else ((math_Inf.f 1).bind fun t126 => ((num_Same.f t123 t126).bind fun t127 => (ropewaylaw01_NumNext.j0 k t123 t124 t127))))))) else (some false))) = some r := h
  clear h
  replace H := Option.bind_eq_some_iff.mp H
  obtain ⟨t122, A30, H⟩ := H
  replace H : (if t122 = true then ((num_Of.f a0).bind fun t123 => ((num_Of.f a1).bind fun t124 => ((num_Kind.f t123).bind fun t125 => (if t125 = 0 then (ropewaylaw01_NumNext.j0 k t123 t124 true) else ((math_Inf.f 1).bind fun t126 => ((num_Same.f t123 t126).bind fun t127 => (ropewaylaw01_NumNext.j0 k t123 t124 t127))))))) else (some false)) = some r := H
  have A3 := Aside0.mk A30
  clear A30
  by_cases c4 : t122 = true
  · subst c4
    have H1 : ((num_Of.f a0).bind fun t123 => ((num_Of.f a1).bind fun t124 => ((num_Kind.f t123).bind fun t125 => (if t125 = 0 then (ropewaylaw01_NumNext.j0 k t123 t124 true) else ((math_Inf.f 1).bind fun t126 => ((num_Same.f t123 t126).bind fun t127 => (ropewaylaw01_NumNext.j0 k t123 t124 t127))))))) = some r := by rw [if_pos rfl] at H; exact H
    clear H
    have H := H1
    clear H1
    replace H := Option.bind_eq_some_iff.mp H
    obtain ⟨t123, A50, H⟩ := H
    replace H : ((num_Of.f a1).bind fun t124 => ((num_Kind.f t123).bind fun t125 => (if t125 = 0 then (ropewaylaw01_NumNext.j0 k t123 t124 true) else ((math_Inf.f 1).bind fun t126 => ((num_Same.f t123 t126).bind fun t127 => (ropewaylaw01_NumNext.j0 k t123 t124 t127)))))) = some r := H
    have A5 := Aside0.mk A50
    clear A50
    replace H := Option.bind_eq_some_iff.mp H
    obtain ⟨t124, A60, H⟩ := H
    replace H : ((num_Kind.f t123).bind fun t125 => (if t125 = 0 then (ropewaylaw01_NumNext.j0 k t123 t124 true) else ((math_Inf.f 1).bind fun t126 => ((num_Same.f t123 t126).bind fun t127 => (ropewaylaw01_NumNext.j0 k t123 t124 t127))))) = some r := H
    have A6 := Aside0.mk A60
    clear A60
    have HC7 := Aside0.mk H
    clear H
    go_enter Try.func9, Try.ntmps9
    go_upto_region 4 with (first | ((with_reducible refine gate_callee (f := 13) rfl ?_); refine goesL_ (some 8) rfl rfl Try.func13 (by kernel_rfl) rfl #[] rfl (by (try simp only [List.map_toArray, List.map_cons, List.map_nil]); first | done | rfl | (simp only [List.length_drop, List.length_take]; rfl)) ?_; (with_reducible refine (ropewaylaw01_numAlive.calls k  true _ A3.out).mono ?_); rintro e w' ⟨rfl, ⟨nd, rfl⟩⟩; refine ⟨_, rfl, ?_⟩) | ((with_reducible refine gate_callee (f := 11) rfl ?_); refine goesL_ (some 11) rfl rfl Try.func11 (by kernel_rfl) rfl #[.int .u64 a0] rfl (by (try simp only [List.map_toArray, List.map_cons, List.map_nil]); first | done | rfl | (simp only [List.length_drop, List.length_take]; rfl)) ?_; (with_reducible refine (num_Of.calls a0 t123 _ A5.out).mono ?_); rintro e w' ⟨rfl, ⟨nd, rfl⟩⟩; refine ⟨_, rfl, ?_⟩) | ((with_reducible refine gate_callee (f := 11) rfl ?_); refine goesL_ (some 13) rfl rfl Try.func11 (by kernel_rfl) rfl #[.int .u64 a1] rfl (by (try simp only [List.map_toArray, List.map_cons, List.map_nil]); first | done | rfl | (simp only [List.length_drop, List.length_take]; rfl)) ?_; (with_reducible refine (num_Of.calls a1 t124 _ A6.out).mono ?_); rintro e w' ⟨rfl, ⟨nd, rfl⟩⟩; refine ⟨_, rfl, ?_⟩))
    (try simp only [Act.put, List.setIfInBounds_toArray, List.set_cons_zero, List.set_cons_succ])
    go_cut [21] (fun v21 wc => ∃ (kq : Nat) (x21_6 : Bool), v21 = .bool x21_6 ∧ Aside0 (ropewaylaw01_NumNext.j0 kq t123 t124 x21_6 = some r) ∧ Aside0 (kq ≤ k) ∧ Drawn0 w wc)
    case first =>
      have H := HC7.out
      clear HC7
      replace H := Option.bind_eq_some_iff.mp H
      obtain ⟨t125, A80, H⟩ := H
      replace H : (if t125 = 0 then (ropewaylaw01_NumNext.j0 k t123 t124 true) else ((math_Inf.f 1).bind fun t126 => ((num_Same.f t123 t126).bind fun t127 => (ropewaylaw01_NumNext.j0 k t123 t124 t127)))) = some r := H
      have A8 := Aside0.mk A80
      clear A80
      by_cases c9 : t125 = 0
      · rw [if_pos c9] at H
        have c9b0 : (t125 == 0) = true := beq_iff_eq.mpr c9
        have c9b1 : (t125 != 0) = false := bne_eq_false_iff_eq.mpr c9
        clear c9
        (first | rw [c9b0] | (simp only [i64_w, i32_w]; rw [c9b0]) | skip)
        have H' := Aside0.mk H
        clear H
        go_wp2_with (first | ((with_reducible refine gate_callee (f := 19) rfl ?_); refine goesL_ (some 15) rfl rfl Try.func19 (by kernel_rfl) rfl #[.float .f64 t123] rfl (by (try simp only [List.map_toArray, List.map_cons, List.map_nil]); first | done | rfl | (simp only [List.length_drop, List.length_take]; rfl)) ?_; (with_reducible refine (num_Kind.calls t123 t125 _ A8.out).mono ?_); rintro e w' ⟨rfl, ⟨nd, rfl⟩⟩; refine ⟨_, rfl, ?_⟩))
        go_meet
        case rel => exact ⟨_, (true), (by first | rfl | (simp; done) | (simp [*]; done)), H', ⟨by first | omega | exact Nat.le_refl _⟩, by repeat (first | exact Drawn0.refl _ | apply Drawn0.step)⟩
      · rw [if_neg c9] at H
        have c9b0 : (t125 == 0) = false := beq_eq_false_iff_ne.mpr c9
        have c9b1 : (t125 != 0) = true := bne_iff_ne.mpr c9
        (first | rw [c9b0] | (simp only [i64_w, i32_w]; rw [c9b0]) | skip)
        replace H := Option.bind_eq_some_iff.mp H
        obtain ⟨t126, A100, H⟩ := H
        replace H : ((num_Same.f t123 t126).bind fun t127 => (ropewaylaw01_NumNext.j0 k t123 t124 t127)) = some r := H
        have A10 := Aside0.mk A100
        clear A100
        replace H := Option.bind_eq_some_iff.mp H
        obtain ⟨t127, A110, H⟩ := H
        replace H : (ropewaylaw01_NumNext.j0 k t123 t124 t127) = some r := H
        have A11 := Aside0.mk A110
        clear A110
        have H' := Aside0.mk H
        clear H
        go_wp2_with (first | ((with_reducible refine gate_callee (f := 19) rfl ?_); refine goesL_ (some 15) rfl rfl Try.func19 (by kernel_rfl) rfl #[.float .f64 t123] rfl (by (try simp only [List.map_toArray, List.map_cons, List.map_nil]); first | done | rfl | (simp only [List.length_drop, List.length_take]; rfl)) ?_; (with_reducible refine (num_Kind.calls t123 t125 _ A8.out).mono ?_); rintro e w' ⟨rfl, ⟨nd, rfl⟩⟩; refine ⟨_, rfl, ?_⟩) | (go_at_call 23; (with_reducible refine (math_Inf.calls 1 t126 _ A10.out).mono ?_); rintro e w' ⟨rfl, ⟨nd, rfl⟩⟩) | (go_at_call 14; (with_reducible refine (num_Same.calls t123 t126 t127 _ A11.out).mono ?_); rintro e w' ⟨rfl, ⟨nd, rfl⟩⟩))
        go_meet
        case rel => exact ⟨_, (t127), (by first | rfl | (simp; done) | (simp [*]; done)), H', ⟨by first | omega | exact Nat.le_refl _⟩, by repeat (first | exact Drawn0.refl _ | apply Drawn0.step)⟩
    case rest =>
      clear HC7
      try clear c1
      try clear p2
      try clear c4
      try clear c9
      try clear c9b0
      try clear c9b1
      try clear c11
      obtain ⟨kq, x21_6, rfl, HA, HJ6, ⟨mc6, rfl⟩⟩ := hcut
      cases kq with
      | zero => exact absurd HA.out (by simp [ropewaylaw01_NumNext.j0])
      | succ kj6 =>
        have H := HA.out
        clear HA
        simp only [ropewaylaw01_NumNext.j0] at H
        by_cases c12 : x21_6 = true
        · subst c12
          have H1 : (some true) = some r := by rw [if_pos rfl] at H; exact H
          clear H
          have H := H1
          clear H1
          obtain rfl := Option.some.inj H
          go_wp2
          go_ret
          exact ⟨by first | rfl | (simp; done) | (simp [*]; done), by repeat (first | exact Drawn0.refl _ | apply Drawn0.step)⟩
        · replace c12 := Bool.eq_false_iff.mpr c12
          subst c12
          have H1 : ((math_Inf.f 1).bind fun t128 => ((math_Nextafter.f kj6 t123 t128).bind fun t129 => ((num_Less.f kj6 t123 t129).bind fun t130 => (if t130 = true then ((num_Less.f kj6 t123 t124).bind fun t131 => (if t131 = true then ((num_Less.f kj6 t124 t129).bind fun t132 => (if t132 = true then ((math_Copysign.f 0 13830554455654793216).bind fun t133 => ((num_Same.f t123 t133).bind fun t134 => (if t134 = true then ((num_Same.f t124 0).bind fun t135 => (some t135)) else (some false)))) else (some true))) else (some true))) else (some false))))) = some r := by rw [if_neg (show ¬ (false = true) by decide)] at H; exact H
          clear H
          have H := H1
          clear H1
          replace H := Option.bind_eq_some_iff.mp H
          obtain ⟨t128, A130, H⟩ := H
          replace H : ((math_Nextafter.f kj6 t123 t128).bind fun t129 => ((num_Less.f kj6 t123 t129).bind fun t130 => (if t130 = true then ((num_Less.f kj6 t123 t124).bind fun t131 => (if t131 = true then ((num_Less.f kj6 t124 t129).bind fun t132 => (if t132 = true then ((math_Copysign.f 0 13830554455654793216).bind fun t133 => ((num_Same.f t123 t133).bind fun t134 => (if t134 = true then ((num_Same.f t124 0).bind fun t135 => (some t135)) else (some false)))) else (some true))) else (some true))) else (some false)))) = some r := H
          have A13 := Aside0.mk A130
          clear A130
          replace H := Option.bind_eq_some_iff.mp H
          obtain ⟨t129, A140, H⟩ := H
          replace H : ((num_Less.f kj6 t123 t129).bind fun t130 => (if t130 = true then ((num_Less.f kj6 t123 t124).bind fun t131 => (if t131 = true then ((num_Less.f kj6 t124 t129).bind fun t132 => (if t132 = true then ((math_Copysign.f 0 13830554455654793216).bind fun t133 => ((num_Same.f t123 t133).bind fun t134 => (if t134 = true then ((num_Same.f t124 0).bind fun t135 => (some t135)) else (some false)))) else (some true))) else (some true))) else (some false))) = some r := H
          have A14 := Aside0.mk A140
          clear A140
          replace H := Option.bind_eq_some_iff.mp H
          obtain ⟨t130, A150, H⟩ := H
          replace H : (if t130 = true then ((num_Less.f kj6 t123 t124).bind fun t131 => (if t131 = true then ((num_Less.f kj6 t124 t129).bind fun t132 => (if t132 = true then ((math_Copysign.f 0 13830554455654793216).bind fun t133 => ((num_Same.f t123 t133).bind fun t134 => (if t134 = true then ((num_Same.f t124 0).bind fun t135 => (some t135)) else (some false)))) else (some true))) else (some true))) else (some false)) = some r := H
          have A15 := Aside0.mk A150
          clear A150
          by_cases c16 : t130 = true
          · subst c16
            have H1 : ((num_Less.f kj6 t123 t124).bind fun t131 => (if t131 = true then ((num_Less.f kj6 t124 t129).bind fun t132 => (if t132 = true then ((math_Copysign.f 0 13830554455654793216).bind fun t133 => ((num_Same.f t123 t133).bind fun t134 => (if t134 = true then ((num_Same.f t124 0).bind fun t135 => (some t135)) else (some false)))) else (some true))) else (some true))) = some r := by rw [if_pos rfl] at H; exact H
            clear H
            have H := H1
            clear H1
            replace H := Option.bind_eq_some_iff.mp H
            obtain ⟨t131, A170, H⟩ := H
            replace H : (if t131 = true then ((num_Less.f kj6 t124 t129).bind fun t132 => (if t132 = true then ((math_Copysign.f 0 13830554455654793216).bind fun t133 => ((num_Same.f t123 t133).bind fun t134 => (if t134 = true then ((num_Same.f t124 0).bind fun t135 => (some t135)) else (some false)))) else (some true))) else (some true)) = some r := H
            have A17 := Aside0.mk A170
            clear A170
            by_cases c18 : t131 = true
            · subst c18
              have H1 : ((num_Less.f kj6 t124 t129).bind fun t132 => (if t132 = true then ((math_Copysign.f 0 13830554455654793216).bind fun t133 => ((num_Same.f t123 t133).bind fun t134 => (if t134 = true then ((num_Same.f t124 0).bind fun t135 => (some t135)) else (some false)))) else (some true))) = some r := by rw [if_pos rfl] at H; exact H
              clear H
              have H := H1
              clear H1
              replace H := Option.bind_eq_some_iff.mp H
              obtain ⟨t132, A190, H⟩ := H
              replace H : (if t132 = true then ((math_Copysign.f 0 13830554455654793216).bind fun t133 => ((num_Same.f t123 t133).bind fun t134 => (if t134 = true then ((num_Same.f t124 0).bind fun t135 => (some t135)) else (some false)))) else (some true)) = some r := H
              have A19 := Aside0.mk A190
              clear A190
              by_cases c20 : t132 = true
              · subst c20
                have H1 : ((math_Copysign.f 0 13830554455654793216).bind fun t133 => ((num_Same.f t123 t133).bind fun t134 => (if t134 = true then ((num_Same.f t124 0).bind fun t135 => (some t135)) else (some false)))) = some r := by rw [if_pos rfl] at H; exact H
                clear H
                have H := H1
                clear H1
                replace H := Option.bind_eq_some_iff.mp H
                obtain ⟨t133, A210, H⟩ := H
                replace H : ((num_Same.f t123 t133).bind fun t134 => (if t134 = true then ((num_Same.f t124 0).bind fun t135 => (some t135)) else (some false))) = some r := H
                have A21 := Aside0.mk A210
                clear A210
                replace H := Option.bind_eq_some_iff.mp H
                obtain ⟨t134, A220, H⟩ := H
                replace H : (if t134 = true then ((num_Same.f t124 0).bind fun t135 => (some t135)) else (some false)) = some r := H
                have A22 := Aside0.mk A220
                clear A220
                by_cases c23 : t134 = true
                · subst c23
                  have H1 : ((num_Same.f t124 0).bind fun t135 => (some t135)) = some r := by rw [if_pos rfl] at H; exact H
                  clear H
                  have H := H1
                  clear H1
                  replace H := Option.bind_eq_some_iff.mp H
                  obtain ⟨t135, A240, H⟩ := H
                  replace H : (some t135) = some r := H
                  have A24 := Aside0.mk A240
                  clear A240
                  obtain rfl := Option.some.inj H
                  go_wp2_with (first | ((with_reducible refine gate_callee (f := 23) rfl ?_); refine goesL_ (some 23) rfl rfl Try.func23 (by kernel_rfl) rfl #[.int .i64 1] rfl (by (try simp only [List.map_toArray, List.map_cons, List.map_nil]); first | done | rfl | (simp only [List.length_drop, List.length_take]; rfl)) ?_; (with_reducible refine (math_Inf.calls 1 t128 _ A13.out).mono ?_); rintro e w' ⟨rfl, ⟨nd, rfl⟩⟩; refine ⟨_, rfl, ?_⟩) | ((with_reducible refine gate_callee (f := 24) rfl ?_); refine goesL_ (some 24) rfl rfl Try.func24 (by kernel_rfl) rfl #[.float .f64 t123, .float .f64 t128] rfl (by (try simp only [List.map_toArray, List.map_cons, List.map_nil]); first | done | rfl | (simp only [List.length_drop, List.length_take]; rfl)) ?_; (with_reducible refine (math_Nextafter.calls kj6 t123 t128 t129 _ A14.out).mono ?_); rintro e w' ⟨rfl, ⟨nd, rfl⟩⟩; refine ⟨_, rfl, ?_⟩) | ((with_reducible refine gate_callee (f := 15) rfl ?_); refine goesL_ (some 27) rfl rfl Try.func15 (by kernel_rfl) rfl #[.float .f64 t123, .float .f64 t129] rfl (by (try simp only [List.map_toArray, List.map_cons, List.map_nil]); first | done | rfl | (simp only [List.length_drop, List.length_take]; rfl)) ?_; (with_reducible refine (num_Less.calls kj6 t123 t129 true _ A15.out).mono ?_); rintro e w' ⟨rfl, ⟨nd, rfl⟩⟩; refine ⟨_, rfl, ?_⟩) | ((with_reducible refine gate_callee (f := 15) rfl ?_); refine goesL_ (some 31) rfl rfl Try.func15 (by kernel_rfl) rfl #[.float .f64 t123, .float .f64 t124] rfl (by (try simp only [List.map_toArray, List.map_cons, List.map_nil]); first | done | rfl | (simp only [List.length_drop, List.length_take]; rfl)) ?_; (with_reducible refine (num_Less.calls kj6 t123 t124 true _ A17.out).mono ?_); rintro e w' ⟨rfl, ⟨nd, rfl⟩⟩; refine ⟨_, rfl, ?_⟩) | (go_at_call 15; (with_reducible refine (num_Less.calls kj6 t124 t129 true _ A19.out).mono ?_); rintro e w' ⟨rfl, ⟨nd, rfl⟩⟩) | (go_at_call 25; (with_reducible refine (math_Copysign.calls 0 13830554455654793216 t133 _ A21.out).mono ?_); rintro e w' ⟨rfl, ⟨nd, rfl⟩⟩) | (go_at_call 14; (with_reducible refine (num_Same.calls t123 t133 true _ A22.out).mono ?_); rintro e w' ⟨rfl, ⟨nd, rfl⟩⟩) | (go_at_call 14; (with_reducible refine (num_Same.calls t124 0 t135 _ A24.out).mono ?_); rintro e w' ⟨rfl, ⟨nd, rfl⟩⟩))
                  go_ret
                  exact ⟨by first | rfl | (simp; done) | (simp [*]; done), by repeat (first | exact Drawn0.refl _ | apply Drawn0.step)⟩
                · replace c23 := Bool.eq_false_iff.mpr c23
                  subst c23
                  have H1 : (some false) = some r := by rw [if_neg (show ¬ (false = true) by decide)] at H; exact H
                  clear H
                  have H := H1
                  clear H1
                  obtain rfl := Option.some.inj H
                  go_wp2_with (first | ((with_reducible refine gate_callee (f := 23) rfl ?_); refine goesL_ (some 23) rfl rfl Try.func23 (by kernel_rfl) rfl #[.int .i64 1] rfl (by (try simp only [List.map_toArray, List.map_cons, List.map_nil]); first | done | rfl | (simp only [List.length_drop, List.length_take]; rfl)) ?_; (with_reducible refine (math_Inf.calls 1 t128 _ A13.out).mono ?_); rintro e w' ⟨rfl, ⟨nd, rfl⟩⟩; refine ⟨_, rfl, ?_⟩) | ((with_reducible refine gate_callee (f := 24) rfl ?_); refine goesL_ (some 24) rfl rfl Try.func24 (by kernel_rfl) rfl #[.float .f64 t123, .float .f64 t128] rfl (by (try simp only [List.map_toArray, List.map_cons, List.map_nil]); first | done | rfl | (simp only [List.length_drop, List.length_take]; rfl)) ?_; (with_reducible refine (math_Nextafter.calls kj6 t123 t128 t129 _ A14.out).mono ?_); rintro e w' ⟨rfl, ⟨nd, rfl⟩⟩; refine ⟨_, rfl, ?_⟩) | ((with_reducible refine gate_callee (f := 15) rfl ?_); refine goesL_ (some 27) rfl rfl Try.func15 (by kernel_rfl) rfl #[.float .f64 t123, .float .f64 t129] rfl (by (try simp only [List.map_toArray, List.map_cons, List.map_nil]); first | done | rfl | (simp only [List.length_drop, List.length_take]; rfl)) ?_; (with_reducible refine (num_Less.calls kj6 t123 t129 true _ A15.out).mono ?_); rintro e w' ⟨rfl, ⟨nd, rfl⟩⟩; refine ⟨_, rfl, ?_⟩) | ((with_reducible refine gate_callee (f := 15) rfl ?_); refine goesL_ (some 31) rfl rfl Try.func15 (by kernel_rfl) rfl #[.float .f64 t123, .float .f64 t124] rfl (by (try simp only [List.map_toArray, List.map_cons, List.map_nil]); first | done | rfl | (simp only [List.length_drop, List.length_take]; rfl)) ?_; (with_reducible refine (num_Less.calls kj6 t123 t124 true _ A17.out).mono ?_); rintro e w' ⟨rfl, ⟨nd, rfl⟩⟩; refine ⟨_, rfl, ?_⟩) | (go_at_call 15; (with_reducible refine (num_Less.calls kj6 t124 t129 true _ A19.out).mono ?_); rintro e w' ⟨rfl, ⟨nd, rfl⟩⟩) | (go_at_call 25; (with_reducible refine (math_Copysign.calls 0 13830554455654793216 t133 _ A21.out).mono ?_); rintro e w' ⟨rfl, ⟨nd, rfl⟩⟩) | (go_at_call 14; (with_reducible refine (num_Same.calls t123 t133 false _ A22.out).mono ?_); rintro e w' ⟨rfl, ⟨nd, rfl⟩⟩))
                  go_ret
                  exact ⟨by first | rfl | (simp; done) | (simp [*]; done), by repeat (first | exact Drawn0.refl _ | apply Drawn0.step)⟩
              · replace c20 := Bool.eq_false_iff.mpr c20
                subst c20
                have H1 : (some true) = some r := by rw [if_neg (show ¬ (false = true) by decide)] at H; exact H
                clear H
                have H := H1
                clear H1
                obtain rfl := Option.some.inj H
                go_wp2_with (first | ((with_reducible refine gate_callee (f := 23) rfl ?_); refine goesL_ (some 23) rfl rfl Try.func23 (by kernel_rfl) rfl #[.int .i64 1] rfl (by (try simp only [List.map_toArray, List.map_cons, List.map_nil]); first | done | rfl | (simp only [List.length_drop, List.length_take]; rfl)) ?_; (with_reducible refine (math_Inf.calls 1 t128 _ A13.out).mono ?_); rintro e w' ⟨rfl, ⟨nd, rfl⟩⟩; refine ⟨_, rfl, ?_⟩) | ((with_reducible refine gate_callee (f := 24) rfl ?_); refine goesL_ (some 24) rfl rfl Try.func24 (by kernel_rfl) rfl #[.float .f64 t123, .float .f64 t128] rfl (by (try simp only [List.map_toArray, List.map_cons, List.map_nil]); first | done | rfl | (simp only [List.length_drop, List.length_take]; rfl)) ?_; (with_reducible refine (math_Nextafter.calls kj6 t123 t128 t129 _ A14.out).mono ?_); rintro e w' ⟨rfl, ⟨nd, rfl⟩⟩; refine ⟨_, rfl, ?_⟩) | ((with_reducible refine gate_callee (f := 15) rfl ?_); refine goesL_ (some 27) rfl rfl Try.func15 (by kernel_rfl) rfl #[.float .f64 t123, .float .f64 t129] rfl (by (try simp only [List.map_toArray, List.map_cons, List.map_nil]); first | done | rfl | (simp only [List.length_drop, List.length_take]; rfl)) ?_; (with_reducible refine (num_Less.calls kj6 t123 t129 true _ A15.out).mono ?_); rintro e w' ⟨rfl, ⟨nd, rfl⟩⟩; refine ⟨_, rfl, ?_⟩) | ((with_reducible refine gate_callee (f := 15) rfl ?_); refine goesL_ (some 31) rfl rfl Try.func15 (by kernel_rfl) rfl #[.float .f64 t123, .float .f64 t124] rfl (by (try simp only [List.map_toArray, List.map_cons, List.map_nil]); first | done | rfl | (simp only [List.length_drop, List.length_take]; rfl)) ?_; (with_reducible refine (num_Less.calls kj6 t123 t124 true _ A17.out).mono ?_); rintro e w' ⟨rfl, ⟨nd, rfl⟩⟩; refine ⟨_, rfl, ?_⟩) | (go_at_call 15; (with_reducible refine (num_Less.calls kj6 t124 t129 false _ A19.out).mono ?_); rintro e w' ⟨rfl, ⟨nd, rfl⟩⟩))
                go_ret
                exact ⟨by first | rfl | (simp; done) | (simp [*]; done), by repeat (first | exact Drawn0.refl _ | apply Drawn0.step)⟩
            · replace c18 := Bool.eq_false_iff.mpr c18
              subst c18
              have H1 : (some true) = some r := by rw [if_neg (show ¬ (false = true) by decide)] at H; exact H
              clear H
              have H := H1
              clear H1
              obtain rfl := Option.some.inj H
              go_wp2_with (first | ((with_reducible refine gate_callee (f := 23) rfl ?_); refine goesL_ (some 23) rfl rfl Try.func23 (by kernel_rfl) rfl #[.int .i64 1] rfl (by (try simp only [List.map_toArray, List.map_cons, List.map_nil]); first | done | rfl | (simp only [List.length_drop, List.length_take]; rfl)) ?_; (with_reducible refine (math_Inf.calls 1 t128 _ A13.out).mono ?_); rintro e w' ⟨rfl, ⟨nd, rfl⟩⟩; refine ⟨_, rfl, ?_⟩) | ((with_reducible refine gate_callee (f := 24) rfl ?_); refine goesL_ (some 24) rfl rfl Try.func24 (by kernel_rfl) rfl #[.float .f64 t123, .float .f64 t128] rfl (by (try simp only [List.map_toArray, List.map_cons, List.map_nil]); first | done | rfl | (simp only [List.length_drop, List.length_take]; rfl)) ?_; (with_reducible refine (math_Nextafter.calls kj6 t123 t128 t129 _ A14.out).mono ?_); rintro e w' ⟨rfl, ⟨nd, rfl⟩⟩; refine ⟨_, rfl, ?_⟩) | ((with_reducible refine gate_callee (f := 15) rfl ?_); refine goesL_ (some 27) rfl rfl Try.func15 (by kernel_rfl) rfl #[.float .f64 t123, .float .f64 t129] rfl (by (try simp only [List.map_toArray, List.map_cons, List.map_nil]); first | done | rfl | (simp only [List.length_drop, List.length_take]; rfl)) ?_; (with_reducible refine (num_Less.calls kj6 t123 t129 true _ A15.out).mono ?_); rintro e w' ⟨rfl, ⟨nd, rfl⟩⟩; refine ⟨_, rfl, ?_⟩) | ((with_reducible refine gate_callee (f := 15) rfl ?_); refine goesL_ (some 31) rfl rfl Try.func15 (by kernel_rfl) rfl #[.float .f64 t123, .float .f64 t124] rfl (by (try simp only [List.map_toArray, List.map_cons, List.map_nil]); first | done | rfl | (simp only [List.length_drop, List.length_take]; rfl)) ?_; (with_reducible refine (num_Less.calls kj6 t123 t124 false _ A17.out).mono ?_); rintro e w' ⟨rfl, ⟨nd, rfl⟩⟩; refine ⟨_, rfl, ?_⟩))
              go_ret
              exact ⟨by first | rfl | (simp; done) | (simp [*]; done), by repeat (first | exact Drawn0.refl _ | apply Drawn0.step)⟩
          · replace c16 := Bool.eq_false_iff.mpr c16
            subst c16
            have H1 : (some false) = some r := by rw [if_neg (show ¬ (false = true) by decide)] at H; exact H
            clear H
            have H := H1
            clear H1
            obtain rfl := Option.some.inj H
            go_wp2_with (first | ((with_reducible refine gate_callee (f := 23) rfl ?_); refine goesL_ (some 23) rfl rfl Try.func23 (by kernel_rfl) rfl #[.int .i64 1] rfl (by (try simp only [List.map_toArray, List.map_cons, List.map_nil]); first | done | rfl | (simp only [List.length_drop, List.length_take]; rfl)) ?_; (with_reducible refine (math_Inf.calls 1 t128 _ A13.out).mono ?_); rintro e w' ⟨rfl, ⟨nd, rfl⟩⟩; refine ⟨_, rfl, ?_⟩) | ((with_reducible refine gate_callee (f := 24) rfl ?_); refine goesL_ (some 24) rfl rfl Try.func24 (by kernel_rfl) rfl #[.float .f64 t123, .float .f64 t128] rfl (by (try simp only [List.map_toArray, List.map_cons, List.map_nil]); first | done | rfl | (simp only [List.length_drop, List.length_take]; rfl)) ?_; (with_reducible refine (math_Nextafter.calls kj6 t123 t128 t129 _ A14.out).mono ?_); rintro e w' ⟨rfl, ⟨nd, rfl⟩⟩; refine ⟨_, rfl, ?_⟩) | ((with_reducible refine gate_callee (f := 15) rfl ?_); refine goesL_ (some 27) rfl rfl Try.func15 (by kernel_rfl) rfl #[.float .f64 t123, .float .f64 t129] rfl (by (try simp only [List.map_toArray, List.map_cons, List.map_nil]); first | done | rfl | (simp only [List.length_drop, List.length_take]; rfl)) ?_; (with_reducible refine (num_Less.calls kj6 t123 t129 false _ A15.out).mono ?_); rintro e w' ⟨rfl, ⟨nd, rfl⟩⟩; refine ⟨_, rfl, ?_⟩))
            go_ret
            exact ⟨by first | rfl | (simp; done) | (simp [*]; done), by repeat (first | exact Drawn0.refl _ | apply Drawn0.step)⟩
  · replace c4 := Bool.eq_false_iff.mpr c4
    subst c4
    have H1 : (some false) = some r := by rw [if_neg (show ¬ (false = true) by decide)] at H; exact H
    clear H
    have H := H1
    clear H1
    obtain rfl := Option.some.inj H
    go_enter Try.func9, Try.ntmps9
    go_wp2_with (first | ((with_reducible refine gate_callee (f := 13) rfl ?_); refine goesL_ (some 8) rfl rfl Try.func13 (by kernel_rfl) rfl #[] rfl (by (try simp only [List.map_toArray, List.map_cons, List.map_nil]); first | done | rfl | (simp only [List.length_drop, List.length_take]; rfl)) ?_; (with_reducible refine (ropewaylaw01_numAlive.calls k  false _ A3.out).mono ?_); rintro e w' ⟨rfl, ⟨nd, rfl⟩⟩; refine ⟨_, rfl, ?_⟩))
    go_ret
    exact ⟨by first | rfl | (simp; done) | (simp [*]; done), by repeat (first | exact Drawn0.refl _ | apply Drawn0.step)⟩

/-- THE ONE PURE STATEMENT of ropewaylaw01_NumNext. -/
def ropewaylaw01_NumNext.Pure : Prop := ∀ (a0 : Int) (a1 : Int), (Lit.int .u64 a0).wf = true → (Lit.int .u64 a1).wf = true → ∃ k, ropewaylaw01_NumNext.f k a0 a1 = some true

end Go.Proofs.Ytnbjlcjlcjefjaa.PNumNext
