-- Printed for this claim by wip/tools/prt.py of this repo
import Derived.Test.YtnoacoppinkloaaDoorPr0
import Derived.Test.YtnoacoppinkloaaDoorPr2
import Derived.Test.YtnoacoppinkloaaDoorPr3
import Derived.Test.YtnoacoppinkloaaDoorPr4
import Derived.Test.YtnoacoppinkloaaDoorPr5
namespace Go.Proofs.YtnoacoppinkloaaDoor.Pr
open Go.RowKit Go.Proofs.YtnoacoppinkloaaDoorW.PrintWords Go.Proofs.YtnoacoppinkloaaDoorW.PrintLast Go.Proofs.YtnoacoppinkloaaDoorW.PrintMore
attribute [local go_sem] max2_int min2_int max_two min_two max_three min_three max_four min_four   -- for this text's walks alone
set_option linter.unusedVariables false
set_option linter.unusedSimpArgs false

/-! ### skiarealaw01_alive: function 12 (by hand) -/
def skiarealaw01_alive.g (k : Nat)  : Option (Bool) := (fixed_Mul.f 2500 2500).bind fun bt154 => ((fixed_Div.f k 1000 3000).bind fun bt156 => ((fixed_Ratio.f k 7 3 2).bind fun bt158 => ((fixed_Round.f 15 10).bind fun bt160 => ((fixed_At.f k (([(⟨0, 0⟩ : S28), (⟨10, (-5)⟩ : S28)] : List (S28))) 5).bind fun bt165 => ((fixed_Parse.f k (⟨#[50, 46, 53]⟩ : ByteArray)).bind fun bt167 => ((fixed_Parse.f k (⟨#[45, 48]⟩ : ByteArray)).bind fun bt169 => ((fixed_Add.f 1125899906842624 1).bind fun bt171 => (if bt154.2 = 0 then (if bt156.2 = 0 then (if bt158.2 = 0 then (if bt160.2 = 0 then (if bt165.2 = 0 then (if bt167.2 = 0 then (if bt169.2 = 3 then (if bt171.2 = 12 then (if bt154.1 = 6250 then (if bt156.1 = 333 then (if bt158.1 = 10 then (if bt160.1 = 20 then (if bt165.1 = (-3) then (if bt167.1 = 2500 then ((fixed_Print.f (-1500)).bind fun t173 => (some (t173.toList == ([45, 49, 46, 53, 48, 48] : List UInt8)))) else (some false)) else (some false)) else (some false)) else (some false)) else (some false)) else (some false)) else (some false)) else (some false)) else (some false)) else (some false)) else (some false)) else (some false)) else (some false)) else (some false)))))))))
set_option maxHeartbeats 8000000 in
set_option maxRecDepth 100000 in
theorem skiarealaw01_alive.walk (k : Nat)  (r : Bool) (w : World) (HL0 : Laid w) (hr : Aside0 (r = true)) (h : skiarealaw01_alive.g k  = some r) :
    Calls Tryd.prog 12 #[] w fun e w' => e = .returned (.bool r) ∧ Below w.heap.size w w' := by
  have HL := Aside0.mk HL0
  clear HL0
  have hu28 := Tryd.underlying28
  have HB := Aside0.mk (Below.refl w.heap.size w)
  have H : ((fixed_Mul.f 2500 2500).bind fun bt154 => ((fixed_Div.f k 1000 3000).bind fun bt156 => ((fixed_Ratio.f k 7 3 2).bind fun bt158 => ((fixed_Round.f 15 10).bind fun bt160 => ((fixed_At.f k (([(⟨0, 0⟩ : S28), (⟨10, (-5)⟩ : S28)] : List (S28))) 5).bind fun bt165 => ((fixed_Parse.f k (⟨#[50, 46, 53]⟩ : ByteArray)).bind fun bt167 => ((fixed_Parse.f k (⟨#[45, 48]⟩ : ByteArray)).bind fun bt169 => ((fixed_Add.f 1125899906842624 1).bind fun bt171 => (if bt154.2 = 0 then (if bt156.2 = 0 then (if bt158.2 = 0 then (if bt160.2 = 0 then (if bt165.2 = 0 then (if bt167.2 = 0 then (if bt169.2 = 3 then (if bt171.2 = 12 then (if bt154.1 = 6250 then (if bt156.1 = 333 then (if bt158.1 = 10 then (if bt160.1 = 20 then (if bt165.1 = (-3) then (if bt167.1 = 2500 then ((fixed_Print.f (-1500)).bind fun t173 => (some (t173.toList == ([45, 49, 46, 53, 48, 48] : List UInt8)))) else (some false)) else (some false)) else (some false)) else (some false)) else (some false)) else (some false)) else (some false)) else (some false)) else (some false)) else (some false)) else (some false)) else (some false)) else (some false)) else (some false)))))))))) = some r := h
  clear h
  replace H := Option.bind_eq_some_iff.mp H
  obtain ⟨⟨t154, t155⟩, A10, H⟩ := H
  replace H : ((fixed_Div.f k 1000 3000).bind fun bt156 => ((fixed_Ratio.f k 7 3 2).bind fun bt158 => ((fixed_Round.f 15 10).bind fun bt160 => ((fixed_At.f k (([(⟨0, 0⟩ : S28), (⟨10, (-5)⟩ : S28)] : List (S28))) 5).bind fun bt165 => ((fixed_Parse.f k (⟨#[50, 46, 53]⟩ : ByteArray)).bind fun bt167 => ((fixed_Parse.f k (⟨#[45, 48]⟩ : ByteArray)).bind fun bt169 => ((fixed_Add.f 1125899906842624 1).bind fun bt171 => (if t155 = 0 then (if bt156.2 = 0 then (if bt158.2 = 0 then (if bt160.2 = 0 then (if bt165.2 = 0 then (if bt167.2 = 0 then (if bt169.2 = 3 then (if bt171.2 = 12 then (if t154 = 6250 then (if bt156.1 = 333 then (if bt158.1 = 10 then (if bt160.1 = 20 then (if bt165.1 = (-3) then (if bt167.1 = 2500 then ((fixed_Print.f (-1500)).bind fun t173 => (some (t173.toList == ([45, 49, 46, 53, 48, 48] : List UInt8)))) else (some false)) else (some false)) else (some false)) else (some false)) else (some false)) else (some false)) else (some false)) else (some false)) else (some false)) else (some false)) else (some false)) else (some false)) else (some false)) else (some false))))))))) = some r := H
  have A1 := Aside0.mk A10
  clear A10
  replace H := Option.bind_eq_some_iff.mp H
  obtain ⟨⟨t156, t157⟩, A20, H⟩ := H
  replace H : ((fixed_Ratio.f k 7 3 2).bind fun bt158 => ((fixed_Round.f 15 10).bind fun bt160 => ((fixed_At.f k (([(⟨0, 0⟩ : S28), (⟨10, (-5)⟩ : S28)] : List (S28))) 5).bind fun bt165 => ((fixed_Parse.f k (⟨#[50, 46, 53]⟩ : ByteArray)).bind fun bt167 => ((fixed_Parse.f k (⟨#[45, 48]⟩ : ByteArray)).bind fun bt169 => ((fixed_Add.f 1125899906842624 1).bind fun bt171 => (if t155 = 0 then (if t157 = 0 then (if bt158.2 = 0 then (if bt160.2 = 0 then (if bt165.2 = 0 then (if bt167.2 = 0 then (if bt169.2 = 3 then (if bt171.2 = 12 then (if t154 = 6250 then (if t156 = 333 then (if bt158.1 = 10 then (if bt160.1 = 20 then (if bt165.1 = (-3) then (if bt167.1 = 2500 then ((fixed_Print.f (-1500)).bind fun t173 => (some (t173.toList == ([45, 49, 46, 53, 48, 48] : List UInt8)))) else (some false)) else (some false)) else (some false)) else (some false)) else (some false)) else (some false)) else (some false)) else (some false)) else (some false)) else (some false)) else (some false)) else (some false)) else (some false)) else (some false)))))))) = some r := H
  have A2 := Aside0.mk A20
  clear A20
  replace H := Option.bind_eq_some_iff.mp H
  obtain ⟨⟨t158, t159⟩, A30, H⟩ := H
  replace H : ((fixed_Round.f 15 10).bind fun bt160 => ((fixed_At.f k (([(⟨0, 0⟩ : S28), (⟨10, (-5)⟩ : S28)] : List (S28))) 5).bind fun bt165 => ((fixed_Parse.f k (⟨#[50, 46, 53]⟩ : ByteArray)).bind fun bt167 => ((fixed_Parse.f k (⟨#[45, 48]⟩ : ByteArray)).bind fun bt169 => ((fixed_Add.f 1125899906842624 1).bind fun bt171 => (if t155 = 0 then (if t157 = 0 then (if t159 = 0 then (if bt160.2 = 0 then (if bt165.2 = 0 then (if bt167.2 = 0 then (if bt169.2 = 3 then (if bt171.2 = 12 then (if t154 = 6250 then (if t156 = 333 then (if t158 = 10 then (if bt160.1 = 20 then (if bt165.1 = (-3) then (if bt167.1 = 2500 then ((fixed_Print.f (-1500)).bind fun t173 => (some (t173.toList == ([45, 49, 46, 53, 48, 48] : List UInt8)))) else (some false)) else (some false)) else (some false)) else (some false)) else (some false)) else (some false)) else (some false)) else (some false)) else (some false)) else (some false)) else (some false)) else (some false)) else (some false)) else (some false))))))) = some r := H
  have A3 := Aside0.mk A30
  clear A30
  replace H := Option.bind_eq_some_iff.mp H
  obtain ⟨⟨t160, t161⟩, A40, H⟩ := H
  replace H : ((fixed_At.f k (([(⟨0, 0⟩ : S28), (⟨10, (-5)⟩ : S28)] : List (S28))) 5).bind fun bt165 => ((fixed_Parse.f k (⟨#[50, 46, 53]⟩ : ByteArray)).bind fun bt167 => ((fixed_Parse.f k (⟨#[45, 48]⟩ : ByteArray)).bind fun bt169 => ((fixed_Add.f 1125899906842624 1).bind fun bt171 => (if t155 = 0 then (if t157 = 0 then (if t159 = 0 then (if t161 = 0 then (if bt165.2 = 0 then (if bt167.2 = 0 then (if bt169.2 = 3 then (if bt171.2 = 12 then (if t154 = 6250 then (if t156 = 333 then (if t158 = 10 then (if t160 = 20 then (if bt165.1 = (-3) then (if bt167.1 = 2500 then ((fixed_Print.f (-1500)).bind fun t173 => (some (t173.toList == ([45, 49, 46, 53, 48, 48] : List UInt8)))) else (some false)) else (some false)) else (some false)) else (some false)) else (some false)) else (some false)) else (some false)) else (some false)) else (some false)) else (some false)) else (some false)) else (some false)) else (some false)) else (some false)))))) = some r := H
  have A4 := Aside0.mk A40
  clear A40
  obtain ⟨y162, hy162⟩ : ∃ y_ : List (S28), y_ = (([(⟨0, 0⟩ : S28), (⟨10, (-5)⟩ : S28)] : List (S28))) := ⟨_, rfl⟩
  replace H : ((fixed_At.f k y162 5).bind fun bt165 => ((fixed_Parse.f k (⟨#[50, 46, 53]⟩ : ByteArray)).bind fun bt167 => ((fixed_Parse.f k (⟨#[45, 48]⟩ : ByteArray)).bind fun bt169 => ((fixed_Add.f 1125899906842624 1).bind fun bt171 => (if t155 = 0 then (if t157 = 0 then (if t159 = 0 then (if t161 = 0 then (if bt165.2 = 0 then (if bt167.2 = 0 then (if bt169.2 = 3 then (if bt171.2 = 12 then (if t154 = 6250 then (if t156 = 333 then (if t158 = 10 then (if t160 = 20 then (if bt165.1 = (-3) then (if bt167.1 = 2500 then ((fixed_Print.f (-1500)).bind fun t173 => (some (t173.toList == ([45, 49, 46, 53, 48, 48] : List UInt8)))) else (some false)) else (some false)) else (some false)) else (some false)) else (some false)) else (some false)) else (some false)) else (some false)) else (some false)) else (some false)) else (some false)) else (some false)) else (some false)) else (some false)))))) = some r := by first | (rw [hy162]; with_reducible exact H) | (have H2_ := (Option.bind_some _ _).symm.trans H; rw [hy162]; with_reducible exact H2_) | (have H2_ := (Option.bind_some _ _).symm.trans H; with_reducible exact H2_) | with_reducible exact H | (rw [hy162]; exact H) | exact H
  have Ny162 := Aside0.mk hy162
  clear hy162
  replace H := Option.bind_eq_some_iff.mp H
  obtain ⟨⟨t165, t166⟩, A50, H⟩ := H
  replace H : ((fixed_Parse.f k (⟨#[50, 46, 53]⟩ : ByteArray)).bind fun bt167 => ((fixed_Parse.f k (⟨#[45, 48]⟩ : ByteArray)).bind fun bt169 => ((fixed_Add.f 1125899906842624 1).bind fun bt171 => (if t155 = 0 then (if t157 = 0 then (if t159 = 0 then (if t161 = 0 then (if t166 = 0 then (if bt167.2 = 0 then (if bt169.2 = 3 then (if bt171.2 = 12 then (if t154 = 6250 then (if t156 = 333 then (if t158 = 10 then (if t160 = 20 then (if t165 = (-3) then (if bt167.1 = 2500 then ((fixed_Print.f (-1500)).bind fun t173 => (some (t173.toList == ([45, 49, 46, 53, 48, 48] : List UInt8)))) else (some false)) else (some false)) else (some false)) else (some false)) else (some false)) else (some false)) else (some false)) else (some false)) else (some false)) else (some false)) else (some false)) else (some false)) else (some false)) else (some false))))) = some r := H
  have A5 := Aside0.mk A50
  clear A50
  replace H := Option.bind_eq_some_iff.mp H
  obtain ⟨⟨t167, t168⟩, A60, H⟩ := H
  replace H : ((fixed_Parse.f k (⟨#[45, 48]⟩ : ByteArray)).bind fun bt169 => ((fixed_Add.f 1125899906842624 1).bind fun bt171 => (if t155 = 0 then (if t157 = 0 then (if t159 = 0 then (if t161 = 0 then (if t166 = 0 then (if t168 = 0 then (if bt169.2 = 3 then (if bt171.2 = 12 then (if t154 = 6250 then (if t156 = 333 then (if t158 = 10 then (if t160 = 20 then (if t165 = (-3) then (if t167 = 2500 then ((fixed_Print.f (-1500)).bind fun t173 => (some (t173.toList == ([45, 49, 46, 53, 48, 48] : List UInt8)))) else (some false)) else (some false)) else (some false)) else (some false)) else (some false)) else (some false)) else (some false)) else (some false)) else (some false)) else (some false)) else (some false)) else (some false)) else (some false)) else (some false)))) = some r := H
  have A6 := Aside0.mk A60
  clear A60
  replace H := Option.bind_eq_some_iff.mp H
  obtain ⟨⟨t169, t170⟩, A70, H⟩ := H
  replace H : ((fixed_Add.f 1125899906842624 1).bind fun bt171 => (if t155 = 0 then (if t157 = 0 then (if t159 = 0 then (if t161 = 0 then (if t166 = 0 then (if t168 = 0 then (if t170 = 3 then (if bt171.2 = 12 then (if t154 = 6250 then (if t156 = 333 then (if t158 = 10 then (if t160 = 20 then (if t165 = (-3) then (if t167 = 2500 then ((fixed_Print.f (-1500)).bind fun t173 => (some (t173.toList == ([45, 49, 46, 53, 48, 48] : List UInt8)))) else (some false)) else (some false)) else (some false)) else (some false)) else (some false)) else (some false)) else (some false)) else (some false)) else (some false)) else (some false)) else (some false)) else (some false)) else (some false)) else (some false))) = some r := H
  have A7 := Aside0.mk A70
  clear A70
  replace H := Option.bind_eq_some_iff.mp H
  obtain ⟨⟨t171, t172⟩, A80, H⟩ := H
  replace H : (if t155 = 0 then (if t157 = 0 then (if t159 = 0 then (if t161 = 0 then (if t166 = 0 then (if t168 = 0 then (if t170 = 3 then (if t172 = 12 then (if t154 = 6250 then (if t156 = 333 then (if t158 = 10 then (if t160 = 20 then (if t165 = (-3) then (if t167 = 2500 then ((fixed_Print.f (-1500)).bind fun t173 => (some (t173.toList == ([45, 49, 46, 53, 48, 48] : List UInt8)))) else (some false)) else (some false)) else (some false)) else (some false)) else (some false)) else (some false)) else (some false)) else (some false)) else (some false)) else (some false)) else (some false)) else (some false)) else (some false)) else (some false)) = some r := H
  have A8 := Aside0.mk A80
  clear A80
  by_cases c9 : t155 = 0
  · rw [if_pos c9] at H
    have c9b0 : (t155 == 0) = true := beq_iff_eq.mpr c9
    have c9b1 : (t155 != 0) = false := bne_eq_false_iff_eq.mpr c9
    clear c9
    by_cases c10 : t157 = 0
    · rw [if_pos c10] at H
      have c10b0 : (t157 == 0) = true := beq_iff_eq.mpr c10
      have c10b1 : (t157 != 0) = false := bne_eq_false_iff_eq.mpr c10
      clear c10
      by_cases c11 : t159 = 0
      · rw [if_pos c11] at H
        have c11b0 : (t159 == 0) = true := beq_iff_eq.mpr c11
        have c11b1 : (t159 != 0) = false := bne_eq_false_iff_eq.mpr c11
        clear c11
        by_cases c12 : t161 = 0
        · rw [if_pos c12] at H
          have c12b0 : (t161 == 0) = true := beq_iff_eq.mpr c12
          have c12b1 : (t161 != 0) = false := bne_eq_false_iff_eq.mpr c12
          clear c12
          by_cases c13 : t166 = 0
          · rw [if_pos c13] at H
            have c13b0 : (t166 == 0) = true := beq_iff_eq.mpr c13
            have c13b1 : (t166 != 0) = false := bne_eq_false_iff_eq.mpr c13
            clear c13
            by_cases c14 : t168 = 0
            · rw [if_pos c14] at H
              have c14b0 : (t168 == 0) = true := beq_iff_eq.mpr c14
              have c14b1 : (t168 != 0) = false := bne_eq_false_iff_eq.mpr c14
              clear c14
              by_cases c15 : t170 = 3
              · rw [if_pos c15] at H
                have c15b0 : (t170 == 3) = true := beq_iff_eq.mpr c15
                have c15b1 : (t170 != 3) = false := bne_eq_false_iff_eq.mpr c15
                clear c15
                by_cases c16 : t172 = 12
                · rw [if_pos c16] at H
                  have c16b0 : (t172 == 12) = true := beq_iff_eq.mpr c16
                  have c16b1 : (t172 != 12) = false := bne_eq_false_iff_eq.mpr c16
                  clear c16
                  by_cases c17 : t154 = 6250
                  · rw [if_pos c17] at H
                    have c17b0 : (t154 == 6250) = true := beq_iff_eq.mpr c17
                    have c17b1 : (t154 != 6250) = false := bne_eq_false_iff_eq.mpr c17
                    clear c17
                    by_cases c18 : t156 = 333
                    · rw [if_pos c18] at H
                      have c18b0 : (t156 == 333) = true := beq_iff_eq.mpr c18
                      have c18b1 : (t156 != 333) = false := bne_eq_false_iff_eq.mpr c18
                      clear c18
                      by_cases c19 : t158 = 10
                      · rw [if_pos c19] at H
                        have c19b0 : (t158 == 10) = true := beq_iff_eq.mpr c19
                        have c19b1 : (t158 != 10) = false := bne_eq_false_iff_eq.mpr c19
                        clear c19
                        by_cases c20 : t160 = 20
                        · rw [if_pos c20] at H
                          have c20b0 : (t160 == 20) = true := beq_iff_eq.mpr c20
                          have c20b1 : (t160 != 20) = false := bne_eq_false_iff_eq.mpr c20
                          clear c20
                          by_cases c21 : t165 = (-3)
                          · rw [if_pos c21] at H
                            have c21b0 : (t165 == (-3)) = true := beq_iff_eq.mpr c21
                            have c21b1 : (t165 != (-3)) = false := bne_eq_false_iff_eq.mpr c21
                            clear c21
                            by_cases c22 : t167 = 2500
                            · rw [if_pos c22] at H
                              have c22b0 : (t167 == 2500) = true := beq_iff_eq.mpr c22
                              have c22b1 : (t167 != 2500) = false := bne_eq_false_iff_eq.mpr c22
                              clear c22
                              replace H := Option.bind_eq_some_iff.mp H
                              obtain ⟨t173, A230, H⟩ := H
                              replace H : (some (t173.toList == ([45, 49, 46, 53, 48, 48] : List UInt8))) = some r := H
                              have A23 := Aside0.mk A230
                              clear A230
                              obtain rfl := Option.some.inj H
                              go_enter Tryd.func12, Tryd.ntmps12
                              go_wp2_with (first | ((with_reducible refine gate_callee (f := 20) rfl ?_); refine goesL_ (some 18) rfl rfl Tryd.func20 (by kernel_rfl) rfl #[.int .i64 2500, .int .i64 2500] rfl (by (try simp only [List.map_toArray, List.map_cons, List.map_nil]); first | done | rfl | (simp only [List.length_drop, List.length_take]; rfl)) ?_; (with_reducible refine (fixed_Mul.calls 2500 2500 t154 t155 _ A1.out).mono ?_); rintro e w' ⟨rfl, ⟨nd, rfl⟩⟩; refine ⟨_, rfl, ?_⟩) | ((with_reducible refine gate_callee (f := 22) rfl ?_); refine goesL_ (some 22) rfl rfl Tryd.func22 (by kernel_rfl) rfl #[.int .i64 1000, .int .i64 3000] rfl (by (try simp only [List.map_toArray, List.map_cons, List.map_nil]); first | done | rfl | (simp only [List.length_drop, List.length_take]; rfl)) ?_; (with_reducible refine (fixed_Div.calls k 1000 3000 t156 t157 _ A2.out).mono ?_); rintro e w' ⟨rfl, ⟨nd, rfl⟩⟩; refine ⟨_, rfl, ?_⟩) | ((with_reducible refine gate_callee (f := 16) rfl ?_); refine goesL_ (some 26) rfl rfl Tryd.func16 (by kernel_rfl) rfl #[.int .i64 7, .int .i64 3, .int .i64 2] rfl (by (try simp only [List.map_toArray, List.map_cons, List.map_nil]); first | done | rfl | (simp only [List.length_drop, List.length_take]; rfl)) ?_; (with_reducible refine (fixed_Ratio.calls k 7 3 2 t158 t159 _ A3.out).mono ?_); rintro e w' ⟨rfl, ⟨nd, rfl⟩⟩; refine ⟨_, rfl, ?_⟩) | ((with_reducible refine gate_callee (f := 25) rfl ?_); refine goesL_ (some 30) rfl rfl Tryd.func25 (by kernel_rfl) rfl #[.int .i64 15, .int .i64 10] rfl (by (try simp only [List.map_toArray, List.map_cons, List.map_nil]); first | done | rfl | (simp only [List.length_drop, List.length_take]; rfl)) ?_; (with_reducible refine (fixed_Round.calls 15 10 t160 t161 _ A4.out).mono ?_); rintro e w' ⟨rfl, ⟨nd, rfl⟩⟩; refine ⟨_, rfl, ?_⟩) | ((with_reducible refine gate_dst (N := 36) rfl ?_); refine Kd.R_lit k28 _ 28 ?hg (N := 36) ?hd (xs := ([(⟨0, 0⟩ : S28), (⟨10, (-5)⟩ : S28)] : List (S28))) (inner := [.int .i64 0, .int .i64 0, .int .i64 10, .int .i64 (-5)]) (ok := fun _ => True) (okp := fun _ => True) ?hr ?hp (fun _ hk => hk) trivial (Below.refl _ _) (Nat.le_refl _) (by simp) ?_; (case hd => rfl); (case hg => rfl); (case hr => first | (go_simp; done) | (go_simp; rfl)); (case hp => exact (Reps.c2 (show Kd.M k28 _ _ _ (⟨0, 0⟩ : S28) [.int .i64 0, .int .i64 0] from (k28_mkM _ _ _ (⟨0, 0⟩ : S28) )) (Reps.c2 (show Kd.M k28 _ _ _ (⟨10, (-5)⟩ : S28) [.int .i64 10, .int .i64 (-5)] from (k28_mkM _ _ _ (⟨10, (-5)⟩ : S28) )) (Reps.none _ _)))); intro v163 w24 ho25 hb hg_ hnew_; clear hg_ hnew_; (first | rw [← Ny162.out] at ho25 | (simp only [Int.reduceToNat] at ho25; rw [← Ny162.out] at ho25)); have n0_ := Aside0.mk (Kd.R_lower ho25 (below_size (by repeat (first | (with_reducible first | exact HB.out | apply below_alloc | apply pw_below_drewN | apply below_drew1) | exact HB.out)))); have n1_ := Aside0.mk (below_step (by repeat (first | (with_reducible first | exact HB.out | apply below_alloc | apply pw_below_drewN | apply below_drew1) | exact HB.out)) hb); clear HB; have HO164 := n0_; have HB := n1_; clear n0_ n1_; clear hb ho25; obtain ⟨Ao26, co26, eo26⟩ := Kd.R_slice HO164.out; subst eo26) | ((with_reducible refine gate_callee (f := 13) rfl ?_); refine goesL_ (some 37) rfl rfl Tryd.func13 (by kernel_rfl) rfl #[.slice Ao26 y162.length co26, .int .i64 5] rfl (by (try simp only [List.map_toArray, List.map_cons, List.map_nil]); first | done | rfl | (simp only [List.length_drop, List.length_take]; rfl)) ?_; (with_reducible refine (fixed_At.calls k _ _ y162 5 t165 t166 _ ?side1 ?side2 A5.out).mono ?_); (case side1 => repeat (first | exact (Kd.R_reads' HO164.out).2.2 | (with_reducible refine Kd.C_alloc ?_ _) | (with_reducible refine Kd.C_drewN ?_ _) | (with_reducible refine Kd.C_drew ?_))); (case side2 => exact (Kd.R_reads' HO164.out).2.1); rintro e w27 ⟨rfl, hb⟩; refine ⟨_, rfl, ?_⟩; have n0_ := Aside0.mk (Kd.R_below (by (with_reducible repeat (first | apply Kd.R_alloc | apply Kd.R_drewN | apply Kd.R_drew)); exact HO164.out) hb); have n1_ := Aside0.mk (below_step (by repeat (first | (with_reducible first | exact HB.out | apply below_alloc | apply pw_below_drewN | apply below_drew1) | exact HB.out)) hb); clear HO164; clear HB; have HO164 := n0_; have HB := n1_; clear n0_ n1_; (try clear hb); (try clear hb2); (try clear hk); (try clear hi)) | ((with_reducible refine gate_callee (f := 14) rfl ?_); refine goesL_ (some 41) rfl rfl Tryd.func14 (by kernel_rfl) rfl #[.string (⟨#[50, 46, 53]⟩ : ByteArray)] rfl (by (try simp only [List.map_toArray, List.map_cons, List.map_nil]); first | done | rfl | (simp only [List.length_drop, List.length_take]; rfl)) ?_; (with_reducible refine (fixed_Parse.calls k (⟨#[50, 46, 53]⟩ : ByteArray) t167 t168 _ A6.out).mono ?_); rintro e w28 ⟨rfl, hb⟩; refine ⟨_, rfl, ?_⟩; have n0_ := Aside0.mk (Kd.R_below (by (with_reducible repeat (first | apply Kd.R_alloc | apply Kd.R_drewN | apply Kd.R_drew)); exact HO164.out) hb); have n1_ := Aside0.mk (below_step (by repeat (first | (with_reducible first | exact HB.out | apply below_alloc | apply pw_below_drewN | apply below_drew1) | exact HB.out)) hb); clear HO164; clear HB; have HO164 := n0_; have HB := n1_; clear n0_ n1_; (try clear hb); (try clear hb2); (try clear hk); (try clear hi)) | ((with_reducible refine gate_callee (f := 14) rfl ?_); refine goesL_ (some 45) rfl rfl Tryd.func14 (by kernel_rfl) rfl #[.string (⟨#[45, 48]⟩ : ByteArray)] rfl (by (try simp only [List.map_toArray, List.map_cons, List.map_nil]); first | done | rfl | (simp only [List.length_drop, List.length_take]; rfl)) ?_; (with_reducible refine (fixed_Parse.calls k (⟨#[45, 48]⟩ : ByteArray) t169 t170 _ A7.out).mono ?_); rintro e w29 ⟨rfl, hb⟩; refine ⟨_, rfl, ?_⟩; have n0_ := Aside0.mk (Kd.R_below (by (with_reducible repeat (first | apply Kd.R_alloc | apply Kd.R_drewN | apply Kd.R_drew)); exact HO164.out) hb); have n1_ := Aside0.mk (below_step (by repeat (first | (with_reducible first | exact HB.out | apply below_alloc | apply pw_below_drewN | apply below_drew1) | exact HB.out)) hb); clear HO164; clear HB; have HO164 := n0_; have HB := n1_; clear n0_ n1_; (try clear hb); (try clear hb2); (try clear hk); (try clear hi)) | ((with_reducible refine gate_callee (f := 18) rfl ?_); refine goesL_ (some 49) rfl rfl Tryd.func18 (by kernel_rfl) rfl #[.int .i64 1125899906842624, .int .i64 1] rfl (by (try simp only [List.map_toArray, List.map_cons, List.map_nil]); first | done | rfl | (simp only [List.length_drop, List.length_take]; rfl)) ?_; (with_reducible refine (fixed_Add.calls 1125899906842624 1 t171 t172 _ A8.out).mono ?_); rintro e w' ⟨rfl, ⟨nd, rfl⟩⟩; refine ⟨_, rfl, ?_⟩) | (go_at_call 15; (refine (fixed_Print.calls (-1500) t173 _ (by exact (Laid.below HL.out (by repeat (first | (with_reducible first | exact HB.out | apply below_alloc | apply pw_below_drewN | apply below_drew1) | exact HB.out)))) A23.out).mono ?_); rintro e w30 ⟨rfl, hb⟩; have n0_ := Aside0.mk (Kd.R_below (by (with_reducible repeat (first | apply Kd.R_alloc | apply Kd.R_drewN | apply Kd.R_drew)); exact HO164.out) hb); have n1_ := Aside0.mk (below_step (by repeat (first | (with_reducible first | exact HB.out | apply below_alloc | apply pw_below_drewN | apply below_drew1) | exact HB.out)) hb); clear HO164; clear HB; have HO164 := n0_; have HB := n1_; clear n0_ n1_; (try clear hb); (try clear hb2); (try clear hk); (try clear hi)))
                              go_ret
                              exact ⟨by first | rfl | (simp [errW_none, errW_some] <;> rfl) | (simp [*, errW_none, errW_some] <;> rfl), by repeat (first | (with_reducible first | exact HB.out | apply below_alloc | apply pw_below_drewN | apply below_drew1) | exact HB.out)⟩
                            · rw [if_neg c22] at H; exact absurd H (by rw [hr.out]; simp)
                          · rw [if_neg c21] at H; exact absurd H (by rw [hr.out]; simp)
                        · rw [if_neg c20] at H; exact absurd H (by rw [hr.out]; simp)
                      · rw [if_neg c19] at H; exact absurd H (by rw [hr.out]; simp)
                    · rw [if_neg c18] at H; exact absurd H (by rw [hr.out]; simp)
                  · rw [if_neg c17] at H; exact absurd H (by rw [hr.out]; simp)
                · rw [if_neg c16] at H; exact absurd H (by rw [hr.out]; simp)
              · rw [if_neg c15] at H; exact absurd H (by rw [hr.out]; simp)
            · rw [if_neg c14] at H; exact absurd H (by rw [hr.out]; simp)
          · rw [if_neg c13] at H; exact absurd H (by rw [hr.out]; simp)
        · rw [if_neg c12] at H; exact absurd H (by rw [hr.out]; simp)
      · rw [if_neg c11] at H; exact absurd H (by rw [hr.out]; simp)
    · rw [if_neg c10] at H; exact absurd H (by rw [hr.out]; simp)
  · rw [if_neg c9] at H; exact absurd H (by rw [hr.out]; simp)

theorem decDigits_1 : Lib.decDigits 1 = [49] := by rw [Lib.decDigits]; simp
theorem decDigits_1500 : Lib.decDigits 1500 = [49, 53, 48, 48] := by
  rw [Lib.decDigits, Lib.decDigits, Lib.decDigits, Lib.decDigits]; simp
theorem skiarealaw01_alive.print_eq : fixed_Print.f (-1500) = some ⟨#[45, 49, 46, 53, 48, 48]⟩ := by
  unfold fixed_Print.f printOf
  rw [if_pos (by decide), if_pos (by decide), show ((-1500 : Int).natAbs / 1000) = 1 from rfl, show 1000 + (-1500 : Int).natAbs % 1000 = 1500 from rfl, decDigits_1, decDigits_1500]
  rfl
theorem skiarealaw01_alive.g_true : skiarealaw01_alive.g 200 = some true := by
  have h1 : fixed_Mul.f 2500 2500 = some (6250, 0) := by decide +kernel
  have h2 : fixed_Div.f 200 1000 3000 = some (333, 0) := by decide +kernel
  have h3 : fixed_Ratio.f 200 7 3 2 = some (10, 0) := by decide +kernel
  have h4 : fixed_Round.f 15 10 = some (20, 0) := by decide +kernel
  have h5 : fixed_At.f 200 ([(⟨0, 0⟩ : S28), (⟨10, (-5)⟩ : S28)] : List S28) 5 = some (-3, 0) := by decide +kernel
  have h6 : fixed_Parse.f 200 (⟨#[50, 46, 53]⟩ : ByteArray) = some (2500, 0) := by decide +kernel
  have h7 : fixed_Parse.f 200 (⟨#[45, 48]⟩ : ByteArray) = some (0, 3) := by decide +kernel
  have h8 : fixed_Add.f 1125899906842624 1 = some (0, 12) := by decide +kernel
  unfold skiarealaw01_alive.g
  rw [h1, Option.bind_some, h2, Option.bind_some, h3, Option.bind_some, h4, Option.bind_some, h5, Option.bind_some, h6, Option.bind_some, h7, Option.bind_some, h8, Option.bind_some, skiarealaw01_alive.print_eq]
  decide +kernel
def skiarealaw01_alive.f : Option (Bool) := some true
theorem skiarealaw01_alive.calls (r : Bool) (w : World) (HL : Laid w) (h : skiarealaw01_alive.f = some r) :
    Calls Tryd.prog 12 #[] w fun e w' => e = .returned (.bool r) ∧ Below w.heap.size w w' := by
  obtain rfl : r = true := (Option.some.inj h).symm
  exact skiarealaw01_alive.walk 200 true w HL (Aside0.mk rfl) skiarealaw01_alive.g_true

end Go.Proofs.YtnoacoppinkloaaDoor.Pr
