-- merged and pruned by prune.py (the session's own program); its words go back to the kit's print
import Derived.Test.YtakkhomjpflkbaaProg
import Derived.Below
import Derived.Deep.Draws
import Derived.Deep.AppendLies
import Derived.Maps.AppendAt
import Derived.OwnWalk
import Derived.Laws.BytesArg
import Derived.Laws.MakeOwn
import Derived.Laws.OwnMore
import Derived.Deep.OwnRows
import Derived.Tactics
import Derived.Lib.ConvBytes
import Derived.Laws.Slices
import Derived.WalkKit
import Derived.KernelRfl
import Derived.RowKit3
import Derived.Deep.LoopGhost
import Derived.Deep.QuietTactic
import Derived.BigQuiet
import Derived.WideLaws
import Derived.Deep.DeepCutAuto
import Derived.Deep.CutBlock
import Derived.Deep.RegionHeld3
import Derived.Laws.Rows
import Derived.Lib.AppendStr
import Derived.ArgAppend
import Derived.Laws.IdiomCopy
import Derived.OrdersHeld
import Derived.Laws.BitsLemmas
import Derived.RowKit
import Derived.Laws.StructEq
import Derived.Deep.RegionLawGrows
import Derived.Lib.SliceRun
import Derived.Lib.OthersKept
import Derived.Lib.RuneCount
import Derived.Laws.Cover4
import Derived.Outline
import Derived.Shelf.Strings.Builder1
import Derived.Shelf.Strings.BuilderF
import Derived.Shelf.Strings.BuilderK
import Derived.Shelf.Utf8.RuneCount
import Derived.Shelf.Strings.Prefix
import Derived.Test.YtakkhomjpflkbaaZStrictWhole2
namespace Go.Proofs.Ytakkhomjpflkbaa.F
open Go.RowKit Go.Proofs.YtakkhomjpflkbaaX Go.Proofs.YtakkhomjpflkbaaW.PrintWords Go.Proofs.YtakkhomjpflkbaaW.PrintLast Go.Proofs.YtakkhomjpflkbaaW.PrintMore
attribute [local go_sem] max2_int min2_int max_two min_two max_three min_three max_four min_four   
attribute [local go_sem high] str_geq str_leq str_gtr
set_option linter.unusedVariables false
set_option linter.unusedSimpArgs false
attribute [local go_sem high] eqA192
def backhaullaw06_awake.f  : Option (Bool) := some true
set_option maxHeartbeats 8000000 in
set_option maxRecDepth 100000 in
theorem backhaullaw06_awake.calls (r : Bool)  (w : World) (h : backhaullaw06_awake.f  = some r) :
    Calls Try.prog 35 #[] w fun e w' => e = .returned (.bool r) ∧ Below w.heap.size w w' := by
  obtain rfl : r = true := by injection h with h; exact h.symm
  have hu192 := Try.underlying192
  have hu54 := Try.underlying54
  have HB := Aside0.mk (Below.refl w.heap.size w)
  have H : ((strict_New.f (⟨#[1, 7]⟩ : ByteArray)).bind fun bt492 => ((strict_Reader_Num.f 1000 bt492.1 bt492.2.1 bt492.2.2.1 bt492.2.2.2 1 9).bind fun bt497 => ((strict_Reader_Num.f 1000 bt497.2.1 bt497.2.2.1 bt497.2.2.2.1 bt497.2.2.2.2 1 6).bind fun bt502 => ((strict_Reader_Err.f bt502.2.1 bt502.2.2.1 bt502.2.2.2.1 bt502.2.2.2.2).bind fun bt507 => ((strict_Why.f bt507.1).bind fun bt512 => (if bt512.1 = 3 then ((strict_Reader_Err.f bt507.2.1 bt507.2.2.1 bt507.2.2.2.1 bt507.2.2.2.2).bind fun bt514 => ((strict_Must.f bt514.1).bind fun bt519 => ((strict_Why_cn22_3.f).bind fun bt522 => ((strict_Why.f none).bind fun bt524 => (if bt497.1 = 1 then (if bt502.1 = 0 then (if bt512.2 = 1 then ((strict_Reader_At.f bt514.2.1 bt514.2.2.1 bt514.2.2.2.1 bt514.2.2.2.2).bind fun bt526 => (if bt526.1 = 1 then (if (bt519.1 == 3 && (bt519.2 == 1)) = true then ((strict_Fault_Error.f 1000 bt519.1 bt519.2).bind fun t531 => (if t531.toList = ([101, 114, 114, 111, 114, 32, 51] : List UInt8) then (if bt522.1 = 2 then (if bt524.1 = 0 then ((strict_New.f (⟨#[0, 1, 65]⟩ : ByteArray)).bind fun bt532 => ((strict_Reader_Serial.f 1000 bt532.1 bt532.2.1 bt532.2.2.1 bt532.2.2.2).bind fun bt537 => (if bt537.1.toList = ([65] : List UInt8) then (some true) else (some false)))) else (some false)) else (some false)) else (some false))) else (some false)) else (some false))) else (some false)) else (some false)) else (some false)))))) else (some false))))))) = some true := by decide +kernel
  replace H := Option.bind_eq_some_iff.mp H
  obtain ⟨⟨t492, t493, t494, t495⟩, A10, H⟩ := H
  replace H : ((strict_Reader_Num.f 1000 t492 t493 t494 t495 1 9).bind fun bt497 => ((strict_Reader_Num.f 1000 bt497.2.1 bt497.2.2.1 bt497.2.2.2.1 bt497.2.2.2.2 1 6).bind fun bt502 => ((strict_Reader_Err.f bt502.2.1 bt502.2.2.1 bt502.2.2.2.1 bt502.2.2.2.2).bind fun bt507 => ((strict_Why.f bt507.1).bind fun bt512 => (if bt512.1 = 3 then ((strict_Reader_Err.f bt507.2.1 bt507.2.2.1 bt507.2.2.2.1 bt507.2.2.2.2).bind fun bt514 => ((strict_Must.f bt514.1).bind fun bt519 => ((strict_Why_cn22_3.f).bind fun bt522 => ((strict_Why.f none).bind fun bt524 => (if bt497.1 = 1 then (if bt502.1 = 0 then (if bt512.2 = 1 then ((strict_Reader_At.f bt514.2.1 bt514.2.2.1 bt514.2.2.2.1 bt514.2.2.2.2).bind fun bt526 => (if bt526.1 = 1 then (if (bt519.1 == 3 && (bt519.2 == 1)) = true then ((strict_Fault_Error.f 1000 bt519.1 bt519.2).bind fun t531 => (if t531.toList = ([101, 114, 114, 111, 114, 32, 51] : List UInt8) then (if bt522.1 = 2 then (if bt524.1 = 0 then ((strict_New.f (⟨#[0, 1, 65]⟩ : ByteArray)).bind fun bt532 => ((strict_Reader_Serial.f 1000 bt532.1 bt532.2.1 bt532.2.2.1 bt532.2.2.2).bind fun bt537 => (if bt537.1.toList = ([65] : List UInt8) then (some true) else (some false)))) else (some false)) else (some false)) else (some false))) else (some false)) else (some false))) else (some false)) else (some false)) else (some false)))))) else (some false)))))) = some true := H
  have A1 := Aside0.mk A10
  clear A10
  replace H := Option.bind_eq_some_iff.mp H
  obtain ⟨⟨t497, t498, t499, t500, t501⟩, A20, H⟩ := H
  replace H : ((strict_Reader_Num.f 1000 t498 t499 t500 t501 1 6).bind fun bt502 => ((strict_Reader_Err.f bt502.2.1 bt502.2.2.1 bt502.2.2.2.1 bt502.2.2.2.2).bind fun bt507 => ((strict_Why.f bt507.1).bind fun bt512 => (if bt512.1 = 3 then ((strict_Reader_Err.f bt507.2.1 bt507.2.2.1 bt507.2.2.2.1 bt507.2.2.2.2).bind fun bt514 => ((strict_Must.f bt514.1).bind fun bt519 => ((strict_Why_cn22_3.f).bind fun bt522 => ((strict_Why.f none).bind fun bt524 => (if t497 = 1 then (if bt502.1 = 0 then (if bt512.2 = 1 then ((strict_Reader_At.f bt514.2.1 bt514.2.2.1 bt514.2.2.2.1 bt514.2.2.2.2).bind fun bt526 => (if bt526.1 = 1 then (if (bt519.1 == 3 && (bt519.2 == 1)) = true then ((strict_Fault_Error.f 1000 bt519.1 bt519.2).bind fun t531 => (if t531.toList = ([101, 114, 114, 111, 114, 32, 51] : List UInt8) then (if bt522.1 = 2 then (if bt524.1 = 0 then ((strict_New.f (⟨#[0, 1, 65]⟩ : ByteArray)).bind fun bt532 => ((strict_Reader_Serial.f 1000 bt532.1 bt532.2.1 bt532.2.2.1 bt532.2.2.2).bind fun bt537 => (if bt537.1.toList = ([65] : List UInt8) then (some true) else (some false)))) else (some false)) else (some false)) else (some false))) else (some false)) else (some false))) else (some false)) else (some false)) else (some false)))))) else (some false))))) = some true := H
  have A2 := Aside0.mk A20
  clear A20
  replace H := Option.bind_eq_some_iff.mp H
  obtain ⟨⟨t502, t503, t504, t505, t506⟩, A30, H⟩ := H
  replace H : ((strict_Reader_Err.f t503 t504 t505 t506).bind fun bt507 => ((strict_Why.f bt507.1).bind fun bt512 => (if bt512.1 = 3 then ((strict_Reader_Err.f bt507.2.1 bt507.2.2.1 bt507.2.2.2.1 bt507.2.2.2.2).bind fun bt514 => ((strict_Must.f bt514.1).bind fun bt519 => ((strict_Why_cn22_3.f).bind fun bt522 => ((strict_Why.f none).bind fun bt524 => (if t497 = 1 then (if t502 = 0 then (if bt512.2 = 1 then ((strict_Reader_At.f bt514.2.1 bt514.2.2.1 bt514.2.2.2.1 bt514.2.2.2.2).bind fun bt526 => (if bt526.1 = 1 then (if (bt519.1 == 3 && (bt519.2 == 1)) = true then ((strict_Fault_Error.f 1000 bt519.1 bt519.2).bind fun t531 => (if t531.toList = ([101, 114, 114, 111, 114, 32, 51] : List UInt8) then (if bt522.1 = 2 then (if bt524.1 = 0 then ((strict_New.f (⟨#[0, 1, 65]⟩ : ByteArray)).bind fun bt532 => ((strict_Reader_Serial.f 1000 bt532.1 bt532.2.1 bt532.2.2.1 bt532.2.2.2).bind fun bt537 => (if bt537.1.toList = ([65] : List UInt8) then (some true) else (some false)))) else (some false)) else (some false)) else (some false))) else (some false)) else (some false))) else (some false)) else (some false)) else (some false)))))) else (some false)))) = some true := H
  have A3 := Aside0.mk A30
  clear A30
  replace H := Option.bind_eq_some_iff.mp H
  obtain ⟨⟨t507, t503, t504, t505, t506⟩, A40, H⟩ := H
  obtain ⟨rfl, rfl, rfl, rfl⟩ := strict_Reader_Err.same A40
  replace H : ((strict_Why.f t507).bind fun bt512 => (if bt512.1 = 3 then ((strict_Reader_Err.f t503 t504 t505 t506).bind fun bt514 => ((strict_Must.f bt514.1).bind fun bt519 => ((strict_Why_cn22_3.f).bind fun bt522 => ((strict_Why.f none).bind fun bt524 => (if t497 = 1 then (if t502 = 0 then (if bt512.2 = 1 then ((strict_Reader_At.f bt514.2.1 bt514.2.2.1 bt514.2.2.2.1 bt514.2.2.2.2).bind fun bt526 => (if bt526.1 = 1 then (if (bt519.1 == 3 && (bt519.2 == 1)) = true then ((strict_Fault_Error.f 1000 bt519.1 bt519.2).bind fun t531 => (if t531.toList = ([101, 114, 114, 111, 114, 32, 51] : List UInt8) then (if bt522.1 = 2 then (if bt524.1 = 0 then ((strict_New.f (⟨#[0, 1, 65]⟩ : ByteArray)).bind fun bt532 => ((strict_Reader_Serial.f 1000 bt532.1 bt532.2.1 bt532.2.2.1 bt532.2.2.2).bind fun bt537 => (if bt537.1.toList = ([65] : List UInt8) then (some true) else (some false)))) else (some false)) else (some false)) else (some false))) else (some false)) else (some false))) else (some false)) else (some false)) else (some false)))))) else (some false))) = some true := H
  have A4 := Aside0.mk A40
  clear A40
  replace H := Option.bind_eq_some_iff.mp H
  obtain ⟨⟨t512, t513⟩, A50, H⟩ := H
  replace H : (if t512 = 3 then ((strict_Reader_Err.f t503 t504 t505 t506).bind fun bt514 => ((strict_Must.f bt514.1).bind fun bt519 => ((strict_Why_cn22_3.f).bind fun bt522 => ((strict_Why.f none).bind fun bt524 => (if t497 = 1 then (if t502 = 0 then (if t513 = 1 then ((strict_Reader_At.f bt514.2.1 bt514.2.2.1 bt514.2.2.2.1 bt514.2.2.2.2).bind fun bt526 => (if bt526.1 = 1 then (if (bt519.1 == 3 && (bt519.2 == 1)) = true then ((strict_Fault_Error.f 1000 bt519.1 bt519.2).bind fun t531 => (if t531.toList = ([101, 114, 114, 111, 114, 32, 51] : List UInt8) then (if bt522.1 = 2 then (if bt524.1 = 0 then ((strict_New.f (⟨#[0, 1, 65]⟩ : ByteArray)).bind fun bt532 => ((strict_Reader_Serial.f 1000 bt532.1 bt532.2.1 bt532.2.2.1 bt532.2.2.2).bind fun bt537 => (if bt537.1.toList = ([65] : List UInt8) then (some true) else (some false)))) else (some false)) else (some false)) else (some false))) else (some false)) else (some false))) else (some false)) else (some false)) else (some false)))))) else (some false)) = some true := H
  have A5 := Aside0.mk A50
  clear A50
  by_cases c6 : t512 = 3
  · rw [if_pos c6] at H
    have c6b0 : (t512 == 3) = true := beq_iff_eq.mpr c6
    have c6b1 : (t512 != 3) = false := bne_eq_false_iff_eq.mpr c6
    clear c6
    replace H := Option.bind_eq_some_iff.mp H
    obtain ⟨⟨t514, t503, t504, t505, t506⟩, A70, H⟩ := H
    obtain ⟨rfl, rfl, rfl, rfl⟩ := strict_Reader_Err.same A70
    replace H : ((strict_Must.f t514).bind fun bt519 => ((strict_Why_cn22_3.f).bind fun bt522 => ((strict_Why.f none).bind fun bt524 => (if t497 = 1 then (if t502 = 0 then (if t513 = 1 then ((strict_Reader_At.f t503 t504 t505 t506).bind fun bt526 => (if bt526.1 = 1 then (if (bt519.1 == 3 && (bt519.2 == 1)) = true then ((strict_Fault_Error.f 1000 bt519.1 bt519.2).bind fun t531 => (if t531.toList = ([101, 114, 114, 111, 114, 32, 51] : List UInt8) then (if bt522.1 = 2 then (if bt524.1 = 0 then ((strict_New.f (⟨#[0, 1, 65]⟩ : ByteArray)).bind fun bt532 => ((strict_Reader_Serial.f 1000 bt532.1 bt532.2.1 bt532.2.2.1 bt532.2.2.2).bind fun bt537 => (if bt537.1.toList = ([65] : List UInt8) then (some true) else (some false)))) else (some false)) else (some false)) else (some false))) else (some false)) else (some false))) else (some false)) else (some false)) else (some false))))) = some true := H
    have A7 := Aside0.mk A70
    clear A70
    replace H := Option.bind_eq_some_iff.mp H
    obtain ⟨⟨t519, t520⟩, A80, H⟩ := H
    replace H : ((strict_Why_cn22_3.f).bind fun bt522 => ((strict_Why.f none).bind fun bt524 => (if t497 = 1 then (if t502 = 0 then (if t513 = 1 then ((strict_Reader_At.f t503 t504 t505 t506).bind fun bt526 => (if bt526.1 = 1 then (if (t519 == 3 && (t520 == 1)) = true then ((strict_Fault_Error.f 1000 t519 t520).bind fun t531 => (if t531.toList = ([101, 114, 114, 111, 114, 32, 51] : List UInt8) then (if bt522.1 = 2 then (if bt524.1 = 0 then ((strict_New.f (⟨#[0, 1, 65]⟩ : ByteArray)).bind fun bt532 => ((strict_Reader_Serial.f 1000 bt532.1 bt532.2.1 bt532.2.2.1 bt532.2.2.2).bind fun bt537 => (if bt537.1.toList = ([65] : List UInt8) then (some true) else (some false)))) else (some false)) else (some false)) else (some false))) else (some false)) else (some false))) else (some false)) else (some false)) else (some false)))) = some true := H
    have A8 := Aside0.mk A80
    clear A80
    replace H := Option.bind_eq_some_iff.mp H
    obtain ⟨⟨t522, t523⟩, A90, H⟩ := H
    replace H : ((strict_Why.f none).bind fun bt524 => (if t497 = 1 then (if t502 = 0 then (if t513 = 1 then ((strict_Reader_At.f t503 t504 t505 t506).bind fun bt526 => (if bt526.1 = 1 then (if (t519 == 3 && (t520 == 1)) = true then ((strict_Fault_Error.f 1000 t519 t520).bind fun t531 => (if t531.toList = ([101, 114, 114, 111, 114, 32, 51] : List UInt8) then (if t522 = 2 then (if bt524.1 = 0 then ((strict_New.f (⟨#[0, 1, 65]⟩ : ByteArray)).bind fun bt532 => ((strict_Reader_Serial.f 1000 bt532.1 bt532.2.1 bt532.2.2.1 bt532.2.2.2).bind fun bt537 => (if bt537.1.toList = ([65] : List UInt8) then (some true) else (some false)))) else (some false)) else (some false)) else (some false))) else (some false)) else (some false))) else (some false)) else (some false)) else (some false))) = some true := H
    have A9 := Aside0.mk A90
    clear A90
    replace H := Option.bind_eq_some_iff.mp H
    obtain ⟨⟨t524, t525⟩, A100, H⟩ := H
    replace H : (if t497 = 1 then (if t502 = 0 then (if t513 = 1 then ((strict_Reader_At.f t503 t504 t505 t506).bind fun bt526 => (if bt526.1 = 1 then (if (t519 == 3 && (t520 == 1)) = true then ((strict_Fault_Error.f 1000 t519 t520).bind fun t531 => (if t531.toList = ([101, 114, 114, 111, 114, 32, 51] : List UInt8) then (if t522 = 2 then (if t524 = 0 then ((strict_New.f (⟨#[0, 1, 65]⟩ : ByteArray)).bind fun bt532 => ((strict_Reader_Serial.f 1000 bt532.1 bt532.2.1 bt532.2.2.1 bt532.2.2.2).bind fun bt537 => (if bt537.1.toList = ([65] : List UInt8) then (some true) else (some false)))) else (some false)) else (some false)) else (some false))) else (some false)) else (some false))) else (some false)) else (some false)) else (some false)) = some true := H
    have A10 := Aside0.mk A100
    clear A100
    by_cases c11 : t497 = 1
    · rw [if_pos c11] at H
      have c11b0 : (t497 == 1) = true := beq_iff_eq.mpr c11
      have c11b1 : (t497 != 1) = false := bne_eq_false_iff_eq.mpr c11
      clear c11
      by_cases c12 : t502 = 0
      · rw [if_pos c12] at H
        have c12b0 : (t502 == 0) = true := beq_iff_eq.mpr c12
        have c12b1 : (t502 != 0) = false := bne_eq_false_iff_eq.mpr c12
        clear c12
        by_cases c13 : t513 = 1
        · rw [if_pos c13] at H
          have c13b0 : (t513 == 1) = true := beq_iff_eq.mpr c13
          have c13b1 : (t513 != 1) = false := bne_eq_false_iff_eq.mpr c13
          clear c13
          replace H := Option.bind_eq_some_iff.mp H
          obtain ⟨⟨t526, t503, t504, t505, t506⟩, A140, H⟩ := H
          obtain ⟨rfl, rfl, rfl, rfl⟩ := strict_Reader_At.same A140
          replace H : (if t526 = 1 then (if (t519 == 3 && (t520 == 1)) = true then ((strict_Fault_Error.f 1000 t519 t520).bind fun t531 => (if t531.toList = ([101, 114, 114, 111, 114, 32, 51] : List UInt8) then (if t522 = 2 then (if t524 = 0 then ((strict_New.f (⟨#[0, 1, 65]⟩ : ByteArray)).bind fun bt532 => ((strict_Reader_Serial.f 1000 bt532.1 bt532.2.1 bt532.2.2.1 bt532.2.2.2).bind fun bt537 => (if bt537.1.toList = ([65] : List UInt8) then (some true) else (some false)))) else (some false)) else (some false)) else (some false))) else (some false)) else (some false)) = some true := H
          have A14 := Aside0.mk A140
          clear A140
          by_cases c15 : t526 = 1
          · rw [if_pos c15] at H
            have c15b0 : (t526 == 1) = true := beq_iff_eq.mpr c15
            have c15b1 : (t526 != 1) = false := bne_eq_false_iff_eq.mpr c15
            clear c15
            by_cases c16 : (t519 == 3 && (t520 == 1)) = true
            · rw [if_pos c16] at H
              have c16b0 : (t519 == 3 && (t520 == 1)) = true := c16
              (try (have c16b1 : decide (t519 = 3 && (t520 == 1)) = true := by simpa using c16))
              (try (have c16b2 : (t519 == 3 && (t520 == 1)) = true := by simpa using c16))
              clear c16
              replace H := Option.bind_eq_some_iff.mp H
              obtain ⟨t531, A170, H⟩ := H
              replace H : (if t531.toList = ([101, 114, 114, 111, 114, 32, 51] : List UInt8) then (if t522 = 2 then (if t524 = 0 then ((strict_New.f (⟨#[0, 1, 65]⟩ : ByteArray)).bind fun bt532 => ((strict_Reader_Serial.f 1000 bt532.1 bt532.2.1 bt532.2.2.1 bt532.2.2.2).bind fun bt537 => (if bt537.1.toList = ([65] : List UInt8) then (some true) else (some false)))) else (some false)) else (some false)) else (some false)) = some true := H
              have A17 := Aside0.mk A170
              clear A170
              by_cases c18 : t531.toList = ([101, 114, 114, 111, 114, 32, 51] : List UInt8)
              · rw [if_pos c18] at H
                have c18b0 : (t531.toList == ([101, 114, 114, 111, 114, 32, 51] : List UInt8)) = true := beq_iff_eq.mpr c18
                have c18b1 : (t531.toList != ([101, 114, 114, 111, 114, 32, 51] : List UInt8)) = false := bne_eq_false_iff_eq.mpr c18
                clear c18
                by_cases c19 : t522 = 2
                · rw [if_pos c19] at H
                  have c19b0 : (t522 == 2) = true := beq_iff_eq.mpr c19
                  have c19b1 : (t522 != 2) = false := bne_eq_false_iff_eq.mpr c19
                  clear c19
                  by_cases c20 : t524 = 0
                  · rw [if_pos c20] at H
                    have c20b0 : (t524 == 0) = true := beq_iff_eq.mpr c20
                    have c20b1 : (t524 != 0) = false := bne_eq_false_iff_eq.mpr c20
                    clear c20
                    replace H := Option.bind_eq_some_iff.mp H
                    obtain ⟨⟨t532, t533, t534, t535⟩, A210, H⟩ := H
                    replace H : ((strict_Reader_Serial.f 1000 t532 t533 t534 t535).bind fun bt537 => (if bt537.1.toList = ([65] : List UInt8) then (some true) else (some false))) = some true := H
                    have A21 := Aside0.mk A210
                    clear A210
                    replace H := Option.bind_eq_some_iff.mp H
                    obtain ⟨⟨t537, t538, t539, t540, t541⟩, A220, H⟩ := H
                    replace H : (if t537.toList = ([65] : List UInt8) then (some true) else (some false)) = some true := H
                    have A22 := Aside0.mk A220
                    clear A220
                    by_cases c23 : t537.toList = ([65] : List UInt8)
                    · rw [if_pos c23] at H
                      have c23b0 : (t537.toList == ([65] : List UInt8)) = true := beq_iff_eq.mpr c23
                      have c23b1 : (t537.toList != ([65] : List UInt8)) = false := bne_eq_false_iff_eq.mpr c23
                      clear c23
                      clear H
                      go_enter Try.func35, Try.ntmps35
                      go_wp2_with (first | ((with_reducible refine gate_callee (f := 36) rfl ?_); refine goesL_ (some 11) rfl rfl Try.func36 (by kernel_rfl) rfl #[.string (⟨#[1, 7]⟩ : ByteArray)] rfl (by (try simp only [List.map_toArray, List.map_cons, List.map_nil]); first | done | rfl | (simp only [List.length_drop, List.length_take]; rfl)) ?_; (with_reducible refine (strict_New.calls (⟨#[1, 7]⟩ : ByteArray) t492 t493 t494 t495 w _ ?side1 A1.out).mono ?_); (case side1 => repeat (first | (with_reducible first | exact HB.out | apply below_alloc | apply pw_below_drewN | apply below_drew1) | exact HB.out)); rintro e w24 ⟨g496, rfl, hi, hb, hb2⟩; refine ⟨_, rfl, ?_⟩; have n0_ := Aside0.mk (hb); have n1_ := Aside0.mk (hi); clear HB; have HB := n0_; have HI496 := n1_; clear n0_ n1_; (try clear hb); (try clear hb2); (try clear hk); (try clear hi); (try simp only [errW_none, errW_some])) | ((with_reducible refine gate_callee (f := 41) rfl ?_); refine goesL_ (some 13) rfl rfl Try.func41 (by kernel_rfl) rfl #[.pointer (some ⟨g496, 0, none⟩), .int .i64 1, .int .i64 9] rfl (by (try simp only [List.map_toArray, List.map_cons, List.map_nil]); first | done | rfl | (simp only [List.length_drop, List.length_take]; rfl)) ?_; (with_reducible refine (strict_Reader_Num.calls 1000 g496 t492 t493 t494 t495 1 9 t497 t498 t499 t500 t501 w _ ?side1 ?side2 A2.out).mono ?_); (case side1 => repeat (first | (with_reducible first | exact HI496.out | apply IsS56.alloc | apply IsS56.drewN | apply IsS56.drew | apply IsS56.set_0 | apply IsS56.set_1 | apply IsS56.set_2 | apply IsS56.set_3 | apply IsS56.sete_2 | with_unfolding_all rfl) | exact HI496.out)); (case side2 => repeat (first | (with_reducible first | exact HB.out | apply below_alloc | apply pw_below_drewN | apply below_drew1 | refine below_set ?_ (IsS56.ge HI496.out)) | exact HB.out)); rintro e w25 ⟨rfl, hi, hb, hk⟩; refine ⟨_, rfl, ?_⟩; have n0_ := Aside0.mk (hb); have n1_ := Aside0.mk (hi); clear HB; clear HI496; have HB := n0_; have HI496 := n1_; clear n0_ n1_; (try clear hb); (try clear hb2); (try clear hk); (try clear hi); (try simp only [errW_none, errW_some])) | ((with_reducible refine gate_callee (f := 41) rfl ?_); refine goesL_ (some 15) rfl rfl Try.func41 (by kernel_rfl) rfl #[.pointer (some ⟨g496, 0, none⟩), .int .i64 1, .int .i64 6] rfl (by (try simp only [List.map_toArray, List.map_cons, List.map_nil]); first | done | rfl | (simp only [List.length_drop, List.length_take]; rfl)) ?_; (with_reducible refine (strict_Reader_Num.calls 1000 g496 t498 t499 t500 t501 1 6 t502 t503 t504 t505 t506 w _ ?side1 ?side2 A3.out).mono ?_); (case side1 => repeat (first | (with_reducible first | exact HI496.out | apply IsS56.alloc | apply IsS56.drewN | apply IsS56.drew | apply IsS56.set_0 | apply IsS56.set_1 | apply IsS56.set_2 | apply IsS56.set_3 | apply IsS56.sete_2 | with_unfolding_all rfl) | exact HI496.out)); (case side2 => repeat (first | (with_reducible first | exact HB.out | apply below_alloc | apply pw_below_drewN | apply below_drew1 | refine below_set ?_ (IsS56.ge HI496.out)) | exact HB.out)); rintro e w26 ⟨rfl, hi, hb, hk⟩; refine ⟨_, rfl, ?_⟩; have n0_ := Aside0.mk (hb); have n1_ := Aside0.mk (hi); clear HB; clear HI496; have HB := n0_; have HI496 := n1_; clear n0_ n1_; (try clear hb); (try clear hb2); (try clear hk); (try clear hi); (try simp only [errW_none, errW_some])) | ((with_reducible refine gate_callee (f := 39) rfl ?_); refine goesL_ (some 18) rfl rfl Try.func39 (by kernel_rfl) rfl #[.pointer (some ⟨g496, 0, none⟩)] rfl (by (try simp only [List.map_toArray, List.map_cons, List.map_nil]); first | done | rfl | (simp only [List.length_drop, List.length_take]; rfl)) ?_; (with_reducible refine (strict_Reader_Err.calls g496 t503 t504 t505 t506 t507 t503 t504 t505 t506 w _ ?side1 ?side2 A4.out).mono ?_); (case side1 => repeat (first | (with_reducible first | exact HI496.out | apply IsS56.alloc | apply IsS56.drewN | apply IsS56.drew | apply IsS56.set_0 | apply IsS56.set_1 | apply IsS56.set_2 | apply IsS56.set_3 | apply IsS56.sete_2 | with_unfolding_all rfl) | exact HI496.out)); (case side2 => repeat (first | (with_reducible first | exact HB.out | apply below_alloc | apply pw_below_drewN | apply below_drew1 | refine below_set ?_ (IsS56.ge HI496.out)) | exact HB.out)); rintro e w27 ⟨rfl, hi, hb, hk⟩; refine ⟨_, rfl, ?_⟩; have n0_ := Aside0.mk (hb); have n1_ := Aside0.mk (hi); clear HB; clear HI496; have HB := n0_; have HI496 := n1_; clear n0_ n1_; (try clear hb); (try clear hb2); (try clear hk); (try clear hi); (try simp only [errW_none, errW_some]); have CA5 := fun W => strict_Why.calls t507 t512 t513 W A5.out; try simp only [errW_none, errW_some] at CA5) | (go_at_call 38; (with_reducible refine (CA5 _).mono ?_); rintro e w28 ⟨rfl, hb⟩; have n0_ := Aside0.mk (IsS56.below (by repeat (first | (with_reducible first | exact HI496.out | apply IsS56.alloc | apply IsS56.drewN | apply IsS56.drew | apply IsS56.set_0 | apply IsS56.set_1 | apply IsS56.set_2 | apply IsS56.set_3 | apply IsS56.sete_2 | with_unfolding_all rfl) | exact HI496.out)) hb); have n1_ := Aside0.mk (below_step (by repeat (first | (with_reducible first | exact HB.out | apply below_alloc | apply pw_below_drewN | apply below_drew1 | refine below_set ?_ (IsS56.ge HI496.out)) | exact HB.out)) hb); clear HI496; clear HB; have HI496 := n0_; have HB := n1_; clear n0_ n1_; (try clear hb); (try clear hb2); (try clear hk); (try clear hi)) | ((with_reducible refine gate_callee (f := 39) rfl ?_); refine goesL_ (some 25) rfl rfl Try.func39 (by kernel_rfl) rfl #[.pointer (some ⟨g496, 0, none⟩)] rfl (by (try simp only [List.map_toArray, List.map_cons, List.map_nil]); first | done | rfl | (simp only [List.length_drop, List.length_take]; rfl)) ?_; (with_reducible refine (strict_Reader_Err.calls g496 t503 t504 t505 t506 t514 t503 t504 t505 t506 w _ ?side1 ?side2 A7.out).mono ?_); (case side1 => repeat (first | (with_reducible first | exact HI496.out | apply IsS56.alloc | apply IsS56.drewN | apply IsS56.drew | apply IsS56.set_0 | apply IsS56.set_1 | apply IsS56.set_2 | apply IsS56.set_3 | apply IsS56.sete_2 | with_unfolding_all rfl) | exact HI496.out)); (case side2 => repeat (first | (with_reducible first | exact HB.out | apply below_alloc | apply pw_below_drewN | apply below_drew1 | refine below_set ?_ (IsS56.ge HI496.out)) | exact HB.out)); rintro e w29 ⟨rfl, hi, hb, hk⟩; refine ⟨_, rfl, ?_⟩; have n0_ := Aside0.mk (hb); have n1_ := Aside0.mk (hi); clear HB; clear HI496; have HB := n0_; have HI496 := n1_; clear n0_ n1_; (try clear hb); (try clear hb2); (try clear hk); (try clear hi); (try simp only [errW_none, errW_some]); have CA8 := fun W => strict_Must.calls t514 t519 t520 W A8.out; try simp only [errW_none, errW_some] at CA8) | (go_at_call 127; (with_reducible refine (CA8 _).mono ?_); rintro e w30 ⟨rfl, hb⟩; have n0_ := Aside0.mk (IsS56.below (by repeat (first | (with_reducible first | exact HI496.out | apply IsS56.alloc | apply IsS56.drewN | apply IsS56.drew | apply IsS56.set_0 | apply IsS56.set_1 | apply IsS56.set_2 | apply IsS56.set_3 | apply IsS56.sete_2 | with_unfolding_all rfl) | exact HI496.out)) hb); have n1_ := Aside0.mk (below_step (by repeat (first | (with_reducible first | exact HB.out | apply below_alloc | apply pw_below_drewN | apply below_drew1 | refine below_set ?_ (IsS56.ge HI496.out)) | exact HB.out)) hb); clear HI496; clear HB; have HI496 := n0_; have HB := n1_; clear n0_ n1_; (try clear hb); (try clear hb2); (try clear hk); (try clear hi)) | ((with_reducible refine gate_dst (N := 6) rfl ?_); refine box_event ?hg (N := 6) ?hd (cs := #[.int .i64 0, .int .i64 0]) (t := 192) ?hr ?_; (case hd => rfl); (case hg => rfl); (case hr => first | (go_simp; done) | (go_simp; rfl)); intro gb521 hg w31 hbox hb; have n0_ := Aside0.mk (IsS56.below (by repeat (first | (with_reducible first | exact HI496.out | apply IsS56.alloc | apply IsS56.drewN | apply IsS56.drew | apply IsS56.set_0 | apply IsS56.set_1 | apply IsS56.set_2 | apply IsS56.set_3 | apply IsS56.sete_2 | with_unfolding_all rfl) | exact HI496.out)) hb); have n1_ := Aside0.mk (below_step (by repeat (first | (with_reducible first | exact HB.out | apply below_alloc | apply pw_below_drewN | apply below_drew1 | refine below_set ?_ (IsS56.ge HI496.out)) | exact HB.out)) hb); have n2_ := Aside0.mk (hbox); have n3_ := Aside0.mk ((by rw [hg]; exact (below_size (by repeat (first | (with_reducible first | exact HB.out | apply below_alloc | apply pw_below_drewN | apply below_drew1 | refine below_set ?_ (IsS56.ge HI496.out)) | exact HB.out))) : w.heap.size ≤ gb521)); have n4_ := Aside0.mk ((by rw [hg]; exact (below_size (by repeat (first | (with_reducible first | exact HB.out | apply below_alloc | apply pw_below_drewN | apply below_drew1 | refine below_set ?_ (IsS56.ge HI496.out)) | exact HB.out))) : w.heap.size ≤ gb521)); have n5_ := Aside0.mk ((by rw [hg]; exact Nat.ne_of_lt (IsS56.lt (show IsS56 w _ g496 t503 t504 t505 t506 from by repeat (first | (with_reducible first | exact HI496.out | apply IsS56.alloc | apply IsS56.drewN | apply IsS56.drew | apply IsS56.set_0 | apply IsS56.set_1 | apply IsS56.set_2 | apply IsS56.set_3 | apply IsS56.sete_2 | with_unfolding_all rfl) | exact HI496.out))) : g496 ≠ gb521)); have n6_ := Aside0.mk ((by rw [hg]; exact Nat.ne_of_gt (IsS56.lt (show IsS56 w _ g496 t503 t504 t505 t506 from by repeat (first | (with_reducible first | exact HI496.out | apply IsS56.alloc | apply IsS56.drewN | apply IsS56.drew | apply IsS56.set_0 | apply IsS56.set_1 | apply IsS56.set_2 | apply IsS56.set_3 | apply IsS56.sete_2 | with_unfolding_all rfl) | exact HI496.out))) : gb521 ≠ g496)); clear HI496; clear HB; have HI496 := n0_; have HB := n1_; have BK521 := n2_; have GW521 := n3_; have GE521 := n4_; have NB496_521 := n5_; have NB521_496 := n6_; clear n0_ n1_ n2_ n3_ n4_ n5_ n6_; clear hb hbox hg; have hnb32 := NB521_496.out; have hnc32 := NB496_521.out; have hcz33_0 : w31.cell? ⟨gb521, 0, none⟩ = some (.int .i64 0) := (blk_cell BK521.out 0).trans rfl; have hcz33_1 : w31.cell? ⟨gb521, 1, none⟩ = some (.int .i64 0) := (blk_cell BK521.out 1).trans rfl; have hfz33_0 := blk_frozen BK521.out 0; have hfz33_1 := blk_frozen BK521.out 1) | (go_at_call 38; (with_reducible refine (strict_Why_cn22_3.calls  t522 t523 _ A9.out).mono ?_); rintro e w34 ⟨rfl, hb⟩; have n0_ := Aside0.mk (IsS56.below (show IsS56 w ((w31.setCell ⟨gb521, 0, none⟩ (.int .i64 t519)).setCell ⟨gb521, 1, none⟩ (.int .i64 t520)) g496 t503 t504 t505 t506 from by repeat (first | (with_reducible first | exact HI496.out | apply IsS56.alloc | apply IsS56.drewN | apply IsS56.drew | apply IsS56.set_0 | apply IsS56.set_1 | apply IsS56.set_2 | apply IsS56.set_3 | apply IsS56.sete_2 | with_unfolding_all rfl | refine IsS56.far ?_ NB496_521.out _) | exact HI496.out)) hb); have n1_ := Aside0.mk (blk_below (g := gb521) (o := .cells #[.int .i64 t519, .int .i64 t520] 192 (0, 0)) (by (with_reducible repeat (first | refine blk_drewN ?_ _ | refine blk_drew ?_ | refine blk_alloc ?_ _)); refine blk_put (cs := #[.int .i64 t519, .int .i64 0]) ?_ 1 _ rfl; (with_reducible repeat (first | refine blk_drewN ?_ _ | refine blk_drew ?_ | refine blk_alloc ?_ _)); refine blk_put (cs := #[.int .i64 0, .int .i64 0]) ?_ 0 _ rfl; (with_reducible repeat (first | refine blk_drewN ?_ _ | refine blk_drew ?_ | refine blk_alloc ?_ _)); exact BK521.out) hb); have n2_ := Aside0.mk (below_step (by repeat (first | (with_reducible first | exact HB.out | apply below_alloc | apply pw_below_drewN | apply below_drew1 | refine below_set ?_ (IsS56.ge HI496.out) | refine below_set ?_ GE521.out) | exact HB.out)) hb); clear HI496; clear BK521; clear HB; have HI496 := n0_; have BK521 := n1_; have HB := n2_; clear n0_ n1_ n2_; (try clear hb); (try clear hb2); (try clear hk); (try clear hi); have CA10 := fun W => strict_Why.calls none t524 t525 W A10.out; try simp only [errW_none, errW_some] at CA10) | (go_at_call 38; (with_reducible refine (CA10 _).mono ?_); rintro e w35 ⟨rfl, hb⟩; have n0_ := Aside0.mk (IsS56.below (by repeat (first | (with_reducible first | exact HI496.out | apply IsS56.alloc | apply IsS56.drewN | apply IsS56.drew | apply IsS56.set_0 | apply IsS56.set_1 | apply IsS56.set_2 | apply IsS56.set_3 | apply IsS56.sete_2 | with_unfolding_all rfl | refine IsS56.far ?_ NB496_521.out _) | exact HI496.out)) hb); have n1_ := Aside0.mk (blk_below (g := gb521) (o := .cells #[.int .i64 t519, .int .i64 t520] 192 (0, 0)) (by (with_reducible repeat (first | refine blk_drewN ?_ _ | refine blk_drew ?_ | refine blk_alloc ?_ _)); exact BK521.out) hb); have n2_ := Aside0.mk (below_step (by repeat (first | (with_reducible first | exact HB.out | apply below_alloc | apply pw_below_drewN | apply below_drew1 | refine below_set ?_ (IsS56.ge HI496.out) | refine below_set ?_ GE521.out) | exact HB.out)) hb); clear HI496; clear BK521; clear HB; have HI496 := n0_; have BK521 := n1_; have HB := n2_; clear n0_ n1_ n2_; (try clear hb); (try clear hb2); (try clear hk); (try clear hi)) | (go_at_call 40; (with_reducible refine (strict_Reader_At.calls g496 t503 t504 t505 t506 t526 t503 t504 t505 t506 w _ ?side1 ?side2 A14.out).mono ?_); (case side1 => repeat (first | (with_reducible first | exact HI496.out | apply IsS56.alloc | apply IsS56.drewN | apply IsS56.drew | apply IsS56.set_0 | apply IsS56.set_1 | apply IsS56.set_2 | apply IsS56.set_3 | apply IsS56.sete_2 | with_unfolding_all rfl | refine IsS56.far ?_ NB496_521.out _) | exact HI496.out)); (case side2 => repeat (first | (with_reducible first | exact HB.out | apply below_alloc | apply pw_below_drewN | apply below_drew1 | refine below_set ?_ (IsS56.ge HI496.out) | refine below_set ?_ GE521.out) | exact HB.out)); rintro e w36 ⟨rfl, hi, hb, hk⟩; have n0_ := Aside0.mk (KeepBut.blk hk (g' := gb521) (o := .cells #[.int .i64 t519, .int .i64 t520] 192 (0, 0)) (by (with_reducible repeat (first | refine blk_drewN ?_ _ | refine blk_drew ?_ | refine blk_alloc ?_ _)); exact BK521.out) NB521_496.out (by simp)); have n1_ := Aside0.mk (hb); have n2_ := Aside0.mk (hi); clear BK521; clear HB; clear HI496; have BK521 := n0_; have HB := n1_; have HI496 := n2_; clear n0_ n1_ n2_; (try clear hb); (try clear hb2); (try clear hk); (try clear hi); (try simp only [errW_none, errW_some]); have hcz37_0 : w36.cell? ⟨gb521, 0, none⟩ = some (.int .i64 t519) := (blk_cell BK521.out 0).trans rfl; have hcz37_1 : w36.cell? ⟨gb521, 1, none⟩ = some (.int .i64 t520) := (blk_cell BK521.out 1).trans rfl; have hfz37_0 := blk_frozen BK521.out 0; have hfz37_1 := blk_frozen BK521.out 1) | (go_at_call 128; (with_reducible refine (strict_Fault_Error.calls 1000 t519 t520 t531 _ A17.out).mono ?_); rintro e w38 ⟨rfl, hb⟩; have n0_ := Aside0.mk (IsS56.below (by repeat (first | (with_reducible first | exact HI496.out | apply IsS56.alloc | apply IsS56.drewN | apply IsS56.drew | apply IsS56.set_0 | apply IsS56.set_1 | apply IsS56.set_2 | apply IsS56.set_3 | apply IsS56.sete_2 | with_unfolding_all rfl | refine IsS56.far ?_ NB496_521.out _) | exact HI496.out)) hb); have n1_ := Aside0.mk (blk_below (g := gb521) (o := .cells #[.int .i64 t519, .int .i64 t520] 192 (0, 0)) (by (with_reducible repeat (first | refine blk_drewN ?_ _ | refine blk_drew ?_ | refine blk_alloc ?_ _)); exact BK521.out) hb); have n2_ := Aside0.mk (below_step (by repeat (first | (with_reducible first | exact HB.out | apply below_alloc | apply pw_below_drewN | apply below_drew1 | refine below_set ?_ (IsS56.ge HI496.out) | refine below_set ?_ GE521.out) | exact HB.out)) hb); clear HI496; clear BK521; clear HB; have HI496 := n0_; have BK521 := n1_; have HB := n2_; clear n0_ n1_ n2_; (try clear hb); (try clear hb2); (try clear hk); (try clear hi)) | (go_at_call 36; (with_reducible refine (strict_New.calls (⟨#[0, 1, 65]⟩ : ByteArray) t532 t533 t534 t535 w _ ?side1 A21.out).mono ?_); (case side1 => repeat (first | (with_reducible first | exact HB.out | apply below_alloc | apply pw_below_drewN | apply below_drew1 | refine below_set ?_ (IsS56.ge HI496.out) | refine below_set ?_ GE521.out) | exact HB.out)); rintro e w39 ⟨g536, rfl, hi, hb, hb2⟩; have n0_ := Aside0.mk (blk_below (g := gb521) (o := .cells #[.int .i64 t519, .int .i64 t520] 192 (0, 0)) (by (with_reducible repeat (first | refine blk_drewN ?_ _ | refine blk_drew ?_ | refine blk_alloc ?_ _)); exact BK521.out) hb2); have n1_ := Aside0.mk (hb); have n2_ := Aside0.mk (hi); have n3_ := Aside0.mk (IsS56.ne_blk hi (blk_below (g := gb521) (o := .cells #[.int .i64 t519, .int .i64 t520] 192 (0, 0)) (by (with_reducible repeat (first | refine blk_drewN ?_ _ | refine blk_drew ?_ | refine blk_alloc ?_ _)); exact BK521.out) hb2) (by decide)); have n4_ := Aside0.mk (Ne.symm (IsS56.ne_blk hi (blk_below (g := gb521) (o := .cells #[.int .i64 t519, .int .i64 t520] 192 (0, 0)) (by (with_reducible repeat (first | refine blk_drewN ?_ _ | refine blk_drew ?_ | refine blk_alloc ?_ _)); exact BK521.out) hb2) (by decide))); clear BK521; clear HB; have BK521 := n0_; have HB := n1_; have HI536 := n2_; have NB536_521 := n3_; have NB521_536 := n4_; clear n0_ n1_ n2_ n3_ n4_; (try clear hb); (try clear hb2); (try clear hk); (try clear hi); (try simp only [errW_none, errW_some])) | (go_at_call 43; (with_reducible refine (strict_Reader_Serial.calls 1000 g536 t532 t533 t534 t535 t537 t538 t539 t540 t541 w _ ?side1 ?side2 A22.out).mono ?_); (case side1 => repeat (first | (with_reducible first | exact HI536.out | apply IsS56.alloc | apply IsS56.drewN | apply IsS56.drew | apply IsS56.set_0 | apply IsS56.set_1 | apply IsS56.set_2 | apply IsS56.set_3 | apply IsS56.sete_2 | with_unfolding_all rfl | refine IsS56.far ?_ NB536_521.out _) | exact HI536.out)); (case side2 => repeat (first | (with_reducible first | exact HB.out | apply below_alloc | apply pw_below_drewN | apply below_drew1 | refine below_set ?_ (IsS56.ge HI536.out) | refine below_set ?_ GE521.out) | exact HB.out)); rintro e w40 ⟨rfl, hi, hb, hk⟩; have n0_ := Aside0.mk (KeepBut.blk hk (g' := gb521) (o := .cells #[.int .i64 t519, .int .i64 t520] 192 (0, 0)) (by (with_reducible repeat (first | refine blk_drewN ?_ _ | refine blk_drew ?_ | refine blk_alloc ?_ _)); exact BK521.out) NB521_536.out (by simp)); have n1_ := Aside0.mk (hb); have n2_ := Aside0.mk (hi); clear BK521; clear HB; clear HI536; have BK521 := n0_; have HB := n1_; have HI536 := n2_; clear n0_ n1_ n2_; (try clear hb); (try clear hb2); (try clear hk); (try clear hi); (try simp only [errW_none, errW_some])))
                      go_ret
                      exact ⟨by first | rfl | (simp [errW_none, errW_some] <;> rfl) | (simp [*, errW_none, errW_some] <;> rfl), by repeat (first | (with_reducible first | exact HB.out | apply below_alloc | apply pw_below_drewN | apply below_drew1 | refine below_set ?_ (IsS56.ge HI536.out) | refine below_set ?_ GE521.out) | exact HB.out)⟩
                    · rw [if_neg c23] at H
                      have c23b0 : (t537.toList == ([65] : List UInt8)) = false := beq_eq_false_iff_ne.mpr c23
                      have c23b1 : (t537.toList != ([65] : List UInt8)) = true := bne_iff_ne.mpr c23
                      exact absurd H (by simp)
                  · rw [if_neg c20] at H
                    have c20b0 : (t524 == 0) = false := beq_eq_false_iff_ne.mpr c20
                    have c20b1 : (t524 != 0) = true := bne_iff_ne.mpr c20
                    exact absurd H (by simp)
                · rw [if_neg c19] at H
                  have c19b0 : (t522 == 2) = false := beq_eq_false_iff_ne.mpr c19
                  have c19b1 : (t522 != 2) = true := bne_iff_ne.mpr c19
                  exact absurd H (by simp)
              · rw [if_neg c18] at H
                have c18b0 : (t531.toList == ([101, 114, 114, 111, 114, 32, 51] : List UInt8)) = false := beq_eq_false_iff_ne.mpr c18
                have c18b1 : (t531.toList != ([101, 114, 114, 111, 114, 32, 51] : List UInt8)) = true := bne_iff_ne.mpr c18
                exact absurd H (by simp)
            · rw [if_neg c16] at H
              have c16b0 : (t519 == 3 && (t520 == 1)) = false := by simpa using c16
              (try (have c16b1 : decide (t519 = 3 && (t520 == 1)) = false := by simpa using c16))
              (try (have c16b2 : (t519 == 3 && (t520 == 1)) = false := by simpa using c16))
              (try (have c16b3 : ¬ (t519 = 3 && (t520 == 1)) := by simpa using c16))
              clear c16
              exact absurd H (by simp)
          · rw [if_neg c15] at H
            have c15b0 : (t526 == 1) = false := beq_eq_false_iff_ne.mpr c15
            have c15b1 : (t526 != 1) = true := bne_iff_ne.mpr c15
            exact absurd H (by simp)
        · rw [if_neg c13] at H
          have c13b0 : (t513 == 1) = false := beq_eq_false_iff_ne.mpr c13
          have c13b1 : (t513 != 1) = true := bne_iff_ne.mpr c13
          exact absurd H (by simp)
      · rw [if_neg c12] at H
        have c12b0 : (t502 == 0) = false := beq_eq_false_iff_ne.mpr c12
        have c12b1 : (t502 != 0) = true := bne_iff_ne.mpr c12
        exact absurd H (by simp)
    · rw [if_neg c11] at H
      have c11b0 : (t497 == 1) = false := beq_eq_false_iff_ne.mpr c11
      have c11b1 : (t497 != 1) = true := bne_iff_ne.mpr c11
      exact absurd H (by simp)
  · rw [if_neg c6] at H
    have c6b0 : (t512 == 3) = false := beq_eq_false_iff_ne.mpr c6
    have c6b1 : (t512 != 3) = true := bne_iff_ne.mpr c6
    exact absurd H (by simp)
end Go.Proofs.Ytakkhomjpflkbaa.F
namespace Go.Proofs.Ytakkhomjpflkbaa.F
open Go.RowKit Go.Proofs.YtakkhomjpflkbaaX Go.Proofs.YtakkhomjpflkbaaW.PrintWords Go.Proofs.YtakkhomjpflkbaaW.PrintLast Go.Proofs.YtakkhomjpflkbaaW.PrintMore
attribute [local go_sem] max2_int min2_int max_two min_two max_three min_three max_four min_four   
attribute [local go_sem high] str_geq str_leq str_gtr
set_option linter.unusedVariables false
set_option linter.unusedSimpArgs false
def strict_Reader_Text.f (k : Nat) (s0_0 : ByteArray) (s0_1 : Int) (s0_2 : Option (Int × Int)) (s0_3 : Bool) (a1 : Int) : Option (ByteArray × ByteArray × Int × Option (Int × Int) × Bool) := (strict_Reader_goes.f s0_0 s0_1 s0_2 s0_3).bind fun bt542 => (if bt542.1 = true then ((octet_Take.f k bt542.2.1 bt542.2.2.1 a1).bind fun bt547 => ((strict_Reader_done.f bt542.2.1 bt542.2.2.1 bt542.2.2.2.1 bt542.2.2.2.2 bt547.2.1 bt547.2.2).bind fun bt551 => (if bt551.1 = true then (some (bt547.1, bt551.2.1, bt551.2.2.1, bt551.2.2.2.1, bt551.2.2.2.2)) else (some ((⟨#[]⟩ : ByteArray), bt551.2.1, bt551.2.2.1, bt551.2.2.2.1, bt551.2.2.2.2))))) else (some ((⟨#[]⟩ : ByteArray), bt542.2.1, bt542.2.2.1, bt542.2.2.2.1, bt542.2.2.2.2)))
theorem strict_Reader_Text.mono : ∀ a0 a1 a2 a3 a4 k, LeO (strict_Reader_Text.f k a0 a1 a2 a3 a4) (strict_Reader_Text.f (k + 1) a0 a1 a2 a3 a4) := by
  intro a0 a1 a2 a3 a4 k
  unfold strict_Reader_Text.f
  repeat' first
      | (with_reducible exact octet_Take.mono _ _ _ _)
      | (with_reducible exact LeO.refl _)
      | (with_reducible exact LeO.none _)
      | (with_reducible refine LeO.ite ?_ ?_)
      | (with_reducible refine LeO.bind ?_ (fun _ => ?_))
      | exact octet_Take.mono _ _ _ _
      | exact LeO.none _
      | refine LeO.ite ?_ ?_
      | refine LeO.bind ?_ (fun _ => ?_)
def strict_Reader_Text.T3 : Bool × List (List Nat × List Nat) := (true, [([], []), ([0], [0]), ([1], [1]), ([2], [2]), ([], []), ([4], [4]), ([5], [5]), ([6], [6]), ([], []), ([3, 7, 8], [3, 7, 8]), ([9], [9]), ([10], [10]), ([10], [10]), ([], []), ([13, 11, 9, 0, 1, 2, 3, 4, 5, 6, 7, 8, 9, 10, 11, 13], [11, 13]), ([12, 14, 0, 1, 2, 3, 4, 5, 6, 7, 8, 9, 10, 11, 12, 13, 14], [12])])
def strict_Reader_Text.B3 : List Nat := [0, 1, 3, 7, 0, 16, 48, 112, 0, 511, 1023, 2047, 2047, 0, 12287, 32767]
theorem strict_Reader_Text.tab3 : rtab .any (opsOf Try.f42 3) = strict_Reader_Text.T3 := by kernel_rfl
theorem strict_Reader_Text.bits3 : waitsOk strict_Reader_Text.T3.2 strict_Reader_Text.B3 = true := by kernel_rfl
set_option maxHeartbeats 8000000 in
set_option maxRecDepth 100000 in
theorem strict_Reader_Text.calls (k : Nat) (g : Nat) (s0_0 : ByteArray) (s0_1 : Int) (s0_2 : Option (Int × Int)) (s0_3 : Bool) (a1 : Int) (r1 : ByteArray) (r2 : ByteArray) (r3 : Int) (r4 : Option (Int × Int)) (r5 : Bool) (w0 w : World) (hI : IsS56 w0 w g s0_0 s0_1 s0_2 s0_3) (hB : Below w0.heap.size w0 w) (h : strict_Reader_Text.f k s0_0 s0_1 s0_2 s0_3 a1 = some (r1, r2, r3, r4, r5)) :
    Calls Try.prog 42 #[.pointer (some ⟨g, 0, none⟩), .int .i64 a1] w fun e w' => e = .returned (.string r1) ∧ IsS56 w0 w' g r2 r3 r4 r5 ∧ Below w0.heap.size w0 w' ∧ KeepBut w w' g none := by
  have hu207 := Try.underlying207
  have HI0 := Aside0.mk hI
  have HK := Aside0.mk (KeepBut.refl w g none)
  have HL := Aside0.mk hB.size
  clear hI
  have HW0 := Aside0.mk hB.size
  have HB := Aside0.mk hB
  clear hB
  have H : ((strict_Reader_goes.f s0_0 s0_1 s0_2 s0_3).bind fun bt542 => (if bt542.1 = true then ((octet_Take.f k bt542.2.1 bt542.2.2.1 a1).bind fun bt547 => ((strict_Reader_done.f bt542.2.1 bt542.2.2.1 bt542.2.2.2.1 bt542.2.2.2.2 bt547.2.1 bt547.2.2).bind fun bt551 => (if bt551.1 = true then (some (bt547.1, bt551.2.1, bt551.2.2.1, bt551.2.2.2.1, bt551.2.2.2.2)) else (some ((⟨#[]⟩ : ByteArray), bt551.2.1, bt551.2.2.1, bt551.2.2.2.1, bt551.2.2.2.2))))) else (some ((⟨#[]⟩ : ByteArray), bt542.2.1, bt542.2.2.1, bt542.2.2.2.1, bt542.2.2.2.2)))) = some (r1, r2, r3, r4, r5) := h
  clear h
  replace H := Option.bind_eq_some_iff.mp H
  obtain ⟨⟨t542, s0_0, s0_1, s0_2, s0_3⟩, A30, H⟩ := H
  obtain ⟨rfl, rfl, rfl, rfl⟩ := strict_Reader_goes.same A30
  replace H : (if t542 = true then ((octet_Take.f k s0_0 s0_1 a1).bind fun bt547 => ((strict_Reader_done.f s0_0 s0_1 s0_2 s0_3 bt547.2.1 bt547.2.2).bind fun bt551 => (if bt551.1 = true then (some (bt547.1, bt551.2.1, bt551.2.2.1, bt551.2.2.2.1, bt551.2.2.2.2)) else (some ((⟨#[]⟩ : ByteArray), bt551.2.1, bt551.2.2.1, bt551.2.2.2.1, bt551.2.2.2.2))))) else (some ((⟨#[]⟩ : ByteArray), s0_0, s0_1, s0_2, s0_3))) = some (r1, r2, r3, r4, r5) := H
  have A3 := Aside0.mk A30
  clear A30
  by_cases c4 : t542 = true
  · subst c4
    have H1 : ((octet_Take.f k s0_0 s0_1 a1).bind fun bt547 => ((strict_Reader_done.f s0_0 s0_1 s0_2 s0_3 bt547.2.1 bt547.2.2).bind fun bt551 => (if bt551.1 = true then (some (bt547.1, bt551.2.1, bt551.2.2.1, bt551.2.2.2.1, bt551.2.2.2.2)) else (some ((⟨#[]⟩ : ByteArray), bt551.2.1, bt551.2.2.1, bt551.2.2.2.1, bt551.2.2.2.2))))) = some (r1, r2, r3, r4, r5) := by first | (rw [if_pos rfl] at H; exact H) | rfl
    clear H
    have H := H1
    clear H1
    replace H := Option.bind_eq_some_iff.mp H
    obtain ⟨⟨t547, t548, t549⟩, A50, H⟩ := H
    replace H : ((strict_Reader_done.f s0_0 s0_1 s0_2 s0_3 t548 t549).bind fun bt551 => (if bt551.1 = true then (some (t547, bt551.2.1, bt551.2.2.1, bt551.2.2.2.1, bt551.2.2.2.2)) else (some ((⟨#[]⟩ : ByteArray), bt551.2.1, bt551.2.2.1, bt551.2.2.2.1, bt551.2.2.2.2)))) = some (r1, r2, r3, r4, r5) := H
    have A5 := Aside0.mk A50
    clear A50
    replace H := Option.bind_eq_some_iff.mp H
    obtain ⟨⟨t551, t552, t553, t554, t555⟩, A60, H⟩ := H
    replace H : (if t551 = true then (some (t547, t552, t553, t554, t555)) else (some ((⟨#[]⟩ : ByteArray), t552, t553, t554, t555))) = some (r1, r2, r3, r4, r5) := H
    have A6 := Aside0.mk A60
    clear A60
    by_cases c7 : t551 = true
    · subst c7
      have H1 : (some (t547, t552, t553, t554, t555)) = some (r1, r2, r3, r4, r5) := by first | (rw [if_pos rfl] at H; exact H) | rfl
      clear H
      have H := H1
      clear H1
      simp only [Option.some.injEq, Prod.mk.injEq] at H
      obtain ⟨rfl, rfl, rfl, rfl, rfl⟩ := H
      go_enter Try.func42, Try.ntmps42
      try go_wp2_with (first | ((with_reducible refine gate_callee (f := 133) rfl ?_); refine goesL_ (some 8) rfl rfl Try.func133 (by kernel_rfl) rfl #[.pointer (some ⟨g, 0, none⟩)] rfl (by (try simp only [List.map_toArray, List.map_cons, List.map_nil]); first | done | rfl | (simp only [List.length_drop, List.length_take]; rfl)) ?_; (with_reducible refine (strict_Reader_goes.calls g s0_0 s0_1 s0_2 s0_3 true s0_0 s0_1 s0_2 s0_3 w0 _ ?side1 ?side2 A3.out).mono ?_); (case side1 => repeat (first | (with_reducible first | exact HI0.out | apply IsS56.alloc | apply IsS56.drewN | apply IsS56.drew | apply IsS56.set_0 | apply IsS56.set_1 | apply IsS56.set_2 | apply IsS56.set_3 | apply IsS56.sete_2 | with_unfolding_all rfl) | exact HI0.out)); (case side2 => repeat (first | (with_reducible first | exact HB.out | apply below_alloc | apply pw_below_drewN | apply below_drew1 | refine below_set ?_ (IsS56.ge HI0.out)) | exact HB.out)); rintro e w8 ⟨rfl, hi, hb, hk⟩; refine ⟨_, rfl, ?_⟩; have n0_ := Aside0.mk (KeepBut.trans (by repeat (first | (with_reducible first | exact HK.out | apply KeepBut.set_ | apply keep_drewN | apply keep_drew | apply keep_alloc) | exact HK.out)) hk (.inl rfl)); have n1_ := Aside0.mk (hb); have n2_ := Aside0.mk (hi); clear HK; clear HB; clear HI0; have HK := n0_; have HB := n1_; have HI0 := n2_; clear n0_ n1_ n2_; (try clear hb); (try clear hb2); (try clear hk); (try clear hi); (try simp only [errW_none, errW_some]); have BKp0 : Aside0 (w8.heap[g]? = some (.cells #[.string s0_0, .int .i64 s0_1, errW s0_2, .bool s0_3] 56 (0, 0))) := ⟨by obtain ⟨hb_, _⟩ := HI0.out; exact hb_⟩))
      have n0_ := Aside0.mk (blk_drew BKp0.out)
      have n1_ := Aside0.mk (IsS56.drew HI0.out)
      have n2_ := Aside0.mk (keep_drew HK.out)
      have n3_ := Aside0.mk (below_drew1 HB.out)
      clear BKp0
      clear HI0
      clear HK
      clear HB
      have BKp0 := n0_
      have HI0 := n1_
      have HK := n2_
      have HB := n3_
      clear n0_ n1_ n2_ n3_
      refine start_ (n := 16) (S := fun w' => w'.cell? ⟨g, 0, none⟩ = some (.string s0_0) ∧ w'.cell? ⟨g, 1, none⟩ = some (.int .i64 s0_1) ∧ w'.cell? ⟨g, 2, none⟩ = some (errW s0_2) ∧ w'.cell? ⟨g, 3, none⟩ = some (.bool s0_3)) (ds := []) #[false, false, false, false, false, false, false, false, false, false, false, false, false, false, false, false] (by kernel_rfl) rfl rfl ⟨(blk_cell BKp0.out 0).trans rfl, (blk_cell BKp0.out 1).trans rfl, (blk_cell BKp0.out 2).trans rfl, (blk_cell BKp0.out 3).trans rfl⟩ (fun hHeld => ?_); refine with_tabW strict_Reader_Text.tab3 strict_Reader_Text.bits3 (fun HT_ HW_ => ?_)
      generalize w8.drew = w9 at BKp0 HI0 HK HB hHeld ⊢
      refine pure_ (i := 0) (N := some 11) (v := ?_) (a' := ?_) #[true, false, false, false, false, false, false, false, false, false, false, false, false, false, false, false] rfl rfl (any_of HT_.out (by kernel_rfl)) (fun _ _ _ h => h) (Or.inl ⟨by rfl, ?_⟩) ?_ ?_
      rotate_left
      · intro w'
        go_simp
        with_reducible rfl
      rotate_left
      · simp only [Act.put, List.setIfInBounds_toArray, List.set_cons_zero, List.set_cons_succ, i64_w, i32_w]
        rfl
      refine pure_ (i := 1) (N := some 12) (v := ?_) (a' := ?_) #[true, true, false, false, false, false, false, false, false, false, false, false, false, false, false, false] rfl rfl (any_of HT_.out (by kernel_rfl)) (fun _ _ _ h => h) (Or.inl ⟨by rfl, ?_⟩) ?_ ?_
      rotate_left
      · intro w'
        go_simp
        with_reducible rfl
      rotate_left
      · simp only [Act.put, List.setIfInBounds_toArray, List.set_cons_zero, List.set_cons_succ, i64_w, i32_w]
        rfl
      refine pure_ (i := 2) (N := some 13) (v := ?_) (a' := ?_) #[true, true, true, false, false, false, false, false, false, false, false, false, false, false, false, false] rfl rfl (any_of HT_.out (by kernel_rfl)) (fun _ _ _ h => h) (Or.inl ⟨by rfl, ?_⟩) ?_ ?_
      rotate_left
      · intro w'
        go_simp
        with_reducible rfl
      rotate_left
      · simp only [Act.put, List.setIfInBounds_toArray, List.set_cons_zero, List.set_cons_succ, i64_w, i32_w]
        rfl
      refine pure_ (i := 4) (N := some 15) (v := ?_) (a' := ?_) #[true, true, true, false, true, false, false, false, false, false, false, false, false, false, false, false] rfl rfl (any_of HT_.out (by kernel_rfl)) (fun _ _ _ h => h) (Or.inl ⟨by rfl, ?_⟩) ?_ ?_
      rotate_left
      · intro w'
        go_simp
        with_reducible rfl
      rotate_left
      · simp only [Act.put, List.setIfInBounds_toArray, List.set_cons_zero, List.set_cons_succ, i64_w, i32_w]
        rfl
      refine pure_ (i := 5) (N := some 16) (v := ?_) (a' := ?_) #[true, true, true, false, true, true, false, false, false, false, false, false, false, false, false, false] rfl rfl (any_of HT_.out (by kernel_rfl)) (fun _ _ _ h => h) (Or.inl ⟨by rfl, ?_⟩) ?_ ?_
      rotate_left
      · intro w'
        go_simp
        with_reducible rfl
      rotate_left
      · simp only [Act.put, List.setIfInBounds_toArray, List.set_cons_zero, List.set_cons_succ, i64_w, i32_w]
        rfl
      refine pure_ (i := 6) (N := some 17) (v := ?_) (a' := ?_) #[true, true, true, false, true, true, true, false, false, false, false, false, false, false, false, false] rfl rfl (any_of HT_.out (by kernel_rfl)) (fun _ _ _ h => h) (Or.inl ⟨by rfl, ?_⟩) ?_ ?_
      rotate_left
      · intro w'
        go_simp
        with_reducible rfl
      rotate_left
      · simp only [Act.put, List.setIfInBounds_toArray, List.set_cons_zero, List.set_cons_succ, i64_w, i32_w]
        rfl
      refine pure_ (i := 8) (N := some 19) (v := ?_) (a' := ?_) #[true, true, true, false, true, true, true, false, true, false, false, false, false, false, false, false] rfl rfl (any_of HT_.out (by kernel_rfl)) (fun _ _ _ h => h) (Or.inl ⟨by rfl, ?_⟩) ?_ ?_
      rotate_left
      · intro w'
        go_simp
        with_reducible rfl
      rotate_left
      · simp only [Act.put, List.setIfInBounds_toArray, List.set_cons_zero, List.set_cons_succ, i64_w, i32_w]
        rfl
      refine take_ (i := 3) (N := some 14) (v := ?_) (a' := ?_) #[true, true, true, true, true, true, true, false, true, false, false, false, false, false, false, false] rfl rfl (take_ofW HT_.out HW_.out (by kernel_rfl)) (fun _ _ _ h => h) (Or.inl ⟨by rfl, ?_⟩) hHeld ?_ ?_
      rotate_left
      · rintro w' ⟨s0, s1, s2, s3⟩
        go_simp
        with_reducible rfl
      rotate_left
      · simp only [Act.put, List.setIfInBounds_toArray, List.set_cons_zero, List.set_cons_succ, i64_w, i32_w]
        rfl
      refine take_ (i := 7) (N := some 18) (v := ?_) (a' := ?_) #[true, true, true, true, true, true, true, true, true, false, false, false, false, false, false, false] rfl rfl (take_ofW HT_.out HW_.out (by kernel_rfl)) (fun _ _ _ h => h) (Or.inl ⟨by rfl, ?_⟩) hHeld ?_ ?_
      rotate_left
      · rintro w' ⟨s0, s1, s2, s3⟩
        go_simp
        with_reducible rfl
      rotate_left
      · simp only [Act.put, List.setIfInBounds_toArray, List.set_cons_zero, List.set_cons_succ, i64_w, i32_w]
        rfl
      refine join_ (σ := Nat) 2 #[true, true, true, true, true, true, true, true, true, true, true, true, true, true, false, false] (fun s_ => [(20, .tuple #[.agg #[.string t547, .int .i64 t548], .int .i64 t549]), (5, .pointer (some ⟨s_, 0, none⟩)), (10, .tuple #[.agg #[.string t547, .int .i64 t548], .int .i64 t549]), (21, .agg #[.string t547, .int .i64 t548]), (22, .int .i64 t549)]) (fun s_ w' => (w'.cell? ⟨g, 0, none⟩ = some (.string s0_0) ∧ w'.cell? ⟨g, 1, none⟩ = some (.int .i64 s0_1) ∧ w'.cell? ⟨g, 2, none⟩ = some (errW s0_2) ∧ w'.cell? ⟨g, 3, none⟩ = some (.bool s0_3)) ∧ (w'.heap[s_]? = some (.cells #[.string (⟨#[]⟩ : ByteArray), .int .i64 0] 207 (0, 0))) ∧ (w'.heap[g]? = some (.cells #[.string s0_0, .int .i64 s0_1, errW s0_2, .bool s0_3] 56 (0, 0))) ∧ (w.heap.size ≤ s_) ∧ (w0.heap.size ≤ s_) ∧ (g ≠ s_) ∧ (s_ ≠ g) ∧ (IsS56 w0 w' g s0_0 s0_1 s0_2 s0_3) ∧ (KeepBut w w' g none) ∧ (Below w0.heap.size w0 w')) ?_ ?_
      rotate_left
      · intro hCont
        refine two_ (i := 9) (j := 13) (Ni := some 20) (Nj := some 5) #[true, true, true, true, true, true, true, true, true, true, false, false, false, false, false, false] #[true, true, true, true, true, true, true, true, true, false, false, false, false, true, false, false] rfl rfl rfl rfl (two_of HT_.out (by kernel_rfl)) (by decide) (by decide) (fun K hK => ?_) (fun K hK => ?_)
        · skip
          refine goes_ Try.func136 (by kernel_rfl) rfl #[.string s0_0, .int .i64 s0_1, .int .i64 a1] (by rfl) rfl rfl (by (try simp only [List.map_toArray, List.map_cons, List.map_nil]); first | done | rfl | (simp only [List.length_drop, List.length_take]; rfl)) ?_
          with_reducible refine (octet_Take.calls k s0_0 s0_1 a1 t547 t548 t549 _ A5.out).mono ?_
          rintro e w10 ⟨rfl, hb⟩
          refine ⟨_, rfl, ?_⟩
          have n0_ := Aside0.mk (IsS56.below (by repeat (first | (with_reducible first | exact HI0.out | apply IsS56.alloc | apply IsS56.drewN | apply IsS56.drew | apply IsS56.set_0 | apply IsS56.set_1 | apply IsS56.set_2 | apply IsS56.set_3 | apply IsS56.sete_2 | with_unfolding_all rfl | refine IsS56.far ?_ NB0_0.out _) | exact HI0.out)) hb)
          have n1_ := Aside0.mk (blk_below (g := g) (o := .cells #[.string s0_0, .int .i64 s0_1, errW s0_2, .bool s0_3] 56 (0, 0)) (by (with_reducible repeat (first | refine blk_drewN ?_ _ | refine blk_drew ?_ | refine blk_alloc ?_ _)); exact BKp0.out) hb)
          have n2_ := Aside0.mk (KeepBut.trans (by repeat (first | (with_reducible first | exact HK.out | apply KeepBut.set_ | apply keep_drewN | apply keep_drew | apply keep_alloc | refine keep_far ?_ GW0.out _) | exact HK.out)) (KeepBut.of_below hb g none) (.inl rfl))
          have n3_ := Aside0.mk (below_step (by repeat (first | (with_reducible first | exact HB.out | apply below_alloc | apply pw_below_drewN | apply below_drew1 | refine below_set ?_ (IsS56.ge HI0.out) | refine below_set ?_ GE0.out) | exact HB.out)) hb)
          clear HI0
          clear BKp0
          clear HK
          clear HB
          have HI0 := n0_
          have BKp0 := n1_
          have HK := n2_
          have HB := n3_
          clear n0_ n1_ n2_ n3_
          (try clear hb)
          (try clear hb2)
          (try clear hk)
          (try clear hi)
          refine hK.out _ _ ⟨(blk_cell BKp0.out 0).trans rfl, (blk_cell BKp0.out 1).trans rfl, (blk_cell BKp0.out 2).trans rfl, (blk_cell BKp0.out 3).trans rfl⟩ (fun hHeld => ?_)
          clear hK K
          refine norm_ (a' := ?_) ?_ ?_
          rotate_left
          · show Act.put _ (some 20) _ = _
            simp only [Act.put, List.setIfInBounds_toArray, List.set_cons_zero, List.set_cons_succ, i64_w, i32_w]
            rfl
          refine pure_ (i := 10) (N := some 10) (v := ?_) (a' := ?_) #[true, true, true, true, true, true, true, true, true, true, true, false, false, false, false, false] rfl rfl (any_of HT_.out (by kernel_rfl)) (fun _ _ _ h => h) (Or.inl ⟨by rfl, ?_⟩) ?_ ?_
          rotate_left
          · intro w'
            go_simp
            with_reducible rfl
          rotate_left
          · simp only [Act.put, List.setIfInBounds_toArray, List.set_cons_zero, List.set_cons_succ, i64_w, i32_w]
            rfl
          refine pure_ (i := 11) (N := some 21) (v := ?_) (a' := ?_) #[true, true, true, true, true, true, true, true, true, true, true, true, false, false, false, false] rfl rfl (any_of HT_.out (by kernel_rfl)) (fun _ _ _ h => h) (Or.inl ⟨by rfl, ?_⟩) ?_ ?_
          rotate_left
          · intro w'
            go_simp
            with_reducible rfl
          rotate_left
          · simp only [Act.put, List.setIfInBounds_toArray, List.set_cons_zero, List.set_cons_succ, i64_w, i32_w]
            rfl
          refine pure_ (i := 12) (N := some 22) (v := ?_) (a' := ?_) #[true, true, true, true, true, true, true, true, true, true, true, true, true, false, false, false] rfl rfl (any_of HT_.out (by kernel_rfl)) (fun _ _ _ h => h) (Or.inl ⟨by rfl, ?_⟩) ?_ ?_
          rotate_left
          · intro w'
            go_simp
            with_reducible rfl
          rotate_left
          · simp only [Act.put, List.setIfInBounds_toArray, List.set_cons_zero, List.set_cons_succ, i64_w, i32_w]
            rfl
          refine one_ (i := 13) (N := some 5) #[true, true, true, true, true, true, true, true, true, true, true, true, true, true, false, false] rfl rfl (one_of HT_.out (by kernel_rfl)) (by decide) (fun K hK => ?_)
          refine box_step ?hg (N := 5) ?hd (cs := #[.string (⟨#[]⟩ : ByteArray), .int .i64 0]) (t := 207) ?hr ?_; (case hd => rfl); (case hg => rfl); (case hr => first | (go_simp; done) | (go_simp; rfl))
          intro gb550 hg w11 hbox hb
          have n0_ := Aside0.mk (IsS56.below (by repeat (first | (with_reducible first | exact HI0.out | apply IsS56.alloc | apply IsS56.drewN | apply IsS56.drew | apply IsS56.set_0 | apply IsS56.set_1 | apply IsS56.set_2 | apply IsS56.set_3 | apply IsS56.sete_2 | with_unfolding_all rfl | refine IsS56.far ?_ NB0_0.out _) | exact HI0.out)) hb)
          have n1_ := Aside0.mk (blk_below (g := g) (o := .cells #[.string s0_0, .int .i64 s0_1, errW s0_2, .bool s0_3] 56 (0, 0)) (by (with_reducible repeat (first | refine blk_drewN ?_ _ | refine blk_drew ?_ | refine blk_alloc ?_ _)); exact BKp0.out) hb)
          have n2_ := Aside0.mk (KeepBut.trans (by repeat (first | (with_reducible first | exact HK.out | apply KeepBut.set_ | apply keep_drewN | apply keep_drew | apply keep_alloc | refine keep_far ?_ GW0.out _) | exact HK.out)) (KeepBut.of_below hb g none) (.inl rfl))
          have n3_ := Aside0.mk (below_step (by repeat (first | (with_reducible first | exact HB.out | apply below_alloc | apply pw_below_drewN | apply below_drew1 | refine below_set ?_ (IsS56.ge HI0.out) | refine below_set ?_ GE0.out) | exact HB.out)) hb)
          have n4_ := Aside0.mk (hbox)
          have n5_ := Aside0.mk ((by rw [hg]; exact (keep_size (w := w) (g := g) (row := none) (by repeat (first | (with_reducible first | exact HK.out | apply KeepBut.set_ | apply keep_drewN | apply keep_drew | apply keep_alloc | refine keep_far ?_ GW0.out _) | exact HK.out))) : w.heap.size ≤ gb550))
          have n6_ := Aside0.mk ((Nat.le_trans HW0.out (by rw [hg]; exact (keep_size (w := w) (g := g) (row := none) (by repeat (first | (with_reducible first | exact HK.out | apply KeepBut.set_ | apply keep_drewN | apply keep_drew | apply keep_alloc | refine keep_far ?_ GW0.out _) | exact HK.out))) : w.heap.size ≤ gb550) : w0.heap.size ≤ gb550))
          have n7_ := Aside0.mk ((by rw [hg]; exact Nat.ne_of_lt (blk_lt (g := g) (o := .cells #[.string s0_0, .int .i64 s0_1, errW s0_2, .bool s0_3] 56 (0, 0)) (by (with_reducible repeat (first | refine blk_drewN ?_ _ | refine blk_drew ?_ | refine blk_alloc ?_ _)); exact BKp0.out)) : g ≠ gb550))
          have n8_ := Aside0.mk ((by rw [hg]; exact Nat.ne_of_gt (blk_lt (g := g) (o := .cells #[.string s0_0, .int .i64 s0_1, errW s0_2, .bool s0_3] 56 (0, 0)) (by (with_reducible repeat (first | refine blk_drewN ?_ _ | refine blk_drew ?_ | refine blk_alloc ?_ _)); exact BKp0.out)) : gb550 ≠ g))
          have n9_ := Aside0.mk ((by rw [hg]; exact Nat.ne_of_lt (IsS56.lt (show IsS56 w0 _ g s0_0 s0_1 s0_2 s0_3 from by repeat (first | (with_reducible first | exact HI0.out | apply IsS56.alloc | apply IsS56.drewN | apply IsS56.drew | apply IsS56.set_0 | apply IsS56.set_1 | apply IsS56.set_2 | apply IsS56.set_3 | apply IsS56.sete_2 | with_unfolding_all rfl | refine IsS56.far ?_ NB0_0.out _) | exact HI0.out))) : g ≠ gb550))
          have n10_ := Aside0.mk ((by rw [hg]; exact Nat.ne_of_gt (IsS56.lt (show IsS56 w0 _ g s0_0 s0_1 s0_2 s0_3 from by repeat (first | (with_reducible first | exact HI0.out | apply IsS56.alloc | apply IsS56.drewN | apply IsS56.drew | apply IsS56.set_0 | apply IsS56.set_1 | apply IsS56.set_2 | apply IsS56.set_3 | apply IsS56.sete_2 | with_unfolding_all rfl | refine IsS56.far ?_ NB0_0.out _) | exact HI0.out))) : gb550 ≠ g))
          clear HI0
          clear BKp0
          clear HK
          clear HB
          have HI0 := n0_
          have BKp0 := n1_
          have HK := n2_
          have HB := n3_
          have BK550 := n4_
          have GW550 := n5_
          have GE550 := n6_
          have NB0_550 := n7_
          have NB550_0 := n8_
          have NB0_550 := n9_
          have NB550_0 := n10_
          clear n0_ n1_ n2_ n3_ n4_ n5_ n6_ n7_ n8_ n9_ n10_
          clear hb hbox hg
          refine hK.out _ _ ⟨(blk_cell BKp0.out 0).trans rfl, (blk_cell BKp0.out 1).trans rfl, (blk_cell BKp0.out 2).trans rfl, (blk_cell BKp0.out 3).trans rfl⟩ (fun hHeld => ?_)
          clear hK K
          refine norm_ (a' := ?_) ?_ ?_
          rotate_left
          · show Act.put _ (some 5) _ = _
            simp only [Act.put, List.setIfInBounds_toArray, List.set_cons_zero, List.set_cons_succ, i64_w, i32_w]
            rfl
          exact norm_ (by simp only [putAll, Act.put, List.setIfInBounds_toArray, List.set_cons_zero, List.set_cons_succ]) (hCont (gb550) _ ⟨hHeld, (by (with_reducible repeat (first | refine blk_drewN ?_ _ | refine blk_drew ?_ | refine blk_alloc ?_ _)); exact BK550.out), (by (with_reducible repeat (first | refine blk_drewN ?_ _ | refine blk_drew ?_ | refine blk_alloc ?_ _)); exact BKp0.out), GW550.out, GE550.out, NB0_550.out, NB550_0.out, (by repeat (first | (with_reducible first | exact HI0.out | apply IsS56.alloc | apply IsS56.drewN | apply IsS56.drew | apply IsS56.set_0 | apply IsS56.set_1 | apply IsS56.set_2 | apply IsS56.set_3 | apply IsS56.sete_2 | with_unfolding_all rfl | refine IsS56.far ?_ NB0_0.out _ | refine IsS56.far ?_ NB0_550.out _) | exact HI0.out)), (by repeat (first | (with_reducible first | exact HK.out | apply KeepBut.set_ | apply keep_drewN | apply keep_drew | apply keep_alloc | refine keep_far ?_ GW0.out _ | refine keep_far ?_ GW550.out _) | exact HK.out)), (by repeat (first | (with_reducible first | exact HB.out | apply below_alloc | apply pw_below_drewN | apply below_drew1 | refine below_set ?_ (IsS56.ge HI0.out) | refine below_set ?_ GE0.out | refine below_set ?_ GE550.out) | exact HB.out))⟩)
        · skip
          refine box_step ?hg (N := 5) ?hd (cs := #[.string (⟨#[]⟩ : ByteArray), .int .i64 0]) (t := 207) ?hr ?_; (case hd => rfl); (case hg => rfl); (case hr => first | (go_simp; done) | (go_simp; rfl))
          intro gb550 hg w10 hbox hb
          have n0_ := Aside0.mk (IsS56.below (by repeat (first | (with_reducible first | exact HI0.out | apply IsS56.alloc | apply IsS56.drewN | apply IsS56.drew | apply IsS56.set_0 | apply IsS56.set_1 | apply IsS56.set_2 | apply IsS56.set_3 | apply IsS56.sete_2 | with_unfolding_all rfl | refine IsS56.far ?_ NB0_0.out _) | exact HI0.out)) hb)
          have n1_ := Aside0.mk (blk_below (g := g) (o := .cells #[.string s0_0, .int .i64 s0_1, errW s0_2, .bool s0_3] 56 (0, 0)) (by (with_reducible repeat (first | refine blk_drewN ?_ _ | refine blk_drew ?_ | refine blk_alloc ?_ _)); exact BKp0.out) hb)
          have n2_ := Aside0.mk (KeepBut.trans (by repeat (first | (with_reducible first | exact HK.out | apply KeepBut.set_ | apply keep_drewN | apply keep_drew | apply keep_alloc | refine keep_far ?_ GW0.out _) | exact HK.out)) (KeepBut.of_below hb g none) (.inl rfl))
          have n3_ := Aside0.mk (below_step (by repeat (first | (with_reducible first | exact HB.out | apply below_alloc | apply pw_below_drewN | apply below_drew1 | refine below_set ?_ (IsS56.ge HI0.out) | refine below_set ?_ GE0.out) | exact HB.out)) hb)
          have n4_ := Aside0.mk (hbox)
          have n5_ := Aside0.mk ((by rw [hg]; exact (keep_size (w := w) (g := g) (row := none) (by repeat (first | (with_reducible first | exact HK.out | apply KeepBut.set_ | apply keep_drewN | apply keep_drew | apply keep_alloc | refine keep_far ?_ GW0.out _) | exact HK.out))) : w.heap.size ≤ gb550))
          have n6_ := Aside0.mk ((Nat.le_trans HW0.out (by rw [hg]; exact (keep_size (w := w) (g := g) (row := none) (by repeat (first | (with_reducible first | exact HK.out | apply KeepBut.set_ | apply keep_drewN | apply keep_drew | apply keep_alloc | refine keep_far ?_ GW0.out _) | exact HK.out))) : w.heap.size ≤ gb550) : w0.heap.size ≤ gb550))
          have n7_ := Aside0.mk ((by rw [hg]; exact Nat.ne_of_lt (blk_lt (g := g) (o := .cells #[.string s0_0, .int .i64 s0_1, errW s0_2, .bool s0_3] 56 (0, 0)) (by (with_reducible repeat (first | refine blk_drewN ?_ _ | refine blk_drew ?_ | refine blk_alloc ?_ _)); exact BKp0.out)) : g ≠ gb550))
          have n8_ := Aside0.mk ((by rw [hg]; exact Nat.ne_of_gt (blk_lt (g := g) (o := .cells #[.string s0_0, .int .i64 s0_1, errW s0_2, .bool s0_3] 56 (0, 0)) (by (with_reducible repeat (first | refine blk_drewN ?_ _ | refine blk_drew ?_ | refine blk_alloc ?_ _)); exact BKp0.out)) : gb550 ≠ g))
          have n9_ := Aside0.mk ((by rw [hg]; exact Nat.ne_of_lt (IsS56.lt (show IsS56 w0 _ g s0_0 s0_1 s0_2 s0_3 from by repeat (first | (with_reducible first | exact HI0.out | apply IsS56.alloc | apply IsS56.drewN | apply IsS56.drew | apply IsS56.set_0 | apply IsS56.set_1 | apply IsS56.set_2 | apply IsS56.set_3 | apply IsS56.sete_2 | with_unfolding_all rfl | refine IsS56.far ?_ NB0_0.out _) | exact HI0.out))) : g ≠ gb550))
          have n10_ := Aside0.mk ((by rw [hg]; exact Nat.ne_of_gt (IsS56.lt (show IsS56 w0 _ g s0_0 s0_1 s0_2 s0_3 from by repeat (first | (with_reducible first | exact HI0.out | apply IsS56.alloc | apply IsS56.drewN | apply IsS56.drew | apply IsS56.set_0 | apply IsS56.set_1 | apply IsS56.set_2 | apply IsS56.set_3 | apply IsS56.sete_2 | with_unfolding_all rfl | refine IsS56.far ?_ NB0_0.out _) | exact HI0.out))) : gb550 ≠ g))
          clear HI0
          clear BKp0
          clear HK
          clear HB
          have HI0 := n0_
          have BKp0 := n1_
          have HK := n2_
          have HB := n3_
          have BK550 := n4_
          have GW550 := n5_
          have GE550 := n6_
          have NB0_550 := n7_
          have NB550_0 := n8_
          have NB0_550 := n9_
          have NB550_0 := n10_
          clear n0_ n1_ n2_ n3_ n4_ n5_ n6_ n7_ n8_ n9_ n10_
          clear hb hbox hg
          refine hK.out _ _ ⟨(blk_cell BKp0.out 0).trans rfl, (blk_cell BKp0.out 1).trans rfl, (blk_cell BKp0.out 2).trans rfl, (blk_cell BKp0.out 3).trans rfl⟩ (fun hHeld => ?_)
          clear hK K
          refine norm_ (a' := ?_) ?_ ?_
          rotate_left
          · show Act.put _ (some 5) _ = _
            simp only [Act.put, List.setIfInBounds_toArray, List.set_cons_zero, List.set_cons_succ, i64_w, i32_w]
            rfl
          refine one_ (i := 9) (N := some 20) #[true, true, true, true, true, true, true, true, true, true, false, false, false, true, false, false] rfl rfl (one_of HT_.out (by kernel_rfl)) (by decide) (fun K hK => ?_)
          refine goes_ Try.func136 (by kernel_rfl) rfl #[.string s0_0, .int .i64 s0_1, .int .i64 a1] (by rfl) rfl rfl (by (try simp only [List.map_toArray, List.map_cons, List.map_nil]); first | done | rfl | (simp only [List.length_drop, List.length_take]; rfl)) ?_
          with_reducible refine (octet_Take.calls k s0_0 s0_1 a1 t547 t548 t549 _ A5.out).mono ?_
          rintro e w11 ⟨rfl, hb⟩
          refine ⟨_, rfl, ?_⟩
          have n0_ := Aside0.mk (IsS56.below (by repeat (first | (with_reducible first | exact HI0.out | apply IsS56.alloc | apply IsS56.drewN | apply IsS56.drew | apply IsS56.set_0 | apply IsS56.set_1 | apply IsS56.set_2 | apply IsS56.set_3 | apply IsS56.sete_2 | with_unfolding_all rfl | refine IsS56.far ?_ NB0_0.out _ | refine IsS56.far ?_ NB0_550.out _) | exact HI0.out)) hb)
          have n1_ := Aside0.mk (blk_below (g := g) (o := .cells #[.string s0_0, .int .i64 s0_1, errW s0_2, .bool s0_3] 56 (0, 0)) (by (with_reducible repeat (first | refine blk_drewN ?_ _ | refine blk_drew ?_ | refine blk_alloc ?_ _)); exact BKp0.out) hb)
          have n2_ := Aside0.mk (blk_below (g := gb550) (o := .cells #[.string (⟨#[]⟩ : ByteArray), .int .i64 0] 207 (0, 0)) (by (with_reducible repeat (first | refine blk_drewN ?_ _ | refine blk_drew ?_ | refine blk_alloc ?_ _)); exact BK550.out) hb)
          have n3_ := Aside0.mk (KeepBut.trans (by repeat (first | (with_reducible first | exact HK.out | apply KeepBut.set_ | apply keep_drewN | apply keep_drew | apply keep_alloc | refine keep_far ?_ GW0.out _ | refine keep_far ?_ GW550.out _) | exact HK.out)) (KeepBut.of_below hb g none) (.inl rfl))
          have n4_ := Aside0.mk (below_step (by repeat (first | (with_reducible first | exact HB.out | apply below_alloc | apply pw_below_drewN | apply below_drew1 | refine below_set ?_ (IsS56.ge HI0.out) | refine below_set ?_ GE0.out | refine below_set ?_ GE550.out) | exact HB.out)) hb)
          clear HI0
          clear BKp0
          clear BK550
          clear HK
          clear HB
          have HI0 := n0_
          have BKp0 := n1_
          have BK550 := n2_
          have HK := n3_
          have HB := n4_
          clear n0_ n1_ n2_ n3_ n4_
          (try clear hb)
          (try clear hb2)
          (try clear hk)
          (try clear hi)
          refine hK.out _ _ ⟨(blk_cell BKp0.out 0).trans rfl, (blk_cell BKp0.out 1).trans rfl, (blk_cell BKp0.out 2).trans rfl, (blk_cell BKp0.out 3).trans rfl⟩ (fun hHeld => ?_)
          clear hK K
          refine norm_ (a' := ?_) ?_ ?_
          rotate_left
          · show Act.put _ (some 20) _ = _
            simp only [Act.put, List.setIfInBounds_toArray, List.set_cons_zero, List.set_cons_succ, i64_w, i32_w]
            rfl
          refine pure_ (i := 10) (N := some 10) (v := ?_) (a' := ?_) #[true, true, true, true, true, true, true, true, true, true, true, false, false, true, false, false] rfl rfl (any_of HT_.out (by kernel_rfl)) (fun _ _ _ h => h) (Or.inl ⟨by rfl, ?_⟩) ?_ ?_
          rotate_left
          · intro w'
            go_simp
            with_reducible rfl
          rotate_left
          · simp only [Act.put, List.setIfInBounds_toArray, List.set_cons_zero, List.set_cons_succ, i64_w, i32_w]
            rfl
          refine pure_ (i := 11) (N := some 21) (v := ?_) (a' := ?_) #[true, true, true, true, true, true, true, true, true, true, true, true, false, true, false, false] rfl rfl (any_of HT_.out (by kernel_rfl)) (fun _ _ _ h => h) (Or.inl ⟨by rfl, ?_⟩) ?_ ?_
          rotate_left
          · intro w'
            go_simp
            with_reducible rfl
          rotate_left
          · simp only [Act.put, List.setIfInBounds_toArray, List.set_cons_zero, List.set_cons_succ, i64_w, i32_w]
            rfl
          refine pure_ (i := 12) (N := some 22) (v := ?_) (a' := ?_) #[true, true, true, true, true, true, true, true, true, true, true, true, true, true, false, false] rfl rfl (any_of HT_.out (by kernel_rfl)) (fun _ _ _ h => h) (Or.inl ⟨by rfl, ?_⟩) ?_ ?_
          rotate_left
          · intro w'
            go_simp
            with_reducible rfl
          rotate_left
          · simp only [Act.put, List.setIfInBounds_toArray, List.set_cons_zero, List.set_cons_succ, i64_w, i32_w]
            rfl
          exact norm_ (by simp only [putAll, Act.put, List.setIfInBounds_toArray, List.set_cons_zero, List.set_cons_succ]) (hCont (gb550) _ ⟨hHeld, (by (with_reducible repeat (first | refine blk_drewN ?_ _ | refine blk_drew ?_ | refine blk_alloc ?_ _)); exact BK550.out), (by (with_reducible repeat (first | refine blk_drewN ?_ _ | refine blk_drew ?_ | refine blk_alloc ?_ _)); exact BKp0.out), GW550.out, GE550.out, NB0_550.out, NB550_0.out, (by repeat (first | (with_reducible first | exact HI0.out | apply IsS56.alloc | apply IsS56.drewN | apply IsS56.drew | apply IsS56.set_0 | apply IsS56.set_1 | apply IsS56.set_2 | apply IsS56.set_3 | apply IsS56.sete_2 | with_unfolding_all rfl | refine IsS56.far ?_ NB0_0.out _ | refine IsS56.far ?_ NB0_550.out _) | exact HI0.out)), (by repeat (first | (with_reducible first | exact HK.out | apply KeepBut.set_ | apply keep_drewN | apply keep_drew | apply keep_alloc | refine keep_far ?_ GW0.out _ | refine keep_far ?_ GW550.out _) | exact HK.out)), (by repeat (first | (with_reducible first | exact HB.out | apply below_alloc | apply pw_below_drewN | apply below_drew1 | refine below_set ?_ (IsS56.ge HI0.out) | refine below_set ?_ GE0.out | refine below_set ?_ GE550.out) | exact HB.out))⟩)
      rintro gb550 w12 ⟨hS_, h0_, h1_, h2_, h3_, h4_, h5_, h6_, h7_, h8_⟩
      have n0_ : Aside0 (w12.heap[gb550]? = some (.cells #[.string (⟨#[]⟩ : ByteArray), .int .i64 0] 207 (0, 0))) := ⟨h0_⟩
      have n1_ : Aside0 (w12.heap[g]? = some (.cells #[.string s0_0, .int .i64 s0_1, errW s0_2, .bool s0_3] 56 (0, 0))) := ⟨h1_⟩
      have n2_ : Aside0 (w.heap.size ≤ gb550) := ⟨h2_⟩
      have n3_ : Aside0 (w0.heap.size ≤ gb550) := ⟨h3_⟩
      have n4_ : Aside0 (g ≠ gb550) := ⟨h4_⟩
      have n5_ : Aside0 (gb550 ≠ g) := ⟨h5_⟩
      have n6_ : Aside0 (IsS56 w0 w12 g s0_0 s0_1 s0_2 s0_3) := ⟨h6_⟩
      have n7_ : Aside0 (KeepBut w w12 g none) := ⟨h7_⟩
      have n8_ : Aside0 (Below w0.heap.size w0 w12) := ⟨h8_⟩
      clear BKp0
      clear HI0
      clear HK
      clear HB
      clear h0_ h1_ h2_ h3_ h4_ h5_ h6_ h7_ h8_
      have BK550 := n0_
      have BKp0 := n1_
      have GW550 := n2_
      have GE550 := n3_
      have NB0_550 := n4_
      have NB550_0 := n5_
      have HI0 := n6_
      have HK := n7_
      have HB := n8_
      clear n0_ n1_ n2_ n3_ n4_ n5_ n6_ n7_ n8_
      have hHeld : w12.cell? ⟨g, 0, none⟩ = some (.string s0_0) ∧ w12.cell? ⟨g, 1, none⟩ = some (.int .i64 s0_1) ∧ w12.cell? ⟨g, 2, none⟩ = some (errW s0_2) ∧ w12.cell? ⟨g, 3, none⟩ = some (.bool s0_3) := hS_
      refine norm_ (a' := ?_) ?_ ?_
      rotate_left
      · simp only [putAll, Act.put, List.setIfInBounds_toArray, List.set_cons_zero, List.set_cons_succ]
        rfl
      refine one_ (i := 14) (N := none) #[true, true, true, true, true, true, true, true, true, true, true, true, true, true, true, false] rfl rfl (one_of HT_.out (by kernel_rfl)) (by decide) (fun K hK => ?_)
      have hs13 : w12.cell? ⟨gb550, 0, none⟩ = some (.string (⟨#[]⟩ : ByteArray)) := (blk_cell BK550.out 0).trans rfl
      have hfs13 := blk_frozen BK550.out 0
      have hns13_0 := NB0_550.out
      have hms13_0 := NB550_0.out
      have hs14 : w12.cell? ⟨gb550, 1, none⟩ = some (.int .i64 0) := (blk_cell BK550.out 1).trans rfl
      have hfs14 := blk_frozen BK550.out 1
      have hns14_0 := NB0_550.out
      have hms14_0 := NB550_0.out
      refine skip_ (w1 := ?_) (by rfl) rfl ?_ ?_
      rotate_left
      · go_simp
        rfl
      refine hK.out _ _ ⟨((cell_far (p := ⟨gb550, _, none⟩) NB0_550.out _).trans (((cell_far (p := ⟨gb550, _, none⟩) NB0_550.out _).trans (hHeld.1)))), ((cell_far (p := ⟨gb550, _, none⟩) NB0_550.out _).trans (((cell_far (p := ⟨gb550, _, none⟩) NB0_550.out _).trans (hHeld.2.1)))), ((cell_far (p := ⟨gb550, _, none⟩) NB0_550.out _).trans (((cell_far (p := ⟨gb550, _, none⟩) NB0_550.out _).trans (hHeld.2.2.1)))), ((cell_far (p := ⟨gb550, _, none⟩) NB0_550.out _).trans (((cell_far (p := ⟨gb550, _, none⟩) NB0_550.out _).trans (hHeld.2.2.2))))⟩ (fun hHeld => ?_)
      clear hK K
      refine pure_ (i := 15) (N := some 6) (v := ?_) (a' := ?_) #[true, true, true, true, true, true, true, true, true, true, true, true, true, true, true, true] rfl rfl (any_of HT_.out (by kernel_rfl)) (fun _ _ _ h => h) (Or.inl ⟨by rfl, ?_⟩) ?_ ?_
      rotate_left
      · intro w'
        go_simp
        with_reducible rfl
      rotate_left
      · simp only [Act.put, List.setIfInBounds_toArray, List.set_cons_zero, List.set_cons_succ, i64_w, i32_w]
        rfl
      refine done_ (done_of HT_.out (by kernel_rfl)) ?_
      clear BKp0
      have hnb15 := NB550_0.out
      have hnc15 := NB0_550.out
      have hcz16_0 : w12.cell? ⟨gb550, 0, none⟩ = some (.string (⟨#[]⟩ : ByteArray)) := (blk_cell BK550.out 0).trans rfl
      have hcz16_1 : w12.cell? ⟨gb550, 1, none⟩ = some (.int .i64 0) := (blk_cell BK550.out 1).trans rfl
      have hfz16_0 := blk_frozen BK550.out 0
      have hfz16_1 := blk_frozen BK550.out 1
      try go_wp2_with (first | ((with_reducible refine gate_callee (f := 135) rfl ?_); refine goesL_ (some 27) rfl rfl Try.func135 (by kernel_rfl) rfl #[.pointer (some ⟨g, 0, none⟩), .int .i64 t548, .int .i64 t549] rfl (by (try simp only [List.map_toArray, List.map_cons, List.map_nil]); first | done | rfl | (simp only [List.length_drop, List.length_take]; rfl)) ?_; (with_reducible refine (strict_Reader_done.calls g s0_0 s0_1 s0_2 s0_3 t548 t549 true t552 t553 t554 t555 w0 _ ?side1 ?side2 A6.out).mono ?_); (case side1 => repeat (first | (with_reducible first | exact HI0.out | apply IsS56.alloc | apply IsS56.drewN | apply IsS56.drew | apply IsS56.set_0 | apply IsS56.set_1 | apply IsS56.set_2 | apply IsS56.set_3 | apply IsS56.sete_2 | with_unfolding_all rfl | refine IsS56.far ?_ NB0_550.out _) | exact HI0.out)); (case side2 => repeat (first | (with_reducible first | exact HB.out | apply below_alloc | apply pw_below_drewN | apply below_drew1 | refine below_set ?_ (IsS56.ge HI0.out) | refine below_set ?_ GE550.out) | exact HB.out)); rintro e w17 ⟨rfl, hi, hb, hk⟩; refine ⟨_, rfl, ?_⟩; have n0_ := Aside0.mk (KeepBut.blk hk (g' := gb550) (o := .cells #[.string t547, .int .i64 t548] 207 (0, 0)) (by (with_reducible repeat (first | refine blk_drewN ?_ _ | refine blk_drew ?_ | refine blk_alloc ?_ _)); refine blk_put (cs := #[.string t547, .int .i64 0]) ?_ 1 _ rfl; (with_reducible repeat (first | refine blk_drewN ?_ _ | refine blk_drew ?_ | refine blk_alloc ?_ _)); refine blk_put (cs := #[.string (⟨#[]⟩ : ByteArray), .int .i64 0]) ?_ 0 _ rfl; (with_reducible repeat (first | refine blk_drewN ?_ _ | refine blk_drew ?_ | refine blk_alloc ?_ _)); exact BK550.out) NB550_0.out (by simp)); have n1_ := Aside0.mk (KeepBut.trans (by repeat (first | (with_reducible first | exact HK.out | apply KeepBut.set_ | apply keep_drewN | apply keep_drew | apply keep_alloc | refine keep_far ?_ GW550.out _) | exact HK.out)) hk (.inl rfl)); have n2_ := Aside0.mk (hb); have n3_ := Aside0.mk (hi); clear BK550; clear HK; clear HB; clear HI0; have BK550 := n0_; have HK := n1_; have HB := n2_; have HI0 := n3_; clear n0_ n1_ n2_ n3_; (try clear hb); (try clear hb2); (try clear hk); (try clear hi); (try simp only [errW_none, errW_some]); have hcz18_0 : w17.cell? ⟨gb550, 0, none⟩ = some (.string t547) := (blk_cell BK550.out 0).trans rfl; have hcz18_1 : w17.cell? ⟨gb550, 1, none⟩ = some (.int .i64 t548) := (blk_cell BK550.out 1).trans rfl; have hfz18_0 := blk_frozen BK550.out 0; have hfz18_1 := blk_frozen BK550.out 1))
      go_ret
      exact ⟨by first | rfl | (simp [errW_none, errW_some] <;> rfl) | (simp [*, errW_none, errW_some] <;> rfl), by repeat (first | (with_reducible first | exact HI0.out | apply IsS56.alloc | apply IsS56.drewN | apply IsS56.drew | apply IsS56.set_0 | apply IsS56.set_1 | apply IsS56.set_2 | apply IsS56.set_3 | apply IsS56.sete_2 | with_unfolding_all rfl | refine IsS56.far ?_ NB0_550.out _) | exact HI0.out), by repeat (first | (with_reducible first | exact HB.out | apply below_alloc | apply pw_below_drewN | apply below_drew1 | refine below_set ?_ (IsS56.ge HI0.out) | refine below_set ?_ GE550.out) | exact HB.out), by repeat (first | (with_reducible first | exact HK.out | apply KeepBut.set_ | apply keep_drewN | apply keep_drew | apply keep_alloc | refine keep_far ?_ GW550.out _) | exact HK.out)⟩
    · replace c7 := Bool.eq_false_iff.mpr c7
      subst c7
      have H1 : (some ((⟨#[]⟩ : ByteArray), t552, t553, t554, t555)) = some (r1, r2, r3, r4, r5) := by first | (rw [if_neg (show ¬ (false = true) by decide)] at H; exact H) | rfl
      clear H
      have H := H1
      clear H1
      simp only [Option.some.injEq, Prod.mk.injEq] at H
      obtain ⟨rfl, rfl, rfl, rfl, rfl⟩ := H
      go_enter Try.func42, Try.ntmps42
      try go_wp2_with (first | ((with_reducible refine gate_callee (f := 133) rfl ?_); refine goesL_ (some 8) rfl rfl Try.func133 (by kernel_rfl) rfl #[.pointer (some ⟨g, 0, none⟩)] rfl (by (try simp only [List.map_toArray, List.map_cons, List.map_nil]); first | done | rfl | (simp only [List.length_drop, List.length_take]; rfl)) ?_; (with_reducible refine (strict_Reader_goes.calls g s0_0 s0_1 s0_2 s0_3 true s0_0 s0_1 s0_2 s0_3 w0 _ ?side1 ?side2 A3.out).mono ?_); (case side1 => repeat (first | (with_reducible first | exact HI0.out | apply IsS56.alloc | apply IsS56.drewN | apply IsS56.drew | apply IsS56.set_0 | apply IsS56.set_1 | apply IsS56.set_2 | apply IsS56.set_3 | apply IsS56.sete_2 | with_unfolding_all rfl) | exact HI0.out)); (case side2 => repeat (first | (with_reducible first | exact HB.out | apply below_alloc | apply pw_below_drewN | apply below_drew1 | refine below_set ?_ (IsS56.ge HI0.out)) | exact HB.out)); rintro e w19 ⟨rfl, hi, hb, hk⟩; refine ⟨_, rfl, ?_⟩; have n0_ := Aside0.mk (KeepBut.trans (by repeat (first | (with_reducible first | exact HK.out | apply KeepBut.set_ | apply keep_drewN | apply keep_drew | apply keep_alloc) | exact HK.out)) hk (.inl rfl)); have n1_ := Aside0.mk (hb); have n2_ := Aside0.mk (hi); clear HK; clear HB; clear HI0; have HK := n0_; have HB := n1_; have HI0 := n2_; clear n0_ n1_ n2_; (try clear hb); (try clear hb2); (try clear hk); (try clear hi); (try simp only [errW_none, errW_some]); have BKp0 : Aside0 (w19.heap[g]? = some (.cells #[.string s0_0, .int .i64 s0_1, errW s0_2, .bool s0_3] 56 (0, 0))) := ⟨by obtain ⟨hb_, _⟩ := HI0.out; exact hb_⟩))
      have n0_ := Aside0.mk (blk_drew BKp0.out)
      have n1_ := Aside0.mk (IsS56.drew HI0.out)
      have n2_ := Aside0.mk (keep_drew HK.out)
      have n3_ := Aside0.mk (below_drew1 HB.out)
      clear BKp0
      clear HI0
      clear HK
      clear HB
      have BKp0 := n0_
      have HI0 := n1_
      have HK := n2_
      have HB := n3_
      clear n0_ n1_ n2_ n3_
      refine start_ (n := 16) (S := fun w' => w'.cell? ⟨g, 0, none⟩ = some (.string s0_0) ∧ w'.cell? ⟨g, 1, none⟩ = some (.int .i64 s0_1) ∧ w'.cell? ⟨g, 2, none⟩ = some (errW s0_2) ∧ w'.cell? ⟨g, 3, none⟩ = some (.bool s0_3)) (ds := []) #[false, false, false, false, false, false, false, false, false, false, false, false, false, false, false, false] (by kernel_rfl) rfl rfl ⟨(blk_cell BKp0.out 0).trans rfl, (blk_cell BKp0.out 1).trans rfl, (blk_cell BKp0.out 2).trans rfl, (blk_cell BKp0.out 3).trans rfl⟩ (fun hHeld => ?_); refine with_tabW strict_Reader_Text.tab3 strict_Reader_Text.bits3 (fun HT_ HW_ => ?_)
      generalize w19.drew = w20 at BKp0 HI0 HK HB hHeld ⊢
      refine pure_ (i := 0) (N := some 11) (v := ?_) (a' := ?_) #[true, false, false, false, false, false, false, false, false, false, false, false, false, false, false, false] rfl rfl (any_of HT_.out (by kernel_rfl)) (fun _ _ _ h => h) (Or.inl ⟨by rfl, ?_⟩) ?_ ?_
      rotate_left
      · intro w'
        go_simp
        with_reducible rfl
      rotate_left
      · simp only [Act.put, List.setIfInBounds_toArray, List.set_cons_zero, List.set_cons_succ, i64_w, i32_w]
        rfl
      refine pure_ (i := 1) (N := some 12) (v := ?_) (a' := ?_) #[true, true, false, false, false, false, false, false, false, false, false, false, false, false, false, false] rfl rfl (any_of HT_.out (by kernel_rfl)) (fun _ _ _ h => h) (Or.inl ⟨by rfl, ?_⟩) ?_ ?_
      rotate_left
      · intro w'
        go_simp
        with_reducible rfl
      rotate_left
      · simp only [Act.put, List.setIfInBounds_toArray, List.set_cons_zero, List.set_cons_succ, i64_w, i32_w]
        rfl
      refine pure_ (i := 2) (N := some 13) (v := ?_) (a' := ?_) #[true, true, true, false, false, false, false, false, false, false, false, false, false, false, false, false] rfl rfl (any_of HT_.out (by kernel_rfl)) (fun _ _ _ h => h) (Or.inl ⟨by rfl, ?_⟩) ?_ ?_
      rotate_left
      · intro w'
        go_simp
        with_reducible rfl
      rotate_left
      · simp only [Act.put, List.setIfInBounds_toArray, List.set_cons_zero, List.set_cons_succ, i64_w, i32_w]
        rfl
      refine pure_ (i := 4) (N := some 15) (v := ?_) (a' := ?_) #[true, true, true, false, true, false, false, false, false, false, false, false, false, false, false, false] rfl rfl (any_of HT_.out (by kernel_rfl)) (fun _ _ _ h => h) (Or.inl ⟨by rfl, ?_⟩) ?_ ?_
      rotate_left
      · intro w'
        go_simp
        with_reducible rfl
      rotate_left
      · simp only [Act.put, List.setIfInBounds_toArray, List.set_cons_zero, List.set_cons_succ, i64_w, i32_w]
        rfl
      refine pure_ (i := 5) (N := some 16) (v := ?_) (a' := ?_) #[true, true, true, false, true, true, false, false, false, false, false, false, false, false, false, false] rfl rfl (any_of HT_.out (by kernel_rfl)) (fun _ _ _ h => h) (Or.inl ⟨by rfl, ?_⟩) ?_ ?_
      rotate_left
      · intro w'
        go_simp
        with_reducible rfl
      rotate_left
      · simp only [Act.put, List.setIfInBounds_toArray, List.set_cons_zero, List.set_cons_succ, i64_w, i32_w]
        rfl
      refine pure_ (i := 6) (N := some 17) (v := ?_) (a' := ?_) #[true, true, true, false, true, true, true, false, false, false, false, false, false, false, false, false] rfl rfl (any_of HT_.out (by kernel_rfl)) (fun _ _ _ h => h) (Or.inl ⟨by rfl, ?_⟩) ?_ ?_
      rotate_left
      · intro w'
        go_simp
        with_reducible rfl
      rotate_left
      · simp only [Act.put, List.setIfInBounds_toArray, List.set_cons_zero, List.set_cons_succ, i64_w, i32_w]
        rfl
      refine pure_ (i := 8) (N := some 19) (v := ?_) (a' := ?_) #[true, true, true, false, true, true, true, false, true, false, false, false, false, false, false, false] rfl rfl (any_of HT_.out (by kernel_rfl)) (fun _ _ _ h => h) (Or.inl ⟨by rfl, ?_⟩) ?_ ?_
      rotate_left
      · intro w'
        go_simp
        with_reducible rfl
      rotate_left
      · simp only [Act.put, List.setIfInBounds_toArray, List.set_cons_zero, List.set_cons_succ, i64_w, i32_w]
        rfl
      refine take_ (i := 3) (N := some 14) (v := ?_) (a' := ?_) #[true, true, true, true, true, true, true, false, true, false, false, false, false, false, false, false] rfl rfl (take_ofW HT_.out HW_.out (by kernel_rfl)) (fun _ _ _ h => h) (Or.inl ⟨by rfl, ?_⟩) hHeld ?_ ?_
      rotate_left
      · rintro w' ⟨s0, s1, s2, s3⟩
        go_simp
        with_reducible rfl
      rotate_left
      · simp only [Act.put, List.setIfInBounds_toArray, List.set_cons_zero, List.set_cons_succ, i64_w, i32_w]
        rfl
      refine take_ (i := 7) (N := some 18) (v := ?_) (a' := ?_) #[true, true, true, true, true, true, true, true, true, false, false, false, false, false, false, false] rfl rfl (take_ofW HT_.out HW_.out (by kernel_rfl)) (fun _ _ _ h => h) (Or.inl ⟨by rfl, ?_⟩) hHeld ?_ ?_
      rotate_left
      · rintro w' ⟨s0, s1, s2, s3⟩
        go_simp
        with_reducible rfl
      rotate_left
      · simp only [Act.put, List.setIfInBounds_toArray, List.set_cons_zero, List.set_cons_succ, i64_w, i32_w]
        rfl
      refine join_ (σ := Nat) 2 #[true, true, true, true, true, true, true, true, true, true, true, true, true, true, false, false] (fun s_ => [(20, .tuple #[.agg #[.string t547, .int .i64 t548], .int .i64 t549]), (5, .pointer (some ⟨s_, 0, none⟩)), (10, .tuple #[.agg #[.string t547, .int .i64 t548], .int .i64 t549]), (21, .agg #[.string t547, .int .i64 t548]), (22, .int .i64 t549)]) (fun s_ w' => (w'.cell? ⟨g, 0, none⟩ = some (.string s0_0) ∧ w'.cell? ⟨g, 1, none⟩ = some (.int .i64 s0_1) ∧ w'.cell? ⟨g, 2, none⟩ = some (errW s0_2) ∧ w'.cell? ⟨g, 3, none⟩ = some (.bool s0_3)) ∧ (w'.heap[s_]? = some (.cells #[.string (⟨#[]⟩ : ByteArray), .int .i64 0] 207 (0, 0))) ∧ (w'.heap[g]? = some (.cells #[.string s0_0, .int .i64 s0_1, errW s0_2, .bool s0_3] 56 (0, 0))) ∧ (w.heap.size ≤ s_) ∧ (w0.heap.size ≤ s_) ∧ (g ≠ s_) ∧ (s_ ≠ g) ∧ (IsS56 w0 w' g s0_0 s0_1 s0_2 s0_3) ∧ (KeepBut w w' g none) ∧ (Below w0.heap.size w0 w')) ?_ ?_
      rotate_left
      · intro hCont
        refine two_ (i := 9) (j := 13) (Ni := some 20) (Nj := some 5) #[true, true, true, true, true, true, true, true, true, true, false, false, false, false, false, false] #[true, true, true, true, true, true, true, true, true, false, false, false, false, true, false, false] rfl rfl rfl rfl (two_of HT_.out (by kernel_rfl)) (by decide) (by decide) (fun K hK => ?_) (fun K hK => ?_)
        · skip
          refine goes_ Try.func136 (by kernel_rfl) rfl #[.string s0_0, .int .i64 s0_1, .int .i64 a1] (by rfl) rfl rfl (by (try simp only [List.map_toArray, List.map_cons, List.map_nil]); first | done | rfl | (simp only [List.length_drop, List.length_take]; rfl)) ?_
          with_reducible refine (octet_Take.calls k s0_0 s0_1 a1 t547 t548 t549 _ A5.out).mono ?_
          rintro e w21 ⟨rfl, hb⟩
          refine ⟨_, rfl, ?_⟩
          have n0_ := Aside0.mk (IsS56.below (by repeat (first | (with_reducible first | exact HI0.out | apply IsS56.alloc | apply IsS56.drewN | apply IsS56.drew | apply IsS56.set_0 | apply IsS56.set_1 | apply IsS56.set_2 | apply IsS56.set_3 | apply IsS56.sete_2 | with_unfolding_all rfl | refine IsS56.far ?_ NB0_0.out _) | exact HI0.out)) hb)
          have n1_ := Aside0.mk (blk_below (g := g) (o := .cells #[.string s0_0, .int .i64 s0_1, errW s0_2, .bool s0_3] 56 (0, 0)) (by (with_reducible repeat (first | refine blk_drewN ?_ _ | refine blk_drew ?_ | refine blk_alloc ?_ _)); exact BKp0.out) hb)
          have n2_ := Aside0.mk (KeepBut.trans (by repeat (first | (with_reducible first | exact HK.out | apply KeepBut.set_ | apply keep_drewN | apply keep_drew | apply keep_alloc | refine keep_far ?_ GW0.out _) | exact HK.out)) (KeepBut.of_below hb g none) (.inl rfl))
          have n3_ := Aside0.mk (below_step (by repeat (first | (with_reducible first | exact HB.out | apply below_alloc | apply pw_below_drewN | apply below_drew1 | refine below_set ?_ (IsS56.ge HI0.out) | refine below_set ?_ GE0.out) | exact HB.out)) hb)
          clear HI0
          clear BKp0
          clear HK
          clear HB
          have HI0 := n0_
          have BKp0 := n1_
          have HK := n2_
          have HB := n3_
          clear n0_ n1_ n2_ n3_
          (try clear hb)
          (try clear hb2)
          (try clear hk)
          (try clear hi)
          refine hK.out _ _ ⟨(blk_cell BKp0.out 0).trans rfl, (blk_cell BKp0.out 1).trans rfl, (blk_cell BKp0.out 2).trans rfl, (blk_cell BKp0.out 3).trans rfl⟩ (fun hHeld => ?_)
          clear hK K
          refine norm_ (a' := ?_) ?_ ?_
          rotate_left
          · show Act.put _ (some 20) _ = _
            simp only [Act.put, List.setIfInBounds_toArray, List.set_cons_zero, List.set_cons_succ, i64_w, i32_w]
            rfl
          refine pure_ (i := 10) (N := some 10) (v := ?_) (a' := ?_) #[true, true, true, true, true, true, true, true, true, true, true, false, false, false, false, false] rfl rfl (any_of HT_.out (by kernel_rfl)) (fun _ _ _ h => h) (Or.inl ⟨by rfl, ?_⟩) ?_ ?_
          rotate_left
          · intro w'
            go_simp
            with_reducible rfl
          rotate_left
          · simp only [Act.put, List.setIfInBounds_toArray, List.set_cons_zero, List.set_cons_succ, i64_w, i32_w]
            rfl
          refine pure_ (i := 11) (N := some 21) (v := ?_) (a' := ?_) #[true, true, true, true, true, true, true, true, true, true, true, true, false, false, false, false] rfl rfl (any_of HT_.out (by kernel_rfl)) (fun _ _ _ h => h) (Or.inl ⟨by rfl, ?_⟩) ?_ ?_
          rotate_left
          · intro w'
            go_simp
            with_reducible rfl
          rotate_left
          · simp only [Act.put, List.setIfInBounds_toArray, List.set_cons_zero, List.set_cons_succ, i64_w, i32_w]
            rfl
          refine pure_ (i := 12) (N := some 22) (v := ?_) (a' := ?_) #[true, true, true, true, true, true, true, true, true, true, true, true, true, false, false, false] rfl rfl (any_of HT_.out (by kernel_rfl)) (fun _ _ _ h => h) (Or.inl ⟨by rfl, ?_⟩) ?_ ?_
          rotate_left
          · intro w'
            go_simp
            with_reducible rfl
          rotate_left
          · simp only [Act.put, List.setIfInBounds_toArray, List.set_cons_zero, List.set_cons_succ, i64_w, i32_w]
            rfl
          refine one_ (i := 13) (N := some 5) #[true, true, true, true, true, true, true, true, true, true, true, true, true, true, false, false] rfl rfl (one_of HT_.out (by kernel_rfl)) (by decide) (fun K hK => ?_)
          refine box_step ?hg (N := 5) ?hd (cs := #[.string (⟨#[]⟩ : ByteArray), .int .i64 0]) (t := 207) ?hr ?_; (case hd => rfl); (case hg => rfl); (case hr => first | (go_simp; done) | (go_simp; rfl))
          intro gb550 hg w22 hbox hb
          have n0_ := Aside0.mk (IsS56.below (by repeat (first | (with_reducible first | exact HI0.out | apply IsS56.alloc | apply IsS56.drewN | apply IsS56.drew | apply IsS56.set_0 | apply IsS56.set_1 | apply IsS56.set_2 | apply IsS56.set_3 | apply IsS56.sete_2 | with_unfolding_all rfl | refine IsS56.far ?_ NB0_0.out _) | exact HI0.out)) hb)
          have n1_ := Aside0.mk (blk_below (g := g) (o := .cells #[.string s0_0, .int .i64 s0_1, errW s0_2, .bool s0_3] 56 (0, 0)) (by (with_reducible repeat (first | refine blk_drewN ?_ _ | refine blk_drew ?_ | refine blk_alloc ?_ _)); exact BKp0.out) hb)
          have n2_ := Aside0.mk (KeepBut.trans (by repeat (first | (with_reducible first | exact HK.out | apply KeepBut.set_ | apply keep_drewN | apply keep_drew | apply keep_alloc | refine keep_far ?_ GW0.out _) | exact HK.out)) (KeepBut.of_below hb g none) (.inl rfl))
          have n3_ := Aside0.mk (below_step (by repeat (first | (with_reducible first | exact HB.out | apply below_alloc | apply pw_below_drewN | apply below_drew1 | refine below_set ?_ (IsS56.ge HI0.out) | refine below_set ?_ GE0.out) | exact HB.out)) hb)
          have n4_ := Aside0.mk (hbox)
          have n5_ := Aside0.mk ((by rw [hg]; exact (keep_size (w := w) (g := g) (row := none) (by repeat (first | (with_reducible first | exact HK.out | apply KeepBut.set_ | apply keep_drewN | apply keep_drew | apply keep_alloc | refine keep_far ?_ GW0.out _) | exact HK.out))) : w.heap.size ≤ gb550))
          have n6_ := Aside0.mk ((Nat.le_trans HW0.out (by rw [hg]; exact (keep_size (w := w) (g := g) (row := none) (by repeat (first | (with_reducible first | exact HK.out | apply KeepBut.set_ | apply keep_drewN | apply keep_drew | apply keep_alloc | refine keep_far ?_ GW0.out _) | exact HK.out))) : w.heap.size ≤ gb550) : w0.heap.size ≤ gb550))
          have n7_ := Aside0.mk ((by rw [hg]; exact Nat.ne_of_lt (blk_lt (g := g) (o := .cells #[.string s0_0, .int .i64 s0_1, errW s0_2, .bool s0_3] 56 (0, 0)) (by (with_reducible repeat (first | refine blk_drewN ?_ _ | refine blk_drew ?_ | refine blk_alloc ?_ _)); exact BKp0.out)) : g ≠ gb550))
          have n8_ := Aside0.mk ((by rw [hg]; exact Nat.ne_of_gt (blk_lt (g := g) (o := .cells #[.string s0_0, .int .i64 s0_1, errW s0_2, .bool s0_3] 56 (0, 0)) (by (with_reducible repeat (first | refine blk_drewN ?_ _ | refine blk_drew ?_ | refine blk_alloc ?_ _)); exact BKp0.out)) : gb550 ≠ g))
          have n9_ := Aside0.mk ((by rw [hg]; exact Nat.ne_of_lt (IsS56.lt (show IsS56 w0 _ g s0_0 s0_1 s0_2 s0_3 from by repeat (first | (with_reducible first | exact HI0.out | apply IsS56.alloc | apply IsS56.drewN | apply IsS56.drew | apply IsS56.set_0 | apply IsS56.set_1 | apply IsS56.set_2 | apply IsS56.set_3 | apply IsS56.sete_2 | with_unfolding_all rfl | refine IsS56.far ?_ NB0_0.out _) | exact HI0.out))) : g ≠ gb550))
          have n10_ := Aside0.mk ((by rw [hg]; exact Nat.ne_of_gt (IsS56.lt (show IsS56 w0 _ g s0_0 s0_1 s0_2 s0_3 from by repeat (first | (with_reducible first | exact HI0.out | apply IsS56.alloc | apply IsS56.drewN | apply IsS56.drew | apply IsS56.set_0 | apply IsS56.set_1 | apply IsS56.set_2 | apply IsS56.set_3 | apply IsS56.sete_2 | with_unfolding_all rfl | refine IsS56.far ?_ NB0_0.out _) | exact HI0.out))) : gb550 ≠ g))
          clear HI0
          clear BKp0
          clear HK
          clear HB
          have HI0 := n0_
          have BKp0 := n1_
          have HK := n2_
          have HB := n3_
          have BK550 := n4_
          have GW550 := n5_
          have GE550 := n6_
          have NB0_550 := n7_
          have NB550_0 := n8_
          have NB0_550 := n9_
          have NB550_0 := n10_
          clear n0_ n1_ n2_ n3_ n4_ n5_ n6_ n7_ n8_ n9_ n10_
          clear hb hbox hg
          refine hK.out _ _ ⟨(blk_cell BKp0.out 0).trans rfl, (blk_cell BKp0.out 1).trans rfl, (blk_cell BKp0.out 2).trans rfl, (blk_cell BKp0.out 3).trans rfl⟩ (fun hHeld => ?_)
          clear hK K
          refine norm_ (a' := ?_) ?_ ?_
          rotate_left
          · show Act.put _ (some 5) _ = _
            simp only [Act.put, List.setIfInBounds_toArray, List.set_cons_zero, List.set_cons_succ, i64_w, i32_w]
            rfl
          exact norm_ (by simp only [putAll, Act.put, List.setIfInBounds_toArray, List.set_cons_zero, List.set_cons_succ]) (hCont (gb550) _ ⟨hHeld, (by (with_reducible repeat (first | refine blk_drewN ?_ _ | refine blk_drew ?_ | refine blk_alloc ?_ _)); exact BK550.out), (by (with_reducible repeat (first | refine blk_drewN ?_ _ | refine blk_drew ?_ | refine blk_alloc ?_ _)); exact BKp0.out), GW550.out, GE550.out, NB0_550.out, NB550_0.out, (by repeat (first | (with_reducible first | exact HI0.out | apply IsS56.alloc | apply IsS56.drewN | apply IsS56.drew | apply IsS56.set_0 | apply IsS56.set_1 | apply IsS56.set_2 | apply IsS56.set_3 | apply IsS56.sete_2 | with_unfolding_all rfl | refine IsS56.far ?_ NB0_0.out _ | refine IsS56.far ?_ NB0_550.out _) | exact HI0.out)), (by repeat (first | (with_reducible first | exact HK.out | apply KeepBut.set_ | apply keep_drewN | apply keep_drew | apply keep_alloc | refine keep_far ?_ GW0.out _ | refine keep_far ?_ GW550.out _) | exact HK.out)), (by repeat (first | (with_reducible first | exact HB.out | apply below_alloc | apply pw_below_drewN | apply below_drew1 | refine below_set ?_ (IsS56.ge HI0.out) | refine below_set ?_ GE0.out | refine below_set ?_ GE550.out) | exact HB.out))⟩)
        · skip
          refine box_step ?hg (N := 5) ?hd (cs := #[.string (⟨#[]⟩ : ByteArray), .int .i64 0]) (t := 207) ?hr ?_; (case hd => rfl); (case hg => rfl); (case hr => first | (go_simp; done) | (go_simp; rfl))
          intro gb550 hg w21 hbox hb
          have n0_ := Aside0.mk (IsS56.below (by repeat (first | (with_reducible first | exact HI0.out | apply IsS56.alloc | apply IsS56.drewN | apply IsS56.drew | apply IsS56.set_0 | apply IsS56.set_1 | apply IsS56.set_2 | apply IsS56.set_3 | apply IsS56.sete_2 | with_unfolding_all rfl | refine IsS56.far ?_ NB0_0.out _) | exact HI0.out)) hb)
          have n1_ := Aside0.mk (blk_below (g := g) (o := .cells #[.string s0_0, .int .i64 s0_1, errW s0_2, .bool s0_3] 56 (0, 0)) (by (with_reducible repeat (first | refine blk_drewN ?_ _ | refine blk_drew ?_ | refine blk_alloc ?_ _)); exact BKp0.out) hb)
          have n2_ := Aside0.mk (KeepBut.trans (by repeat (first | (with_reducible first | exact HK.out | apply KeepBut.set_ | apply keep_drewN | apply keep_drew | apply keep_alloc | refine keep_far ?_ GW0.out _) | exact HK.out)) (KeepBut.of_below hb g none) (.inl rfl))
          have n3_ := Aside0.mk (below_step (by repeat (first | (with_reducible first | exact HB.out | apply below_alloc | apply pw_below_drewN | apply below_drew1 | refine below_set ?_ (IsS56.ge HI0.out) | refine below_set ?_ GE0.out) | exact HB.out)) hb)
          have n4_ := Aside0.mk (hbox)
          have n5_ := Aside0.mk ((by rw [hg]; exact (keep_size (w := w) (g := g) (row := none) (by repeat (first | (with_reducible first | exact HK.out | apply KeepBut.set_ | apply keep_drewN | apply keep_drew | apply keep_alloc | refine keep_far ?_ GW0.out _) | exact HK.out))) : w.heap.size ≤ gb550))
          have n6_ := Aside0.mk ((Nat.le_trans HW0.out (by rw [hg]; exact (keep_size (w := w) (g := g) (row := none) (by repeat (first | (with_reducible first | exact HK.out | apply KeepBut.set_ | apply keep_drewN | apply keep_drew | apply keep_alloc | refine keep_far ?_ GW0.out _) | exact HK.out))) : w.heap.size ≤ gb550) : w0.heap.size ≤ gb550))
          have n7_ := Aside0.mk ((by rw [hg]; exact Nat.ne_of_lt (blk_lt (g := g) (o := .cells #[.string s0_0, .int .i64 s0_1, errW s0_2, .bool s0_3] 56 (0, 0)) (by (with_reducible repeat (first | refine blk_drewN ?_ _ | refine blk_drew ?_ | refine blk_alloc ?_ _)); exact BKp0.out)) : g ≠ gb550))
          have n8_ := Aside0.mk ((by rw [hg]; exact Nat.ne_of_gt (blk_lt (g := g) (o := .cells #[.string s0_0, .int .i64 s0_1, errW s0_2, .bool s0_3] 56 (0, 0)) (by (with_reducible repeat (first | refine blk_drewN ?_ _ | refine blk_drew ?_ | refine blk_alloc ?_ _)); exact BKp0.out)) : gb550 ≠ g))
          have n9_ := Aside0.mk ((by rw [hg]; exact Nat.ne_of_lt (IsS56.lt (show IsS56 w0 _ g s0_0 s0_1 s0_2 s0_3 from by repeat (first | (with_reducible first | exact HI0.out | apply IsS56.alloc | apply IsS56.drewN | apply IsS56.drew | apply IsS56.set_0 | apply IsS56.set_1 | apply IsS56.set_2 | apply IsS56.set_3 | apply IsS56.sete_2 | with_unfolding_all rfl | refine IsS56.far ?_ NB0_0.out _) | exact HI0.out))) : g ≠ gb550))
          have n10_ := Aside0.mk ((by rw [hg]; exact Nat.ne_of_gt (IsS56.lt (show IsS56 w0 _ g s0_0 s0_1 s0_2 s0_3 from by repeat (first | (with_reducible first | exact HI0.out | apply IsS56.alloc | apply IsS56.drewN | apply IsS56.drew | apply IsS56.set_0 | apply IsS56.set_1 | apply IsS56.set_2 | apply IsS56.set_3 | apply IsS56.sete_2 | with_unfolding_all rfl | refine IsS56.far ?_ NB0_0.out _) | exact HI0.out))) : gb550 ≠ g))
          clear HI0
          clear BKp0
          clear HK
          clear HB
          have HI0 := n0_
          have BKp0 := n1_
          have HK := n2_
          have HB := n3_
          have BK550 := n4_
          have GW550 := n5_
          have GE550 := n6_
          have NB0_550 := n7_
          have NB550_0 := n8_
          have NB0_550 := n9_
          have NB550_0 := n10_
          clear n0_ n1_ n2_ n3_ n4_ n5_ n6_ n7_ n8_ n9_ n10_
          clear hb hbox hg
          refine hK.out _ _ ⟨(blk_cell BKp0.out 0).trans rfl, (blk_cell BKp0.out 1).trans rfl, (blk_cell BKp0.out 2).trans rfl, (blk_cell BKp0.out 3).trans rfl⟩ (fun hHeld => ?_)
          clear hK K
          refine norm_ (a' := ?_) ?_ ?_
          rotate_left
          · show Act.put _ (some 5) _ = _
            simp only [Act.put, List.setIfInBounds_toArray, List.set_cons_zero, List.set_cons_succ, i64_w, i32_w]
            rfl
          refine one_ (i := 9) (N := some 20) #[true, true, true, true, true, true, true, true, true, true, false, false, false, true, false, false] rfl rfl (one_of HT_.out (by kernel_rfl)) (by decide) (fun K hK => ?_)
          refine goes_ Try.func136 (by kernel_rfl) rfl #[.string s0_0, .int .i64 s0_1, .int .i64 a1] (by rfl) rfl rfl (by (try simp only [List.map_toArray, List.map_cons, List.map_nil]); first | done | rfl | (simp only [List.length_drop, List.length_take]; rfl)) ?_
          with_reducible refine (octet_Take.calls k s0_0 s0_1 a1 t547 t548 t549 _ A5.out).mono ?_
          rintro e w22 ⟨rfl, hb⟩
          refine ⟨_, rfl, ?_⟩
          have n0_ := Aside0.mk (IsS56.below (by repeat (first | (with_reducible first | exact HI0.out | apply IsS56.alloc | apply IsS56.drewN | apply IsS56.drew | apply IsS56.set_0 | apply IsS56.set_1 | apply IsS56.set_2 | apply IsS56.set_3 | apply IsS56.sete_2 | with_unfolding_all rfl | refine IsS56.far ?_ NB0_0.out _ | refine IsS56.far ?_ NB0_550.out _) | exact HI0.out)) hb)
          have n1_ := Aside0.mk (blk_below (g := g) (o := .cells #[.string s0_0, .int .i64 s0_1, errW s0_2, .bool s0_3] 56 (0, 0)) (by (with_reducible repeat (first | refine blk_drewN ?_ _ | refine blk_drew ?_ | refine blk_alloc ?_ _)); exact BKp0.out) hb)
          have n2_ := Aside0.mk (blk_below (g := gb550) (o := .cells #[.string (⟨#[]⟩ : ByteArray), .int .i64 0] 207 (0, 0)) (by (with_reducible repeat (first | refine blk_drewN ?_ _ | refine blk_drew ?_ | refine blk_alloc ?_ _)); exact BK550.out) hb)
          have n3_ := Aside0.mk (KeepBut.trans (by repeat (first | (with_reducible first | exact HK.out | apply KeepBut.set_ | apply keep_drewN | apply keep_drew | apply keep_alloc | refine keep_far ?_ GW0.out _ | refine keep_far ?_ GW550.out _) | exact HK.out)) (KeepBut.of_below hb g none) (.inl rfl))
          have n4_ := Aside0.mk (below_step (by repeat (first | (with_reducible first | exact HB.out | apply below_alloc | apply pw_below_drewN | apply below_drew1 | refine below_set ?_ (IsS56.ge HI0.out) | refine below_set ?_ GE0.out | refine below_set ?_ GE550.out) | exact HB.out)) hb)
          clear HI0
          clear BKp0
          clear BK550
          clear HK
          clear HB
          have HI0 := n0_
          have BKp0 := n1_
          have BK550 := n2_
          have HK := n3_
          have HB := n4_
          clear n0_ n1_ n2_ n3_ n4_
          (try clear hb)
          (try clear hb2)
          (try clear hk)
          (try clear hi)
          refine hK.out _ _ ⟨(blk_cell BKp0.out 0).trans rfl, (blk_cell BKp0.out 1).trans rfl, (blk_cell BKp0.out 2).trans rfl, (blk_cell BKp0.out 3).trans rfl⟩ (fun hHeld => ?_)
          clear hK K
          refine norm_ (a' := ?_) ?_ ?_
          rotate_left
          · show Act.put _ (some 20) _ = _
            simp only [Act.put, List.setIfInBounds_toArray, List.set_cons_zero, List.set_cons_succ, i64_w, i32_w]
            rfl
          refine pure_ (i := 10) (N := some 10) (v := ?_) (a' := ?_) #[true, true, true, true, true, true, true, true, true, true, true, false, false, true, false, false] rfl rfl (any_of HT_.out (by kernel_rfl)) (fun _ _ _ h => h) (Or.inl ⟨by rfl, ?_⟩) ?_ ?_
          rotate_left
          · intro w'
            go_simp
            with_reducible rfl
          rotate_left
          · simp only [Act.put, List.setIfInBounds_toArray, List.set_cons_zero, List.set_cons_succ, i64_w, i32_w]
            rfl
          refine pure_ (i := 11) (N := some 21) (v := ?_) (a' := ?_) #[true, true, true, true, true, true, true, true, true, true, true, true, false, true, false, false] rfl rfl (any_of HT_.out (by kernel_rfl)) (fun _ _ _ h => h) (Or.inl ⟨by rfl, ?_⟩) ?_ ?_
          rotate_left
          · intro w'
            go_simp
            with_reducible rfl
          rotate_left
          · simp only [Act.put, List.setIfInBounds_toArray, List.set_cons_zero, List.set_cons_succ, i64_w, i32_w]
            rfl
          refine pure_ (i := 12) (N := some 22) (v := ?_) (a' := ?_) #[true, true, true, true, true, true, true, true, true, true, true, true, true, true, false, false] rfl rfl (any_of HT_.out (by kernel_rfl)) (fun _ _ _ h => h) (Or.inl ⟨by rfl, ?_⟩) ?_ ?_
          rotate_left
          · intro w'
            go_simp
            with_reducible rfl
          rotate_left
          · simp only [Act.put, List.setIfInBounds_toArray, List.set_cons_zero, List.set_cons_succ, i64_w, i32_w]
            rfl
          exact norm_ (by simp only [putAll, Act.put, List.setIfInBounds_toArray, List.set_cons_zero, List.set_cons_succ]) (hCont (gb550) _ ⟨hHeld, (by (with_reducible repeat (first | refine blk_drewN ?_ _ | refine blk_drew ?_ | refine blk_alloc ?_ _)); exact BK550.out), (by (with_reducible repeat (first | refine blk_drewN ?_ _ | refine blk_drew ?_ | refine blk_alloc ?_ _)); exact BKp0.out), GW550.out, GE550.out, NB0_550.out, NB550_0.out, (by repeat (first | (with_reducible first | exact HI0.out | apply IsS56.alloc | apply IsS56.drewN | apply IsS56.drew | apply IsS56.set_0 | apply IsS56.set_1 | apply IsS56.set_2 | apply IsS56.set_3 | apply IsS56.sete_2 | with_unfolding_all rfl | refine IsS56.far ?_ NB0_0.out _ | refine IsS56.far ?_ NB0_550.out _) | exact HI0.out)), (by repeat (first | (with_reducible first | exact HK.out | apply KeepBut.set_ | apply keep_drewN | apply keep_drew | apply keep_alloc | refine keep_far ?_ GW0.out _ | refine keep_far ?_ GW550.out _) | exact HK.out)), (by repeat (first | (with_reducible first | exact HB.out | apply below_alloc | apply pw_below_drewN | apply below_drew1 | refine below_set ?_ (IsS56.ge HI0.out) | refine below_set ?_ GE0.out | refine below_set ?_ GE550.out) | exact HB.out))⟩)
      rintro gb550 w23 ⟨hS_, h0_, h1_, h2_, h3_, h4_, h5_, h6_, h7_, h8_⟩
      have n0_ : Aside0 (w23.heap[gb550]? = some (.cells #[.string (⟨#[]⟩ : ByteArray), .int .i64 0] 207 (0, 0))) := ⟨h0_⟩
      have n1_ : Aside0 (w23.heap[g]? = some (.cells #[.string s0_0, .int .i64 s0_1, errW s0_2, .bool s0_3] 56 (0, 0))) := ⟨h1_⟩
      have n2_ : Aside0 (w.heap.size ≤ gb550) := ⟨h2_⟩
      have n3_ : Aside0 (w0.heap.size ≤ gb550) := ⟨h3_⟩
      have n4_ : Aside0 (g ≠ gb550) := ⟨h4_⟩
      have n5_ : Aside0 (gb550 ≠ g) := ⟨h5_⟩
      have n6_ : Aside0 (IsS56 w0 w23 g s0_0 s0_1 s0_2 s0_3) := ⟨h6_⟩
      have n7_ : Aside0 (KeepBut w w23 g none) := ⟨h7_⟩
      have n8_ : Aside0 (Below w0.heap.size w0 w23) := ⟨h8_⟩
      clear BKp0
      clear HI0
      clear HK
      clear HB
      clear h0_ h1_ h2_ h3_ h4_ h5_ h6_ h7_ h8_
      have BK550 := n0_
      have BKp0 := n1_
      have GW550 := n2_
      have GE550 := n3_
      have NB0_550 := n4_
      have NB550_0 := n5_
      have HI0 := n6_
      have HK := n7_
      have HB := n8_
      clear n0_ n1_ n2_ n3_ n4_ n5_ n6_ n7_ n8_
      have hHeld : w23.cell? ⟨g, 0, none⟩ = some (.string s0_0) ∧ w23.cell? ⟨g, 1, none⟩ = some (.int .i64 s0_1) ∧ w23.cell? ⟨g, 2, none⟩ = some (errW s0_2) ∧ w23.cell? ⟨g, 3, none⟩ = some (.bool s0_3) := hS_
      refine norm_ (a' := ?_) ?_ ?_
      rotate_left
      · simp only [putAll, Act.put, List.setIfInBounds_toArray, List.set_cons_zero, List.set_cons_succ]
        rfl
      refine one_ (i := 14) (N := none) #[true, true, true, true, true, true, true, true, true, true, true, true, true, true, true, false] rfl rfl (one_of HT_.out (by kernel_rfl)) (by decide) (fun K hK => ?_)
      have hs24 : w23.cell? ⟨gb550, 0, none⟩ = some (.string (⟨#[]⟩ : ByteArray)) := (blk_cell BK550.out 0).trans rfl
      have hfs24 := blk_frozen BK550.out 0
      have hns24_0 := NB0_550.out
      have hms24_0 := NB550_0.out
      have hs25 : w23.cell? ⟨gb550, 1, none⟩ = some (.int .i64 0) := (blk_cell BK550.out 1).trans rfl
      have hfs25 := blk_frozen BK550.out 1
      have hns25_0 := NB0_550.out
      have hms25_0 := NB550_0.out
      refine skip_ (w1 := ?_) (by rfl) rfl ?_ ?_
      rotate_left
      · go_simp
        rfl
      refine hK.out _ _ ⟨((cell_far (p := ⟨gb550, _, none⟩) NB0_550.out _).trans (((cell_far (p := ⟨gb550, _, none⟩) NB0_550.out _).trans (hHeld.1)))), ((cell_far (p := ⟨gb550, _, none⟩) NB0_550.out _).trans (((cell_far (p := ⟨gb550, _, none⟩) NB0_550.out _).trans (hHeld.2.1)))), ((cell_far (p := ⟨gb550, _, none⟩) NB0_550.out _).trans (((cell_far (p := ⟨gb550, _, none⟩) NB0_550.out _).trans (hHeld.2.2.1)))), ((cell_far (p := ⟨gb550, _, none⟩) NB0_550.out _).trans (((cell_far (p := ⟨gb550, _, none⟩) NB0_550.out _).trans (hHeld.2.2.2))))⟩ (fun hHeld => ?_)
      clear hK K
      refine pure_ (i := 15) (N := some 6) (v := ?_) (a' := ?_) #[true, true, true, true, true, true, true, true, true, true, true, true, true, true, true, true] rfl rfl (any_of HT_.out (by kernel_rfl)) (fun _ _ _ h => h) (Or.inl ⟨by rfl, ?_⟩) ?_ ?_
      rotate_left
      · intro w'
        go_simp
        with_reducible rfl
      rotate_left
      · simp only [Act.put, List.setIfInBounds_toArray, List.set_cons_zero, List.set_cons_succ, i64_w, i32_w]
        rfl
      refine done_ (done_of HT_.out (by kernel_rfl)) ?_
      clear BKp0
      have hnb26 := NB550_0.out
      have hnc26 := NB0_550.out
      have hcz27_0 : w23.cell? ⟨gb550, 0, none⟩ = some (.string (⟨#[]⟩ : ByteArray)) := (blk_cell BK550.out 0).trans rfl
      have hcz27_1 : w23.cell? ⟨gb550, 1, none⟩ = some (.int .i64 0) := (blk_cell BK550.out 1).trans rfl
      have hfz27_0 := blk_frozen BK550.out 0
      have hfz27_1 := blk_frozen BK550.out 1
      try go_wp2_with (first | ((with_reducible refine gate_callee (f := 135) rfl ?_); refine goesL_ (some 27) rfl rfl Try.func135 (by kernel_rfl) rfl #[.pointer (some ⟨g, 0, none⟩), .int .i64 t548, .int .i64 t549] rfl (by (try simp only [List.map_toArray, List.map_cons, List.map_nil]); first | done | rfl | (simp only [List.length_drop, List.length_take]; rfl)) ?_; (with_reducible refine (strict_Reader_done.calls g s0_0 s0_1 s0_2 s0_3 t548 t549 false t552 t553 t554 t555 w0 _ ?side1 ?side2 A6.out).mono ?_); (case side1 => repeat (first | (with_reducible first | exact HI0.out | apply IsS56.alloc | apply IsS56.drewN | apply IsS56.drew | apply IsS56.set_0 | apply IsS56.set_1 | apply IsS56.set_2 | apply IsS56.set_3 | apply IsS56.sete_2 | with_unfolding_all rfl | refine IsS56.far ?_ NB0_550.out _) | exact HI0.out)); (case side2 => repeat (first | (with_reducible first | exact HB.out | apply below_alloc | apply pw_below_drewN | apply below_drew1 | refine below_set ?_ (IsS56.ge HI0.out) | refine below_set ?_ GE550.out) | exact HB.out)); rintro e w28 ⟨rfl, hi, hb, hk⟩; refine ⟨_, rfl, ?_⟩; have n0_ := Aside0.mk (KeepBut.blk hk (g' := gb550) (o := .cells #[.string t547, .int .i64 t548] 207 (0, 0)) (by (with_reducible repeat (first | refine blk_drewN ?_ _ | refine blk_drew ?_ | refine blk_alloc ?_ _)); refine blk_put (cs := #[.string t547, .int .i64 0]) ?_ 1 _ rfl; (with_reducible repeat (first | refine blk_drewN ?_ _ | refine blk_drew ?_ | refine blk_alloc ?_ _)); refine blk_put (cs := #[.string (⟨#[]⟩ : ByteArray), .int .i64 0]) ?_ 0 _ rfl; (with_reducible repeat (first | refine blk_drewN ?_ _ | refine blk_drew ?_ | refine blk_alloc ?_ _)); exact BK550.out) NB550_0.out (by simp)); have n1_ := Aside0.mk (KeepBut.trans (by repeat (first | (with_reducible first | exact HK.out | apply KeepBut.set_ | apply keep_drewN | apply keep_drew | apply keep_alloc | refine keep_far ?_ GW550.out _) | exact HK.out)) hk (.inl rfl)); have n2_ := Aside0.mk (hb); have n3_ := Aside0.mk (hi); clear BK550; clear HK; clear HB; clear HI0; have BK550 := n0_; have HK := n1_; have HB := n2_; have HI0 := n3_; clear n0_ n1_ n2_ n3_; (try clear hb); (try clear hb2); (try clear hk); (try clear hi); (try simp only [errW_none, errW_some])))
      go_ret
      exact ⟨by first | rfl | (simp [errW_none, errW_some] <;> rfl) | (simp [*, errW_none, errW_some] <;> rfl), by repeat (first | (with_reducible first | exact HI0.out | apply IsS56.alloc | apply IsS56.drewN | apply IsS56.drew | apply IsS56.set_0 | apply IsS56.set_1 | apply IsS56.set_2 | apply IsS56.set_3 | apply IsS56.sete_2 | with_unfolding_all rfl | refine IsS56.far ?_ NB0_550.out _) | exact HI0.out), by repeat (first | (with_reducible first | exact HB.out | apply below_alloc | apply pw_below_drewN | apply below_drew1 | refine below_set ?_ (IsS56.ge HI0.out) | refine below_set ?_ GE550.out) | exact HB.out), by repeat (first | (with_reducible first | exact HK.out | apply KeepBut.set_ | apply keep_drewN | apply keep_drew | apply keep_alloc | refine keep_far ?_ GW550.out _) | exact HK.out)⟩
  · replace c4 := Bool.eq_false_iff.mpr c4
    subst c4
    have H1 : (some ((⟨#[]⟩ : ByteArray), s0_0, s0_1, s0_2, s0_3)) = some (r1, r2, r3, r4, r5) := by first | (rw [if_neg (show ¬ (false = true) by decide)] at H; exact H) | rfl
    clear H
    have H := H1
    clear H1
    simp only [Option.some.injEq, Prod.mk.injEq] at H
    obtain ⟨rfl, rfl, rfl, rfl, rfl⟩ := H
    go_enter Try.func42, Try.ntmps42
    go_wp2_with (first | ((with_reducible refine gate_callee (f := 133) rfl ?_); refine goesL_ (some 8) rfl rfl Try.func133 (by kernel_rfl) rfl #[.pointer (some ⟨g, 0, none⟩)] rfl (by (try simp only [List.map_toArray, List.map_cons, List.map_nil]); first | done | rfl | (simp only [List.length_drop, List.length_take]; rfl)) ?_; (with_reducible refine (strict_Reader_goes.calls g s0_0 s0_1 s0_2 s0_3 false s0_0 s0_1 s0_2 s0_3 w0 _ ?side1 ?side2 A3.out).mono ?_); (case side1 => repeat (first | (with_reducible first | exact HI0.out | apply IsS56.alloc | apply IsS56.drewN | apply IsS56.drew | apply IsS56.set_0 | apply IsS56.set_1 | apply IsS56.set_2 | apply IsS56.set_3 | apply IsS56.sete_2 | with_unfolding_all rfl) | exact HI0.out)); (case side2 => repeat (first | (with_reducible first | exact HB.out | apply below_alloc | apply pw_below_drewN | apply below_drew1 | refine below_set ?_ (IsS56.ge HI0.out)) | exact HB.out)); rintro e w29 ⟨rfl, hi, hb, hk⟩; refine ⟨_, rfl, ?_⟩; have n0_ := Aside0.mk (KeepBut.trans (by repeat (first | (with_reducible first | exact HK.out | apply KeepBut.set_ | apply keep_drewN | apply keep_drew | apply keep_alloc) | exact HK.out)) hk (.inl rfl)); have n1_ := Aside0.mk (hb); have n2_ := Aside0.mk (hi); clear HK; clear HB; clear HI0; have HK := n0_; have HB := n1_; have HI0 := n2_; clear n0_ n1_ n2_; (try clear hb); (try clear hb2); (try clear hk); (try clear hi); (try simp only [errW_none, errW_some])))
    go_ret
    exact ⟨by first | rfl | (simp [errW_none, errW_some] <;> rfl) | (simp [*, errW_none, errW_some] <;> rfl), by repeat (first | (with_reducible first | exact HI0.out | apply IsS56.alloc | apply IsS56.drewN | apply IsS56.drew | apply IsS56.set_0 | apply IsS56.set_1 | apply IsS56.set_2 | apply IsS56.set_3 | apply IsS56.sete_2 | with_unfolding_all rfl) | exact HI0.out), by repeat (first | (with_reducible first | exact HB.out | apply below_alloc | apply pw_below_drewN | apply below_drew1 | refine below_set ?_ (IsS56.ge HI0.out)) | exact HB.out), by repeat (first | (with_reducible first | exact HK.out | apply KeepBut.set_ | apply keep_drewN | apply keep_drew | apply keep_alloc) | exact HK.out)⟩
end Go.Proofs.Ytakkhomjpflkbaa.F
namespace Go.Proofs.Ytakkhomjpflkbaa.F
open Go.RowKit Go.Proofs.YtakkhomjpflkbaaX Go.Proofs.YtakkhomjpflkbaaW.PrintWords Go.Proofs.YtakkhomjpflkbaaW.PrintLast Go.Proofs.YtakkhomjpflkbaaW.PrintMore
attribute [local go_sem] max2_int min2_int max_two min_two max_three min_three max_four min_four   
attribute [local go_sem high] str_geq str_leq str_gtr
set_option linter.unusedVariables false
set_option linter.unusedSimpArgs false
def octet_none_int_216.f (a0 : Int) : Option (List Int × Int × Int) := some (([] : List Int), 0, a0)
set_option maxHeartbeats 8000000 in
set_option maxRecDepth 100000 in
theorem octet_none_int_216.calls (a0 : Int) (r1 : List Int) (r2 : Int) (r3 : Int) (w : World) (h : octet_none_int_216.f a0 = some (r1, r2, r3)) :
    Calls Try.prog 216 #[.int .i64 a0] w fun e w' => ∃ v0_ : Value, e = .returned (.tuple #[.agg #[v0_, .int .i64 r2], .int .i64 r3]) ∧ Kd.R (Kd.int .i64) 3 w' w.heap.size (fun _ => True) v0_ r1 ∧ Below w.heap.size w w' := by
  have hu212 := Try.underlying212
  have HB := Aside0.mk (Below.refl w.heap.size w)
  have H : (some (([] : List Int), 0, a0)) = some (r1, r2, r3) := h
  clear h
  simp only [Option.some.injEq, Prod.mk.injEq] at H
  obtain ⟨rfl, rfl, rfl⟩ := H
  go_enter Try.func216, Try.ntmps216
  go_wp2_with (first | ((with_reducible refine gate_dst (N := 2) rfl ?_); refine box_event ?hg (N := 2) ?hd (cs := #[.slice none 0 0, .int .i64 0]) (t := 212) ?hr ?_; (case hd => rfl); (case hg => rfl); (case hr => first | (go_simp; done) | (go_simp; rfl)); intro gb157 hg w2 hbox hb; have n0_ := Aside0.mk (below_step (by repeat (first | (with_reducible first | exact HB.out | apply below_alloc | apply pw_below_drewN | apply below_drew1) | exact HB.out)) hb); have n1_ := Aside0.mk (hbox); have n2_ := Aside0.mk ((by rw [hg]; exact (below_size (by repeat (first | (with_reducible first | exact HB.out | apply below_alloc | apply pw_below_drewN | apply below_drew1) | exact HB.out))) : w.heap.size ≤ gb157)); have n3_ := Aside0.mk ((by rw [hg]; exact (below_size (by repeat (first | (with_reducible first | exact HB.out | apply below_alloc | apply pw_below_drewN | apply below_drew1) | exact HB.out))) : w.heap.size ≤ gb157)); clear HB; have HB := n0_; have BK157 := n1_; have GW157 := n2_; have GE157 := n3_; clear n0_ n1_ n2_ n3_; clear hb hbox hg; have hcz3_0 : w2.cell? ⟨gb157, 0, none⟩ = some (.slice none 0 0) := (blk_cell BK157.out 0).trans rfl; have hcz3_1 : w2.cell? ⟨gb157, 1, none⟩ = some (.int .i64 0) := (blk_cell BK157.out 1).trans rfl; have hfz3_0 := blk_frozen BK157.out 0; have hfz3_1 := blk_frozen BK157.out 1))
  refine bodyPost_ret (results_ct rfl _ _ gb157 212 #[.slice none 0 0, .int .i64 0] (0, 0) _ rfl (by (with_reducible repeat (first | refine blk_drewN ?_ _ | refine blk_drew ?_ | refine blk_alloc ?_ _)); refine blk_put (cs := #[.slice none 0 0, .int .i64 0]) ?_ 1 _ rfl; (with_reducible repeat (first | refine blk_drewN ?_ _ | refine blk_drew ?_ | refine blk_alloc ?_ _)); refine blk_put (cs := #[.slice none 0 0, .int .i64 0]) ?_ 0 _ rfl; (with_reducible repeat (first | refine blk_drewN ?_ _ | refine blk_drew ?_ | refine blk_alloc ?_ _)); exact BK157.out) Try.underlying212 rfl (by kernel_rfl)) rfl ?_
  exact ⟨_, by first | rfl | (simp [errW_none, errW_some] <;> rfl) | (simp [*, errW_none, errW_some] <;> rfl), by first | exact Kd.R_nil _ _ _ _ _ | exact Kd.N_nil _ _ _ _ _ | exact Kd.V_nil _ _ _ _ _ | exact Kd.Q_nil _ _ _ _ _ | exact Kd.S_nil _ _ _ _ _, by repeat (first | (with_reducible first | exact HB.out | apply below_alloc | apply pw_below_drewN | apply below_drew1 | refine below_set ?_ GE157.out) | exact HB.out)⟩
end Go.Proofs.Ytakkhomjpflkbaa.F
namespace Go.Proofs.Ytakkhomjpflkbaa.F
open Go.RowKit Go.Proofs.YtakkhomjpflkbaaX Go.Proofs.YtakkhomjpflkbaaW.PrintWords Go.Proofs.YtakkhomjpflkbaaW.PrintLast Go.Proofs.YtakkhomjpflkbaaW.PrintMore
attribute [local go_sem] max2_int min2_int max_two min_two max_three min_three max_four min_four   
attribute [local go_sem high] str_geq str_leq str_gtr
set_option linter.unusedVariables false
set_option linter.unusedSimpArgs false
def octet_got_int_217.f (l0 : List Int) (a1 : Int) : Option (List Int × Int × Int) := some (l0, a1, 0)
set_option maxHeartbeats 8000000 in
set_option maxRecDepth 100000 in
theorem octet_got_int_217.calls (P0_ : Nat → Prop) (u9000_ : Value) (l0 : List Int) (a1 : Int) (r1 : List Int) (r2 : Int) (r3 : Int) (w0 w : World) (hB : Below w0.heap.size w0 w) (ho0 : Kd.R (Kd.int .i64) 3 w w0.heap.size P0_ u9000_ l0) (h : octet_got_int_217.f l0 a1 = some (r1, r2, r3)) :
    Calls Try.prog 217 #[u9000_, .int .i64 a1] w fun e w' => ∃ v0_ : Value, e = .returned (.tuple #[.agg #[v0_, .int .i64 r2], .int .i64 r3]) ∧ Kd.R (Kd.int .i64) 3 w' w0.heap.size (fun k_ => (P0_ k_ ∨ w.heap.size ≤ k_)) v0_ r1 ∧ Below w0.heap.size w0 w' ∧ Kept w w' (fun k_ => P0_ k_) := by
  have hu212 := Try.underlying212
  have HO0 := Aside0.mk (show Kd.R (Kd.int .i64) 3 w w0.heap.size (fun k_ => (P0_ k_ ∨ w.heap.size ≤ k_)) u9000_ l0 from Kd.R_mono ho0 (fun k_ hk => (.inl hk)))
  have HK := Aside0.mk (Kept.refl w (fun k_ => P0_ k_))
  have HW0 := Aside0.mk hB.size
  have HB := Aside0.mk hB
  clear hB
  have H : (some (l0, a1, 0)) = some (r1, r2, r3) := h
  clear h
  simp only [Option.some.injEq, Prod.mk.injEq] at H
  obtain ⟨rfl, rfl, rfl⟩ := H
  go_enter Try.func217, Try.ntmps217
  go_wp2_with (first | ((with_reducible refine gate_dst (N := 4) rfl ?_); refine box_event ?hg (N := 4) ?hd (cs := #[.slice none 0 0, .int .i64 0]) (t := 212) ?hr ?_; (case hd => rfl); (case hg => rfl); (case hr => first | (go_simp; done) | (go_simp; rfl)); intro gb158 hg w3 hbox hb; have n0_ := Aside0.mk (Kd.R_below (by (with_reducible repeat (first | apply Kd.R_alloc | apply Kd.R_drewN | apply Kd.R_drew)); exact HO0.out) hb); have n1_ := Aside0.mk (Kept.below (S := (fun k_ => P0_ k_)) (by repeat (first | (with_reducible first | exact HK.out | apply Kept.alloc | apply Kept.drewN | apply Kept.drew) | exact HK.out)) hb); have n2_ := Aside0.mk (below_step (by repeat (first | (with_reducible first | exact HB.out | apply below_alloc | apply pw_below_drewN | apply below_drew1) | exact HB.out)) hb); have n3_ := Aside0.mk (hbox); have n4_ := Aside0.mk ((by rw [hg]; exact (by first | exact HK.out.1 | exact (show Kept w _ (fun k_ => P0_ k_) from by repeat (first | (with_reducible first | exact HK.out | apply Kept.alloc | apply Kept.drewN | apply Kept.drew) | exact HK.out)).1) : w.heap.size ≤ gb158)); have n5_ := Aside0.mk ((by rw [hg]; exact (below_size (by repeat (first | (with_reducible first | exact HB.out | apply below_alloc | apply pw_below_drewN | apply below_drew1) | exact HB.out))) : w0.heap.size ≤ gb158)); clear HO0; clear HK; clear HB; have HO0 := n0_; have HK := n1_; have HB := n2_; have BK158 := n3_; have GW158 := n4_; have GE158 := n5_; clear n0_ n1_ n2_ n3_ n4_ n5_; clear hb hbox hg; obtain ⟨Ao4, co4, eo4⟩ := Kd.R_slice HO0.out; subst eo4; have hcz5_0 : w3.cell? ⟨gb158, 0, none⟩ = some (.slice none 0 0) := (blk_cell BK158.out 0).trans rfl; have hcz5_1 : w3.cell? ⟨gb158, 1, none⟩ = some (.int .i64 0) := (blk_cell BK158.out 1).trans rfl; have hfz5_0 := blk_frozen BK158.out 0; have hfz5_1 := blk_frozen BK158.out 1))
  refine bodyPost_ret (results_ct rfl _ _ gb158 212 #[.slice Ao4 l0.length co4, .int .i64 a1] (0, 0) _ rfl (by (with_reducible repeat (first | refine blk_drewN ?_ _ | refine blk_drew ?_ | refine blk_alloc ?_ _)); refine blk_put (cs := #[.slice Ao4 l0.length co4, .int .i64 0]) ?_ 1 _ rfl; (with_reducible repeat (first | refine blk_drewN ?_ _ | refine blk_drew ?_ | refine blk_alloc ?_ _)); refine blk_put (cs := #[.slice none 0 0, .int .i64 0]) ?_ 0 _ rfl; (with_reducible repeat (first | refine blk_drewN ?_ _ | refine blk_drew ?_ | refine blk_alloc ?_ _)); exact BK158.out) Try.underlying212 rfl (by kernel_rfl)) rfl ?_
  exact ⟨_, by first | rfl | (simp [errW_none, errW_some] <;> rfl) | (simp [*, errW_none, errW_some] <;> rfl), by (with_reducible repeat (first | apply Kd.R_alloc | apply Kd.R_drewN | apply Kd.R_drew)); exact Kd.R_mono (Kd.R_far (p := ⟨gb158, 1, none⟩) (Kd.R_far (p := ⟨gb158, 0, none⟩) (Kd.R_types HO0.out BK158.out (by decide)) (fun _ hk => hk.2) (.slice Ao4 l0.length co4)) (fun _ hk => hk.2) (.int .i64 a1)) (fun _ hk => hk.1), by repeat (first | (with_reducible first | exact HB.out | apply below_alloc | apply pw_below_drewN | apply below_drew1 | refine below_set ?_ GE158.out) | exact HB.out), by repeat (first | (with_reducible first | exact HK.out | apply Kept.alloc | apply Kept.drewN | apply Kept.drew | refine Kept.setCell ?_ (.inr GW158.out) _) | exact HK.out)⟩
end Go.Proofs.Ytakkhomjpflkbaa.F
namespace Go.Proofs.Ytakkhomjpflkbaa.F
open Go.RowKit Go.Proofs.YtakkhomjpflkbaaX Go.Proofs.YtakkhomjpflkbaaW.PrintWords Go.Proofs.YtakkhomjpflkbaaW.PrintLast Go.Proofs.YtakkhomjpflkbaaW.PrintMore
attribute [local go_sem] max2_int min2_int max_two min_two max_three min_three max_four min_four   
attribute [local go_sem high] str_geq str_leq str_gtr
set_option linter.unusedVariables false
set_option linter.unusedSimpArgs false
mutual
def octet_Unrow.j0 : Nat → ByteArray → Int → Int → Int → Bool → Option (List Int × Int × Int)
  | 0, _, _, _, _, _ => none
  | k + 1, x0, x1, x2, x3, x28 => if x28 = true then ((octet_none_int_216.f 2).bind fun bt162 => (some (bt162.1, bt162.2.1, bt162.2.2))) else ((octet_Get.f k x0 x1 2).bind fun bt167 => (if bt167.2.2 = 0 then (if bt167.1 > (mn x3 1000) then ((octet_none_int_216.f 3).bind fun bt176 => (some (bt176.1, bt176.2.1, bt176.2.2))) else (octet_Unrow.l0 k x0 x2 ([] : List Int) bt167.2.1 bt167.1 0)) else ((octet_none_int_216.f bt167.2.2).bind fun bt171 => (some (bt171.1, bt171.2.1, bt171.2.2)))))
def octet_Unrow.l0 : Nat → ByteArray → Int → List Int → Int → Int → Int → Option (List Int × Int × Int)
  | 0, _, _, _, _, _, _ => none
  | k + 1, x0, x2, x12, x13, x55, x56 => if x56 < x55 then ((octet_Get.f k x0 x13 x2).bind fun bt186 => (if bt186.2.2 = 0 then (if x12.length < 17592186044416 then (octet_Unrow.l0 k x0 x2 (x12 ++ [bt186.1]) bt186.2.1 x55 (wrap64 (x56 + 1))) else (none)) else ((octet_none_int_216.f bt186.2.2).bind fun bt193 => (some (bt193.1, bt193.2.1, bt193.2.2))))) else ((octet_got_int_217.f x12 x13).bind fun bt181 => (some (bt181.1, bt181.2.1, bt181.2.2)))
end
def octet_Unrow.f (k : Nat) (a0 : ByteArray) (a1 : Int) (a2 : Int) (a3 : Int) : Option (List Int × Int × Int) := (octet_wide.f a2).bind fun t160 => (if t160 = true then ((octet_inside.f a0 a1).bind fun t161 => (if t161 = true then (octet_Unrow.j0 k a0 a1 a2 a3 (decide (a3 < 0))) else (octet_Unrow.j0 k a0 a1 a2 a3 true))) else (octet_Unrow.j0 k a0 a1 a2 a3 true))
theorem octet_Unrow.mono_l : ∀ k, (∀ y0 y1 y2 y3 y4, LeO (octet_Unrow.j0 k y0 y1 y2 y3 y4) (octet_Unrow.j0 (k + 1) y0 y1 y2 y3 y4)) ∧ (∀ y0 y1 y2 y3 y4 y5, LeO (octet_Unrow.l0 k y0 y1 y2 y3 y4 y5) (octet_Unrow.l0 (k + 1) y0 y1 y2 y3 y4 y5))
  | 0 => ⟨fun _ _ _ _ _ r h => by simp [octet_Unrow.j0] at h, fun _ _ _ _ _ _ r h => by simp [octet_Unrow.l0] at h⟩
  | k + 1 => by
    obtain ⟨ih0, ih1⟩ := octet_Unrow.mono_l k
    refine ⟨?_, ?_⟩
    · intro y0 y1 y2 y3 y4
      unfold octet_Unrow.j0
      repeat' first
      | (with_reducible exact ih0 _ _ _ _ _)
      | (with_reducible exact ih1 _ _ _ _ _ _)
      | (with_reducible exact octet_Get.mono _ _ _ _)
      | (with_reducible exact LeO.refl _)
      | (with_reducible exact LeO.none _)
      | (with_reducible refine LeO.ite ?_ ?_)
      | (with_reducible refine LeO.bind ?_ (fun _ => ?_))
      | exact ih0 _ _ _ _ _
      | exact ih1 _ _ _ _ _ _
      | exact octet_Get.mono _ _ _ _
      | exact LeO.none _
      | refine LeO.ite ?_ ?_
      | refine LeO.bind ?_ (fun _ => ?_)
    · intro y0 y1 y2 y3 y4 y5
      unfold octet_Unrow.l0
      repeat' first
      | (with_reducible exact ih0 _ _ _ _ _)
      | (with_reducible exact ih1 _ _ _ _ _ _)
      | (with_reducible exact octet_Get.mono _ _ _ _)
      | (with_reducible exact LeO.refl _)
      | (with_reducible exact LeO.none _)
      | (with_reducible refine LeO.ite ?_ ?_)
      | (with_reducible refine LeO.bind ?_ (fun _ => ?_))
      | exact ih0 _ _ _ _ _
      | exact ih1 _ _ _ _ _ _
      | exact octet_Get.mono _ _ _ _
      | exact LeO.none _
      | refine LeO.ite ?_ ?_
      | refine LeO.bind ?_ (fun _ => ?_)
theorem octet_Unrow.mono : ∀ a0 a1 a2 a3 k, LeO (octet_Unrow.f k a0 a1 a2 a3) (octet_Unrow.f (k + 1) a0 a1 a2 a3) := by
  intro a0 a1 a2 a3 k
  obtain ⟨ih0, ih1⟩ := octet_Unrow.mono_l k
  unfold octet_Unrow.f
  repeat' first
      | (with_reducible exact ih0 _ _ _ _ _)
      | (with_reducible exact ih1 _ _ _ _ _ _)
      | (with_reducible exact octet_Get.mono _ _ _ _)
      | (with_reducible exact LeO.refl _)
      | (with_reducible exact LeO.none _)
      | (with_reducible refine LeO.ite ?_ ?_)
      | (with_reducible refine LeO.bind ?_ (fun _ => ?_))
      | exact ih0 _ _ _ _ _
      | exact ih1 _ _ _ _ _ _
      | exact octet_Get.mono _ _ _ _
      | exact LeO.none _
      | refine LeO.ite ?_ ?_
      | refine LeO.bind ?_ (fun _ => ?_)
def octet_Unrow.T15 : Bool × List (List Nat × List Nat) := (true, [([], []), ([], []), ([1], [1]), ([2], [2]), ([0, 3], [0, 3]), ([], []), ([5], [5]), ([4, 4, 0, 1, 2, 3, 4], [0, 4]), ([6, 7, 0, 1, 2, 3, 4, 5, 6, 7], [6])])
def octet_Unrow.B15 : List Nat := [0, 0, 2, 6, 15, 0, 32, 31, 255]
theorem octet_Unrow.tab15 : rtab .any (opsOf Try.f138 15) = octet_Unrow.T15 := by kernel_rfl
theorem octet_Unrow.bits15 : waitsOk octet_Unrow.T15.2 octet_Unrow.B15 = true := by kernel_rfl
set_option maxHeartbeats 8000000 in
set_option maxRecDepth 100000 in
theorem octet_Unrow.calls (k : Nat) (a0 : ByteArray) (a1 : Int) (a2 : Int) (a3 : Int) (r1 : List Int) (r2 : Int) (r3 : Int) (w : World) (h : octet_Unrow.f k a0 a1 a2 a3 = some (r1, r2, r3)) :
    Calls Try.prog 138 #[.string a0, .int .i64 a1, .int .i64 a2, .int .i64 a3] w fun e w' => ∃ v0_ : Value, e = .returned (.tuple #[.agg #[v0_, .int .i64 r2], .int .i64 r3]) ∧ Kd.R (Kd.int .i64) 3 w' w.heap.size (fun _ => True) v0_ r1 ∧ Below w.heap.size w w' := by
  have hu212 := Try.underlying212
  have hu202 := Try.underlying202
  have HB := Aside0.mk (Below.refl w.heap.size w)
  have H : ((octet_wide.f a2).bind fun t160 => (if t160 = true then ((octet_inside.f a0 a1).bind fun t161 => (if t161 = true then (octet_Unrow.j0 k a0 a1 a2 a3 (decide (a3 < 0))) else (octet_Unrow.j0 k a0 a1 a2 a3 true))) else (octet_Unrow.j0 k a0 a1 a2 a3 true))) = some (r1, r2, r3) := h
  clear h
  have HC5 := Aside0.mk H
  clear H
  go_enter Try.func138, Try.ntmps138
  go_upto_region 1 with (first | ((with_reducible refine gate_dst (N := 8) rfl ?_); refine box_event ?hg (N := 8) ?hd (cs := #[.slice none 0 0, .int .i64 0]) (t := 212) ?hr ?_; (case hd => rfl); (case hg => rfl); (case hr => first | (go_simp; done) | (go_simp; rfl)); intro gb159 hg w6 hbox hb; have n0_ := Aside0.mk (below_step (by repeat (first | (with_reducible first | exact HB.out | apply below_alloc | apply pw_below_drewN | apply below_drew1) | exact HB.out)) hb); have n1_ := Aside0.mk (hbox); have n2_ := Aside0.mk ((by rw [hg]; exact (below_size (by repeat (first | (with_reducible first | exact HB.out | apply below_alloc | apply pw_below_drewN | apply below_drew1) | exact HB.out))) : w.heap.size ≤ gb159)); have n3_ := Aside0.mk ((by rw [hg]; exact (below_size (by repeat (first | (with_reducible first | exact HB.out | apply below_alloc | apply pw_below_drewN | apply below_drew1) | exact HB.out))) : w.heap.size ≤ gb159)); clear HB; have HB := n0_; have BK159 := n1_; have GW159 := n2_; have GE159 := n3_; clear n0_ n1_ n2_ n3_; clear hb hbox hg))
  (try simp only [Act.put, List.setIfInBounds_toArray, List.set_cons_zero, List.set_cons_succ])
  go_cut [28] (fun v28 wc => ∃ (kq : Nat) (x28_4 : Bool), v28 = .bool x28_4 ∧ Aside0 (octet_Unrow.j0 kq a0 a1 a2 a3 x28_4 = some (r1, r2, r3)) ∧ Aside0 (kq ≤ k) ∧ Aside0 (wc.heap[gb159]? = some (.cells #[(.slice none 0 0), .int .i64 0] 212 (0, 0))) ∧ Aside0 (Below w.heap.size w wc))
  case first =>
    have H := HC5.out
    clear HC5
    replace H := Option.bind_eq_some_iff.mp H
    obtain ⟨t160, A70, H⟩ := H
    replace H : (if t160 = true then ((octet_inside.f a0 a1).bind fun t161 => (if t161 = true then (octet_Unrow.j0 k a0 a1 a2 a3 (decide (a3 < 0))) else (octet_Unrow.j0 k a0 a1 a2 a3 true))) else (octet_Unrow.j0 k a0 a1 a2 a3 true)) = some (r1, r2, r3) := H
    have A7 := Aside0.mk A70
    clear A70
    by_cases c8 : t160 = true
    · subst c8
      have H1 : ((octet_inside.f a0 a1).bind fun t161 => (if t161 = true then (octet_Unrow.j0 k a0 a1 a2 a3 (decide (a3 < 0))) else (octet_Unrow.j0 k a0 a1 a2 a3 true))) = some (r1, r2, r3) := by first | (rw [if_pos rfl] at H; exact H) | rfl
      clear H
      have H := H1
      clear H1
      replace H := Option.bind_eq_some_iff.mp H
      obtain ⟨t161, A90, H⟩ := H
      replace H : (if t161 = true then (octet_Unrow.j0 k a0 a1 a2 a3 (decide (a3 < 0))) else (octet_Unrow.j0 k a0 a1 a2 a3 true)) = some (r1, r2, r3) := H
      have A9 := Aside0.mk A90
      clear A90
      by_cases c10 : t161 = true
      · subst c10
        have H1 : (octet_Unrow.j0 k a0 a1 a2 a3 (decide (a3 < 0))) = some (r1, r2, r3) := by first | (rw [if_pos rfl] at H; exact H) | rfl
        clear H
        have H := H1
        clear H1
        have H' := Aside0.mk H
        clear H
        go_wp2_with (first | ((with_reducible refine gate_callee (f := 156) rfl ?_); refine goesL_ (some 17) rfl rfl Try.func156 (by kernel_rfl) rfl #[.int .i64 a2] rfl (by (try simp only [List.map_toArray, List.map_cons, List.map_nil]); first | done | rfl | (simp only [List.length_drop, List.length_take]; rfl)) ?_; (with_reducible refine (octet_wide.calls a2 true _ A7.out).mono ?_); rintro e w' ⟨rfl, ⟨nd, rfl⟩⟩; refine ⟨_, rfl, ?_⟩) | (go_at_call 210; (with_reducible refine (octet_inside.calls a0 a1 true _ A9.out).mono ?_); rintro e w' ⟨rfl, ⟨nd, rfl⟩⟩))
        go_meet
        case rel => exact ⟨_, (decide (a3 < 0)), (by first | rfl | (simp; done) | (simp [*]; done)), H', ⟨by first | omega | exact Nat.le_refl _⟩, ⟨by (with_reducible repeat (first | refine blk_drewN ?_ _ | refine blk_drew ?_ | refine blk_alloc ?_ _)); exact BK159.out⟩, ⟨by repeat (first | (with_reducible first | exact HB.out | apply below_alloc | apply pw_below_drewN | apply below_drew1 | refine below_set ?_ GE159.out) | exact HB.out)⟩⟩
      · replace c10 := Bool.eq_false_iff.mpr c10
        subst c10
        have H1 : (octet_Unrow.j0 k a0 a1 a2 a3 true) = some (r1, r2, r3) := by first | (rw [if_neg (show ¬ (false = true) by decide)] at H; exact H) | rfl
        clear H
        have H := H1
        clear H1
        have H' := Aside0.mk H
        clear H
        go_wp2_with (first | ((with_reducible refine gate_callee (f := 156) rfl ?_); refine goesL_ (some 17) rfl rfl Try.func156 (by kernel_rfl) rfl #[.int .i64 a2] rfl (by (try simp only [List.map_toArray, List.map_cons, List.map_nil]); first | done | rfl | (simp only [List.length_drop, List.length_take]; rfl)) ?_; (with_reducible refine (octet_wide.calls a2 true _ A7.out).mono ?_); rintro e w' ⟨rfl, ⟨nd, rfl⟩⟩; refine ⟨_, rfl, ?_⟩) | (go_at_call 210; (with_reducible refine (octet_inside.calls a0 a1 false _ A9.out).mono ?_); rintro e w' ⟨rfl, ⟨nd, rfl⟩⟩))
        go_meet
        case rel => exact ⟨_, (true), (by first | rfl | (simp; done) | (simp [*]; done)), H', ⟨by first | omega | exact Nat.le_refl _⟩, ⟨by (with_reducible repeat (first | refine blk_drewN ?_ _ | refine blk_drew ?_ | refine blk_alloc ?_ _)); exact BK159.out⟩, ⟨by repeat (first | (with_reducible first | exact HB.out | apply below_alloc | apply pw_below_drewN | apply below_drew1 | refine below_set ?_ GE159.out) | exact HB.out)⟩⟩
    · replace c8 := Bool.eq_false_iff.mpr c8
      subst c8
      have H1 : (octet_Unrow.j0 k a0 a1 a2 a3 true) = some (r1, r2, r3) := by first | (rw [if_neg (show ¬ (false = true) by decide)] at H; exact H) | rfl
      clear H
      have H := H1
      clear H1
      have H' := Aside0.mk H
      clear H
      go_wp2_with (first | ((with_reducible refine gate_callee (f := 156) rfl ?_); refine goesL_ (some 17) rfl rfl Try.func156 (by kernel_rfl) rfl #[.int .i64 a2] rfl (by (try simp only [List.map_toArray, List.map_cons, List.map_nil]); first | done | rfl | (simp only [List.length_drop, List.length_take]; rfl)) ?_; (with_reducible refine (octet_wide.calls a2 false _ A7.out).mono ?_); rintro e w' ⟨rfl, ⟨nd, rfl⟩⟩; refine ⟨_, rfl, ?_⟩))
      go_meet
      case rel => exact ⟨_, (true), (by first | rfl | (simp; done) | (simp [*]; done)), H', ⟨by first | omega | exact Nat.le_refl _⟩, ⟨by (with_reducible repeat (first | refine blk_drewN ?_ _ | refine blk_drew ?_ | refine blk_alloc ?_ _)); exact BK159.out⟩, ⟨by repeat (first | (with_reducible first | exact HB.out | apply below_alloc | apply pw_below_drewN | apply below_drew1 | refine below_set ?_ GE159.out) | exact HB.out)⟩⟩
  case rest =>
    clear HC5
    try clear c1
    try clear p2
    try clear c8
    try clear c10
    obtain ⟨kq, x28_4, rfl, HA, HJ4, BK159, HB⟩ := hcut
    cases kq with
    | zero => exact absurd HA.out (by simp [octet_Unrow.j0])
    | succ kj4 =>
      have H := HA.out
      clear HA
      simp only [octet_Unrow.j0] at H
      by_cases c11 : x28_4 = true
      · subst c11
        have H1 : ((octet_none_int_216.f 2).bind fun bt162 => (some (bt162.1, bt162.2.1, bt162.2.2))) = some (r1, r2, r3) := by first | (rw [if_pos rfl] at H; exact H) | rfl
        clear H
        have H := H1
        clear H1
        replace H := Option.bind_eq_some_iff.mp H
        obtain ⟨⟨t162, t165, t166⟩, A120, H⟩ := H
        replace H : (some (t162, t165, t166)) = some (r1, r2, r3) := H
        have A12 := Aside0.mk A120
        clear A120
        simp only [Option.some.injEq, Prod.mk.injEq] at H
        obtain ⟨rfl, rfl, rfl⟩ := H
        go_wp2_with (first | ((with_reducible refine gate_callee (f := 216) rfl ?_); refine goesL_ (some 29) rfl rfl Try.func216 (by kernel_rfl) rfl #[.int .i64 2] rfl (by (try simp only [List.map_toArray, List.map_cons, List.map_nil]); first | done | rfl | (simp only [List.length_drop, List.length_take]; rfl)) ?_; (with_reducible refine (octet_none_int_216.calls 2 t162 t165 t166 _ A12.out).mono ?_); rintro e w13 ⟨v163, rfl, ho0, hb⟩; refine ⟨_, rfl, ?_⟩; have n0_ := Aside0.mk (Kd.R_lower ho0 (below_size (by repeat (first | (with_reducible first | exact HB.out | apply below_alloc | apply pw_below_drewN | apply below_drew1 | refine below_set ?_ GE159.out) | exact HB.out)))); have n1_ := Aside0.mk (blk_below (g := gb159) (o := .cells #[.slice none 0 0, .int .i64 0] 212 (0, 0)) (by (with_reducible repeat (first | refine blk_drewN ?_ _ | refine blk_drew ?_ | refine blk_alloc ?_ _)); exact BK159.out) hb); have n2_ := Aside0.mk (below_step (by repeat (first | (with_reducible first | exact HB.out | apply below_alloc | apply pw_below_drewN | apply below_drew1 | refine below_set ?_ GE159.out) | exact HB.out)) hb); clear BK159; clear HB; have HO164 := n0_; have BK159 := n1_; have HB := n2_; clear n0_ n1_ n2_; (try clear hb); (try clear hb2); (try clear hk); (try clear hi); (try clear ho0); obtain ⟨Ao14, co14, eo14⟩ := Kd.R_slice HO164.out; subst eo14; have hcz15_0 : w13.cell? ⟨gb159, 0, none⟩ = some (.slice none 0 0) := (blk_cell BK159.out 0).trans rfl; have hcz15_1 : w13.cell? ⟨gb159, 1, none⟩ = some (.int .i64 0) := (blk_cell BK159.out 1).trans rfl; have hfz15_0 := blk_frozen BK159.out 0; have hfz15_1 := blk_frozen BK159.out 1))
        refine bodyPost_ret (results_ct rfl _ _ gb159 212 #[.slice Ao14 t162.length co14, .int .i64 t165] (0, 0) _ rfl (by (with_reducible repeat (first | refine blk_drewN ?_ _ | refine blk_drew ?_ | refine blk_alloc ?_ _)); refine blk_put (cs := #[.slice Ao14 t162.length co14, .int .i64 0]) ?_ 1 _ rfl; (with_reducible repeat (first | refine blk_drewN ?_ _ | refine blk_drew ?_ | refine blk_alloc ?_ _)); refine blk_put (cs := #[.slice none 0 0, .int .i64 0]) ?_ 0 _ rfl; (with_reducible repeat (first | refine blk_drewN ?_ _ | refine blk_drew ?_ | refine blk_alloc ?_ _)); exact BK159.out) Try.underlying212 rfl (by kernel_rfl)) rfl ?_
        exact ⟨_, by first | rfl | (simp [errW_none, errW_some] <;> rfl) | (simp [*, errW_none, errW_some] <;> rfl), by (with_reducible repeat (first | apply Kd.R_alloc | apply Kd.R_drewN | apply Kd.R_drew)); exact Kd.R_mono (Kd.R_far (p := ⟨gb159, 1, none⟩) (Kd.R_far (p := ⟨gb159, 0, none⟩) (Kd.R_types HO164.out BK159.out (by decide)) (fun _ hk => hk.2) (.slice Ao14 t162.length co14)) (fun _ hk => hk.2) (.int .i64 t165)) (fun _ hk => trivial), by repeat (first | (with_reducible first | exact HB.out | apply below_alloc | apply pw_below_drewN | apply below_drew1 | refine below_set ?_ GE159.out) | exact HB.out)⟩
      · replace c11 := Bool.eq_false_iff.mpr c11
        subst c11
        have H1 : ((octet_Get.f kj4 a0 a1 2).bind fun bt167 => (if bt167.2.2 = 0 then (if bt167.1 > (mn a3 1000) then ((octet_none_int_216.f 3).bind fun bt176 => (some (bt176.1, bt176.2.1, bt176.2.2))) else (octet_Unrow.l0 kj4 a0 a2 ([] : List Int) bt167.2.1 bt167.1 0)) else ((octet_none_int_216.f bt167.2.2).bind fun bt171 => (some (bt171.1, bt171.2.1, bt171.2.2))))) = some (r1, r2, r3) := by first | (rw [if_neg (show ¬ (false = true) by decide)] at H; exact H) | rfl
        clear H
        have H := H1
        clear H1
        replace H := Option.bind_eq_some_iff.mp H
        obtain ⟨⟨t167, t168, t169⟩, A160, H⟩ := H
        replace H : (if t169 = 0 then (if t167 > (mn a3 1000) then ((octet_none_int_216.f 3).bind fun bt176 => (some (bt176.1, bt176.2.1, bt176.2.2))) else (octet_Unrow.l0 kj4 a0 a2 ([] : List Int) t168 t167 0)) else ((octet_none_int_216.f t169).bind fun bt171 => (some (bt171.1, bt171.2.1, bt171.2.2)))) = some (r1, r2, r3) := H
        have A16 := Aside0.mk A160
        clear A160
        by_cases c17 : t169 = 0
        · rw [if_pos c17] at H
          have c17b0 : (t169 == 0) = true := beq_iff_eq.mpr c17
          have c17b1 : (t169 != 0) = false := bne_eq_false_iff_eq.mpr c17
          clear c17
          obtain ⟨ji18, hji18⟩ : ∃ j_ : Int, (mn a3 1000) = j_ := ⟨_, rfl⟩
          replace H : (if t167 > (ji18) then ((octet_none_int_216.f 3).bind fun bt176 => (some (bt176.1, bt176.2.1, bt176.2.2))) else (octet_Unrow.l0 kj4 a0 a2 ([] : List Int) t168 t167 0)) = some (r1, r2, r3) := by first | (rw [hji18] at H; exact H) | (simp only [hji18] at H ⊢; exact H)
          (try rw [hji18] at A16)
          have hji18_ : (if 1000 < a3 then 1000 else a3) = ji18 := hji18
          by_cases c19 : t167 > (ji18)
          · rw [if_pos c19] at H
            have c19b0 : decide ((ji18) < t167) = true := decide_eq_true c19
            clear c19
            replace H := Option.bind_eq_some_iff.mp H
            obtain ⟨⟨t176, t179, t180⟩, A200, H⟩ := H
            replace H : (some (t176, t179, t180)) = some (r1, r2, r3) := H
            have A20 := Aside0.mk A200
            clear A200
            simp only [Option.some.injEq, Prod.mk.injEq] at H
            obtain ⟨rfl, rfl, rfl⟩ := H
            go_wp2_with (first | ((with_reducible refine gate_callee (f := 134) rfl ?_); refine goesL_ (some 35) rfl rfl Try.func134 (by kernel_rfl) rfl #[.string a0, .int .i64 a1, .int .i64 2] rfl (by (try simp only [List.map_toArray, List.map_cons, List.map_nil]); first | done | rfl | (simp only [List.length_drop, List.length_take]; rfl)) ?_; (with_reducible refine (octet_Get.calls kj4 a0 a1 2 t167 t168 t169 _ A16.out).mono ?_); rintro e w21 ⟨rfl, hb⟩; refine ⟨_, rfl, ?_⟩; have n0_ := Aside0.mk (blk_below (g := gb159) (o := .cells #[.slice none 0 0, .int .i64 0] 212 (0, 0)) (by (with_reducible repeat (first | refine blk_drewN ?_ _ | refine blk_drew ?_ | refine blk_alloc ?_ _)); exact BK159.out) hb); have n1_ := Aside0.mk (below_step (by repeat (first | (with_reducible first | exact HB.out | apply below_alloc | apply pw_below_drewN | apply below_drew1 | refine below_set ?_ GE159.out) | exact HB.out)) hb); clear BK159; clear HB; have BK159 := n0_; have HB := n1_; clear n0_ n1_; (try clear hb); (try clear hb2); (try clear hk); (try clear hi)) | ((with_reducible refine gate_dst (N := 10) rfl ?_); refine box_event ?hg (N := 10) ?hd (cs := #[.int .i64 0, .int .i64 0]) (t := 202) ?hr ?_; (case hd => rfl); (case hg => rfl); (case hr => first | (go_simp; done) | (go_simp; rfl)); intro gb170 hg w22 hbox hb; have n0_ := Aside0.mk (blk_below (g := gb159) (o := .cells #[.slice none 0 0, .int .i64 0] 212 (0, 0)) (by (with_reducible repeat (first | refine blk_drewN ?_ _ | refine blk_drew ?_ | refine blk_alloc ?_ _)); exact BK159.out) hb); have n1_ := Aside0.mk (below_step (by repeat (first | (with_reducible first | exact HB.out | apply below_alloc | apply pw_below_drewN | apply below_drew1 | refine below_set ?_ GE159.out) | exact HB.out)) hb); have n2_ := Aside0.mk (hbox); have n3_ := Aside0.mk ((by rw [hg]; exact (below_size (by repeat (first | (with_reducible first | exact HB.out | apply below_alloc | apply pw_below_drewN | apply below_drew1 | refine below_set ?_ GE159.out) | exact HB.out))) : w.heap.size ≤ gb170)); have n4_ := Aside0.mk ((by rw [hg]; exact (below_size (by repeat (first | (with_reducible first | exact HB.out | apply below_alloc | apply pw_below_drewN | apply below_drew1 | refine below_set ?_ GE159.out) | exact HB.out))) : w.heap.size ≤ gb170)); have n5_ := Aside0.mk ((by rw [hg]; exact Nat.ne_of_lt (blk_lt (g := gb159) (o := .cells #[.slice none 0 0, .int .i64 0] 212 (0, 0)) (by (with_reducible repeat (first | refine blk_drewN ?_ _ | refine blk_drew ?_ | refine blk_alloc ?_ _)); exact BK159.out)) : gb159 ≠ gb170)); have n6_ := Aside0.mk ((by rw [hg]; exact Nat.ne_of_gt (blk_lt (g := gb159) (o := .cells #[.slice none 0 0, .int .i64 0] 212 (0, 0)) (by (with_reducible repeat (first | refine blk_drewN ?_ _ | refine blk_drew ?_ | refine blk_alloc ?_ _)); exact BK159.out)) : gb170 ≠ gb159)); clear BK159; clear HB; have BK159 := n0_; have HB := n1_; have BK170 := n2_; have GW170 := n3_; have GE170 := n4_; have NB159_170 := n5_; have NB170_159 := n6_; clear n0_ n1_ n2_ n3_ n4_ n5_ n6_; clear hb hbox hg; have hnb23 := NB170_159.out; have hnc23 := NB159_170.out; have hcz24_0 : w22.cell? ⟨gb170, 0, none⟩ = some (.int .i64 0) := (blk_cell BK170.out 0).trans rfl; have hcz24_1 : w22.cell? ⟨gb170, 1, none⟩ = some (.int .i64 0) := (blk_cell BK170.out 1).trans rfl; have hfz24_0 := blk_frozen BK170.out 0; have hfz24_1 := blk_frozen BK170.out 1) | ((with_reducible refine gate_callee (f := 216) rfl ?_); refine goesL_ (some 49) rfl rfl Try.func216 (by kernel_rfl) rfl #[.int .i64 3] rfl (by (try simp only [List.map_toArray, List.map_cons, List.map_nil]); first | done | rfl | (simp only [List.length_drop, List.length_take]; rfl)) ?_; (with_reducible refine (octet_none_int_216.calls 3 t176 t179 t180 _ A20.out).mono ?_); rintro e w25 ⟨v177, rfl, ho0, hb⟩; refine ⟨_, rfl, ?_⟩; have n0_ := Aside0.mk (Kd.R_lower ho0 (below_size (by repeat (first | (with_reducible first | exact HB.out | apply below_alloc | apply pw_below_drewN | apply below_drew1 | refine below_set ?_ GE159.out | refine below_set ?_ GE170.out) | exact HB.out)))); have n1_ := Aside0.mk (blk_below (g := gb159) (o := .cells #[.slice none 0 0, .int .i64 0] 212 (0, 0)) (by (with_reducible repeat (first | refine blk_drewN ?_ _ | refine blk_drew ?_ | refine blk_alloc ?_ _)); refine blk_far ?_ NB159_170.out _; (with_reducible repeat (first | refine blk_drewN ?_ _ | refine blk_drew ?_ | refine blk_alloc ?_ _)); refine blk_far ?_ NB159_170.out _; (with_reducible repeat (first | refine blk_drewN ?_ _ | refine blk_drew ?_ | refine blk_alloc ?_ _)); exact BK159.out) hb); have n2_ := Aside0.mk (blk_below (g := gb170) (o := .cells #[.int .i64 t167, .int .i64 t168] 202 (0, 0)) (by (with_reducible repeat (first | refine blk_drewN ?_ _ | refine blk_drew ?_ | refine blk_alloc ?_ _)); refine blk_put (cs := #[.int .i64 t167, .int .i64 0]) ?_ 1 _ rfl; (with_reducible repeat (first | refine blk_drewN ?_ _ | refine blk_drew ?_ | refine blk_alloc ?_ _)); refine blk_put (cs := #[.int .i64 0, .int .i64 0]) ?_ 0 _ rfl; (with_reducible repeat (first | refine blk_drewN ?_ _ | refine blk_drew ?_ | refine blk_alloc ?_ _)); exact BK170.out) hb); have n3_ := Aside0.mk (below_step (by repeat (first | (with_reducible first | exact HB.out | apply below_alloc | apply pw_below_drewN | apply below_drew1 | refine below_set ?_ GE159.out | refine below_set ?_ GE170.out) | exact HB.out)) hb); clear BK159; clear BK170; clear HB; have HO178 := n0_; have BK159 := n1_; have BK170 := n2_; have HB := n3_; clear n0_ n1_ n2_ n3_; (try clear hb); (try clear hb2); (try clear hk); (try clear hi); (try clear ho0); obtain ⟨Ao26, co26, eo26⟩ := Kd.R_slice HO178.out; subst eo26; have hcz27_0 : w25.cell? ⟨gb159, 0, none⟩ = some (.slice none 0 0) := (blk_cell BK159.out 0).trans rfl; have hcz27_1 : w25.cell? ⟨gb159, 1, none⟩ = some (.int .i64 0) := (blk_cell BK159.out 1).trans rfl; have hfz27_0 := blk_frozen BK159.out 0; have hfz27_1 := blk_frozen BK159.out 1))
            refine bodyPost_ret (results_ct rfl _ _ gb159 212 #[.slice Ao26 t176.length co26, .int .i64 t179] (0, 0) _ rfl (by (with_reducible repeat (first | refine blk_drewN ?_ _ | refine blk_drew ?_ | refine blk_alloc ?_ _)); refine blk_put (cs := #[.slice Ao26 t176.length co26, .int .i64 0]) ?_ 1 _ rfl; (with_reducible repeat (first | refine blk_drewN ?_ _ | refine blk_drew ?_ | refine blk_alloc ?_ _)); refine blk_put (cs := #[.slice none 0 0, .int .i64 0]) ?_ 0 _ rfl; (with_reducible repeat (first | refine blk_drewN ?_ _ | refine blk_drew ?_ | refine blk_alloc ?_ _)); exact BK159.out) Try.underlying212 rfl (by kernel_rfl)) rfl ?_
            exact ⟨_, by first | rfl | (simp [errW_none, errW_some] <;> rfl) | (simp only [← hji18]; first | rfl | (simp [errW_none, errW_some] <;> rfl)) | (simp [*, errW_none, errW_some] <;> rfl), by (with_reducible repeat (first | apply Kd.R_alloc | apply Kd.R_drewN | apply Kd.R_drew)); exact Kd.R_mono (Kd.R_far (p := ⟨gb159, 1, none⟩) (Kd.R_far (p := ⟨gb159, 0, none⟩) (Kd.R_types HO178.out BK159.out (by decide)) (fun _ hk => hk.2) (.slice Ao26 t176.length co26)) (fun _ hk => hk.2) (.int .i64 t179)) (fun _ hk => trivial), by repeat (first | (with_reducible first | exact HB.out | apply below_alloc | apply pw_below_drewN | apply below_drew1 | refine below_set ?_ GE159.out | refine below_set ?_ GE170.out) | exact HB.out)⟩
          · rw [if_neg c19] at H
            have c19b0 : decide ((ji18) < t167) = false := decide_eq_false c19
            clear c19
            have H' := Aside0.mk H
            clear H
            go_wp2_with (first | ((with_reducible refine gate_callee (f := 134) rfl ?_); refine goesL_ (some 35) rfl rfl Try.func134 (by kernel_rfl) rfl #[.string a0, .int .i64 a1, .int .i64 2] rfl (by (try simp only [List.map_toArray, List.map_cons, List.map_nil]); first | done | rfl | (simp only [List.length_drop, List.length_take]; rfl)) ?_; (with_reducible refine (octet_Get.calls kj4 a0 a1 2 t167 t168 t169 _ A16.out).mono ?_); rintro e w28 ⟨rfl, hb⟩; refine ⟨_, rfl, ?_⟩; have n0_ := Aside0.mk (blk_below (g := gb159) (o := .cells #[.slice none 0 0, .int .i64 0] 212 (0, 0)) (by (with_reducible repeat (first | refine blk_drewN ?_ _ | refine blk_drew ?_ | refine blk_alloc ?_ _)); exact BK159.out) hb); have n1_ := Aside0.mk (below_step (by repeat (first | (with_reducible first | exact HB.out | apply below_alloc | apply pw_below_drewN | apply below_drew1 | refine below_set ?_ GE159.out) | exact HB.out)) hb); clear BK159; clear HB; have BK159 := n0_; have HB := n1_; clear n0_ n1_; (try clear hb); (try clear hb2); (try clear hk); (try clear hi)) | ((with_reducible refine gate_dst (N := 10) rfl ?_); refine box_event ?hg (N := 10) ?hd (cs := #[.int .i64 0, .int .i64 0]) (t := 202) ?hr ?_; (case hd => rfl); (case hg => rfl); (case hr => first | (go_simp; done) | (go_simp; rfl)); intro gb170 hg w29 hbox hb; have n0_ := Aside0.mk (blk_below (g := gb159) (o := .cells #[.slice none 0 0, .int .i64 0] 212 (0, 0)) (by (with_reducible repeat (first | refine blk_drewN ?_ _ | refine blk_drew ?_ | refine blk_alloc ?_ _)); exact BK159.out) hb); have n1_ := Aside0.mk (below_step (by repeat (first | (with_reducible first | exact HB.out | apply below_alloc | apply pw_below_drewN | apply below_drew1 | refine below_set ?_ GE159.out) | exact HB.out)) hb); have n2_ := Aside0.mk (hbox); have n3_ := Aside0.mk ((by rw [hg]; exact (below_size (by repeat (first | (with_reducible first | exact HB.out | apply below_alloc | apply pw_below_drewN | apply below_drew1 | refine below_set ?_ GE159.out) | exact HB.out))) : w.heap.size ≤ gb170)); have n4_ := Aside0.mk ((by rw [hg]; exact (below_size (by repeat (first | (with_reducible first | exact HB.out | apply below_alloc | apply pw_below_drewN | apply below_drew1 | refine below_set ?_ GE159.out) | exact HB.out))) : w.heap.size ≤ gb170)); have n5_ := Aside0.mk ((by rw [hg]; exact Nat.ne_of_lt (blk_lt (g := gb159) (o := .cells #[.slice none 0 0, .int .i64 0] 212 (0, 0)) (by (with_reducible repeat (first | refine blk_drewN ?_ _ | refine blk_drew ?_ | refine blk_alloc ?_ _)); exact BK159.out)) : gb159 ≠ gb170)); have n6_ := Aside0.mk ((by rw [hg]; exact Nat.ne_of_gt (blk_lt (g := gb159) (o := .cells #[.slice none 0 0, .int .i64 0] 212 (0, 0)) (by (with_reducible repeat (first | refine blk_drewN ?_ _ | refine blk_drew ?_ | refine blk_alloc ?_ _)); exact BK159.out)) : gb170 ≠ gb159)); clear BK159; clear HB; have BK159 := n0_; have HB := n1_; have BK170 := n2_; have GW170 := n3_; have GE170 := n4_; have NB159_170 := n5_; have NB170_159 := n6_; clear n0_ n1_ n2_ n3_ n4_ n5_ n6_; clear hb hbox hg; have hnb30 := NB170_159.out; have hnc30 := NB159_170.out; have hcz31_0 : w29.cell? ⟨gb170, 0, none⟩ = some (.int .i64 0) := (blk_cell BK170.out 0).trans rfl; have hcz31_1 : w29.cell? ⟨gb170, 1, none⟩ = some (.int .i64 0) := (blk_cell BK170.out 1).trans rfl; have hfz31_0 := blk_frozen BK170.out 0; have hfz31_1 := blk_frozen BK170.out 1))
            go_loopg [12, 13, 56] kj4 (fun kq v12 v13 v56 w' => ∃ (x12_2 : List Int) (x13_2 : Int) (x56_2 : Int) (x160001_2 : Int), v13 = .int .i64 x13_2 ∧ v56 = .int .i64 x56_2 ∧ Aside0 (octet_Unrow.l0 kq a0 a2 x12_2 x13_2 t167 x56_2 = some (r1, r2, r3)) ∧ Aside0 (kq ≤ kj4) ∧ Aside0 (Kd.R (Kd.int .i64) 3 w' w.heap.size (fun _ => True) v12 x12_2) ∧ Aside0 (w'.heap[gb159]? = some (.cells #[(.slice none 0 0), .int .i64 x160001_2] 212 (0, 0))) ∧ Aside0 (w'.heap[gb170]? = some (.cells #[.int .i64 t167, .int .i64 t168] 202 (0, 0))) ∧ Aside0 (Below w.heap.size w w'))
            case atStart => exact ⟨(([] : List Int)), (t168), (0), (0), (by first | rfl | (simp; done) | (simp [*]; done)), (by first | rfl | (simp; done) | (simp [*]; done)), H', ⟨Nat.le_refl _⟩, ⟨by first | exact Kd.R_nil _ _ _ _ _ | exact Kd.N_nil _ _ _ _ _ | exact Kd.V_nil _ _ _ _ _ | exact Kd.Q_nil _ _ _ _ _ | exact Kd.S_nil _ _ _ _ _⟩, ⟨by (with_reducible repeat (first | refine blk_drewN ?_ _ | refine blk_drew ?_ | refine blk_alloc ?_ _)); refine blk_far ?_ NB159_170.out _; (with_reducible repeat (first | refine blk_drewN ?_ _ | refine blk_drew ?_ | refine blk_alloc ?_ _)); refine blk_far ?_ NB159_170.out _; (with_reducible repeat (first | refine blk_drewN ?_ _ | refine blk_drew ?_ | refine blk_alloc ?_ _)); exact BK159.out⟩, ⟨by (with_reducible repeat (first | refine blk_drewN ?_ _ | refine blk_drew ?_ | refine blk_alloc ?_ _)); refine blk_put (cs := #[.int .i64 t167, .int .i64 0]) ?_ 1 _ rfl; (with_reducible repeat (first | refine blk_drewN ?_ _ | refine blk_drew ?_ | refine blk_alloc ?_ _)); refine blk_put (cs := #[.int .i64 0, .int .i64 0]) ?_ 0 _ rfl; (with_reducible repeat (first | refine blk_drewN ?_ _ | refine blk_drew ?_ | refine blk_alloc ?_ _)); exact BK170.out⟩, ⟨by repeat (first | (with_reducible first | exact HB.out | apply below_alloc | apply pw_below_drewN | apply below_drew1 | refine below_set ?_ GE159.out | refine below_set ?_ GE170.out) | exact HB.out)⟩⟩
            case round =>
              clear H'
              try clear c1
              try clear c2
              try clear p2
              try clear c3
              try clear c8
              try clear c10
              try clear c11
              try clear c13
              try clear c15
              try clear c17
              try clear c17b0
              try clear c17b1
              try clear c19
              try clear c19b0
              try clear c21
              try clear c23
              try clear c30
              try clear hcz15_0
              try clear hcz15_1
              try clear hcz24_0
              try clear hcz24_1
              try clear hcz27_0
              try clear hcz27_1
              try clear hcz31_0
              try clear hcz31_1
              try clear hfz15_0
              try clear hfz15_1
              try clear hfz24_0
              try clear hfz24_1
              try clear hfz27_0
              try clear hfz27_1
              try clear hfz31_0
              try clear hfz31_1
              try clear p2
              obtain ⟨x12_2, x13_2, x56_2, x160001_2, rfl, rfl, HA, HK2, HO_12, BK159, BK170, HB⟩ := hrel
              cases gk with
              | zero => exact absurd HA.out (by simp [octet_Unrow.l0])
              | succ k2 =>
                have H := HA.out
                clear HA
                simp only [octet_Unrow.l0] at H
                by_cases c32 : x56_2 < t167
                · rw [if_pos c32] at H
                  have c32b0 : decide (x56_2 < t167) = true := decide_eq_true c32
                  clear c32
                  replace H := Option.bind_eq_some_iff.mp H
                  obtain ⟨⟨t186, t187, t188⟩, A330, H⟩ := H
                  replace H : (if t188 = 0 then (if x12_2.length < 17592186044416 then (octet_Unrow.l0 k2 a0 a2 (x12_2 ++ [t186]) t187 t167 (wrap64 (x56_2 + 1))) else (none)) else ((octet_none_int_216.f t188).bind fun bt193 => (some (bt193.1, bt193.2.1, bt193.2.2)))) = some (r1, r2, r3) := H
                  have A33 := Aside0.mk A330
                  clear A330
                  by_cases c34 : t188 = 0
                  · rw [if_pos c34] at H
                    have c34b0 : (t188 == 0) = true := beq_iff_eq.mpr c34
                    have c34b1 : (t188 != 0) = false := bne_eq_false_iff_eq.mpr c34
                    clear c34
                    by_cases c35 : x12_2.length < 17592186044416
                    · rw [if_pos c35] at H
                      have LMc35 := Aside0.mk c35
                      clear c35
                      obtain ⟨y190, hy190⟩ : ∃ y_ : List Int, y_ = (x12_2 ++ [t186]) := ⟨_, rfl⟩
                      replace H : (octet_Unrow.l0 k2 a0 a2 y190 t187 t167 (wrap64 (x56_2 + 1))) = some (r1, r2, r3) := by first | (rw [hy190]; with_reducible exact H) | (have H2_ := (Option.bind_some _ _).symm.trans H; rw [hy190]; with_reducible exact H2_) | (have H2_ := (Option.bind_some _ _).symm.trans H; with_reducible exact H2_) | with_reducible exact H | (rw [hy190]; exact H) | exact H
                      have Ny190 := Aside0.mk hy190
                      clear hy190
                      have H' := Aside0.mk H
                      clear H
                      try go_wp2_with (first | ((with_reducible refine gate_callee (f := 134) rfl ?_); refine goesL_ (some 62) rfl rfl Try.func134 (by kernel_rfl) rfl #[.string a0, .int .i64 x13_2, .int .i64 a2] rfl (by (try simp only [List.map_toArray, List.map_cons, List.map_nil]); first | done | rfl | (simp only [List.length_drop, List.length_take]; rfl)) ?_; (with_reducible refine (octet_Get.calls k2 a0 x13_2 a2 t186 t187 t188 _ A33.out).mono ?_); rintro e w36 ⟨rfl, hb⟩; refine ⟨_, rfl, ?_⟩; have n0_ := Aside0.mk (Kd.R_below (by (with_reducible repeat (first | apply Kd.R_alloc | apply Kd.R_drewN | apply Kd.R_drew)); exact HO_12.out) hb); have n1_ := Aside0.mk (blk_below (g := gb159) (o := .cells #[.slice none 0 0, .int .i64 x160001_2] 212 (0, 0)) (by (with_reducible repeat (first | refine blk_drewN ?_ _ | refine blk_drew ?_ | refine blk_alloc ?_ _)); exact BK159.out) hb); have n2_ := Aside0.mk (blk_below (g := gb170) (o := .cells #[.int .i64 t167, .int .i64 t168] 202 (0, 0)) (by (with_reducible repeat (first | refine blk_drewN ?_ _ | refine blk_drew ?_ | refine blk_alloc ?_ _)); exact BK170.out) hb); have n3_ := Aside0.mk (below_step (by repeat (first | (with_reducible first | exact HB.out | apply below_alloc | apply pw_below_drewN | apply below_drew1 | refine below_set ?_ GE159.out | refine below_set ?_ GE170.out) | exact HB.out)) hb); clear HO_12; clear BK159; clear BK170; clear HB; have HO_12 := n0_; have BK159 := n1_; have BK170 := n2_; have HB := n3_; clear n0_ n1_ n2_ n3_; (try clear hb); (try clear hb2); (try clear hk); (try clear hi)) | ((with_reducible refine gate_dst (N := 14) rfl ?_); refine box_event ?hg (N := 14) ?hd (cs := #[.int .i64 0, .int .i64 0]) (t := 202) ?hr ?_; (case hd => rfl); (case hg => rfl); (case hr => first | (go_simp; done) | (go_simp; rfl)); intro gb189 hg w37 hbox hb; have n0_ := Aside0.mk (Kd.R_below (by (with_reducible repeat (first | apply Kd.R_alloc | apply Kd.R_drewN | apply Kd.R_drew)); exact HO_12.out) hb); have n1_ := Aside0.mk (blk_below (g := gb159) (o := .cells #[.slice none 0 0, .int .i64 x160001_2] 212 (0, 0)) (by (with_reducible repeat (first | refine blk_drewN ?_ _ | refine blk_drew ?_ | refine blk_alloc ?_ _)); exact BK159.out) hb); have n2_ := Aside0.mk (blk_below (g := gb170) (o := .cells #[.int .i64 t167, .int .i64 t168] 202 (0, 0)) (by (with_reducible repeat (first | refine blk_drewN ?_ _ | refine blk_drew ?_ | refine blk_alloc ?_ _)); exact BK170.out) hb); have n3_ := Aside0.mk (below_step (by repeat (first | (with_reducible first | exact HB.out | apply below_alloc | apply pw_below_drewN | apply below_drew1 | refine below_set ?_ GE159.out | refine below_set ?_ GE170.out) | exact HB.out)) hb); have n4_ := Aside0.mk (hbox); have n5_ := Aside0.mk ((by rw [hg]; exact (below_size (by repeat (first | (with_reducible first | exact HB.out | apply below_alloc | apply pw_below_drewN | apply below_drew1 | refine below_set ?_ GE159.out | refine below_set ?_ GE170.out) | exact HB.out))) : w.heap.size ≤ gb189)); have n6_ := Aside0.mk ((by rw [hg]; exact (below_size (by repeat (first | (with_reducible first | exact HB.out | apply below_alloc | apply pw_below_drewN | apply below_drew1 | refine below_set ?_ GE159.out | refine below_set ?_ GE170.out) | exact HB.out))) : w.heap.size ≤ gb189)); have n7_ := Aside0.mk ((by rw [hg]; exact Nat.ne_of_lt (blk_lt (g := gb159) (o := .cells #[.slice none 0 0, .int .i64 x160001_2] 212 (0, 0)) (by (with_reducible repeat (first | refine blk_drewN ?_ _ | refine blk_drew ?_ | refine blk_alloc ?_ _)); exact BK159.out)) : gb159 ≠ gb189)); have n8_ := Aside0.mk ((by rw [hg]; exact Nat.ne_of_gt (blk_lt (g := gb159) (o := .cells #[.slice none 0 0, .int .i64 x160001_2] 212 (0, 0)) (by (with_reducible repeat (first | refine blk_drewN ?_ _ | refine blk_drew ?_ | refine blk_alloc ?_ _)); exact BK159.out)) : gb189 ≠ gb159)); have n9_ := Aside0.mk ((by rw [hg]; exact Nat.ne_of_lt (blk_lt (g := gb170) (o := .cells #[.int .i64 t167, .int .i64 t168] 202 (0, 0)) (by (with_reducible repeat (first | refine blk_drewN ?_ _ | refine blk_drew ?_ | refine blk_alloc ?_ _)); exact BK170.out)) : gb170 ≠ gb189)); have n10_ := Aside0.mk ((by rw [hg]; exact Nat.ne_of_gt (blk_lt (g := gb170) (o := .cells #[.int .i64 t167, .int .i64 t168] 202 (0, 0)) (by (with_reducible repeat (first | refine blk_drewN ?_ _ | refine blk_drew ?_ | refine blk_alloc ?_ _)); exact BK170.out)) : gb189 ≠ gb170)); clear HO_12; clear BK159; clear BK170; clear HB; have HO_12 := n0_; have BK159 := n1_; have BK170 := n2_; have HB := n3_; have BK189 := n4_; have GW189 := n5_; have GE189 := n6_; have NB159_189 := n7_; have NB189_159 := n8_; have NB170_189 := n9_; have NB189_170 := n10_; clear n0_ n1_ n2_ n3_ n4_ n5_ n6_ n7_ n8_ n9_ n10_; clear hb hbox hg; have hnb38 := NB189_159.out; have hnc38 := NB159_189.out; have hnb39 := NB189_170.out; have hnc39 := NB170_189.out; have hcz40_0 : w37.cell? ⟨gb189, 0, none⟩ = some (.int .i64 0) := (blk_cell BK189.out 0).trans rfl; have hcz40_1 : w37.cell? ⟨gb189, 1, none⟩ = some (.int .i64 0) := (blk_cell BK189.out 1).trans rfl; have hfz40_0 := blk_frozen BK189.out 0; have hfz40_1 := blk_frozen BK189.out 1))
                      have n0_ : Aside0 (Kd.R (Kd.int .i64) 3 ((w37.setCell ⟨gb189, 0, none⟩ (.int .i64 t186)).setCell ⟨gb189, 1, none⟩ (.int .i64 t187)) w.heap.size (fun _ => True) u12 x12_2) := ⟨by (with_reducible repeat (first | apply Kd.R_alloc | apply Kd.R_drewN | apply Kd.R_drew)); exact Kd.R_mono (Kd.R_far (p := ⟨gb189, 1, none⟩) (Kd.R_far (p := ⟨gb189, 0, none⟩) (Kd.R_types HO_12.out BK189.out (by decide)) (fun _ hk => hk.2) (.int .i64 t186)) (fun _ hk => hk.2) (.int .i64 t187)) (fun _ hk => trivial)⟩
                      have n1_ : Aside0 (((w37.setCell ⟨gb189, 0, none⟩ (.int .i64 t186)).setCell ⟨gb189, 1, none⟩ (.int .i64 t187)).heap[gb159]? = some (.cells #[.slice none 0 0, .int .i64 x160001_2] 212 (0, 0))) := ⟨by (with_reducible repeat (first | refine blk_drewN ?_ _ | refine blk_drew ?_ | refine blk_alloc ?_ _)); refine blk_far ?_ NB159_189.out _; (with_reducible repeat (first | refine blk_drewN ?_ _ | refine blk_drew ?_ | refine blk_alloc ?_ _)); refine blk_far ?_ NB159_189.out _; (with_reducible repeat (first | refine blk_drewN ?_ _ | refine blk_drew ?_ | refine blk_alloc ?_ _)); exact BK159.out⟩
                      have n2_ : Aside0 (((w37.setCell ⟨gb189, 0, none⟩ (.int .i64 t186)).setCell ⟨gb189, 1, none⟩ (.int .i64 t187)).heap[gb170]? = some (.cells #[.int .i64 t167, .int .i64 t168] 202 (0, 0))) := ⟨by (with_reducible repeat (first | refine blk_drewN ?_ _ | refine blk_drew ?_ | refine blk_alloc ?_ _)); refine blk_far ?_ NB170_189.out _; (with_reducible repeat (first | refine blk_drewN ?_ _ | refine blk_drew ?_ | refine blk_alloc ?_ _)); refine blk_far ?_ NB170_189.out _; (with_reducible repeat (first | refine blk_drewN ?_ _ | refine blk_drew ?_ | refine blk_alloc ?_ _)); exact BK170.out⟩
                      have n3_ : Aside0 (((w37.setCell ⟨gb189, 0, none⟩ (.int .i64 t186)).setCell ⟨gb189, 1, none⟩ (.int .i64 t187)).heap[gb189]? = some (.cells #[.int .i64 t186, .int .i64 t187] 202 (0, 0))) := ⟨by (with_reducible repeat (first | refine blk_drewN ?_ _ | refine blk_drew ?_ | refine blk_alloc ?_ _)); refine blk_put (cs := #[.int .i64 t186, .int .i64 0]) ?_ 1 _ rfl; (with_reducible repeat (first | refine blk_drewN ?_ _ | refine blk_drew ?_ | refine blk_alloc ?_ _)); refine blk_put (cs := #[.int .i64 0, .int .i64 0]) ?_ 0 _ rfl; (with_reducible repeat (first | refine blk_drewN ?_ _ | refine blk_drew ?_ | refine blk_alloc ?_ _)); exact BK189.out⟩
                      have n4_ : Aside0 (Below w.heap.size w ((w37.setCell ⟨gb189, 0, none⟩ (.int .i64 t186)).setCell ⟨gb189, 1, none⟩ (.int .i64 t187))) := ⟨by repeat (first | (with_reducible first | exact HB.out | apply below_alloc | apply pw_below_drewN | apply below_drew1 | refine below_set ?_ GE159.out | refine below_set ?_ GE170.out | refine below_set ?_ GE189.out) | exact HB.out)⟩
                      (try clear HO_12)
                      (try clear BK159)
                      (try clear BK170)
                      (try clear BK189)
                      (try clear HB)
                      generalize ((w37.setCell ⟨gb189, 0, none⟩ (.int .i64 t186)).setCell ⟨gb189, 1, none⟩ (.int .i64 t187)) = w41 at n0_ n1_ n2_ n3_ n4_ ⊢
                      have HO_12 := n0_
                      have BK159 := n1_
                      have BK170 := n2_
                      have BK189 := n3_
                      have HB := n4_
                      clear n0_ n1_ n2_ n3_ n4_
                      have n0_ := Aside0.mk (Kd.R_drew HO_12.out)
                      have n1_ := Aside0.mk (blk_drew BK159.out)
                      have n2_ := Aside0.mk (blk_drew BK170.out)
                      have n3_ := Aside0.mk (blk_drew BK189.out)
                      have n4_ := Aside0.mk (below_drew1 HB.out)
                      clear HO_12
                      clear BK159
                      clear BK170
                      clear BK189
                      clear HB
                      have HO_12 := n0_
                      have BK159 := n1_
                      have BK170 := n2_
                      have BK189 := n3_
                      have HB := n4_
                      clear n0_ n1_ n2_ n3_ n4_
                      refine start_ (n := 9) (S := fun w' => w'.cell? ⟨gb189, 0, none⟩ = some (.int .i64 t186) ∧ w'.cell? ⟨gb189, 1, none⟩ = some (.int .i64 t187)) (ds := []) #[false, false, false, false, false, false, false, false, false] (by kernel_rfl) rfl rfl ⟨(blk_cell BK189.out 0).trans rfl, (blk_cell BK189.out 1).trans rfl⟩ (fun hHeld => ?_); refine with_tabW octet_Unrow.tab15 octet_Unrow.bits15 (fun HT_ HW_ => ?_)
                      generalize w41.drew = w42 at HO_12 BK159 BK170 BK189 HB hHeld ⊢
                      refine pure_ (i := 0) (N := some 71) (v := ?_) (a' := ?_) #[true, false, false, false, false, false, false, false, false] rfl rfl (any_of HT_.out (by kernel_rfl)) (fun _ _ _ h => h) (Or.inl ⟨by rfl, ?_⟩) ?_ ?_
                      rotate_left
                      · intro w'
                        go_simp
                        with_reducible rfl
                      rotate_left
                      · simp only [Act.put, List.setIfInBounds_toArray, List.set_cons_zero, List.set_cons_succ, i64_w, i32_w]
                        rfl
                      refine pure_ (i := 1) (N := some 72) (v := ?_) (a' := ?_) #[true, true, false, false, false, false, false, false, false] rfl rfl (any_of HT_.out (by kernel_rfl)) (fun _ _ _ h => h) (Or.inl ⟨by rfl, ?_⟩) ?_ ?_
                      rotate_left
                      · intro w'
                        go_simp
                        with_reducible rfl
                      rotate_left
                      · simp only [Act.put, List.setIfInBounds_toArray, List.set_cons_zero, List.set_cons_succ, i64_w, i32_w]
                        rfl
                      refine pure_ (i := 5) (N := some 76) (v := ?_) (a' := ?_) #[true, true, false, false, false, true, false, false, false] rfl rfl (any_of HT_.out (by kernel_rfl)) (fun _ _ _ h => h) (Or.inl ⟨by rfl, ?_⟩) ?_ ?_
                      rotate_left
                      · intro w'
                        go_simp
                        with_reducible rfl
                      rotate_left
                      · simp only [Act.put, List.setIfInBounds_toArray, List.set_cons_zero, List.set_cons_succ, i64_w, i32_w]
                        rfl
                      refine take_ (i := 2) (N := some 73) (v := ?_) (a' := ?_) #[true, true, true, false, false, true, false, false, false] rfl rfl (take_ofW HT_.out HW_.out (by kernel_rfl)) (fun _ _ _ h => h) (Or.inl ⟨by rfl, ?_⟩) hHeld ?_ ?_
                      rotate_left
                      · rintro w' ⟨s0, s1⟩
                        go_simp
                        with_reducible rfl
                      rotate_left
                      · simp only [Act.put, List.setIfInBounds_toArray, List.set_cons_zero, List.set_cons_succ, i64_w, i32_w]
                        rfl
                      refine take_ (i := 6) (N := some 77) (v := ?_) (a' := ?_) #[true, true, true, false, false, true, true, false, false] rfl rfl (take_ofW HT_.out HW_.out (by kernel_rfl)) (fun _ _ _ h => h) (Or.inl ⟨by rfl, ?_⟩) hHeld ?_ ?_
                      rotate_left
                      · rintro w' ⟨s0, s1⟩
                        go_simp
                        with_reducible rfl
                      rotate_left
                      · simp only [Act.put, List.setIfInBounds_toArray, List.set_cons_zero, List.set_cons_succ, i64_w, i32_w]
                        rfl
                      refine one_ (i := 3) (N := some 74) #[true, true, true, true, false, true, true, false, false] rfl rfl (one_of HT_.out (by kernel_rfl)) (by decide) (fun K hK => ?_)
                      refine value_ (w1 := ?_) (v := ?_) (by rfl) rfl ?_ ?_
                      rotate_left 2
                      · go_simp
                        constructor
                        · rfl
                        · rfl
                      refine hK.out _ _ ⟨(blk_cell (blk_alloc BK189.out _) 0).trans rfl, (blk_cell (blk_alloc BK189.out _) 1).trans rfl⟩ (fun hHeld => ?_)
                      clear hK K
                      refine norm_ (a' := ?_) ?_ ?_
                      rotate_left
                      · show Act.put _ (some 74) _ = _
                        simp only [Act.put, List.setIfInBounds_toArray, List.set_cons_zero, List.set_cons_succ, i64_w, i32_w]
                        rfl
                      refine one_ (i := 4) (N := some 75) #[true, true, true, true, true, true, true, false, false] rfl rfl (one_of HT_.out (by kernel_rfl)) (by decide) (fun K hK => ?_)
                      refine Kd.R_append_step (Kd.int .i64) (w0 := w) w.heap.size (by rfl) (.tmp 71) (.tmp 74) 23 3 (.int .i64 0) 8 rfl Try.underlying23 info3 rfl (by decide) (by omega) u12 x12_2 t186 [.int .i64 t186] (fun _ => True) (fun _ => False) rfl rfl ?aP (fun _ hk => hk.elim) ?aF ?aO ?aB ?aS ?aL ?_
                      (case aP => exact rfl)
                      (case aB => exact (by repeat (first | (with_reducible first | exact HB.out | apply below_alloc | apply pw_below_drewN | apply below_drew1 | refine below_set ?_ GE159.out | refine below_set ?_ GE170.out | refine below_set ?_ GE189.out) | exact HB.out)))
                      (case aF => exact (fun _ _ => trivial))
                      (case aO => exact (by (with_reducible repeat (first | apply Kd.R_alloc | apply Kd.R_drewN | apply Kd.R_drew)); exact HO_12.out))
                      (case aS => exact (below_size (by repeat (first | (with_reducible first | exact HB.out | apply below_alloc | apply pw_below_drewN | apply below_drew1 | refine below_set ?_ GE159.out | refine below_set ?_ GE170.out | refine below_set ?_ GE189.out) | exact HB.out))))
                      (case aL => have := LMc35.out; omega)
                      intro v191 w43 ho hb hg hat
                      rw [← Ny190.out] at ho
                      have n0_ := Aside0.mk (blk_grown (g := gb159) (o := .cells #[.slice none 0 0, .int .i64 x160001_2] 212 (0, 0)) (by (with_reducible repeat (first | refine blk_drewN ?_ _ | refine blk_drew ?_ | refine blk_alloc ?_ _)); exact BK159.out) hg (Kd.R_ne HO_12.out BK159.out (by decide)))
                      have n1_ := Aside0.mk (blk_grown (g := gb170) (o := .cells #[.int .i64 t167, .int .i64 t168] 202 (0, 0)) (by (with_reducible repeat (first | refine blk_drewN ?_ _ | refine blk_drew ?_ | refine blk_alloc ?_ _)); exact BK170.out) hg (Kd.R_ne HO_12.out BK170.out (by decide)))
                      have n2_ := Aside0.mk (blk_grown (g := gb189) (o := .cells #[.int .i64 t186, .int .i64 t187] 202 (0, 0)) (by (with_reducible repeat (first | refine blk_drewN ?_ _ | refine blk_drew ?_ | refine blk_alloc ?_ _)); exact BK189.out) hg (Kd.R_ne HO_12.out BK189.out (by decide)))
                      have n3_ := Aside0.mk (hb)
                      have n4_ := Aside0.mk (ho)
                      clear BK159
                      clear BK170
                      clear BK189
                      clear HB
                      clear HO_12
                      have BK159 := n0_
                      have BK170 := n1_
                      have BK189 := n2_
                      have HB := n3_
                      have HO192 := n4_
                      clear n0_ n1_ n2_ n3_ n4_
                      clear ho hb hg hat
                      refine hK.out _ _ ⟨(blk_cell BK189.out 0).trans rfl, (blk_cell BK189.out 1).trans rfl⟩ (fun hHeld => ?_)
                      clear hK K
                      refine norm_ (a' := ?_) ?_ ?_
                      rotate_left
                      · show Act.put _ (some 75) _ = _
                        simp only [Act.put, List.setIfInBounds_toArray, List.set_cons_zero, List.set_cons_succ, i64_w, i32_w]
                        rfl
                      refine pure_ (i := 7) (N := some 12) (v := ?_) (a' := ?_) #[true, true, true, true, true, true, true, true, false] rfl rfl (any_of HT_.out (by kernel_rfl)) (fun _ _ _ h => h) (Or.inl ⟨by rfl, ?_⟩) ?_ ?_
                      rotate_left
                      · intro w'
                        go_simp
                        with_reducible rfl
                      rotate_left
                      · simp only [Act.put, List.setIfInBounds_toArray, List.set_cons_zero, List.set_cons_succ, i64_w, i32_w]
                        rfl
                      refine pure_ (i := 8) (N := some 13) (v := ?_) (a' := ?_) #[true, true, true, true, true, true, true, true, true] rfl rfl (any_of HT_.out (by kernel_rfl)) (fun _ _ _ h => h) (Or.inl ⟨by rfl, ?_⟩) ?_ ?_
                      rotate_left
                      · intro w'
                        go_simp
                        with_reducible rfl
                      rotate_left
                      · simp only [Act.put, List.setIfInBounds_toArray, List.set_cons_zero, List.set_cons_succ, i64_w, i32_w]
                        rfl
                      refine done_ (done_of HT_.out (by kernel_rfl)) ?_
                      try go_wp2
                      go_roundg k2
                      case measure => have := HJ4.out; have := HK2.out; omega
                      case rel => exact ⟨(y190), (t187), (wrap64 (x56_2 + 1)), (x160001_2), (by first | rfl | (simp; done) | (simp [*]; done)), (by first | rfl | (simp; done) | (simp [*]; done)), H', ⟨by have := HJ4.out; have := HK2.out; omega⟩, ⟨by (with_reducible repeat (first | apply Kd.R_alloc | apply Kd.R_drewN | apply Kd.R_drew)); exact HO192.out⟩, ⟨by (with_reducible repeat (first | refine blk_drewN ?_ _ | refine blk_drew ?_ | refine blk_alloc ?_ _)); exact BK159.out⟩, ⟨by (with_reducible repeat (first | refine blk_drewN ?_ _ | refine blk_drew ?_ | refine blk_alloc ?_ _)); exact BK170.out⟩, ⟨by repeat (first | (with_reducible first | exact HB.out | apply below_alloc | apply pw_below_drewN | apply below_drew1 | refine below_set ?_ GE159.out | refine below_set ?_ GE170.out | refine below_set ?_ GE189.out) | exact HB.out)⟩⟩
                    · rw [if_neg c35] at H
                      exact absurd H (by simp)
                  · rw [if_neg c34] at H
                    have c34b0 : (t188 == 0) = false := beq_eq_false_iff_ne.mpr c34
                    have c34b1 : (t188 != 0) = true := bne_iff_ne.mpr c34
                    replace H := Option.bind_eq_some_iff.mp H
                    obtain ⟨⟨t193, t196, t197⟩, A440, H⟩ := H
                    replace H : (some (t193, t196, t197)) = some (r1, r2, r3) := H
                    have A44 := Aside0.mk A440
                    clear A440
                    simp only [Option.some.injEq, Prod.mk.injEq] at H
                    obtain ⟨rfl, rfl, rfl⟩ := H
                    go_wp2_with (first | ((with_reducible refine gate_callee (f := 134) rfl ?_); refine goesL_ (some 62) rfl rfl Try.func134 (by kernel_rfl) rfl #[.string a0, .int .i64 x13_2, .int .i64 a2] rfl (by (try simp only [List.map_toArray, List.map_cons, List.map_nil]); first | done | rfl | (simp only [List.length_drop, List.length_take]; rfl)) ?_; (with_reducible refine (octet_Get.calls k2 a0 x13_2 a2 t186 t187 t188 _ A33.out).mono ?_); rintro e w45 ⟨rfl, hb⟩; refine ⟨_, rfl, ?_⟩; have n0_ := Aside0.mk (Kd.R_below (by (with_reducible repeat (first | apply Kd.R_alloc | apply Kd.R_drewN | apply Kd.R_drew)); exact HO_12.out) hb); have n1_ := Aside0.mk (blk_below (g := gb159) (o := .cells #[.slice none 0 0, .int .i64 x160001_2] 212 (0, 0)) (by (with_reducible repeat (first | refine blk_drewN ?_ _ | refine blk_drew ?_ | refine blk_alloc ?_ _)); exact BK159.out) hb); have n2_ := Aside0.mk (blk_below (g := gb170) (o := .cells #[.int .i64 t167, .int .i64 t168] 202 (0, 0)) (by (with_reducible repeat (first | refine blk_drewN ?_ _ | refine blk_drew ?_ | refine blk_alloc ?_ _)); exact BK170.out) hb); have n3_ := Aside0.mk (below_step (by repeat (first | (with_reducible first | exact HB.out | apply below_alloc | apply pw_below_drewN | apply below_drew1 | refine below_set ?_ GE159.out | refine below_set ?_ GE170.out) | exact HB.out)) hb); clear HO_12; clear BK159; clear BK170; clear HB; have HO_12 := n0_; have BK159 := n1_; have BK170 := n2_; have HB := n3_; clear n0_ n1_ n2_ n3_; (try clear hb); (try clear hb2); (try clear hk); (try clear hi)) | ((with_reducible refine gate_dst (N := 14) rfl ?_); refine box_event ?hg (N := 14) ?hd (cs := #[.int .i64 0, .int .i64 0]) (t := 202) ?hr ?_; (case hd => rfl); (case hg => rfl); (case hr => first | (go_simp; done) | (go_simp; rfl)); intro gb189 hg w46 hbox hb; have n0_ := Aside0.mk (Kd.R_below (by (with_reducible repeat (first | apply Kd.R_alloc | apply Kd.R_drewN | apply Kd.R_drew)); exact HO_12.out) hb); have n1_ := Aside0.mk (blk_below (g := gb159) (o := .cells #[.slice none 0 0, .int .i64 x160001_2] 212 (0, 0)) (by (with_reducible repeat (first | refine blk_drewN ?_ _ | refine blk_drew ?_ | refine blk_alloc ?_ _)); exact BK159.out) hb); have n2_ := Aside0.mk (blk_below (g := gb170) (o := .cells #[.int .i64 t167, .int .i64 t168] 202 (0, 0)) (by (with_reducible repeat (first | refine blk_drewN ?_ _ | refine blk_drew ?_ | refine blk_alloc ?_ _)); exact BK170.out) hb); have n3_ := Aside0.mk (below_step (by repeat (first | (with_reducible first | exact HB.out | apply below_alloc | apply pw_below_drewN | apply below_drew1 | refine below_set ?_ GE159.out | refine below_set ?_ GE170.out) | exact HB.out)) hb); have n4_ := Aside0.mk (hbox); have n5_ := Aside0.mk ((by rw [hg]; exact (below_size (by repeat (first | (with_reducible first | exact HB.out | apply below_alloc | apply pw_below_drewN | apply below_drew1 | refine below_set ?_ GE159.out | refine below_set ?_ GE170.out) | exact HB.out))) : w.heap.size ≤ gb189)); have n6_ := Aside0.mk ((by rw [hg]; exact (below_size (by repeat (first | (with_reducible first | exact HB.out | apply below_alloc | apply pw_below_drewN | apply below_drew1 | refine below_set ?_ GE159.out | refine below_set ?_ GE170.out) | exact HB.out))) : w.heap.size ≤ gb189)); have n7_ := Aside0.mk ((by rw [hg]; exact Nat.ne_of_lt (blk_lt (g := gb159) (o := .cells #[.slice none 0 0, .int .i64 x160001_2] 212 (0, 0)) (by (with_reducible repeat (first | refine blk_drewN ?_ _ | refine blk_drew ?_ | refine blk_alloc ?_ _)); exact BK159.out)) : gb159 ≠ gb189)); have n8_ := Aside0.mk ((by rw [hg]; exact Nat.ne_of_gt (blk_lt (g := gb159) (o := .cells #[.slice none 0 0, .int .i64 x160001_2] 212 (0, 0)) (by (with_reducible repeat (first | refine blk_drewN ?_ _ | refine blk_drew ?_ | refine blk_alloc ?_ _)); exact BK159.out)) : gb189 ≠ gb159)); have n9_ := Aside0.mk ((by rw [hg]; exact Nat.ne_of_lt (blk_lt (g := gb170) (o := .cells #[.int .i64 t167, .int .i64 t168] 202 (0, 0)) (by (with_reducible repeat (first | refine blk_drewN ?_ _ | refine blk_drew ?_ | refine blk_alloc ?_ _)); exact BK170.out)) : gb170 ≠ gb189)); have n10_ := Aside0.mk ((by rw [hg]; exact Nat.ne_of_gt (blk_lt (g := gb170) (o := .cells #[.int .i64 t167, .int .i64 t168] 202 (0, 0)) (by (with_reducible repeat (first | refine blk_drewN ?_ _ | refine blk_drew ?_ | refine blk_alloc ?_ _)); exact BK170.out)) : gb189 ≠ gb170)); clear HO_12; clear BK159; clear BK170; clear HB; have HO_12 := n0_; have BK159 := n1_; have BK170 := n2_; have HB := n3_; have BK189 := n4_; have GW189 := n5_; have GE189 := n6_; have NB159_189 := n7_; have NB189_159 := n8_; have NB170_189 := n9_; have NB189_170 := n10_; clear n0_ n1_ n2_ n3_ n4_ n5_ n6_ n7_ n8_ n9_ n10_; clear hb hbox hg; have hnb47 := NB189_159.out; have hnc47 := NB159_189.out; have hnb48 := NB189_170.out; have hnc48 := NB170_189.out; have hcz49_0 : w46.cell? ⟨gb189, 0, none⟩ = some (.int .i64 0) := (blk_cell BK189.out 0).trans rfl; have hcz49_1 : w46.cell? ⟨gb189, 1, none⟩ = some (.int .i64 0) := (blk_cell BK189.out 1).trans rfl; have hfz49_0 := blk_frozen BK189.out 0; have hfz49_1 := blk_frozen BK189.out 1) | ((with_reducible refine gate_callee (f := 216) rfl ?_); refine goesL_ (some 68) rfl rfl Try.func216 (by kernel_rfl) rfl #[.int .i64 t188] rfl (by (try simp only [List.map_toArray, List.map_cons, List.map_nil]); first | done | rfl | (simp only [List.length_drop, List.length_take]; rfl)) ?_; (with_reducible refine (octet_none_int_216.calls t188 t193 t196 t197 _ A44.out).mono ?_); rintro e w50 ⟨v194, rfl, ho0, hb⟩; refine ⟨_, rfl, ?_⟩; have n0_ := Aside0.mk (Kd.R_elder' (by (with_reducible repeat (first | apply Kd.R_alloc | apply Kd.R_drewN | apply Kd.R_drew)); exact (Kd.R_mono (Kd.R_far (p := ⟨gb189, 1, none⟩) (Kd.R_far (p := ⟨gb189, 0, none⟩) (Kd.R_types HO_12.out BK189.out (by decide)) (fun _ hk => hk.2) (.int .i64 t186)) (fun _ hk => hk.2) (.int .i64 t187)) (fun _ h_ => h_.1))) (Kd.R_base ho0) hb); have n1_ := Aside0.mk (Kd.R_lower (Kd.R_new' ho0 (Kd.R_lt (by (with_reducible repeat (first | apply Kd.R_alloc | apply Kd.R_drewN | apply Kd.R_drew)); exact (Kd.R_mono (Kd.R_far (p := ⟨gb189, 1, none⟩) (Kd.R_far (p := ⟨gb189, 0, none⟩) (Kd.R_types HO_12.out BK189.out (by decide)) (fun _ hk => hk.2) (.int .i64 t186)) (fun _ hk => hk.2) (.int .i64 t187)) (fun _ h_ => h_.1))))) (below_size (by repeat (first | (with_reducible first | exact HB.out | apply below_alloc | apply pw_below_drewN | apply below_drew1 | refine below_set ?_ GE159.out | refine below_set ?_ GE170.out | refine below_set ?_ GE189.out) | exact HB.out)))); have n2_ := Aside0.mk (blk_below (g := gb159) (o := .cells #[.slice none 0 0, .int .i64 x160001_2] 212 (0, 0)) (by (with_reducible repeat (first | refine blk_drewN ?_ _ | refine blk_drew ?_ | refine blk_alloc ?_ _)); refine blk_far ?_ NB159_189.out _; (with_reducible repeat (first | refine blk_drewN ?_ _ | refine blk_drew ?_ | refine blk_alloc ?_ _)); refine blk_far ?_ NB159_189.out _; (with_reducible repeat (first | refine blk_drewN ?_ _ | refine blk_drew ?_ | refine blk_alloc ?_ _)); exact BK159.out) hb); have n3_ := Aside0.mk (blk_below (g := gb170) (o := .cells #[.int .i64 t167, .int .i64 t168] 202 (0, 0)) (by (with_reducible repeat (first | refine blk_drewN ?_ _ | refine blk_drew ?_ | refine blk_alloc ?_ _)); refine blk_far ?_ NB170_189.out _; (with_reducible repeat (first | refine blk_drewN ?_ _ | refine blk_drew ?_ | refine blk_alloc ?_ _)); refine blk_far ?_ NB170_189.out _; (with_reducible repeat (first | refine blk_drewN ?_ _ | refine blk_drew ?_ | refine blk_alloc ?_ _)); exact BK170.out) hb); have n4_ := Aside0.mk (blk_below (g := gb189) (o := .cells #[.int .i64 t186, .int .i64 t187] 202 (0, 0)) (by (with_reducible repeat (first | refine blk_drewN ?_ _ | refine blk_drew ?_ | refine blk_alloc ?_ _)); refine blk_put (cs := #[.int .i64 t186, .int .i64 0]) ?_ 1 _ rfl; (with_reducible repeat (first | refine blk_drewN ?_ _ | refine blk_drew ?_ | refine blk_alloc ?_ _)); refine blk_put (cs := #[.int .i64 0, .int .i64 0]) ?_ 0 _ rfl; (with_reducible repeat (first | refine blk_drewN ?_ _ | refine blk_drew ?_ | refine blk_alloc ?_ _)); exact BK189.out) hb); have n5_ := Aside0.mk (below_step (by repeat (first | (with_reducible first | exact HB.out | apply below_alloc | apply pw_below_drewN | apply below_drew1 | refine below_set ?_ GE159.out | refine below_set ?_ GE170.out | refine below_set ?_ GE189.out) | exact HB.out)) hb); clear HO_12; clear BK159; clear BK170; clear BK189; clear HB; have HO_12 := n0_; have HO195 := n1_; have BK159 := n2_; have BK170 := n3_; have BK189 := n4_; have HB := n5_; clear n0_ n1_ n2_ n3_ n4_ n5_; (try clear hb); (try clear hb2); (try clear hk); (try clear hi); (try clear ho0); obtain ⟨Ao51, co51, eo51⟩ := Kd.R_slice HO195.out; subst eo51; have hnb52 := NB159_170.out; have hnc52 := NB170_159.out; have hcz53_0 : w50.cell? ⟨gb159, 0, none⟩ = some (.slice none 0 0) := (blk_cell BK159.out 0).trans rfl; have hcz53_1 : w50.cell? ⟨gb159, 1, none⟩ = some (.int .i64 x160001_2) := (blk_cell BK159.out 1).trans rfl; have hfz53_0 := blk_frozen BK159.out 0; have hfz53_1 := blk_frozen BK159.out 1))
                    refine bodyPost_ret (results_ct rfl _ _ gb159 212 #[.slice Ao51 t193.length co51, .int .i64 t196] (0, 0) _ rfl (by (with_reducible repeat (first | refine blk_drewN ?_ _ | refine blk_drew ?_ | refine blk_alloc ?_ _)); refine blk_put (cs := #[.slice Ao51 t193.length co51, .int .i64 x160001_2]) ?_ 1 _ rfl; (with_reducible repeat (first | refine blk_drewN ?_ _ | refine blk_drew ?_ | refine blk_alloc ?_ _)); refine blk_put (cs := #[.slice none 0 0, .int .i64 x160001_2]) ?_ 0 _ rfl; (with_reducible repeat (first | refine blk_drewN ?_ _ | refine blk_drew ?_ | refine blk_alloc ?_ _)); exact BK159.out) Try.underlying212 rfl (by kernel_rfl)) rfl ?_
                    exact ⟨_, by first | rfl | (simp [errW_none, errW_some] <;> rfl) | (simp only [← hji18]; first | rfl | (simp [errW_none, errW_some] <;> rfl)) | (simp [*, errW_none, errW_some] <;> rfl), by (with_reducible repeat (first | apply Kd.R_alloc | apply Kd.R_drewN | apply Kd.R_drew)); exact Kd.R_mono (Kd.R_far (p := ⟨gb159, 1, none⟩) (Kd.R_far (p := ⟨gb159, 0, none⟩) (Kd.R_types HO195.out BK159.out (by decide)) (fun _ hk => hk.2) (.slice Ao51 t193.length co51)) (fun _ hk => hk.2) (.int .i64 t196)) (fun _ hk => trivial), by repeat (first | (with_reducible first | exact HB.out | apply below_alloc | apply pw_below_drewN | apply below_drew1 | refine below_set ?_ GE159.out | refine below_set ?_ GE170.out | refine below_set ?_ GE189.out) | exact HB.out)⟩
                · rw [if_neg c32] at H
                  have c32b0 : decide (x56_2 < t167) = false := decide_eq_false c32
                  clear c32
                  replace H := Option.bind_eq_some_iff.mp H
                  obtain ⟨⟨t181, t184, t185⟩, A540, H⟩ := H
                  replace H : (some (t181, t184, t185)) = some (r1, r2, r3) := H
                  have A54 := Aside0.mk A540
                  clear A540
                  simp only [Option.some.injEq, Prod.mk.injEq] at H
                  obtain ⟨rfl, rfl, rfl⟩ := H
                  obtain ⟨Ao55, co55, eo55⟩ := Kd.R_slice HO_12.out
                  subst eo55
                  go_wp2_with (first | ((with_reducible refine gate_callee (f := 217) rfl ?_); refine goesL_ (some 81) rfl rfl Try.func217 (by kernel_rfl) rfl #[.slice Ao55 x12_2.length co55, .int .i64 x13_2] rfl (by (try simp only [List.map_toArray, List.map_cons, List.map_nil]); first | done | rfl | (simp only [List.length_drop, List.length_take]; rfl)) ?_; (with_reducible refine (octet_got_int_217.calls (fun k_ => some k_ = (.slice Ao55 x12_2.length co55 : Value).ownBlock) (.slice Ao55 x12_2.length co55) x12_2 x13_2 t181 t184 t185 w _ ?side1 ?side2 A54.out).mono ?_); (case side1 => repeat (first | (with_reducible first | exact HB.out | apply below_alloc | apply pw_below_drewN | apply below_drew1 | refine below_set ?_ GE159.out | refine below_set ?_ GE170.out) | exact HB.out)); (case side2 => exact Kd.R_tight rfl HO_12.out); rintro e w56 ⟨v182, rfl, ho0, hb, hkp⟩; refine ⟨_, rfl, ?_⟩; have n0_ := Aside0.mk (blk_kept (by (with_reducible repeat (first | refine blk_drewN ?_ _ | refine blk_drew ?_ | refine blk_alloc ?_ _)); exact BK159.out) hkp (fun hs_ => (fun e_ => (Kd.R_ne HO_12.out BK159.out (by decide)) e_) hs_)); have n1_ := Aside0.mk (blk_kept (by (with_reducible repeat (first | refine blk_drewN ?_ _ | refine blk_drew ?_ | refine blk_alloc ?_ _)); exact BK170.out) hkp (fun hs_ => (fun e_ => (Kd.R_ne HO_12.out BK170.out (by decide)) e_) hs_)); have n2_ := Aside0.mk (Kd.R_mono (ok' := fun k_ => True) ho0 (fun k_ hk_ => trivial)); have n3_ := Aside0.mk (hb); clear BK159; clear BK170; clear HB; clear HO_12; have BK159 := n0_; have BK170 := n1_; have HO183 := n2_; have HB := n3_; clear n0_ n1_ n2_ n3_; (try clear hb); (try clear hkp); (try clear ho0); obtain ⟨Ao57, co57, eo57⟩ := Kd.R_slice HO183.out; subst eo57; have hnb58 := NB159_170.out; have hnc58 := NB170_159.out; have hcz59_0 : w56.cell? ⟨gb159, 0, none⟩ = some (.slice none 0 0) := (blk_cell BK159.out 0).trans rfl; have hcz59_1 : w56.cell? ⟨gb159, 1, none⟩ = some (.int .i64 x160001_2) := (blk_cell BK159.out 1).trans rfl; have hfz59_0 := blk_frozen BK159.out 0; have hfz59_1 := blk_frozen BK159.out 1))
                  refine bodyPost_ret (results_ct rfl _ _ gb159 212 #[.slice Ao57 t181.length co57, .int .i64 t184] (0, 0) _ rfl (by (with_reducible repeat (first | refine blk_drewN ?_ _ | refine blk_drew ?_ | refine blk_alloc ?_ _)); refine blk_put (cs := #[.slice Ao57 t181.length co57, .int .i64 x160001_2]) ?_ 1 _ rfl; (with_reducible repeat (first | refine blk_drewN ?_ _ | refine blk_drew ?_ | refine blk_alloc ?_ _)); refine blk_put (cs := #[.slice none 0 0, .int .i64 x160001_2]) ?_ 0 _ rfl; (with_reducible repeat (first | refine blk_drewN ?_ _ | refine blk_drew ?_ | refine blk_alloc ?_ _)); exact BK159.out) Try.underlying212 rfl (by kernel_rfl)) rfl ?_
                  exact ⟨_, by first | rfl | (simp [errW_none, errW_some] <;> rfl) | (simp only [← hji18]; first | rfl | (simp [errW_none, errW_some] <;> rfl)) | (simp [*, errW_none, errW_some] <;> rfl), by (with_reducible repeat (first | apply Kd.R_alloc | apply Kd.R_drewN | apply Kd.R_drew)); exact Kd.R_mono (Kd.R_far (p := ⟨gb159, 1, none⟩) (Kd.R_far (p := ⟨gb159, 0, none⟩) (Kd.R_types HO183.out BK159.out (by decide)) (fun _ hk => hk.2) (.slice Ao57 t181.length co57)) (fun _ hk => hk.2) (.int .i64 t184)) (fun _ hk => trivial), by repeat (first | (with_reducible first | exact HB.out | apply below_alloc | apply pw_below_drewN | apply below_drew1 | refine below_set ?_ GE159.out | refine below_set ?_ GE170.out) | exact HB.out)⟩
        · rw [if_neg c17] at H
          have c17b0 : (t169 == 0) = false := beq_eq_false_iff_ne.mpr c17
          have c17b1 : (t169 != 0) = true := bne_iff_ne.mpr c17
          replace H := Option.bind_eq_some_iff.mp H
          obtain ⟨⟨t171, t174, t175⟩, A600, H⟩ := H
          replace H : (some (t171, t174, t175)) = some (r1, r2, r3) := H
          have A60 := Aside0.mk A600
          clear A600
          simp only [Option.some.injEq, Prod.mk.injEq] at H
          obtain ⟨rfl, rfl, rfl⟩ := H
          go_wp2_with (first | ((with_reducible refine gate_callee (f := 134) rfl ?_); refine goesL_ (some 35) rfl rfl Try.func134 (by kernel_rfl) rfl #[.string a0, .int .i64 a1, .int .i64 2] rfl (by (try simp only [List.map_toArray, List.map_cons, List.map_nil]); first | done | rfl | (simp only [List.length_drop, List.length_take]; rfl)) ?_; (with_reducible refine (octet_Get.calls kj4 a0 a1 2 t167 t168 t169 _ A16.out).mono ?_); rintro e w61 ⟨rfl, hb⟩; refine ⟨_, rfl, ?_⟩; have n0_ := Aside0.mk (blk_below (g := gb159) (o := .cells #[.slice none 0 0, .int .i64 0] 212 (0, 0)) (by (with_reducible repeat (first | refine blk_drewN ?_ _ | refine blk_drew ?_ | refine blk_alloc ?_ _)); exact BK159.out) hb); have n1_ := Aside0.mk (below_step (by repeat (first | (with_reducible first | exact HB.out | apply below_alloc | apply pw_below_drewN | apply below_drew1 | refine below_set ?_ GE159.out) | exact HB.out)) hb); clear BK159; clear HB; have BK159 := n0_; have HB := n1_; clear n0_ n1_; (try clear hb); (try clear hb2); (try clear hk); (try clear hi)) | ((with_reducible refine gate_dst (N := 10) rfl ?_); refine box_event ?hg (N := 10) ?hd (cs := #[.int .i64 0, .int .i64 0]) (t := 202) ?hr ?_; (case hd => rfl); (case hg => rfl); (case hr => first | (go_simp; done) | (go_simp; rfl)); intro gb170 hg w62 hbox hb; have n0_ := Aside0.mk (blk_below (g := gb159) (o := .cells #[.slice none 0 0, .int .i64 0] 212 (0, 0)) (by (with_reducible repeat (first | refine blk_drewN ?_ _ | refine blk_drew ?_ | refine blk_alloc ?_ _)); exact BK159.out) hb); have n1_ := Aside0.mk (below_step (by repeat (first | (with_reducible first | exact HB.out | apply below_alloc | apply pw_below_drewN | apply below_drew1 | refine below_set ?_ GE159.out) | exact HB.out)) hb); have n2_ := Aside0.mk (hbox); have n3_ := Aside0.mk ((by rw [hg]; exact (below_size (by repeat (first | (with_reducible first | exact HB.out | apply below_alloc | apply pw_below_drewN | apply below_drew1 | refine below_set ?_ GE159.out) | exact HB.out))) : w.heap.size ≤ gb170)); have n4_ := Aside0.mk ((by rw [hg]; exact (below_size (by repeat (first | (with_reducible first | exact HB.out | apply below_alloc | apply pw_below_drewN | apply below_drew1 | refine below_set ?_ GE159.out) | exact HB.out))) : w.heap.size ≤ gb170)); have n5_ := Aside0.mk ((by rw [hg]; exact Nat.ne_of_lt (blk_lt (g := gb159) (o := .cells #[.slice none 0 0, .int .i64 0] 212 (0, 0)) (by (with_reducible repeat (first | refine blk_drewN ?_ _ | refine blk_drew ?_ | refine blk_alloc ?_ _)); exact BK159.out)) : gb159 ≠ gb170)); have n6_ := Aside0.mk ((by rw [hg]; exact Nat.ne_of_gt (blk_lt (g := gb159) (o := .cells #[.slice none 0 0, .int .i64 0] 212 (0, 0)) (by (with_reducible repeat (first | refine blk_drewN ?_ _ | refine blk_drew ?_ | refine blk_alloc ?_ _)); exact BK159.out)) : gb170 ≠ gb159)); clear BK159; clear HB; have BK159 := n0_; have HB := n1_; have BK170 := n2_; have GW170 := n3_; have GE170 := n4_; have NB159_170 := n5_; have NB170_159 := n6_; clear n0_ n1_ n2_ n3_ n4_ n5_ n6_; clear hb hbox hg; have hnb63 := NB170_159.out; have hnc63 := NB159_170.out; have hcz64_0 : w62.cell? ⟨gb170, 0, none⟩ = some (.int .i64 0) := (blk_cell BK170.out 0).trans rfl; have hcz64_1 : w62.cell? ⟨gb170, 1, none⟩ = some (.int .i64 0) := (blk_cell BK170.out 1).trans rfl; have hfz64_0 := blk_frozen BK170.out 0; have hfz64_1 := blk_frozen BK170.out 1) | ((with_reducible refine gate_callee (f := 216) rfl ?_); refine goesL_ (some 41) rfl rfl Try.func216 (by kernel_rfl) rfl #[.int .i64 t169] rfl (by (try simp only [List.map_toArray, List.map_cons, List.map_nil]); first | done | rfl | (simp only [List.length_drop, List.length_take]; rfl)) ?_; (with_reducible refine (octet_none_int_216.calls t169 t171 t174 t175 _ A60.out).mono ?_); rintro e w65 ⟨v172, rfl, ho0, hb⟩; refine ⟨_, rfl, ?_⟩; have n0_ := Aside0.mk (Kd.R_lower ho0 (below_size (by repeat (first | (with_reducible first | exact HB.out | apply below_alloc | apply pw_below_drewN | apply below_drew1 | refine below_set ?_ GE159.out | refine below_set ?_ GE170.out) | exact HB.out)))); have n1_ := Aside0.mk (blk_below (g := gb159) (o := .cells #[.slice none 0 0, .int .i64 0] 212 (0, 0)) (by (with_reducible repeat (first | refine blk_drewN ?_ _ | refine blk_drew ?_ | refine blk_alloc ?_ _)); refine blk_far ?_ NB159_170.out _; (with_reducible repeat (first | refine blk_drewN ?_ _ | refine blk_drew ?_ | refine blk_alloc ?_ _)); refine blk_far ?_ NB159_170.out _; (with_reducible repeat (first | refine blk_drewN ?_ _ | refine blk_drew ?_ | refine blk_alloc ?_ _)); exact BK159.out) hb); have n2_ := Aside0.mk (blk_below (g := gb170) (o := .cells #[.int .i64 t167, .int .i64 t168] 202 (0, 0)) (by (with_reducible repeat (first | refine blk_drewN ?_ _ | refine blk_drew ?_ | refine blk_alloc ?_ _)); refine blk_put (cs := #[.int .i64 t167, .int .i64 0]) ?_ 1 _ rfl; (with_reducible repeat (first | refine blk_drewN ?_ _ | refine blk_drew ?_ | refine blk_alloc ?_ _)); refine blk_put (cs := #[.int .i64 0, .int .i64 0]) ?_ 0 _ rfl; (with_reducible repeat (first | refine blk_drewN ?_ _ | refine blk_drew ?_ | refine blk_alloc ?_ _)); exact BK170.out) hb); have n3_ := Aside0.mk (below_step (by repeat (first | (with_reducible first | exact HB.out | apply below_alloc | apply pw_below_drewN | apply below_drew1 | refine below_set ?_ GE159.out | refine below_set ?_ GE170.out) | exact HB.out)) hb); clear BK159; clear BK170; clear HB; have HO173 := n0_; have BK159 := n1_; have BK170 := n2_; have HB := n3_; clear n0_ n1_ n2_ n3_; (try clear hb); (try clear hb2); (try clear hk); (try clear hi); (try clear ho0); obtain ⟨Ao66, co66, eo66⟩ := Kd.R_slice HO173.out; subst eo66; have hcz67_0 : w65.cell? ⟨gb159, 0, none⟩ = some (.slice none 0 0) := (blk_cell BK159.out 0).trans rfl; have hcz67_1 : w65.cell? ⟨gb159, 1, none⟩ = some (.int .i64 0) := (blk_cell BK159.out 1).trans rfl; have hfz67_0 := blk_frozen BK159.out 0; have hfz67_1 := blk_frozen BK159.out 1))
          refine bodyPost_ret (results_ct rfl _ _ gb159 212 #[.slice Ao66 t171.length co66, .int .i64 t174] (0, 0) _ rfl (by (with_reducible repeat (first | refine blk_drewN ?_ _ | refine blk_drew ?_ | refine blk_alloc ?_ _)); refine blk_put (cs := #[.slice Ao66 t171.length co66, .int .i64 0]) ?_ 1 _ rfl; (with_reducible repeat (first | refine blk_drewN ?_ _ | refine blk_drew ?_ | refine blk_alloc ?_ _)); refine blk_put (cs := #[.slice none 0 0, .int .i64 0]) ?_ 0 _ rfl; (with_reducible repeat (first | refine blk_drewN ?_ _ | refine blk_drew ?_ | refine blk_alloc ?_ _)); exact BK159.out) Try.underlying212 rfl (by kernel_rfl)) rfl ?_
          exact ⟨_, by first | rfl | (simp [errW_none, errW_some] <;> rfl) | (simp [*, errW_none, errW_some] <;> rfl), by (with_reducible repeat (first | apply Kd.R_alloc | apply Kd.R_drewN | apply Kd.R_drew)); exact Kd.R_mono (Kd.R_far (p := ⟨gb159, 1, none⟩) (Kd.R_far (p := ⟨gb159, 0, none⟩) (Kd.R_types HO173.out BK159.out (by decide)) (fun _ hk => hk.2) (.slice Ao66 t171.length co66)) (fun _ hk => hk.2) (.int .i64 t174)) (fun _ hk => trivial), by repeat (first | (with_reducible first | exact HB.out | apply below_alloc | apply pw_below_drewN | apply below_drew1 | refine below_set ?_ GE159.out | refine below_set ?_ GE170.out) | exact HB.out)⟩
end Go.Proofs.Ytakkhomjpflkbaa.F
