/-
  What is to be shown of the functions (made by a program).
-/
import Derived.Test.YteghjimhlpbpkaaDoorD2Z
import Derived.KernelRfl
set_option maxRecDepth 1000000
set_option linter.unusedVariables false
namespace Go.Proofs.YteghjimhlpbpkaaDoor.X
open Go Go.Ab

theorem ob_o4f (k c x y : Int) : fnOb Tryd.prog G (dd4 false none false 1) 10000 fe4 (.lit .nil) ([.agg [.int .u8 k, .int .i64 c], .agg [.int .i64 x, .int .i64 y]]) ([.bool true]) ([]) = some (
(true = true ∧
    true = true ∧
      SpecP Tryd.prog G 18
          [AV.agg [AV.int IntKind.u8 k, AV.int IntKind.i64 c], AV.agg [AV.int IntKind.i64 x, AV.int IntKind.i64 y]]
          (AV.tup [AV.agg [AV.int IntKind.i64 0, AV.int IntKind.i64 0], AV.int IntKind.i64 1]) [] ∧
        true = true ∧ true = true ∧ true = true ∧ True) ∧
  (true = true ∧
      SpecP Tryd.prog G 11 [AV.agg [AV.int IntKind.u8 k, AV.int IntKind.i64 c]] (AV.int IntKind.i64 0) [] ∧
        true = true ∧ true = true ∧ True) ∧
    (true = true ∧
        true = true ∧ true = true ∧ SpecP Tryd.prog G 16 [] (AV.bool true) [] ∧ true = true ∧ true = true ∧ True) ∧
      true = true ∧ True) := by kernel_rfl

theorem ob_o4i (k c x y : Int) : fnOb Tryd.prog G (dd4 true (some false) false 1) 10000 fe4 (.lit .nil) ([.agg [.int .u8 k, .int .i64 c], .agg [.int .i64 x, .int .i64 y]]) ([.bool true]) ([]) = some (
(true = true ∧
    true = true ∧
      SpecP Tryd.prog G 18
          [AV.agg [AV.int IntKind.u8 k, AV.int IntKind.i64 c], AV.agg [AV.int IntKind.i64 x, AV.int IntKind.i64 y]]
          (AV.tup [AV.agg [AV.int IntKind.i64 0, AV.int IntKind.i64 0], AV.int IntKind.i64 1]) [] ∧
        true = true ∧ true = true ∧ true = true ∧ True) ∧
  (true = true ∧
      SpecP Tryd.prog G 11 [AV.agg [AV.int IntKind.u8 k, AV.int IntKind.i64 c]] (AV.int IntKind.i64 1) [] ∧
        true = true ∧
          SpecP Tryd.prog G 12 [AV.agg [AV.int IntKind.i64 x, AV.int IntKind.i64 y]] (AV.int IntKind.i64 0) [] ∧
            true = true ∧ true = true ∧ True) ∧
    (true = true ∧
        true = true ∧ true = true ∧ SpecP Tryd.prog G 16 [] (AV.bool true) [] ∧ true = true ∧ true = true ∧ True) ∧
      true = true ∧ True) := by kernel_rfl

theorem ob_o4j (k c x y : Int) : fnOb Tryd.prog G (dd4 true none false 3) 10000 fe4 (.cnd .nil (.cnd .nil .nil)) ([.agg [.int .u8 k, .int .i64 c], .agg [.int .i64 x, .int .i64 y]]) ([.bool true]) ([]) = some (
(true = true ∧
    true = true ∧
      SpecP Tryd.prog G 18
          [AV.agg [AV.int IntKind.u8 k, AV.int IntKind.i64 c], AV.agg [AV.int IntKind.i64 x, AV.int IntKind.i64 y]]
          (AV.tup [AV.agg [AV.int IntKind.i64 0, AV.int IntKind.i64 0], AV.int IntKind.i64 3]) [] ∧
        true = true ∧ true = true ∧ true = true ∧ True) ∧
  (true = true ∧
      SpecP Tryd.prog G 11 [AV.agg [AV.int IntKind.u8 k, AV.int IntKind.i64 c]] (AV.int IntKind.i64 1) [] ∧
        true = true ∧
          SpecP Tryd.prog G 12 [AV.agg [AV.int IntKind.i64 x, AV.int IntKind.i64 y]]
              (AV.int IntKind.i64 (bI (ins x y) 1 0)) [] ∧
            true = true ∧ true = true ∧ True) ∧
    ((bif false then true else bI (ins x y) 1 0 == 0) = true →
        (true = true ∧ true = true ∧ true = true ∧ true = true ∧ True) ∧ false = true ∧ True) ∧
      ((bif false then true else bI (ins x y) 1 0 == 0) = false →
        (true = true ∧
            true = true ∧
              SpecP Tryd.prog G 19
                  [AV.agg [AV.int IntKind.u8 k, AV.int IntKind.i64 c],
                    AV.agg [AV.int IntKind.i64 x, AV.int IntKind.i64 y]]
                  (AV.agg [AV.int IntKind.i64 (rfX k c x y), AV.int IntKind.i64 (rfY k c x y)]) [] ∧
                true = true ∧ True) ∧
          (true = true ∧
              SpecP Tryd.prog G 12 [AV.agg [AV.int IntKind.i64 (rfX k c x y), AV.int IntKind.i64 (rfY k c x y)]]
                  (AV.int IntKind.i64 (bI (ins (rfX k c x y) (rfY k c x y)) 1 0)) [] ∧
                True) ∧
            ((bI (ins (rfX k c x y) (rfY k c x y)) 1 0 == 0) = true →
                (true = true ∧
                    true = true ∧
                      true = true ∧ SpecP Tryd.prog G 16 [] (AV.bool true) [] ∧ true = true ∧ true = true ∧ True) ∧
                  true = true ∧ True) ∧
              ((bI (ins (rfX k c x y) (rfY k c x y)) 1 0 == 0) = false →
                (true = true ∧
                    true = true ∧
                      SpecP Tryd.prog G 18
                          [AV.agg [AV.int IntKind.u8 k, AV.int IntKind.i64 c],
                            AV.agg [AV.int IntKind.i64 0, AV.int IntKind.i64 0]]
                          (AV.tup [AV.agg [AV.int IntKind.i64 0, AV.int IntKind.i64 0], AV.int IntKind.i64 3]) [] ∧
                        true = true ∧ true = true ∧ true = true ∧ True) ∧
                  (true = true ∧
                      SpecP Tryd.prog G 20 [AV.int IntKind.u8 k]
                          (AV.tup [AV.int IntKind.i64 (crA k), AV.int IntKind.i64 (crB k)]) [] ∧
                        true = true ∧ true = true ∧ True) ∧
                    (true = true ∧
                        true = true ∧
                          true = true ∧
                            true = true ∧
                              true = true ∧
                                true = true ∧
                                  true = true ∧
                                    true = true ∧ true = true ∧ true = true ∧ true = true ∧ true = true ∧ True) ∧
                      false = true ∧ True))) := by kernel_rfl

theorem ob_o4k1 (c x y : Int) : fnOb Tryd.prog G (dd4 true (some true) true 0) 10000 fe4 (.lit (.lit (.r [] (.r [] (.r [myo (dd4 true (some true) true 0) 648, myo (dd4 true (some true) true 0) 649, myp GDir.auto true 650, myo (dd4 true (some true) true 0) 657, myo (dd4 true (some true) true 0) 658, myo (dd4 true (some true) true 0) 659, myo (dd4 true (some true) true 0) 660, myo (dd4 true (some true) true 0) 661, myo (dd4 true (some true) true 0) 662, myo (dd4 true (some true) true 0) 663, myo (dd4 true (some true) true 0) 664, myo (dd4 true (some true) true 0) 665, myo (dd4 true (some true) true 0) 666, myo (dd4 true (some true) true 0) 667, myo (dd4 true (some true) true 0) 668, myo (dd4 true (some true) true 0) 669, myo (dd4 true (some true) true 0) 670, myo (dd4 true (some true) true 0) 671, myp GDir.auto true 672, myo (dd4 true (some true) true 0) 674, myo (dd4 true (some true) true 0) 675, myo (dd4 true (some true) true 0) 676, myo (dd4 true (some true) true 0) 677, myo (dd4 true (some true) true 0) 678, myo (dd4 true (some true) true 0) 679, myo (dd4 true (some true) true 0) 680, myo (dd4 true (some true) true 0) 681, myp GDir.auto true 682, myo (dd4 true (some true) true 0) 684, myp GDir.auto true 685] .nil))))) ([.agg [.int .u8 1, .int .i64 c], .agg [.int .i64 x, .int .i64 y]]) ([.bool true]) ([]) = some (
(true = true ∧
    true = true ∧
      SpecP Tryd.prog G 18
          [AV.agg [AV.int IntKind.u8 1, AV.int IntKind.i64 c], AV.agg [AV.int IntKind.i64 x, AV.int IntKind.i64 y]]
          (AV.tup [AV.agg [AV.int IntKind.i64 (rfX 1 c x y), AV.int IntKind.i64 (rfY 1 c x y)], AV.int IntKind.i64 0])
          [] ∧
        true = true ∧ true = true ∧ true = true ∧ True) ∧
  (true = true ∧
      SpecP Tryd.prog G 11 [AV.agg [AV.int IntKind.u8 1, AV.int IntKind.i64 c]] (AV.int IntKind.i64 1) [] ∧
        true = true ∧
          SpecP Tryd.prog G 12 [AV.agg [AV.int IntKind.i64 x, AV.int IntKind.i64 y]] (AV.int IntKind.i64 1) [] ∧
            true = true ∧ true = true ∧ True) ∧
    (true = true ∧
        true = true ∧
          SpecP Tryd.prog G 19
              [AV.agg [AV.int IntKind.u8 1, AV.int IntKind.i64 c], AV.agg [AV.int IntKind.i64 x, AV.int IntKind.i64 y]]
              (AV.agg [AV.int IntKind.i64 (rfX 1 c x y), AV.int IntKind.i64 (rfY 1 c x y)]) [] ∧
            true = true ∧ True) ∧
      (true = true ∧
          SpecP Tryd.prog G 12 [AV.agg [AV.int IntKind.i64 (rfX 1 c x y), AV.int IntKind.i64 (rfY 1 c x y)]]
              (AV.int IntKind.i64 1) [] ∧
            True) ∧
        (true = true ∧
            true = true ∧
              SpecP Tryd.prog G 18
                  [AV.agg [AV.int IntKind.u8 1, AV.int IntKind.i64 c],
                    AV.agg [AV.int IntKind.i64 (rfX 1 c x y), AV.int IntKind.i64 (rfY 1 c x y)]]
                  (AV.tup
                    [AV.agg
                        [AV.int IntKind.i64 (rfX 1 c (rfX 1 c x y) (rfY 1 c x y)),
                          AV.int IntKind.i64 (rfY 1 c (rfX 1 c x y) (rfY 1 c x y))],
                      AV.int IntKind.i64 0])
                  [] ∧
                true = true ∧ true = true ∧ true = true ∧ True) ∧
          (true = true ∧
              SpecP Tryd.prog G 20 [AV.int IntKind.u8 1] (AV.tup [AV.int IntKind.i64 1, AV.int IntKind.i64 0]) [] ∧
                true = true ∧ true = true ∧ True) ∧
            (true = true ∧
                true = true ∧
                  true = true ∧
                    true = true ∧
                      (true && bif true then rfX 1 c x y == rfX 1 c x y && rfY 1 c x y == rfY 1 c x y else false) =
                          true ∧
                        (true && bif true then rfX 1 c x y == rfX 1 c x y && rfY 1 c x y == rfY 1 c x y else false) =
                            true ∧
                          true = true ∧
                            (bif true then rfX 1 c x y == rfX 1 c x y && rfY 1 c x y == rfY 1 c x y else false) = true ∧
                              true = true ∧
                                true = true ∧
                                  true = true ∧
                                    true = true ∧
                                      true = true ∧
                                        (true &&
                                              bif true then
                                                rfX 1 c (rfX 1 c x y) (rfY 1 c x y) == x &&
                                                  rfY 1 c (rfX 1 c x y) (rfY 1 c x y) == y
                                              else false) =
                                            true ∧
                                          (true &&
                                                bif true then
                                                  rfX 1 c (rfX 1 c x y) (rfY 1 c x y) == x &&
                                                    rfY 1 c (rfX 1 c x y) (rfY 1 c x y) == y
                                                else false) =
                                              true ∧
                                            (true &&
                                                  bif true then
                                                    rfX 1 c (rfX 1 c x y) (rfY 1 c x y) == x &&
                                                      rfY 1 c (rfX 1 c x y) (rfY 1 c x y) == y
                                                  else false) =
                                                true ∧
                                              true = true ∧
                                                (true &&
                                                      bif true then
                                                        rfX 1 c (rfX 1 c x y) (rfY 1 c x y) == x &&
                                                          rfY 1 c (rfX 1 c x y) (rfY 1 c x y) == y
                                                      else false) =
                                                    true ∧
                                                  (true &&
                                                        bif true then
                                                          rfX 1 c (rfX 1 c x y) (rfY 1 c x y) == x &&
                                                            rfY 1 c (rfX 1 c x y) (rfY 1 c x y) == y
                                                        else false) =
                                                      true ∧
                                                    true = true ∧
                                                      (true &&
                                                            bif true then
                                                              rfX 1 c (rfX 1 c x y) (rfY 1 c x y) == x &&
                                                                rfY 1 c (rfX 1 c x y) (rfY 1 c x y) == y
                                                            else false) =
                                                          true ∧
                                                        inR IntKind.i64 (rfX 1 c x y - x) = true ∧
                                                          (true &&
                                                                bif true then
                                                                  rfX 1 c (rfX 1 c x y) (rfY 1 c x y) == x &&
                                                                    rfY 1 c (rfX 1 c x y) (rfY 1 c x y) == y
                                                                else false) =
                                                              true ∧
                                                            inR IntKind.i64 (0 * (rfX 1 c x y - x)) = true ∧
                                                              (true &&
                                                                    bif true then
                                                                      rfX 1 c (rfX 1 c x y) (rfY 1 c x y) == x &&
                                                                        rfY 1 c (rfX 1 c x y) (rfY 1 c x y) == y
                                                                    else false) =
                                                                  true ∧
                                                                (true &&
                                                                      bif true then
                                                                        rfX 1 c (rfX 1 c x y) (rfY 1 c x y) == x &&
                                                                          rfY 1 c (rfX 1 c x y) (rfY 1 c x y) == y
                                                                      else false) =
                                                                    true ∧
                                                                  (true &&
                                                                        bif true then
                                                                          rfX 1 c (rfX 1 c x y) (rfY 1 c x y) == x &&
                                                                            rfY 1 c (rfX 1 c x y) (rfY 1 c x y) == y
                                                                        else false) =
                                                                      true ∧
                                                                    true = true ∧
                                                                      (true &&
                                                                            bif true then
                                                                              rfX 1 c (rfX 1 c x y) (rfY 1 c x y) ==
                                                                                  x &&
                                                                                rfY 1 c (rfX 1 c x y) (rfY 1 c x y) == y
                                                                            else false) =
                                                                          true ∧
                                                                        (true &&
                                                                              bif true then
                                                                                rfX 1 c (rfX 1 c x y) (rfY 1 c x y) ==
                                                                                    x &&
                                                                                  rfY 1 c (rfX 1 c x y) (rfY 1 c x y) ==
                                                                                    y
                                                                              else false) =
                                                                            true ∧
                                                                          true = true ∧
                                                                            (true &&
                                                                                  bif true then
                                                                                    rfX 1 c (rfX 1 c x y)
                                                                                          (rfY 1 c x y) ==
                                                                                        x &&
                                                                                      rfY 1 c (rfX 1 c x y)
                                                                                          (rfY 1 c x y) ==
                                                                                        y
                                                                                  else false) =
                                                                                true ∧
                                                                              inR IntKind.i64 (rfY 1 c x y - y) = true ∧
                                                                                (true &&
                                                                                      bif true then
                                                                                        rfX 1 c (rfX 1 c x y)
                                                                                              (rfY 1 c x y) ==
                                                                                            x &&
                                                                                          rfY 1 c (rfX 1 c x y)
                                                                                              (rfY 1 c x y) ==
                                                                                            y
                                                                                      else false) =
                                                                                    true ∧
                                                                                  inR IntKind.i64
                                                                                        (1 * (rfY 1 c x y - y)) =
                                                                                      true ∧
                                                                                    (true &&
                                                                                          bif true then
                                                                                            rfX 1 c (rfX 1 c x y)
                                                                                                  (rfY 1 c x y) ==
                                                                                                x &&
                                                                                              rfY 1 c (rfX 1 c x y)
                                                                                                  (rfY 1 c x y) ==
                                                                                                y
                                                                                          else false) =
                                                                                        true ∧
                                                                                      true = true ∧
                                                                                        (bif true then
                                                                                              rfX 1 c (rfX 1 c x y)
                                                                                                    (rfY 1 c x y) ==
                                                                                                  x &&
                                                                                                rfY 1 c (rfX 1 c x y)
                                                                                                    (rfY 1 c x y) ==
                                                                                                  y
                                                                                            else false) =
                                                                                            true ∧
                                                                                          true = true ∧
                                                                                            (true &&
                                                                                                  0 *
                                                                                                      (rfX 1 c x y -
                                                                                                        x) ==
                                                                                                    1 *
                                                                                                      (rfY 1 c x y -
                                                                                                        y)) =
                                                                                                true ∧
                                                                                              true = true ∧
                                                                                                (true &&
                                                                                                      0 *
                                                                                                          (rfX 1 c x y -
                                                                                                            x) ==
                                                                                                        1 *
                                                                                                          (rfY 1 c x y -
                                                                                                            y)) =
                                                                                                    true ∧
                                                                                                  true = true ∧
                                                                                                    (true &&
                                                                                                          0 *
                                                                                                              (rfX 1 c x
                                                                                                                  y -
                                                                                                                x) ==
                                                                                                            1 *
                                                                                                              (rfY 1 c x
                                                                                                                  y -
                                                                                                                y)) =
                                                                                                        true ∧
                                                                                                      SpecP Tryd.prog G
                                                                                                          17
                                                                                                          [AV.agg
                                                                                                              [AV.int
                                                                                                                  IntKind.u8
                                                                                                                  1,
                                                                                                                AV.int
                                                                                                                  IntKind.i64
                                                                                                                  c],
                                                                                                            AV.agg
                                                                                                              [AV.int
                                                                                                                  IntKind.i64
                                                                                                                  (rfX 1
                                                                                                                    c x
                                                                                                                    y),
                                                                                                                AV.int
                                                                                                                  IntKind.i64
                                                                                                                  (rfY 1
                                                                                                                    c x
                                                                                                                    y)]]
                                                                                                          (AV.int
                                                                                                            IntKind.i64
                                                                                                            (acr 1
                                                                                                                (rfX 1 c
                                                                                                                  x y)
                                                                                                                (rfY 1 c
                                                                                                                  x y) -
                                                                                                              2 * c))
                                                                                                          [] ∧
                                                                                                        (true &&
                                                                                                              0 *
                                                                                                                  (rfX 1
                                                                                                                      c
                                                                                                                      x
                                                                                                                      y -
                                                                                                                    x) ==
                                                                                                                1 *
                                                                                                                  (rfY 1
                                                                                                                      c
                                                                                                                      x
                                                                                                                      y -
                                                                                                                    y)) =
                                                                                                            true ∧
                                                                                                          true = true ∧
                                                                                                            (true &&
                                                                                                                  0 *
                                                                                                                      (rfX
                                                                                                                          1
                                                                                                                          c
                                                                                                                          x
                                                                                                                          y -
                                                                                                                        x) ==
                                                                                                                    1 *
                                                                                                                      (rfY
                                                                                                                          1
                                                                                                                          c
                                                                                                                          x
                                                                                                                          y -
                                                                                                                        y)) =
                                                                                                                true ∧
                                                                                                              true =
                                                                                                                  true ∧
                                                                                                                (true &&
                                                                                                                      0 *
                                                                                                                          (rfX
                                                                                                                              1
                                                                                                                              c
                                                                                                                              x
                                                                                                                              y -
                                                                                                                            x) ==
                                                                                                                        1 *
                                                                                                                          (rfY
                                                                                                                              1
                                                                                                                              c
                                                                                                                              x
                                                                                                                              y -
                                                                                                                            y)) =
                                                                                                                    true ∧
                                                                                                                  SpecP
                                                                                                                      Tryd.prog
                                                                                                                      G
                                                                                                                      17
                                                                                                                      [AV.agg
                                                                                                                          [AV.int
                                                                                                                              IntKind.u8
                                                                                                                              1,
                                                                                                                            AV.int
                                                                                                                              IntKind.i64
                                                                                                                              c],
                                                                                                                        AV.agg
                                                                                                                          [AV.int
                                                                                                                              IntKind.i64
                                                                                                                              x,
                                                                                                                            AV.int
                                                                                                                              IntKind.i64
                                                                                                                              y]]
                                                                                                                      (AV.int
                                                                                                                        IntKind.i64
                                                                                                                        (acr
                                                                                                                            1
                                                                                                                            x
                                                                                                                            y -
                                                                                                                          2 *
                                                                                                                            c))
                                                                                                                      [] ∧
                                                                                                                    (true &&
                                                                                                                          0 *
                                                                                                                              (rfX
                                                                                                                                  1
                                                                                                                                  c
                                                                                                                                  x
                                                                                                                                  y -
                                                                                                                                x) ==
                                                                                                                            1 *
                                                                                                                              (rfY
                                                                                                                                  1
                                                                                                                                  c
                                                                                                                                  x
                                                                                                                                  y -
                                                                                                                                y)) =
                                                                                                                        true ∧
                                                                                                                      inR
                                                                                                                            IntKind.i64
                                                                                                                            (0 -
                                                                                                                              (acr
                                                                                                                                  1
                                                                                                                                  x
                                                                                                                                  y -
                                                                                                                                2 *
                                                                                                                                  c)) =
                                                                                                                          true ∧
                                                                                                                        (true &&
                                                                                                                              0 *
                                                                                                                                  (rfX
                                                                                                                                      1
                                                                                                                                      c
                                                                                                                                      x
                                                                                                                                      y -
                                                                                                                                    x) ==
                                                                                                                                1 *
                                                                                                                                  (rfY
                                                                                                                                      1
                                                                                                                                      c
                                                                                                                                      x
                                                                                                                                      y -
                                                                                                                                    y)) =
                                                                                                                            true ∧
                                                                                                                          true =
                                                                                                                              true ∧
                                                                                                                            (0 *
                                                                                                                                    (rfX
                                                                                                                                        1
                                                                                                                                        c
                                                                                                                                        x
                                                                                                                                        y -
                                                                                                                                      x) ==
                                                                                                                                  1 *
                                                                                                                                    (rfY
                                                                                                                                        1
                                                                                                                                        c
                                                                                                                                        x
                                                                                                                                        y -
                                                                                                                                      y)) =
                                                                                                                                true ∧
                                                                                                                              true =
                                                                                                                                  true ∧
                                                                                                                                (true &&
                                                                                                                                      acr
                                                                                                                                            1
                                                                                                                                            (rfX
                                                                                                                                              1
                                                                                                                                              c
                                                                                                                                              x
                                                                                                                                              y)
                                                                                                                                            (rfY
                                                                                                                                              1
                                                                                                                                              c
                                                                                                                                              x
                                                                                                                                              y) -
                                                                                                                                          2 *
                                                                                                                                            c ==
                                                                                                                                        0 -
                                                                                                                                          (acr
                                                                                                                                              1
                                                                                                                                              x
                                                                                                                                              y -
                                                                                                                                            2 *
                                                                                                                                              c)) =
                                                                                                                                    true ∧
                                                                                                                                  SpecP
                                                                                                                                      Tryd.prog
                                                                                                                                      G
                                                                                                                                      16
                                                                                                                                      []
                                                                                                                                      (AV.bool
                                                                                                                                        true)
                                                                                                                                      [] ∧
                                                                                                                                    true =
                                                                                                                                        true ∧
                                                                                                                                      (acr
                                                                                                                                                1
                                                                                                                                                (rfX
                                                                                                                                                  1
                                                                                                                                                  c
                                                                                                                                                  x
                                                                                                                                                  y)
                                                                                                                                                (rfY
                                                                                                                                                  1
                                                                                                                                                  c
                                                                                                                                                  x
                                                                                                                                                  y) -
                                                                                                                                              2 *
                                                                                                                                                c ==
                                                                                                                                            0 -
                                                                                                                                              (acr
                                                                                                                                                  1
                                                                                                                                                  x
                                                                                                                                                  y -
                                                                                                                                                2 *
                                                                                                                                                  c)) =
                                                                                                                                          true ∧
                                                                                                                                        true =
                                                                                                                                            true ∧
                                                                                                                                          True) ∧
              true = true ∧ True) := by kernel_rfl

theorem ob_o4k2 (c x y : Int) : fnOb Tryd.prog G (dd4 true (some true) true 0) 10000 fe4 (.lit (.lit (.r [] (.r [] (.r [myo (dd4 true (some true) true 0) 648, myo (dd4 true (some true) true 0) 649, myp GDir.auto true 650, myo (dd4 true (some true) true 0) 657, myo (dd4 true (some true) true 0) 658, myo (dd4 true (some true) true 0) 659, myo (dd4 true (some true) true 0) 660, myo (dd4 true (some true) true 0) 661, myo (dd4 true (some true) true 0) 662, myo (dd4 true (some true) true 0) 663, myo (dd4 true (some true) true 0) 664, myo (dd4 true (some true) true 0) 665, myo (dd4 true (some true) true 0) 666, myo (dd4 true (some true) true 0) 667, myo (dd4 true (some true) true 0) 668, myo (dd4 true (some true) true 0) 669, myo (dd4 true (some true) true 0) 670, myo (dd4 true (some true) true 0) 671, myp GDir.auto true 672, myo (dd4 true (some true) true 0) 674, myo (dd4 true (some true) true 0) 675, myo (dd4 true (some true) true 0) 676, myo (dd4 true (some true) true 0) 677, myo (dd4 true (some true) true 0) 678, myo (dd4 true (some true) true 0) 679, myo (dd4 true (some true) true 0) 680, myo (dd4 true (some true) true 0) 681, myp GDir.auto true 682, myo (dd4 true (some true) true 0) 684, myp GDir.auto true 685] .nil))))) ([.agg [.int .u8 2, .int .i64 c], .agg [.int .i64 x, .int .i64 y]]) ([.bool true]) ([]) = some (
(true = true ∧
    true = true ∧
      SpecP Tryd.prog G 18
          [AV.agg [AV.int IntKind.u8 2, AV.int IntKind.i64 c], AV.agg [AV.int IntKind.i64 x, AV.int IntKind.i64 y]]
          (AV.tup [AV.agg [AV.int IntKind.i64 (rfX 2 c x y), AV.int IntKind.i64 (rfY 2 c x y)], AV.int IntKind.i64 0])
          [] ∧
        true = true ∧ true = true ∧ true = true ∧ True) ∧
  (true = true ∧
      SpecP Tryd.prog G 11 [AV.agg [AV.int IntKind.u8 2, AV.int IntKind.i64 c]] (AV.int IntKind.i64 1) [] ∧
        true = true ∧
          SpecP Tryd.prog G 12 [AV.agg [AV.int IntKind.i64 x, AV.int IntKind.i64 y]] (AV.int IntKind.i64 1) [] ∧
            true = true ∧ true = true ∧ True) ∧
    (true = true ∧
        true = true ∧
          SpecP Tryd.prog G 19
              [AV.agg [AV.int IntKind.u8 2, AV.int IntKind.i64 c], AV.agg [AV.int IntKind.i64 x, AV.int IntKind.i64 y]]
              (AV.agg [AV.int IntKind.i64 (rfX 2 c x y), AV.int IntKind.i64 (rfY 2 c x y)]) [] ∧
            true = true ∧ True) ∧
      (true = true ∧
          SpecP Tryd.prog G 12 [AV.agg [AV.int IntKind.i64 (rfX 2 c x y), AV.int IntKind.i64 (rfY 2 c x y)]]
              (AV.int IntKind.i64 1) [] ∧
            True) ∧
        (true = true ∧
            true = true ∧
              SpecP Tryd.prog G 18
                  [AV.agg [AV.int IntKind.u8 2, AV.int IntKind.i64 c],
                    AV.agg [AV.int IntKind.i64 (rfX 2 c x y), AV.int IntKind.i64 (rfY 2 c x y)]]
                  (AV.tup
                    [AV.agg
                        [AV.int IntKind.i64 (rfX 2 c (rfX 2 c x y) (rfY 2 c x y)),
                          AV.int IntKind.i64 (rfY 2 c (rfX 2 c x y) (rfY 2 c x y))],
                      AV.int IntKind.i64 0])
                  [] ∧
                true = true ∧ true = true ∧ true = true ∧ True) ∧
          (true = true ∧
              SpecP Tryd.prog G 20 [AV.int IntKind.u8 2] (AV.tup [AV.int IntKind.i64 0, AV.int IntKind.i64 1]) [] ∧
                true = true ∧ true = true ∧ True) ∧
            (true = true ∧
                true = true ∧
                  true = true ∧
                    true = true ∧
                      (true && bif true then rfX 2 c x y == rfX 2 c x y && rfY 2 c x y == rfY 2 c x y else false) =
                          true ∧
                        (true && bif true then rfX 2 c x y == rfX 2 c x y && rfY 2 c x y == rfY 2 c x y else false) =
                            true ∧
                          true = true ∧
                            (bif true then rfX 2 c x y == rfX 2 c x y && rfY 2 c x y == rfY 2 c x y else false) = true ∧
                              true = true ∧
                                true = true ∧
                                  true = true ∧
                                    true = true ∧
                                      true = true ∧
                                        (true &&
                                              bif true then
                                                rfX 2 c (rfX 2 c x y) (rfY 2 c x y) == x &&
                                                  rfY 2 c (rfX 2 c x y) (rfY 2 c x y) == y
                                              else false) =
                                            true ∧
                                          (true &&
                                                bif true then
                                                  rfX 2 c (rfX 2 c x y) (rfY 2 c x y) == x &&
                                                    rfY 2 c (rfX 2 c x y) (rfY 2 c x y) == y
                                                else false) =
                                              true ∧
                                            (true &&
                                                  bif true then
                                                    rfX 2 c (rfX 2 c x y) (rfY 2 c x y) == x &&
                                                      rfY 2 c (rfX 2 c x y) (rfY 2 c x y) == y
                                                  else false) =
                                                true ∧
                                              true = true ∧
                                                (true &&
                                                      bif true then
                                                        rfX 2 c (rfX 2 c x y) (rfY 2 c x y) == x &&
                                                          rfY 2 c (rfX 2 c x y) (rfY 2 c x y) == y
                                                      else false) =
                                                    true ∧
                                                  (true &&
                                                        bif true then
                                                          rfX 2 c (rfX 2 c x y) (rfY 2 c x y) == x &&
                                                            rfY 2 c (rfX 2 c x y) (rfY 2 c x y) == y
                                                        else false) =
                                                      true ∧
                                                    true = true ∧
                                                      (true &&
                                                            bif true then
                                                              rfX 2 c (rfX 2 c x y) (rfY 2 c x y) == x &&
                                                                rfY 2 c (rfX 2 c x y) (rfY 2 c x y) == y
                                                            else false) =
                                                          true ∧
                                                        inR IntKind.i64 (rfX 2 c x y - x) = true ∧
                                                          (true &&
                                                                bif true then
                                                                  rfX 2 c (rfX 2 c x y) (rfY 2 c x y) == x &&
                                                                    rfY 2 c (rfX 2 c x y) (rfY 2 c x y) == y
                                                                else false) =
                                                              true ∧
                                                            inR IntKind.i64 (1 * (rfX 2 c x y - x)) = true ∧
                                                              (true &&
                                                                    bif true then
                                                                      rfX 2 c (rfX 2 c x y) (rfY 2 c x y) == x &&
                                                                        rfY 2 c (rfX 2 c x y) (rfY 2 c x y) == y
                                                                    else false) =
                                                                  true ∧
                                                                (true &&
                                                                      bif true then
                                                                        rfX 2 c (rfX 2 c x y) (rfY 2 c x y) == x &&
                                                                          rfY 2 c (rfX 2 c x y) (rfY 2 c x y) == y
                                                                      else false) =
                                                                    true ∧
                                                                  (true &&
                                                                        bif true then
                                                                          rfX 2 c (rfX 2 c x y) (rfY 2 c x y) == x &&
                                                                            rfY 2 c (rfX 2 c x y) (rfY 2 c x y) == y
                                                                        else false) =
                                                                      true ∧
                                                                    true = true ∧
                                                                      (true &&
                                                                            bif true then
                                                                              rfX 2 c (rfX 2 c x y) (rfY 2 c x y) ==
                                                                                  x &&
                                                                                rfY 2 c (rfX 2 c x y) (rfY 2 c x y) == y
                                                                            else false) =
                                                                          true ∧
                                                                        (true &&
                                                                              bif true then
                                                                                rfX 2 c (rfX 2 c x y) (rfY 2 c x y) ==
                                                                                    x &&
                                                                                  rfY 2 c (rfX 2 c x y) (rfY 2 c x y) ==
                                                                                    y
                                                                              else false) =
                                                                            true ∧
                                                                          true = true ∧
                                                                            (true &&
                                                                                  bif true then
                                                                                    rfX 2 c (rfX 2 c x y)
                                                                                          (rfY 2 c x y) ==
                                                                                        x &&
                                                                                      rfY 2 c (rfX 2 c x y)
                                                                                          (rfY 2 c x y) ==
                                                                                        y
                                                                                  else false) =
                                                                                true ∧
                                                                              inR IntKind.i64 (rfY 2 c x y - y) = true ∧
                                                                                (true &&
                                                                                      bif true then
                                                                                        rfX 2 c (rfX 2 c x y)
                                                                                              (rfY 2 c x y) ==
                                                                                            x &&
                                                                                          rfY 2 c (rfX 2 c x y)
                                                                                              (rfY 2 c x y) ==
                                                                                            y
                                                                                      else false) =
                                                                                    true ∧
                                                                                  inR IntKind.i64
                                                                                        (0 * (rfY 2 c x y - y)) =
                                                                                      true ∧
                                                                                    (true &&
                                                                                          bif true then
                                                                                            rfX 2 c (rfX 2 c x y)
                                                                                                  (rfY 2 c x y) ==
                                                                                                x &&
                                                                                              rfY 2 c (rfX 2 c x y)
                                                                                                  (rfY 2 c x y) ==
                                                                                                y
                                                                                          else false) =
                                                                                        true ∧
                                                                                      true = true ∧
                                                                                        (bif true then
                                                                                              rfX 2 c (rfX 2 c x y)
                                                                                                    (rfY 2 c x y) ==
                                                                                                  x &&
                                                                                                rfY 2 c (rfX 2 c x y)
                                                                                                    (rfY 2 c x y) ==
                                                                                                  y
                                                                                            else false) =
                                                                                            true ∧
                                                                                          true = true ∧
                                                                                            (true &&
                                                                                                  1 *
                                                                                                      (rfX 2 c x y -
                                                                                                        x) ==
                                                                                                    0 *
                                                                                                      (rfY 2 c x y -
                                                                                                        y)) =
                                                                                                true ∧
                                                                                              true = true ∧
                                                                                                (true &&
                                                                                                      1 *
                                                                                                          (rfX 2 c x y -
                                                                                                            x) ==
                                                                                                        0 *
                                                                                                          (rfY 2 c x y -
                                                                                                            y)) =
                                                                                                    true ∧
                                                                                                  true = true ∧
                                                                                                    (true &&
                                                                                                          1 *
                                                                                                              (rfX 2 c x
                                                                                                                  y -
                                                                                                                x) ==
                                                                                                            0 *
                                                                                                              (rfY 2 c x
                                                                                                                  y -
                                                                                                                y)) =
                                                                                                        true ∧
                                                                                                      SpecP Tryd.prog G
                                                                                                          17
                                                                                                          [AV.agg
                                                                                                              [AV.int
                                                                                                                  IntKind.u8
                                                                                                                  2,
                                                                                                                AV.int
                                                                                                                  IntKind.i64
                                                                                                                  c],
                                                                                                            AV.agg
                                                                                                              [AV.int
                                                                                                                  IntKind.i64
                                                                                                                  (rfX 2
                                                                                                                    c x
                                                                                                                    y),
                                                                                                                AV.int
                                                                                                                  IntKind.i64
                                                                                                                  (rfY 2
                                                                                                                    c x
                                                                                                                    y)]]
                                                                                                          (AV.int
                                                                                                            IntKind.i64
                                                                                                            (acr 2
                                                                                                                (rfX 2 c
                                                                                                                  x y)
                                                                                                                (rfY 2 c
                                                                                                                  x y) -
                                                                                                              2 * c))
                                                                                                          [] ∧
                                                                                                        (true &&
                                                                                                              1 *
                                                                                                                  (rfX 2
                                                                                                                      c
                                                                                                                      x
                                                                                                                      y -
                                                                                                                    x) ==
                                                                                                                0 *
                                                                                                                  (rfY 2
                                                                                                                      c
                                                                                                                      x
                                                                                                                      y -
                                                                                                                    y)) =
                                                                                                            true ∧
                                                                                                          true = true ∧
                                                                                                            (true &&
                                                                                                                  1 *
                                                                                                                      (rfX
                                                                                                                          2
                                                                                                                          c
                                                                                                                          x
                                                                                                                          y -
                                                                                                                        x) ==
                                                                                                                    0 *
                                                                                                                      (rfY
                                                                                                                          2
                                                                                                                          c
                                                                                                                          x
                                                                                                                          y -
                                                                                                                        y)) =
                                                                                                                true ∧
                                                                                                              true =
                                                                                                                  true ∧
                                                                                                                (true &&
                                                                                                                      1 *
                                                                                                                          (rfX
                                                                                                                              2
                                                                                                                              c
                                                                                                                              x
                                                                                                                              y -
                                                                                                                            x) ==
                                                                                                                        0 *
                                                                                                                          (rfY
                                                                                                                              2
                                                                                                                              c
                                                                                                                              x
                                                                                                                              y -
                                                                                                                            y)) =
                                                                                                                    true ∧
                                                                                                                  SpecP
                                                                                                                      Tryd.prog
                                                                                                                      G
                                                                                                                      17
                                                                                                                      [AV.agg
                                                                                                                          [AV.int
                                                                                                                              IntKind.u8
                                                                                                                              2,
                                                                                                                            AV.int
                                                                                                                              IntKind.i64
                                                                                                                              c],
                                                                                                                        AV.agg
                                                                                                                          [AV.int
                                                                                                                              IntKind.i64
                                                                                                                              x,
                                                                                                                            AV.int
                                                                                                                              IntKind.i64
                                                                                                                              y]]
                                                                                                                      (AV.int
                                                                                                                        IntKind.i64
                                                                                                                        (acr
                                                                                                                            2
                                                                                                                            x
                                                                                                                            y -
                                                                                                                          2 *
                                                                                                                            c))
                                                                                                                      [] ∧
                                                                                                                    (true &&
                                                                                                                          1 *
                                                                                                                              (rfX
                                                                                                                                  2
                                                                                                                                  c
                                                                                                                                  x
                                                                                                                                  y -
                                                                                                                                x) ==
                                                                                                                            0 *
                                                                                                                              (rfY
                                                                                                                                  2
                                                                                                                                  c
                                                                                                                                  x
                                                                                                                                  y -
                                                                                                                                y)) =
                                                                                                                        true ∧
                                                                                                                      inR
                                                                                                                            IntKind.i64
                                                                                                                            (0 -
                                                                                                                              (acr
                                                                                                                                  2
                                                                                                                                  x
                                                                                                                                  y -
                                                                                                                                2 *
                                                                                                                                  c)) =
                                                                                                                          true ∧
                                                                                                                        (true &&
                                                                                                                              1 *
                                                                                                                                  (rfX
                                                                                                                                      2
                                                                                                                                      c
                                                                                                                                      x
                                                                                                                                      y -
                                                                                                                                    x) ==
                                                                                                                                0 *
                                                                                                                                  (rfY
                                                                                                                                      2
                                                                                                                                      c
                                                                                                                                      x
                                                                                                                                      y -
                                                                                                                                    y)) =
                                                                                                                            true ∧
                                                                                                                          true =
                                                                                                                              true ∧
                                                                                                                            (1 *
                                                                                                                                    (rfX
                                                                                                                                        2
                                                                                                                                        c
                                                                                                                                        x
                                                                                                                                        y -
                                                                                                                                      x) ==
                                                                                                                                  0 *
                                                                                                                                    (rfY
                                                                                                                                        2
                                                                                                                                        c
                                                                                                                                        x
                                                                                                                                        y -
                                                                                                                                      y)) =
                                                                                                                                true ∧
                                                                                                                              true =
                                                                                                                                  true ∧
                                                                                                                                (true &&
                                                                                                                                      acr
                                                                                                                                            2
                                                                                                                                            (rfX
                                                                                                                                              2
                                                                                                                                              c
                                                                                                                                              x
                                                                                                                                              y)
                                                                                                                                            (rfY
                                                                                                                                              2
                                                                                                                                              c
                                                                                                                                              x
                                                                                                                                              y) -
                                                                                                                                          2 *
                                                                                                                                            c ==
                                                                                                                                        0 -
                                                                                                                                          (acr
                                                                                                                                              2
                                                                                                                                              x
                                                                                                                                              y -
                                                                                                                                            2 *
                                                                                                                                              c)) =
                                                                                                                                    true ∧
                                                                                                                                  SpecP
                                                                                                                                      Tryd.prog
                                                                                                                                      G
                                                                                                                                      16
                                                                                                                                      []
                                                                                                                                      (AV.bool
                                                                                                                                        true)
                                                                                                                                      [] ∧
                                                                                                                                    true =
                                                                                                                                        true ∧
                                                                                                                                      (acr
                                                                                                                                                2
                                                                                                                                                (rfX
                                                                                                                                                  2
                                                                                                                                                  c
                                                                                                                                                  x
                                                                                                                                                  y)
                                                                                                                                                (rfY
                                                                                                                                                  2
                                                                                                                                                  c
                                                                                                                                                  x
                                                                                                                                                  y) -
                                                                                                                                              2 *
                                                                                                                                                c ==
                                                                                                                                            0 -
                                                                                                                                              (acr
                                                                                                                                                  2
                                                                                                                                                  x
                                                                                                                                                  y -
                                                                                                                                                2 *
                                                                                                                                                  c)) =
                                                                                                                                          true ∧
                                                                                                                                        true =
                                                                                                                                            true ∧
                                                                                                                                          True) ∧
              true = true ∧ True) := by kernel_rfl

theorem ob_o4k3 (c x y : Int) : fnOb Tryd.prog G (dd4 true (some true) true 0) 10000 fe4 (.lit (.lit (.r [] (.r [] (.r [myo (dd4 true (some true) true 0) 648, myo (dd4 true (some true) true 0) 649, myp GDir.auto true 650, myo (dd4 true (some true) true 0) 657, myo (dd4 true (some true) true 0) 658, myo (dd4 true (some true) true 0) 659, myo (dd4 true (some true) true 0) 660, myo (dd4 true (some true) true 0) 661, myo (dd4 true (some true) true 0) 662, myo (dd4 true (some true) true 0) 663, myo (dd4 true (some true) true 0) 664, myo (dd4 true (some true) true 0) 665, myo (dd4 true (some true) true 0) 666, myo (dd4 true (some true) true 0) 667, myo (dd4 true (some true) true 0) 668, myo (dd4 true (some true) true 0) 669, myo (dd4 true (some true) true 0) 670, myo (dd4 true (some true) true 0) 671, myp GDir.auto true 672, myo (dd4 true (some true) true 0) 674, myo (dd4 true (some true) true 0) 675, myo (dd4 true (some true) true 0) 676, myo (dd4 true (some true) true 0) 677, myo (dd4 true (some true) true 0) 678, myo (dd4 true (some true) true 0) 679, myo (dd4 true (some true) true 0) 680, myo (dd4 true (some true) true 0) 681, myp GDir.auto true 682, myo (dd4 true (some true) true 0) 684, myp GDir.auto true 685] .nil))))) ([.agg [.int .u8 3, .int .i64 c], .agg [.int .i64 x, .int .i64 y]]) ([.bool true]) ([]) = some (
(true = true ∧
    true = true ∧
      SpecP Tryd.prog G 18
          [AV.agg [AV.int IntKind.u8 3, AV.int IntKind.i64 c], AV.agg [AV.int IntKind.i64 x, AV.int IntKind.i64 y]]
          (AV.tup [AV.agg [AV.int IntKind.i64 (rfX 3 c x y), AV.int IntKind.i64 (rfY 3 c x y)], AV.int IntKind.i64 0])
          [] ∧
        true = true ∧ true = true ∧ true = true ∧ True) ∧
  (true = true ∧
      SpecP Tryd.prog G 11 [AV.agg [AV.int IntKind.u8 3, AV.int IntKind.i64 c]] (AV.int IntKind.i64 1) [] ∧
        true = true ∧
          SpecP Tryd.prog G 12 [AV.agg [AV.int IntKind.i64 x, AV.int IntKind.i64 y]] (AV.int IntKind.i64 1) [] ∧
            true = true ∧ true = true ∧ True) ∧
    (true = true ∧
        true = true ∧
          SpecP Tryd.prog G 19
              [AV.agg [AV.int IntKind.u8 3, AV.int IntKind.i64 c], AV.agg [AV.int IntKind.i64 x, AV.int IntKind.i64 y]]
              (AV.agg [AV.int IntKind.i64 (rfX 3 c x y), AV.int IntKind.i64 (rfY 3 c x y)]) [] ∧
            true = true ∧ True) ∧
      (true = true ∧
          SpecP Tryd.prog G 12 [AV.agg [AV.int IntKind.i64 (rfX 3 c x y), AV.int IntKind.i64 (rfY 3 c x y)]]
              (AV.int IntKind.i64 1) [] ∧
            True) ∧
        (true = true ∧
            true = true ∧
              SpecP Tryd.prog G 18
                  [AV.agg [AV.int IntKind.u8 3, AV.int IntKind.i64 c],
                    AV.agg [AV.int IntKind.i64 (rfX 3 c x y), AV.int IntKind.i64 (rfY 3 c x y)]]
                  (AV.tup
                    [AV.agg
                        [AV.int IntKind.i64 (rfX 3 c (rfX 3 c x y) (rfY 3 c x y)),
                          AV.int IntKind.i64 (rfY 3 c (rfX 3 c x y) (rfY 3 c x y))],
                      AV.int IntKind.i64 0])
                  [] ∧
                true = true ∧ true = true ∧ true = true ∧ True) ∧
          (true = true ∧
              SpecP Tryd.prog G 20 [AV.int IntKind.u8 3] (AV.tup [AV.int IntKind.i64 1, AV.int IntKind.i64 1]) [] ∧
                true = true ∧ true = true ∧ True) ∧
            (true = true ∧
                true = true ∧
                  true = true ∧
                    true = true ∧
                      (true && bif true then rfX 3 c x y == rfX 3 c x y && rfY 3 c x y == rfY 3 c x y else false) =
                          true ∧
                        (true && bif true then rfX 3 c x y == rfX 3 c x y && rfY 3 c x y == rfY 3 c x y else false) =
                            true ∧
                          true = true ∧
                            (bif true then rfX 3 c x y == rfX 3 c x y && rfY 3 c x y == rfY 3 c x y else false) = true ∧
                              true = true ∧
                                true = true ∧
                                  true = true ∧
                                    true = true ∧
                                      true = true ∧
                                        (true &&
                                              bif true then
                                                rfX 3 c (rfX 3 c x y) (rfY 3 c x y) == x &&
                                                  rfY 3 c (rfX 3 c x y) (rfY 3 c x y) == y
                                              else false) =
                                            true ∧
                                          (true &&
                                                bif true then
                                                  rfX 3 c (rfX 3 c x y) (rfY 3 c x y) == x &&
                                                    rfY 3 c (rfX 3 c x y) (rfY 3 c x y) == y
                                                else false) =
                                              true ∧
                                            (true &&
                                                  bif true then
                                                    rfX 3 c (rfX 3 c x y) (rfY 3 c x y) == x &&
                                                      rfY 3 c (rfX 3 c x y) (rfY 3 c x y) == y
                                                  else false) =
                                                true ∧
                                              true = true ∧
                                                (true &&
                                                      bif true then
                                                        rfX 3 c (rfX 3 c x y) (rfY 3 c x y) == x &&
                                                          rfY 3 c (rfX 3 c x y) (rfY 3 c x y) == y
                                                      else false) =
                                                    true ∧
                                                  (true &&
                                                        bif true then
                                                          rfX 3 c (rfX 3 c x y) (rfY 3 c x y) == x &&
                                                            rfY 3 c (rfX 3 c x y) (rfY 3 c x y) == y
                                                        else false) =
                                                      true ∧
                                                    true = true ∧
                                                      (true &&
                                                            bif true then
                                                              rfX 3 c (rfX 3 c x y) (rfY 3 c x y) == x &&
                                                                rfY 3 c (rfX 3 c x y) (rfY 3 c x y) == y
                                                            else false) =
                                                          true ∧
                                                        inR IntKind.i64 (rfX 3 c x y - x) = true ∧
                                                          (true &&
                                                                bif true then
                                                                  rfX 3 c (rfX 3 c x y) (rfY 3 c x y) == x &&
                                                                    rfY 3 c (rfX 3 c x y) (rfY 3 c x y) == y
                                                                else false) =
                                                              true ∧
                                                            inR IntKind.i64 (1 * (rfX 3 c x y - x)) = true ∧
                                                              (true &&
                                                                    bif true then
                                                                      rfX 3 c (rfX 3 c x y) (rfY 3 c x y) == x &&
                                                                        rfY 3 c (rfX 3 c x y) (rfY 3 c x y) == y
                                                                    else false) =
                                                                  true ∧
                                                                (true &&
                                                                      bif true then
                                                                        rfX 3 c (rfX 3 c x y) (rfY 3 c x y) == x &&
                                                                          rfY 3 c (rfX 3 c x y) (rfY 3 c x y) == y
                                                                      else false) =
                                                                    true ∧
                                                                  (true &&
                                                                        bif true then
                                                                          rfX 3 c (rfX 3 c x y) (rfY 3 c x y) == x &&
                                                                            rfY 3 c (rfX 3 c x y) (rfY 3 c x y) == y
                                                                        else false) =
                                                                      true ∧
                                                                    true = true ∧
                                                                      (true &&
                                                                            bif true then
                                                                              rfX 3 c (rfX 3 c x y) (rfY 3 c x y) ==
                                                                                  x &&
                                                                                rfY 3 c (rfX 3 c x y) (rfY 3 c x y) == y
                                                                            else false) =
                                                                          true ∧
                                                                        (true &&
                                                                              bif true then
                                                                                rfX 3 c (rfX 3 c x y) (rfY 3 c x y) ==
                                                                                    x &&
                                                                                  rfY 3 c (rfX 3 c x y) (rfY 3 c x y) ==
                                                                                    y
                                                                              else false) =
                                                                            true ∧
                                                                          true = true ∧
                                                                            (true &&
                                                                                  bif true then
                                                                                    rfX 3 c (rfX 3 c x y)
                                                                                          (rfY 3 c x y) ==
                                                                                        x &&
                                                                                      rfY 3 c (rfX 3 c x y)
                                                                                          (rfY 3 c x y) ==
                                                                                        y
                                                                                  else false) =
                                                                                true ∧
                                                                              inR IntKind.i64 (rfY 3 c x y - y) = true ∧
                                                                                (true &&
                                                                                      bif true then
                                                                                        rfX 3 c (rfX 3 c x y)
                                                                                              (rfY 3 c x y) ==
                                                                                            x &&
                                                                                          rfY 3 c (rfX 3 c x y)
                                                                                              (rfY 3 c x y) ==
                                                                                            y
                                                                                      else false) =
                                                                                    true ∧
                                                                                  inR IntKind.i64
                                                                                        (1 * (rfY 3 c x y - y)) =
                                                                                      true ∧
                                                                                    (true &&
                                                                                          bif true then
                                                                                            rfX 3 c (rfX 3 c x y)
                                                                                                  (rfY 3 c x y) ==
                                                                                                x &&
                                                                                              rfY 3 c (rfX 3 c x y)
                                                                                                  (rfY 3 c x y) ==
                                                                                                y
                                                                                          else false) =
                                                                                        true ∧
                                                                                      true = true ∧
                                                                                        (bif true then
                                                                                              rfX 3 c (rfX 3 c x y)
                                                                                                    (rfY 3 c x y) ==
                                                                                                  x &&
                                                                                                rfY 3 c (rfX 3 c x y)
                                                                                                    (rfY 3 c x y) ==
                                                                                                  y
                                                                                            else false) =
                                                                                            true ∧
                                                                                          true = true ∧
                                                                                            (true &&
                                                                                                  1 *
                                                                                                      (rfX 3 c x y -
                                                                                                        x) ==
                                                                                                    1 *
                                                                                                      (rfY 3 c x y -
                                                                                                        y)) =
                                                                                                true ∧
                                                                                              true = true ∧
                                                                                                (true &&
                                                                                                      1 *
                                                                                                          (rfX 3 c x y -
                                                                                                            x) ==
                                                                                                        1 *
                                                                                                          (rfY 3 c x y -
                                                                                                            y)) =
                                                                                                    true ∧
                                                                                                  true = true ∧
                                                                                                    (true &&
                                                                                                          1 *
                                                                                                              (rfX 3 c x
                                                                                                                  y -
                                                                                                                x) ==
                                                                                                            1 *
                                                                                                              (rfY 3 c x
                                                                                                                  y -
                                                                                                                y)) =
                                                                                                        true ∧
                                                                                                      SpecP Tryd.prog G
                                                                                                          17
                                                                                                          [AV.agg
                                                                                                              [AV.int
                                                                                                                  IntKind.u8
                                                                                                                  3,
                                                                                                                AV.int
                                                                                                                  IntKind.i64
                                                                                                                  c],
                                                                                                            AV.agg
                                                                                                              [AV.int
                                                                                                                  IntKind.i64
                                                                                                                  (rfX 3
                                                                                                                    c x
                                                                                                                    y),
                                                                                                                AV.int
                                                                                                                  IntKind.i64
                                                                                                                  (rfY 3
                                                                                                                    c x
                                                                                                                    y)]]
                                                                                                          (AV.int
                                                                                                            IntKind.i64
                                                                                                            (acr 3
                                                                                                                (rfX 3 c
                                                                                                                  x y)
                                                                                                                (rfY 3 c
                                                                                                                  x y) -
                                                                                                              2 * c))
                                                                                                          [] ∧
                                                                                                        (true &&
                                                                                                              1 *
                                                                                                                  (rfX 3
                                                                                                                      c
                                                                                                                      x
                                                                                                                      y -
                                                                                                                    x) ==
                                                                                                                1 *
                                                                                                                  (rfY 3
                                                                                                                      c
                                                                                                                      x
                                                                                                                      y -
                                                                                                                    y)) =
                                                                                                            true ∧
                                                                                                          true = true ∧
                                                                                                            (true &&
                                                                                                                  1 *
                                                                                                                      (rfX
                                                                                                                          3
                                                                                                                          c
                                                                                                                          x
                                                                                                                          y -
                                                                                                                        x) ==
                                                                                                                    1 *
                                                                                                                      (rfY
                                                                                                                          3
                                                                                                                          c
                                                                                                                          x
                                                                                                                          y -
                                                                                                                        y)) =
                                                                                                                true ∧
                                                                                                              true =
                                                                                                                  true ∧
                                                                                                                (true &&
                                                                                                                      1 *
                                                                                                                          (rfX
                                                                                                                              3
                                                                                                                              c
                                                                                                                              x
                                                                                                                              y -
                                                                                                                            x) ==
                                                                                                                        1 *
                                                                                                                          (rfY
                                                                                                                              3
                                                                                                                              c
                                                                                                                              x
                                                                                                                              y -
                                                                                                                            y)) =
                                                                                                                    true ∧
                                                                                                                  SpecP
                                                                                                                      Tryd.prog
                                                                                                                      G
                                                                                                                      17
                                                                                                                      [AV.agg
                                                                                                                          [AV.int
                                                                                                                              IntKind.u8
                                                                                                                              3,
                                                                                                                            AV.int
                                                                                                                              IntKind.i64
                                                                                                                              c],
                                                                                                                        AV.agg
                                                                                                                          [AV.int
                                                                                                                              IntKind.i64
                                                                                                                              x,
                                                                                                                            AV.int
                                                                                                                              IntKind.i64
                                                                                                                              y]]
                                                                                                                      (AV.int
                                                                                                                        IntKind.i64
                                                                                                                        (acr
                                                                                                                            3
                                                                                                                            x
                                                                                                                            y -
                                                                                                                          2 *
                                                                                                                            c))
                                                                                                                      [] ∧
                                                                                                                    (true &&
                                                                                                                          1 *
                                                                                                                              (rfX
                                                                                                                                  3
                                                                                                                                  c
                                                                                                                                  x
                                                                                                                                  y -
                                                                                                                                x) ==
                                                                                                                            1 *
                                                                                                                              (rfY
                                                                                                                                  3
                                                                                                                                  c
                                                                                                                                  x
                                                                                                                                  y -
                                                                                                                                y)) =
                                                                                                                        true ∧
                                                                                                                      inR
                                                                                                                            IntKind.i64
                                                                                                                            (0 -
                                                                                                                              (acr
                                                                                                                                  3
                                                                                                                                  x
                                                                                                                                  y -
                                                                                                                                2 *
                                                                                                                                  c)) =
                                                                                                                          true ∧
                                                                                                                        (true &&
                                                                                                                              1 *
                                                                                                                                  (rfX
                                                                                                                                      3
                                                                                                                                      c
                                                                                                                                      x
                                                                                                                                      y -
                                                                                                                                    x) ==
                                                                                                                                1 *
                                                                                                                                  (rfY
                                                                                                                                      3
                                                                                                                                      c
                                                                                                                                      x
                                                                                                                                      y -
                                                                                                                                    y)) =
                                                                                                                            true ∧
                                                                                                                          true =
                                                                                                                              true ∧
                                                                                                                            (1 *
                                                                                                                                    (rfX
                                                                                                                                        3
                                                                                                                                        c
                                                                                                                                        x
                                                                                                                                        y -
                                                                                                                                      x) ==
                                                                                                                                  1 *
                                                                                                                                    (rfY
                                                                                                                                        3
                                                                                                                                        c
                                                                                                                                        x
                                                                                                                                        y -
                                                                                                                                      y)) =
                                                                                                                                true ∧
                                                                                                                              true =
                                                                                                                                  true ∧
                                                                                                                                (true &&
                                                                                                                                      acr
                                                                                                                                            3
                                                                                                                                            (rfX
                                                                                                                                              3
                                                                                                                                              c
                                                                                                                                              x
                                                                                                                                              y)
                                                                                                                                            (rfY
                                                                                                                                              3
                                                                                                                                              c
                                                                                                                                              x
                                                                                                                                              y) -
                                                                                                                                          2 *
                                                                                                                                            c ==
                                                                                                                                        0 -
                                                                                                                                          (acr
                                                                                                                                              3
                                                                                                                                              x
                                                                                                                                              y -
                                                                                                                                            2 *
                                                                                                                                              c)) =
                                                                                                                                    true ∧
                                                                                                                                  SpecP
                                                                                                                                      Tryd.prog
                                                                                                                                      G
                                                                                                                                      16
                                                                                                                                      []
                                                                                                                                      (AV.bool
                                                                                                                                        true)
                                                                                                                                      [] ∧
                                                                                                                                    true =
                                                                                                                                        true ∧
                                                                                                                                      (acr
                                                                                                                                                3
                                                                                                                                                (rfX
                                                                                                                                                  3
                                                                                                                                                  c
                                                                                                                                                  x
                                                                                                                                                  y)
                                                                                                                                                (rfY
                                                                                                                                                  3
                                                                                                                                                  c
                                                                                                                                                  x
                                                                                                                                                  y) -
                                                                                                                                              2 *
                                                                                                                                                c ==
                                                                                                                                            0 -
                                                                                                                                              (acr
                                                                                                                                                  3
                                                                                                                                                  x
                                                                                                                                                  y -
                                                                                                                                                2 *
                                                                                                                                                  c)) =
                                                                                                                                          true ∧
                                                                                                                                        true =
                                                                                                                                            true ∧
                                                                                                                                          True) ∧
              true = true ∧ True) := by kernel_rfl

theorem ob_o4k4 (c x y : Int) : fnOb Tryd.prog G (dd4 true (some true) true 0) 10000 fe4 (.lit (.lit (.r [] (.r [] (.r [myo (dd4 true (some true) true 0) 648, myo (dd4 true (some true) true 0) 649, myp GDir.auto true 650, myo (dd4 true (some true) true 0) 657, myo (dd4 true (some true) true 0) 658, myo (dd4 true (some true) true 0) 659, myo (dd4 true (some true) true 0) 660, myo (dd4 true (some true) true 0) 661, myo (dd4 true (some true) true 0) 662, myo (dd4 true (some true) true 0) 663, myo (dd4 true (some true) true 0) 664, myo (dd4 true (some true) true 0) 665, myo (dd4 true (some true) true 0) 666, myo (dd4 true (some true) true 0) 667, myo (dd4 true (some true) true 0) 668, myo (dd4 true (some true) true 0) 669, myo (dd4 true (some true) true 0) 670, myo (dd4 true (some true) true 0) 671, myp GDir.auto true 672, myo (dd4 true (some true) true 0) 674, myo (dd4 true (some true) true 0) 675, myo (dd4 true (some true) true 0) 676, myo (dd4 true (some true) true 0) 677, myo (dd4 true (some true) true 0) 678, myo (dd4 true (some true) true 0) 679, myo (dd4 true (some true) true 0) 680, myo (dd4 true (some true) true 0) 681, myp GDir.auto true 682, myo (dd4 true (some true) true 0) 684, myp GDir.auto true 685] .nil))))) ([.agg [.int .u8 4, .int .i64 c], .agg [.int .i64 x, .int .i64 y]]) ([.bool true]) ([]) = some (
(true = true ∧
    true = true ∧
      SpecP Tryd.prog G 18
          [AV.agg [AV.int IntKind.u8 4, AV.int IntKind.i64 c], AV.agg [AV.int IntKind.i64 x, AV.int IntKind.i64 y]]
          (AV.tup [AV.agg [AV.int IntKind.i64 (rfX 4 c x y), AV.int IntKind.i64 (rfY 4 c x y)], AV.int IntKind.i64 0])
          [] ∧
        true = true ∧ true = true ∧ true = true ∧ True) ∧
  (true = true ∧
      SpecP Tryd.prog G 11 [AV.agg [AV.int IntKind.u8 4, AV.int IntKind.i64 c]] (AV.int IntKind.i64 1) [] ∧
        true = true ∧
          SpecP Tryd.prog G 12 [AV.agg [AV.int IntKind.i64 x, AV.int IntKind.i64 y]] (AV.int IntKind.i64 1) [] ∧
            true = true ∧ true = true ∧ True) ∧
    (true = true ∧
        true = true ∧
          SpecP Tryd.prog G 19
              [AV.agg [AV.int IntKind.u8 4, AV.int IntKind.i64 c], AV.agg [AV.int IntKind.i64 x, AV.int IntKind.i64 y]]
              (AV.agg [AV.int IntKind.i64 (rfX 4 c x y), AV.int IntKind.i64 (rfY 4 c x y)]) [] ∧
            true = true ∧ True) ∧
      (true = true ∧
          SpecP Tryd.prog G 12 [AV.agg [AV.int IntKind.i64 (rfX 4 c x y), AV.int IntKind.i64 (rfY 4 c x y)]]
              (AV.int IntKind.i64 1) [] ∧
            True) ∧
        (true = true ∧
            true = true ∧
              SpecP Tryd.prog G 18
                  [AV.agg [AV.int IntKind.u8 4, AV.int IntKind.i64 c],
                    AV.agg [AV.int IntKind.i64 (rfX 4 c x y), AV.int IntKind.i64 (rfY 4 c x y)]]
                  (AV.tup
                    [AV.agg
                        [AV.int IntKind.i64 (rfX 4 c (rfX 4 c x y) (rfY 4 c x y)),
                          AV.int IntKind.i64 (rfY 4 c (rfX 4 c x y) (rfY 4 c x y))],
                      AV.int IntKind.i64 0])
                  [] ∧
                true = true ∧ true = true ∧ true = true ∧ True) ∧
          (true = true ∧
              SpecP Tryd.prog G 20 [AV.int IntKind.u8 4] (AV.tup [AV.int IntKind.i64 (-1), AV.int IntKind.i64 1]) [] ∧
                true = true ∧ true = true ∧ True) ∧
            (true = true ∧
                true = true ∧
                  true = true ∧
                    true = true ∧
                      (true && bif true then rfX 4 c x y == rfX 4 c x y && rfY 4 c x y == rfY 4 c x y else false) =
                          true ∧
                        (true && bif true then rfX 4 c x y == rfX 4 c x y && rfY 4 c x y == rfY 4 c x y else false) =
                            true ∧
                          true = true ∧
                            (bif true then rfX 4 c x y == rfX 4 c x y && rfY 4 c x y == rfY 4 c x y else false) = true ∧
                              true = true ∧
                                true = true ∧
                                  true = true ∧
                                    true = true ∧
                                      true = true ∧
                                        (true &&
                                              bif true then
                                                rfX 4 c (rfX 4 c x y) (rfY 4 c x y) == x &&
                                                  rfY 4 c (rfX 4 c x y) (rfY 4 c x y) == y
                                              else false) =
                                            true ∧
                                          (true &&
                                                bif true then
                                                  rfX 4 c (rfX 4 c x y) (rfY 4 c x y) == x &&
                                                    rfY 4 c (rfX 4 c x y) (rfY 4 c x y) == y
                                                else false) =
                                              true ∧
                                            (true &&
                                                  bif true then
                                                    rfX 4 c (rfX 4 c x y) (rfY 4 c x y) == x &&
                                                      rfY 4 c (rfX 4 c x y) (rfY 4 c x y) == y
                                                  else false) =
                                                true ∧
                                              true = true ∧
                                                (true &&
                                                      bif true then
                                                        rfX 4 c (rfX 4 c x y) (rfY 4 c x y) == x &&
                                                          rfY 4 c (rfX 4 c x y) (rfY 4 c x y) == y
                                                      else false) =
                                                    true ∧
                                                  (true &&
                                                        bif true then
                                                          rfX 4 c (rfX 4 c x y) (rfY 4 c x y) == x &&
                                                            rfY 4 c (rfX 4 c x y) (rfY 4 c x y) == y
                                                        else false) =
                                                      true ∧
                                                    true = true ∧
                                                      (true &&
                                                            bif true then
                                                              rfX 4 c (rfX 4 c x y) (rfY 4 c x y) == x &&
                                                                rfY 4 c (rfX 4 c x y) (rfY 4 c x y) == y
                                                            else false) =
                                                          true ∧
                                                        inR IntKind.i64 (rfX 4 c x y - x) = true ∧
                                                          (true &&
                                                                bif true then
                                                                  rfX 4 c (rfX 4 c x y) (rfY 4 c x y) == x &&
                                                                    rfY 4 c (rfX 4 c x y) (rfY 4 c x y) == y
                                                                else false) =
                                                              true ∧
                                                            inR IntKind.i64 (1 * (rfX 4 c x y - x)) = true ∧
                                                              (true &&
                                                                    bif true then
                                                                      rfX 4 c (rfX 4 c x y) (rfY 4 c x y) == x &&
                                                                        rfY 4 c (rfX 4 c x y) (rfY 4 c x y) == y
                                                                    else false) =
                                                                  true ∧
                                                                (true &&
                                                                      bif true then
                                                                        rfX 4 c (rfX 4 c x y) (rfY 4 c x y) == x &&
                                                                          rfY 4 c (rfX 4 c x y) (rfY 4 c x y) == y
                                                                      else false) =
                                                                    true ∧
                                                                  (true &&
                                                                        bif true then
                                                                          rfX 4 c (rfX 4 c x y) (rfY 4 c x y) == x &&
                                                                            rfY 4 c (rfX 4 c x y) (rfY 4 c x y) == y
                                                                        else false) =
                                                                      true ∧
                                                                    true = true ∧
                                                                      (true &&
                                                                            bif true then
                                                                              rfX 4 c (rfX 4 c x y) (rfY 4 c x y) ==
                                                                                  x &&
                                                                                rfY 4 c (rfX 4 c x y) (rfY 4 c x y) == y
                                                                            else false) =
                                                                          true ∧
                                                                        (true &&
                                                                              bif true then
                                                                                rfX 4 c (rfX 4 c x y) (rfY 4 c x y) ==
                                                                                    x &&
                                                                                  rfY 4 c (rfX 4 c x y) (rfY 4 c x y) ==
                                                                                    y
                                                                              else false) =
                                                                            true ∧
                                                                          true = true ∧
                                                                            (true &&
                                                                                  bif true then
                                                                                    rfX 4 c (rfX 4 c x y)
                                                                                          (rfY 4 c x y) ==
                                                                                        x &&
                                                                                      rfY 4 c (rfX 4 c x y)
                                                                                          (rfY 4 c x y) ==
                                                                                        y
                                                                                  else false) =
                                                                                true ∧
                                                                              inR IntKind.i64 (rfY 4 c x y - y) = true ∧
                                                                                (true &&
                                                                                      bif true then
                                                                                        rfX 4 c (rfX 4 c x y)
                                                                                              (rfY 4 c x y) ==
                                                                                            x &&
                                                                                          rfY 4 c (rfX 4 c x y)
                                                                                              (rfY 4 c x y) ==
                                                                                            y
                                                                                      else false) =
                                                                                    true ∧
                                                                                  inR IntKind.i64
                                                                                        (-1 * (rfY 4 c x y - y)) =
                                                                                      true ∧
                                                                                    (true &&
                                                                                          bif true then
                                                                                            rfX 4 c (rfX 4 c x y)
                                                                                                  (rfY 4 c x y) ==
                                                                                                x &&
                                                                                              rfY 4 c (rfX 4 c x y)
                                                                                                  (rfY 4 c x y) ==
                                                                                                y
                                                                                          else false) =
                                                                                        true ∧
                                                                                      true = true ∧
                                                                                        (bif true then
                                                                                              rfX 4 c (rfX 4 c x y)
                                                                                                    (rfY 4 c x y) ==
                                                                                                  x &&
                                                                                                rfY 4 c (rfX 4 c x y)
                                                                                                    (rfY 4 c x y) ==
                                                                                                  y
                                                                                            else false) =
                                                                                            true ∧
                                                                                          true = true ∧
                                                                                            (true &&
                                                                                                  1 *
                                                                                                      (rfX 4 c x y -
                                                                                                        x) ==
                                                                                                    -1 *
                                                                                                      (rfY 4 c x y -
                                                                                                        y)) =
                                                                                                true ∧
                                                                                              true = true ∧
                                                                                                (true &&
                                                                                                      1 *
                                                                                                          (rfX 4 c x y -
                                                                                                            x) ==
                                                                                                        -1 *
                                                                                                          (rfY 4 c x y -
                                                                                                            y)) =
                                                                                                    true ∧
                                                                                                  true = true ∧
                                                                                                    (true &&
                                                                                                          1 *
                                                                                                              (rfX 4 c x
                                                                                                                  y -
                                                                                                                x) ==
                                                                                                            -1 *
                                                                                                              (rfY 4 c x
                                                                                                                  y -
                                                                                                                y)) =
                                                                                                        true ∧
                                                                                                      SpecP Tryd.prog G
                                                                                                          17
                                                                                                          [AV.agg
                                                                                                              [AV.int
                                                                                                                  IntKind.u8
                                                                                                                  4,
                                                                                                                AV.int
                                                                                                                  IntKind.i64
                                                                                                                  c],
                                                                                                            AV.agg
                                                                                                              [AV.int
                                                                                                                  IntKind.i64
                                                                                                                  (rfX 4
                                                                                                                    c x
                                                                                                                    y),
                                                                                                                AV.int
                                                                                                                  IntKind.i64
                                                                                                                  (rfY 4
                                                                                                                    c x
                                                                                                                    y)]]
                                                                                                          (AV.int
                                                                                                            IntKind.i64
                                                                                                            (acr 4
                                                                                                                (rfX 4 c
                                                                                                                  x y)
                                                                                                                (rfY 4 c
                                                                                                                  x y) -
                                                                                                              2 * c))
                                                                                                          [] ∧
                                                                                                        (true &&
                                                                                                              1 *
                                                                                                                  (rfX 4
                                                                                                                      c
                                                                                                                      x
                                                                                                                      y -
                                                                                                                    x) ==
                                                                                                                -1 *
                                                                                                                  (rfY 4
                                                                                                                      c
                                                                                                                      x
                                                                                                                      y -
                                                                                                                    y)) =
                                                                                                            true ∧
                                                                                                          true = true ∧
                                                                                                            (true &&
                                                                                                                  1 *
                                                                                                                      (rfX
                                                                                                                          4
                                                                                                                          c
                                                                                                                          x
                                                                                                                          y -
                                                                                                                        x) ==
                                                                                                                    -1 *
                                                                                                                      (rfY
                                                                                                                          4
                                                                                                                          c
                                                                                                                          x
                                                                                                                          y -
                                                                                                                        y)) =
                                                                                                                true ∧
                                                                                                              true =
                                                                                                                  true ∧
                                                                                                                (true &&
                                                                                                                      1 *
                                                                                                                          (rfX
                                                                                                                              4
                                                                                                                              c
                                                                                                                              x
                                                                                                                              y -
                                                                                                                            x) ==
                                                                                                                        -1 *
                                                                                                                          (rfY
                                                                                                                              4
                                                                                                                              c
                                                                                                                              x
                                                                                                                              y -
                                                                                                                            y)) =
                                                                                                                    true ∧
                                                                                                                  SpecP
                                                                                                                      Tryd.prog
                                                                                                                      G
                                                                                                                      17
                                                                                                                      [AV.agg
                                                                                                                          [AV.int
                                                                                                                              IntKind.u8
                                                                                                                              4,
                                                                                                                            AV.int
                                                                                                                              IntKind.i64
                                                                                                                              c],
                                                                                                                        AV.agg
                                                                                                                          [AV.int
                                                                                                                              IntKind.i64
                                                                                                                              x,
                                                                                                                            AV.int
                                                                                                                              IntKind.i64
                                                                                                                              y]]
                                                                                                                      (AV.int
                                                                                                                        IntKind.i64
                                                                                                                        (acr
                                                                                                                            4
                                                                                                                            x
                                                                                                                            y -
                                                                                                                          2 *
                                                                                                                            c))
                                                                                                                      [] ∧
                                                                                                                    (true &&
                                                                                                                          1 *
                                                                                                                              (rfX
                                                                                                                                  4
                                                                                                                                  c
                                                                                                                                  x
                                                                                                                                  y -
                                                                                                                                x) ==
                                                                                                                            -1 *
                                                                                                                              (rfY
                                                                                                                                  4
                                                                                                                                  c
                                                                                                                                  x
                                                                                                                                  y -
                                                                                                                                y)) =
                                                                                                                        true ∧
                                                                                                                      inR
                                                                                                                            IntKind.i64
                                                                                                                            (0 -
                                                                                                                              (acr
                                                                                                                                  4
                                                                                                                                  x
                                                                                                                                  y -
                                                                                                                                2 *
                                                                                                                                  c)) =
                                                                                                                          true ∧
                                                                                                                        (true &&
                                                                                                                              1 *
                                                                                                                                  (rfX
                                                                                                                                      4
                                                                                                                                      c
                                                                                                                                      x
                                                                                                                                      y -
                                                                                                                                    x) ==
                                                                                                                                -1 *
                                                                                                                                  (rfY
                                                                                                                                      4
                                                                                                                                      c
                                                                                                                                      x
                                                                                                                                      y -
                                                                                                                                    y)) =
                                                                                                                            true ∧
                                                                                                                          true =
                                                                                                                              true ∧
                                                                                                                            (1 *
                                                                                                                                    (rfX
                                                                                                                                        4
                                                                                                                                        c
                                                                                                                                        x
                                                                                                                                        y -
                                                                                                                                      x) ==
                                                                                                                                  -1 *
                                                                                                                                    (rfY
                                                                                                                                        4
                                                                                                                                        c
                                                                                                                                        x
                                                                                                                                        y -
                                                                                                                                      y)) =
                                                                                                                                true ∧
                                                                                                                              true =
                                                                                                                                  true ∧
                                                                                                                                (true &&
                                                                                                                                      acr
                                                                                                                                            4
                                                                                                                                            (rfX
                                                                                                                                              4
                                                                                                                                              c
                                                                                                                                              x
                                                                                                                                              y)
                                                                                                                                            (rfY
                                                                                                                                              4
                                                                                                                                              c
                                                                                                                                              x
                                                                                                                                              y) -
                                                                                                                                          2 *
                                                                                                                                            c ==
                                                                                                                                        0 -
                                                                                                                                          (acr
                                                                                                                                              4
                                                                                                                                              x
                                                                                                                                              y -
                                                                                                                                            2 *
                                                                                                                                              c)) =
                                                                                                                                    true ∧
                                                                                                                                  SpecP
                                                                                                                                      Tryd.prog
                                                                                                                                      G
                                                                                                                                      16
                                                                                                                                      []
                                                                                                                                      (AV.bool
                                                                                                                                        true)
                                                                                                                                      [] ∧
                                                                                                                                    true =
                                                                                                                                        true ∧
                                                                                                                                      (acr
                                                                                                                                                4
                                                                                                                                                (rfX
                                                                                                                                                  4
                                                                                                                                                  c
                                                                                                                                                  x
                                                                                                                                                  y)
                                                                                                                                                (rfY
                                                                                                                                                  4
                                                                                                                                                  c
                                                                                                                                                  x
                                                                                                                                                  y) -
                                                                                                                                              2 *
                                                                                                                                                c ==
                                                                                                                                            0 -
                                                                                                                                              (acr
                                                                                                                                                  4
                                                                                                                                                  x
                                                                                                                                                  y -
                                                                                                                                                2 *
                                                                                                                                                  c)) =
                                                                                                                                          true ∧
                                                                                                                                        true =
                                                                                                                                            true ∧
                                                                                                                                          True) ∧
              true = true ∧ True) := by kernel_rfl

end Go.Proofs.YteghjimhlpbpkaaDoor.X
