/-
  What is to be shown of the functions (made by a program).
-/
import Derived.Test.YteghjimhlpbpkaaDoorDZ
import Derived.KernelRfl
set_option maxRecDepth 1000000
set_option linter.unusedVariables false
namespace Go.Proofs.YteghjimhlpbpkaaDoor.X
open Go Go.Ab

theorem ob_o11 (k c : Int) : fnOb Tryd.prog G dd 10000 fe11 (.r [] (.r [my (dd) 132, my (dd) 133, my (dd) 134, my (dd) 137, my (dd) 138, my (dd) 139, my (dd) 142, my (dd) 143, my (dd) 144] (.cnd .nil .nil))) ([.agg [.int .u8 k, .int .i64 c]]) ([.int .i64 (bI (vl k c) 1 0)]) ([]) = some (
(true = true ∧
    ((true && leb 1 k) = true → (true && leb 1 k) = true) ∧
      ((true && leb 1 k) = true → true = true) ∧
        ((true && leb 1 k) = true → (true && leb 1 k) = true) ∧
          true = true ∧
            (bif leb 1 k then true && leb 1 k && true else true) = true ∧
              ((true && bif leb 1 k then leb k 4 else false) = true →
                  (true && bif leb 1 k then leb k 4 else false) = true) ∧
                ((true && bif leb 1 k then leb k 4 else false) = true → true = true) ∧
                  ((true && bif leb 1 k then leb k 4 else false) = true →
                      (true && bif leb 1 k then leb k 4 else false) = true) ∧
                    true = true ∧
                      (bif bif leb 1 k then leb k 4 else false then
                            (true && bif leb 1 k then leb k 4 else false) && true
                          else true) =
                          true ∧
                        ((true && bif bif leb 1 k then leb k 4 else false then leb (-4096) c else false) = true →
                            (true && bif bif leb 1 k then leb k 4 else false then leb (-4096) c else false) = true) ∧
                          ((true && bif bif leb 1 k then leb k 4 else false then leb (-4096) c else false) = true →
                              true = true) ∧
                            ((true && bif bif leb 1 k then leb k 4 else false then leb (-4096) c else false) = true →
                                (true && bif bif leb 1 k then leb k 4 else false then leb (-4096) c else false) =
                                  true) ∧
                              true = true ∧
                                (bif bif bif leb 1 k then leb k 4 else false then leb (-4096) c else false then
                                      (true && bif bif leb 1 k then leb k 4 else false then leb (-4096) c else false) &&
                                        true
                                    else true) =
                                    true ∧
                                  True) ∧
  ((bif bif bif leb 1 k then leb k 4 else false then leb (-4096) c else false then leb c 4096 else false) = true →
      1 = bI (vl k c) 1 0 ∧ True) ∧
    ((bif bif bif leb 1 k then leb k 4 else false then leb (-4096) c else false then leb c 4096 else false) = false →
      0 = bI (vl k c) 1 0 ∧ True)) := by kernel_rfl

theorem ob_o12 (x y : Int) : fnOb Tryd.prog G dd 10000 fe12 (.r [] (.r [my (dd) 132, my (dd) 133, my (dd) 134, my (dd) 137, my (dd) 138, my (dd) 139, my (dd) 142, my (dd) 143, my (dd) 144] (.cnd .nil .nil))) ([.agg [.int .i64 x, .int .i64 y]]) ([.int .i64 (bI (ins x y) 1 0)]) ([]) = some (
(true = true ∧
    ((true && leb (-65536) x) = true → (true && leb (-65536) x) = true) ∧
      ((true && leb (-65536) x) = true → true = true) ∧
        ((true && leb (-65536) x) = true → (true && leb (-65536) x) = true) ∧
          true = true ∧
            (bif leb (-65536) x then true && leb (-65536) x && true else true) = true ∧
              ((true && bif leb (-65536) x then leb x 65536 else false) = true →
                  (true && bif leb (-65536) x then leb x 65536 else false) = true) ∧
                ((true && bif leb (-65536) x then leb x 65536 else false) = true → true = true) ∧
                  ((true && bif leb (-65536) x then leb x 65536 else false) = true →
                      (true && bif leb (-65536) x then leb x 65536 else false) = true) ∧
                    true = true ∧
                      (bif bif leb (-65536) x then leb x 65536 else false then
                            (true && bif leb (-65536) x then leb x 65536 else false) && true
                          else true) =
                          true ∧
                        ((true && bif bif leb (-65536) x then leb x 65536 else false then leb (-65536) y else false) =
                              true →
                            (true &&
                                bif bif leb (-65536) x then leb x 65536 else false then leb (-65536) y else false) =
                              true) ∧
                          ((true && bif bif leb (-65536) x then leb x 65536 else false then leb (-65536) y else false) =
                                true →
                              true = true) ∧
                            ((true &&
                                    bif bif leb (-65536) x then leb x 65536 else false then leb (-65536) y else false) =
                                  true →
                                (true &&
                                    bif bif leb (-65536) x then leb x 65536 else false then leb (-65536) y else false) =
                                  true) ∧
                              true = true ∧
                                (bif
                                        bif bif leb (-65536) x then leb x 65536 else false then leb (-65536) y
                                        else false then
                                      (true &&
                                          bif bif leb (-65536) x then leb x 65536 else false then leb (-65536) y
                                          else false) &&
                                        true
                                    else true) =
                                    true ∧
                                  True) ∧
  ((bif bif bif leb (-65536) x then leb x 65536 else false then leb (-65536) y else false then leb y 65536 else false) =
        true →
      1 = bI (ins x y) 1 0 ∧ True) ∧
    ((bif bif bif leb (-65536) x then leb x 65536 else false then leb (-65536) y else false then leb y 65536
        else false) =
        false →
      0 = bI (ins x y) 1 0 ∧ True)) := by kernel_rfl

theorem ob_o13 (k c : Int) : fnOb Tryd.prog G dd 10000 fe13 (.r [] (.r [my (dd) 132, my (dd) 133, my (dd) 134, my (dd) 137, my (dd) 138, my (dd) 139, my (dd) 142, my (dd) 143, my (dd) 144] (.cnd .nil .nil))) ([.agg [.int .u8 k, .int .i64 c]]) ([.int .i64 (bI (vl k c) 0 1)]) ([]) = some (
(true = true ∧
    ((true && !ltb k 1) = true → (true && !ltb k 1) = true) ∧
      ((true && !ltb k 1) = true → true = true) ∧
        ((true && !ltb k 1) = true → (true && !ltb k 1) = true) ∧
          true = true ∧
            (bif ltb k 1 then true else true && !ltb k 1 && true) = true ∧
              ((true && !bif ltb k 1 then true else ltb 4 k) = true →
                  (true && !bif ltb k 1 then true else ltb 4 k) = true) ∧
                ((true && !bif ltb k 1 then true else ltb 4 k) = true → true = true) ∧
                  ((true && !bif ltb k 1 then true else ltb 4 k) = true →
                      (true && !bif ltb k 1 then true else ltb 4 k) = true) ∧
                    true = true ∧
                      (bif bif ltb k 1 then true else ltb 4 k then true
                          else (true && !bif ltb k 1 then true else ltb 4 k) && true) =
                          true ∧
                        ((true && !bif bif ltb k 1 then true else ltb 4 k then true else ltb c (-4096)) = true →
                            (true && !bif bif ltb k 1 then true else ltb 4 k then true else ltb c (-4096)) = true) ∧
                          ((true && !bif bif ltb k 1 then true else ltb 4 k then true else ltb c (-4096)) = true →
                              true = true) ∧
                            ((true && !bif bif ltb k 1 then true else ltb 4 k then true else ltb c (-4096)) = true →
                                (true && !bif bif ltb k 1 then true else ltb 4 k then true else ltb c (-4096)) = true) ∧
                              true = true ∧
                                (bif bif bif ltb k 1 then true else ltb 4 k then true else ltb c (-4096) then true
                                    else
                                      (true && !bif bif ltb k 1 then true else ltb 4 k then true else ltb c (-4096)) &&
                                        true) =
                                    true ∧
                                  True) ∧
  ((bif bif bif ltb k 1 then true else ltb 4 k then true else ltb c (-4096) then true else ltb 4096 c) = true →
      1 = bI (vl k c) 0 1 ∧ True) ∧
    ((bif bif bif ltb k 1 then true else ltb 4 k then true else ltb c (-4096) then true else ltb 4096 c) = false →
      0 = bI (vl k c) 0 1 ∧ True)) := by kernel_rfl

theorem ob_o14 (x y : Int) : fnOb Tryd.prog G dd 10000 fe14 (.r [] (.r [my (dd) 132, my (dd) 133, my (dd) 134, my (dd) 137, my (dd) 138, my (dd) 139, my (dd) 142, my (dd) 143, my (dd) 144] (.cnd .nil .nil))) ([.agg [.int .i64 x, .int .i64 y]]) ([.int .i64 (bI (ins x y) 0 1)]) ([]) = some (
(true = true ∧
    ((true && !ltb x (-65536)) = true → (true && !ltb x (-65536)) = true) ∧
      ((true && !ltb x (-65536)) = true → true = true) ∧
        ((true && !ltb x (-65536)) = true → (true && !ltb x (-65536)) = true) ∧
          true = true ∧
            (bif ltb x (-65536) then true else true && !ltb x (-65536) && true) = true ∧
              ((true && !bif ltb x (-65536) then true else ltb 65536 x) = true →
                  (true && !bif ltb x (-65536) then true else ltb 65536 x) = true) ∧
                ((true && !bif ltb x (-65536) then true else ltb 65536 x) = true → true = true) ∧
                  ((true && !bif ltb x (-65536) then true else ltb 65536 x) = true →
                      (true && !bif ltb x (-65536) then true else ltb 65536 x) = true) ∧
                    true = true ∧
                      (bif bif ltb x (-65536) then true else ltb 65536 x then true
                          else (true && !bif ltb x (-65536) then true else ltb 65536 x) && true) =
                          true ∧
                        ((true && !bif bif ltb x (-65536) then true else ltb 65536 x then true else ltb y (-65536)) =
                              true →
                            (true && !bif bif ltb x (-65536) then true else ltb 65536 x then true else ltb y (-65536)) =
                              true) ∧
                          ((true && !bif bif ltb x (-65536) then true else ltb 65536 x then true else ltb y (-65536)) =
                                true →
                              true = true) ∧
                            ((true &&
                                    !bif bif ltb x (-65536) then true else ltb 65536 x then true else ltb y (-65536)) =
                                  true →
                                (true &&
                                    !bif bif ltb x (-65536) then true else ltb 65536 x then true else ltb y (-65536)) =
                                  true) ∧
                              true = true ∧
                                (bif
                                        bif bif ltb x (-65536) then true else ltb 65536 x then true
                                        else ltb y (-65536) then
                                      true
                                    else
                                      (true &&
                                          !bif bif ltb x (-65536) then true else ltb 65536 x then true
                                            else ltb y (-65536)) &&
                                        true) =
                                    true ∧
                                  True) ∧
  ((bif bif bif ltb x (-65536) then true else ltb 65536 x then true else ltb y (-65536) then true else ltb 65536 y) =
        true →
      1 = bI (ins x y) 0 1 ∧ True) ∧
    ((bif bif bif ltb x (-65536) then true else ltb 65536 x then true else ltb y (-65536) then true else ltb 65536 y) =
        false →
      0 = bI (ins x y) 0 1 ∧ True)) := by kernel_rfl

theorem ob_o17 (k c x y : Int) : fnOb Tryd.prog G dd 10000 fe17 .nil ([.agg [.int .u8 k, .int .i64 c], .agg [.int .i64 x, .int .i64 y]]) ([.int .i64 (acr k x y - 2 * c)]) ([]) = some (
(true = true ∧
    SpecP Tryd.prog G 20 [AV.int IntKind.u8 k] (AV.tup [AV.int IntKind.i64 (crA k), AV.int IntKind.i64 (crB k)]) [] ∧
      true = true ∧ true = true ∧ True) ∧
  (true = true ∧
      inR IntKind.i64 (crA k * x) = true ∧
        true = true ∧
          inR IntKind.i64 (crB k * y) = true ∧
            inR IntKind.i64 (crA k * x + crB k * y) = true ∧
              true = true ∧
                inR IntKind.i64 (2 * c) = true ∧ inR IntKind.i64 (crA k * x + crB k * y - 2 * c) = true ∧ True) ∧
    crA k * x + crB k * y - 2 * c = acr k x y - 2 * c ∧ True) := by kernel_rfl

theorem ob_o20 (k : Int) : fnOb Tryd.prog G dd 10000 fe20 (.cnd .nil (.cnd .nil (.cnd .nil .nil))) ([.int .u8 k]) ([.int .i64 (crA k), .int .i64 (crB k)]) ([]) = some (
((k == 1) = true → 1 = crA k ∧ 0 = crB k ∧ True) ∧
  ((k == 1) = false →
    ((k == 2) = true → 0 = crA k ∧ 1 = crB k ∧ True) ∧
      ((k == 2) = false →
        ((k == 3) = true → 1 = crA k ∧ 1 = crB k ∧ True) ∧ ((k == 3) = false → -1 = crA k ∧ 1 = crB k ∧ True)))) := by kernel_rfl

theorem ob_o26 (x y : Int) : fnOb Tryd.prog G dd 10000 fe26 .nil ([.int .i64 x, .int .i64 y]) ([ptV x y]) ([]) = some (
(true = true ∧ True) ∧ x = x ∧ y = y ∧ True) := by kernel_rfl

theorem ob_o30 (k c : Int) : fnOb Tryd.prog G dd 10000 fe30 .nil ([.int .u8 k, .int .i64 c]) ([lnV k c]) ([]) = some (
(true = true ∧ True) ∧ k = k ∧ c = c ∧ True) := by kernel_rfl

theorem ob_o31  : fnOb Tryd.prog G dd 10000 fe31 .nil ([]) ([rulesV]) (rulesB) = some (
(true = true ∧ True) ∧ (true = true ∧ True) ∧ 5 = 5 ∧ iL [0, 2, 1, 4, 3] = [0, 2, 1, 4, 3] ∧ 0 = 0 ∧ 0 = 0 ∧ True) := by kernel_rfl

theorem ob_o32 (k x y : Int) : fnOb Tryd.prog G dd 10000 fe32 (.cnd .nil (.cnd .nil (.cnd .nil .nil))) ([.int .u8 k, .agg [.int .i64 x, .int .i64 y]]) ([.int .i64 (acr k x y)]) ([]) = some (
((k == 1) = true → (true = true ∧ True) ∧ x = acr k x y ∧ True) ∧
  ((k == 1) = false →
    ((k == 2) = true → (true = true ∧ True) ∧ y = acr k x y ∧ True) ∧
      ((k == 2) = false →
        ((k == 3) = true →
            (true = true ∧ true = true ∧ inR IntKind.i64 (x + y) = true ∧ True) ∧ x + y = acr k x y ∧ True) ∧
          ((k == 3) = false →
            (true = true ∧ true = true ∧ inR IntKind.i64 (y - x) = true ∧ True) ∧ y - x = acr k x y ∧ True)))) := by kernel_rfl

theorem ob_o37 (x y : Int) : fnOb Tryd.prog G dd 10000 fe37 .nil ([.agg [.int .i64 x, .int .i64 y]]) ([.int .i64 x]) ([]) = some (
(true = true ∧
    SpecP Tryd.prog G 32 [AV.int IntKind.u8 1, AV.agg [AV.int IntKind.i64 x, AV.int IntKind.i64 y]]
        (AV.int IntKind.i64 (acr 1 x y)) [] ∧
      True) ∧
  acr 1 x y = x ∧ True) := by kernel_rfl

theorem ob_o40 (x y : Int) : fnOb Tryd.prog G dd 10000 fe40 .nil ([.agg [.int .i64 x, .int .i64 y]]) ([.int .i64 y]) ([]) = some (
(true = true ∧
    SpecP Tryd.prog G 32 [AV.int IntKind.u8 2, AV.agg [AV.int IntKind.i64 x, AV.int IntKind.i64 y]]
        (AV.int IntKind.i64 (acr 2 x y)) [] ∧
      True) ∧
  acr 2 x y = y ∧ True) := by kernel_rfl

theorem ob_o43 (x y : Int) : fnOb Tryd.prog G dd 10000 fe43 .nil ([.agg [.int .i64 x, .int .i64 y]]) ([.int .i64 (x + y)]) ([]) = some (
(true = true ∧
    SpecP Tryd.prog G 32 [AV.int IntKind.u8 3, AV.agg [AV.int IntKind.i64 x, AV.int IntKind.i64 y]]
        (AV.int IntKind.i64 (acr 3 x y)) [] ∧
      True) ∧
  acr 3 x y = x + y ∧ True) := by kernel_rfl

theorem ob_o46 (x y : Int) : fnOb Tryd.prog G dd 10000 fe46 .nil ([.agg [.int .i64 x, .int .i64 y]]) ([.int .i64 (y - x)]) ([]) = some (
(true = true ∧
    SpecP Tryd.prog G 32 [AV.int IntKind.u8 4, AV.agg [AV.int IntKind.i64 x, AV.int IntKind.i64 y]]
        (AV.int IntKind.i64 (acr 4 x y)) [] ∧
      True) ∧
  acr 4 x y = y - x ∧ True) := by kernel_rfl

theorem ob_o38 (c x y : Int) : fnOb Tryd.prog G dd 10000 fe38 .nil ([.int .i64 c, .agg [.int .i64 x, .int .i64 y]]) ([ptV (4 * c - x) y]) ([]) = some (
(inR IntKind.i64 (4 * c) = true ∧ true = true ∧ inR IntKind.i64 (4 * c - x) = true ∧ true = true ∧ true = true ∧ True) ∧
  4 * c - x = 4 * c - x ∧ y = y ∧ True) := by kernel_rfl

theorem ob_o41 (c x y : Int) : fnOb Tryd.prog G dd 10000 fe41 .nil ([.int .i64 c, .agg [.int .i64 x, .int .i64 y]]) ([ptV x (4 * c - y)]) ([]) = some (
(true = true ∧ inR IntKind.i64 (4 * c) = true ∧ true = true ∧ inR IntKind.i64 (4 * c - y) = true ∧ true = true ∧ True) ∧
  x = x ∧ 4 * c - y = 4 * c - y ∧ True) := by kernel_rfl

theorem ob_o44 (c x y : Int) : fnOb Tryd.prog G dd 10000 fe44 .nil ([.int .i64 c, .agg [.int .i64 x, .int .i64 y]]) ([ptV (2 * c - y) (2 * c - x)]) ([]) = some (
(inR IntKind.i64 (2 * c) = true ∧
    true = true ∧
      inR IntKind.i64 (2 * c - y) = true ∧
        inR IntKind.i64 (2 * c) = true ∧ true = true ∧ inR IntKind.i64 (2 * c - x) = true ∧ true = true ∧ True) ∧
  2 * c - y = 2 * c - y ∧ 2 * c - x = 2 * c - x ∧ True) := by kernel_rfl

theorem ob_o47 (c x y : Int) : fnOb Tryd.prog G dd 10000 fe47 .nil ([.int .i64 c, .agg [.int .i64 x, .int .i64 y]]) ([ptV (y - 2 * c) (x + 2 * c)]) ([]) = some (
(true = true ∧
    inR IntKind.i64 (2 * c) = true ∧
      inR IntKind.i64 (y - 2 * c) = true ∧
        true = true ∧ inR IntKind.i64 (2 * c) = true ∧ inR IntKind.i64 (x + 2 * c) = true ∧ true = true ∧ True) ∧
  y - 2 * c = y - 2 * c ∧ x + 2 * c = x + 2 * c ∧ True) := by kernel_rfl

theorem ob_o15kf (k c x y : Int) : fnOb Tryd.prog G (dd3 false true) 10000 fe15 (.lit .nil) ([.agg [.int .u8 k, .int .i64 c], .agg [.int .i64 x, .int .i64 y]]) ([.int .i64 (sideI k c x y)]) ([]) = some (
(true = true ∧
    SpecP Tryd.prog G 13 [AV.agg [AV.int IntKind.u8 k, AV.int IntKind.i64 c]] (AV.int IntKind.i64 1) [] ∧
      true = true ∧ true = true ∧ True) ∧
  0 = sideI k c x y ∧ True) := by kernel_rfl

theorem ob_o15ki (k c x y : Int) : fnOb Tryd.prog G (dd3 true false) 10000 fe15 (.lit .nil) ([.agg [.int .u8 k, .int .i64 c], .agg [.int .i64 x, .int .i64 y]]) ([.int .i64 (sideI k c x y)]) ([]) = some (
(true = true ∧
    SpecP Tryd.prog G 13 [AV.agg [AV.int IntKind.u8 k, AV.int IntKind.i64 c]] (AV.int IntKind.i64 0) [] ∧
      true = true ∧
        SpecP Tryd.prog G 14 [AV.agg [AV.int IntKind.i64 x, AV.int IntKind.i64 y]] (AV.int IntKind.i64 1) [] ∧
          true = true ∧ true = true ∧ True) ∧
  0 = sideI k c x y ∧ True) := by kernel_rfl

theorem ob_o15k1 (c x y : Int) : fnOb Tryd.prog G (dd3 true true) 10000 fe15 (.lit (.cnd .nil (.cnd .nil .nil))) ([.agg [.int .u8 1, .int .i64 c], .agg [.int .i64 x, .int .i64 y]]) ([.int .i64 (sideI 1 c x y)]) ([]) = some (
(true = true ∧
    SpecP Tryd.prog G 13 [AV.agg [AV.int IntKind.u8 1, AV.int IntKind.i64 c]] (AV.int IntKind.i64 0) [] ∧
      true = true ∧
        SpecP Tryd.prog G 14 [AV.agg [AV.int IntKind.i64 x, AV.int IntKind.i64 y]] (AV.int IntKind.i64 0) [] ∧
          true = true ∧ true = true ∧ True) ∧
  (SpecP Tryd.prog G 31 []
        (AV.agg
          [AV.nilf, AV.nilf, AV.nilf, AV.fn 37 [] [], AV.fn 38 [] [], AV.fn 39 [] [], AV.fn 40 [] [], AV.fn 41 [] [],
            AV.fn 42 [] [], AV.fn 43 [] [], AV.fn 44 [] [], AV.fn 45 [] [AV.ptr 0 0], AV.fn 46 [] [], AV.fn 47 [] [],
            AV.fn 48 [] [AV.ptr 0 0]])
        [{ c := Cont.ints IntKind.u8 [0, 2, 1, 4, 3], sz := 1, n := 5, cap := none, nil := some false, mu := true,
            bx := true }] ∧
      true = true ∧
        true = true ∧
          true = true ∧
            true = true ∧
              true = true ∧
                true = true ∧
                  SpecP Tryd.prog G 37 [AV.agg [AV.int IntKind.i64 x, AV.int IntKind.i64 y]] (AV.int IntKind.i64 x) [] ∧
                    True) ∧
    (true = true ∧ inR IntKind.i64 (2 * c) = true ∧ True) ∧
      (ltb x (2 * c) = true → -1 = sideI 1 c x y ∧ True) ∧
        (ltb x (2 * c) = false →
          (true = true ∧ inR IntKind.i64 (2 * c) = true ∧ True) ∧
            (ltb (2 * c) x = true → 1 = sideI 1 c x y ∧ True) ∧ (ltb (2 * c) x = false → 0 = sideI 1 c x y ∧ True))) := by kernel_rfl

theorem ob_o15k2 (c x y : Int) : fnOb Tryd.prog G (dd3 true true) 10000 fe15 (.lit (.cnd .nil (.cnd .nil .nil))) ([.agg [.int .u8 2, .int .i64 c], .agg [.int .i64 x, .int .i64 y]]) ([.int .i64 (sideI 2 c x y)]) ([]) = some (
(true = true ∧
    SpecP Tryd.prog G 13 [AV.agg [AV.int IntKind.u8 2, AV.int IntKind.i64 c]] (AV.int IntKind.i64 0) [] ∧
      true = true ∧
        SpecP Tryd.prog G 14 [AV.agg [AV.int IntKind.i64 x, AV.int IntKind.i64 y]] (AV.int IntKind.i64 0) [] ∧
          true = true ∧ true = true ∧ True) ∧
  (SpecP Tryd.prog G 31 []
        (AV.agg
          [AV.nilf, AV.nilf, AV.nilf, AV.fn 37 [] [], AV.fn 38 [] [], AV.fn 39 [] [], AV.fn 40 [] [], AV.fn 41 [] [],
            AV.fn 42 [] [], AV.fn 43 [] [], AV.fn 44 [] [], AV.fn 45 [] [AV.ptr 0 0], AV.fn 46 [] [], AV.fn 47 [] [],
            AV.fn 48 [] [AV.ptr 0 0]])
        [{ c := Cont.ints IntKind.u8 [0, 2, 1, 4, 3], sz := 1, n := 5, cap := none, nil := some false, mu := true,
            bx := true }] ∧
      true = true ∧
        true = true ∧
          true = true ∧
            true = true ∧
              true = true ∧
                true = true ∧
                  SpecP Tryd.prog G 40 [AV.agg [AV.int IntKind.i64 x, AV.int IntKind.i64 y]] (AV.int IntKind.i64 y) [] ∧
                    True) ∧
    (true = true ∧ inR IntKind.i64 (2 * c) = true ∧ True) ∧
      (ltb y (2 * c) = true → -1 = sideI 2 c x y ∧ True) ∧
        (ltb y (2 * c) = false →
          (true = true ∧ inR IntKind.i64 (2 * c) = true ∧ True) ∧
            (ltb (2 * c) y = true → 1 = sideI 2 c x y ∧ True) ∧ (ltb (2 * c) y = false → 0 = sideI 2 c x y ∧ True))) := by kernel_rfl

theorem ob_o15k3 (c x y : Int) : fnOb Tryd.prog G (dd3 true true) 10000 fe15 (.lit (.cnd .nil (.cnd .nil .nil))) ([.agg [.int .u8 3, .int .i64 c], .agg [.int .i64 x, .int .i64 y]]) ([.int .i64 (sideI 3 c x y)]) ([]) = some (
(true = true ∧
    SpecP Tryd.prog G 13 [AV.agg [AV.int IntKind.u8 3, AV.int IntKind.i64 c]] (AV.int IntKind.i64 0) [] ∧
      true = true ∧
        SpecP Tryd.prog G 14 [AV.agg [AV.int IntKind.i64 x, AV.int IntKind.i64 y]] (AV.int IntKind.i64 0) [] ∧
          true = true ∧ true = true ∧ True) ∧
  (SpecP Tryd.prog G 31 []
        (AV.agg
          [AV.nilf, AV.nilf, AV.nilf, AV.fn 37 [] [], AV.fn 38 [] [], AV.fn 39 [] [], AV.fn 40 [] [], AV.fn 41 [] [],
            AV.fn 42 [] [], AV.fn 43 [] [], AV.fn 44 [] [], AV.fn 45 [] [AV.ptr 0 0], AV.fn 46 [] [], AV.fn 47 [] [],
            AV.fn 48 [] [AV.ptr 0 0]])
        [{ c := Cont.ints IntKind.u8 [0, 2, 1, 4, 3], sz := 1, n := 5, cap := none, nil := some false, mu := true,
            bx := true }] ∧
      true = true ∧
        true = true ∧
          true = true ∧
            true = true ∧
              true = true ∧
                true = true ∧
                  SpecP Tryd.prog G 43 [AV.agg [AV.int IntKind.i64 x, AV.int IntKind.i64 y]]
                      (AV.int IntKind.i64 (x + y)) [] ∧
                    True) ∧
    (true = true ∧ inR IntKind.i64 (2 * c) = true ∧ True) ∧
      (ltb (x + y) (2 * c) = true → -1 = sideI 3 c x y ∧ True) ∧
        (ltb (x + y) (2 * c) = false →
          (true = true ∧ inR IntKind.i64 (2 * c) = true ∧ True) ∧
            (ltb (2 * c) (x + y) = true → 1 = sideI 3 c x y ∧ True) ∧
              (ltb (2 * c) (x + y) = false → 0 = sideI 3 c x y ∧ True))) := by kernel_rfl

theorem ob_o15k4 (c x y : Int) : fnOb Tryd.prog G (dd3 true true) 10000 fe15 (.lit (.cnd .nil (.cnd .nil .nil))) ([.agg [.int .u8 4, .int .i64 c], .agg [.int .i64 x, .int .i64 y]]) ([.int .i64 (sideI 4 c x y)]) ([]) = some (
(true = true ∧
    SpecP Tryd.prog G 13 [AV.agg [AV.int IntKind.u8 4, AV.int IntKind.i64 c]] (AV.int IntKind.i64 0) [] ∧
      true = true ∧
        SpecP Tryd.prog G 14 [AV.agg [AV.int IntKind.i64 x, AV.int IntKind.i64 y]] (AV.int IntKind.i64 0) [] ∧
          true = true ∧ true = true ∧ True) ∧
  (SpecP Tryd.prog G 31 []
        (AV.agg
          [AV.nilf, AV.nilf, AV.nilf, AV.fn 37 [] [], AV.fn 38 [] [], AV.fn 39 [] [], AV.fn 40 [] [], AV.fn 41 [] [],
            AV.fn 42 [] [], AV.fn 43 [] [], AV.fn 44 [] [], AV.fn 45 [] [AV.ptr 0 0], AV.fn 46 [] [], AV.fn 47 [] [],
            AV.fn 48 [] [AV.ptr 0 0]])
        [{ c := Cont.ints IntKind.u8 [0, 2, 1, 4, 3], sz := 1, n := 5, cap := none, nil := some false, mu := true,
            bx := true }] ∧
      true = true ∧
        true = true ∧
          true = true ∧
            true = true ∧
              true = true ∧
                true = true ∧
                  SpecP Tryd.prog G 46 [AV.agg [AV.int IntKind.i64 x, AV.int IntKind.i64 y]]
                      (AV.int IntKind.i64 (y - x)) [] ∧
                    True) ∧
    (true = true ∧ inR IntKind.i64 (2 * c) = true ∧ True) ∧
      (ltb (y - x) (2 * c) = true → -1 = sideI 4 c x y ∧ True) ∧
        (ltb (y - x) (2 * c) = false →
          (true = true ∧ inR IntKind.i64 (2 * c) = true ∧ True) ∧
            (ltb (2 * c) (y - x) = true → 1 = sideI 4 c x y ∧ True) ∧
              (ltb (2 * c) (y - x) = false → 0 = sideI 4 c x y ∧ True))) := by kernel_rfl

theorem ob_o18kf (k c x y : Int) : fnOb Tryd.prog G (dd3 false true) 10000 fe18 (.lit .nil) ([.agg [.int .u8 k, .int .i64 c], .agg [.int .i64 x, .int .i64 y]]) ([ptV (rfPX k c x y) (rfPY k c x y), .int .i64 (rfE k c x y)]) ([]) = some (
(true = true ∧
    SpecP Tryd.prog G 13 [AV.agg [AV.int IntKind.u8 k, AV.int IntKind.i64 c]] (AV.int IntKind.i64 1) [] ∧
      true = true ∧ true = true ∧ True) ∧
  (true = true ∧ True) ∧ 0 = rfPX k c x y ∧ 0 = rfPY k c x y ∧ 1 = rfE k c x y ∧ True) := by kernel_rfl

theorem ob_o18ki (k c x y : Int) : fnOb Tryd.prog G (dd3 true false) 10000 fe18 (.lit .nil) ([.agg [.int .u8 k, .int .i64 c], .agg [.int .i64 x, .int .i64 y]]) ([ptV (rfPX k c x y) (rfPY k c x y), .int .i64 (rfE k c x y)]) ([]) = some (
(true = true ∧
    SpecP Tryd.prog G 13 [AV.agg [AV.int IntKind.u8 k, AV.int IntKind.i64 c]] (AV.int IntKind.i64 0) [] ∧
      true = true ∧
        SpecP Tryd.prog G 14 [AV.agg [AV.int IntKind.i64 x, AV.int IntKind.i64 y]] (AV.int IntKind.i64 1) [] ∧
          true = true ∧ true = true ∧ True) ∧
  (true = true ∧ True) ∧ 0 = rfPX k c x y ∧ 0 = rfPY k c x y ∧ 1 = rfE k c x y ∧ True) := by kernel_rfl

theorem ob_o18k1 (c x y : Int) : fnOb Tryd.prog G (dd2 true) 10000 fe18 (.cnd .nil (.cnd .nil .nil)) ([.agg [.int .u8 1, .int .i64 c], .agg [.int .i64 x, .int .i64 y]]) ([ptV (rfPX 1 c x y) (rfPY 1 c x y), .int .i64 (rfE 1 c x y)]) ([]) = some (
(true = true ∧
    SpecP Tryd.prog G 13 [AV.agg [AV.int IntKind.u8 1, AV.int IntKind.i64 c]] (AV.int IntKind.i64 0) [] ∧
      true = true ∧
        SpecP Tryd.prog G 14 [AV.agg [AV.int IntKind.i64 x, AV.int IntKind.i64 y]]
            (AV.int IntKind.i64 (bI (ins x y) 0 1)) [] ∧
          true = true ∧ true = true ∧ True) ∧
  ((bif false then true else bI (ins x y) 0 1 != 0) = true →
      (true = true ∧ True) ∧ 0 = rfPX 1 c x y ∧ 0 = rfPY 1 c x y ∧ 1 = rfE 1 c x y ∧ True) ∧
    ((bif false then true else bI (ins x y) 0 1 != 0) = false →
      (SpecP Tryd.prog G 31 []
            (AV.agg
              [AV.nilf, AV.nilf, AV.nilf, AV.fn 37 [] [], AV.fn 38 [] [], AV.fn 39 [] [], AV.fn 40 [] [],
                AV.fn 41 [] [], AV.fn 42 [] [], AV.fn 43 [] [], AV.fn 44 [] [], AV.fn 45 [] [AV.ptr 0 0],
                AV.fn 46 [] [], AV.fn 47 [] [], AV.fn 48 [] [AV.ptr 0 0]])
            [{ c := Cont.ints IntKind.u8 [0, 2, 1, 4, 3], sz := 1, n := 5, cap := none, nil := some false, mu := true,
                bx := true }] ∧
          true = true ∧
            true = true ∧
              true = true ∧
                true = true ∧
                  true = true ∧
                    true = true ∧
                      true = true ∧
                        SpecP Tryd.prog G 38 [AV.int IntKind.i64 c, AV.agg [AV.int IntKind.i64 x, AV.int IntKind.i64 y]]
                            (AV.agg [AV.int IntKind.i64 (4 * c - x), AV.int IntKind.i64 y]) [] ∧
                          true = true ∧ True) ∧
        (true = true ∧
            SpecP Tryd.prog G 14 [AV.agg [AV.int IntKind.i64 (4 * c - x), AV.int IntKind.i64 y]]
                (AV.int IntKind.i64 (bI (ins (4 * c - x) y) 0 1)) [] ∧
              True) ∧
          ((bI (ins (4 * c - x) y) 0 1 != 0) = true →
              (true = true ∧ True) ∧ 0 = rfPX 1 c x y ∧ 0 = rfPY 1 c x y ∧ 3 = rfE 1 c x y ∧ True) ∧
            ((bI (ins (4 * c - x) y) 0 1 != 0) = false →
              (true = true ∧ true = true ∧ True) ∧
                4 * c - x = rfPX 1 c x y ∧ y = rfPY 1 c x y ∧ 0 = rfE 1 c x y ∧ True))) := by kernel_rfl

theorem ob_o18k2 (c x y : Int) : fnOb Tryd.prog G (dd2 true) 10000 fe18 (.cnd .nil (.cnd .nil .nil)) ([.agg [.int .u8 2, .int .i64 c], .agg [.int .i64 x, .int .i64 y]]) ([ptV (rfPX 2 c x y) (rfPY 2 c x y), .int .i64 (rfE 2 c x y)]) ([]) = some (
(true = true ∧
    SpecP Tryd.prog G 13 [AV.agg [AV.int IntKind.u8 2, AV.int IntKind.i64 c]] (AV.int IntKind.i64 0) [] ∧
      true = true ∧
        SpecP Tryd.prog G 14 [AV.agg [AV.int IntKind.i64 x, AV.int IntKind.i64 y]]
            (AV.int IntKind.i64 (bI (ins x y) 0 1)) [] ∧
          true = true ∧ true = true ∧ True) ∧
  ((bif false then true else bI (ins x y) 0 1 != 0) = true →
      (true = true ∧ True) ∧ 0 = rfPX 2 c x y ∧ 0 = rfPY 2 c x y ∧ 1 = rfE 2 c x y ∧ True) ∧
    ((bif false then true else bI (ins x y) 0 1 != 0) = false →
      (SpecP Tryd.prog G 31 []
            (AV.agg
              [AV.nilf, AV.nilf, AV.nilf, AV.fn 37 [] [], AV.fn 38 [] [], AV.fn 39 [] [], AV.fn 40 [] [],
                AV.fn 41 [] [], AV.fn 42 [] [], AV.fn 43 [] [], AV.fn 44 [] [], AV.fn 45 [] [AV.ptr 0 0],
                AV.fn 46 [] [], AV.fn 47 [] [], AV.fn 48 [] [AV.ptr 0 0]])
            [{ c := Cont.ints IntKind.u8 [0, 2, 1, 4, 3], sz := 1, n := 5, cap := none, nil := some false, mu := true,
                bx := true }] ∧
          true = true ∧
            true = true ∧
              true = true ∧
                true = true ∧
                  true = true ∧
                    true = true ∧
                      true = true ∧
                        SpecP Tryd.prog G 41 [AV.int IntKind.i64 c, AV.agg [AV.int IntKind.i64 x, AV.int IntKind.i64 y]]
                            (AV.agg [AV.int IntKind.i64 x, AV.int IntKind.i64 (4 * c - y)]) [] ∧
                          true = true ∧ True) ∧
        (true = true ∧
            SpecP Tryd.prog G 14 [AV.agg [AV.int IntKind.i64 x, AV.int IntKind.i64 (4 * c - y)]]
                (AV.int IntKind.i64 (bI (ins x (4 * c - y)) 0 1)) [] ∧
              True) ∧
          ((bI (ins x (4 * c - y)) 0 1 != 0) = true →
              (true = true ∧ True) ∧ 0 = rfPX 2 c x y ∧ 0 = rfPY 2 c x y ∧ 3 = rfE 2 c x y ∧ True) ∧
            ((bI (ins x (4 * c - y)) 0 1 != 0) = false →
              (true = true ∧ true = true ∧ True) ∧
                x = rfPX 2 c x y ∧ 4 * c - y = rfPY 2 c x y ∧ 0 = rfE 2 c x y ∧ True))) := by kernel_rfl

theorem ob_o18k3 (c x y : Int) : fnOb Tryd.prog G (dd2 true) 10000 fe18 (.cnd .nil (.cnd .nil .nil)) ([.agg [.int .u8 3, .int .i64 c], .agg [.int .i64 x, .int .i64 y]]) ([ptV (rfPX 3 c x y) (rfPY 3 c x y), .int .i64 (rfE 3 c x y)]) ([]) = some (
(true = true ∧
    SpecP Tryd.prog G 13 [AV.agg [AV.int IntKind.u8 3, AV.int IntKind.i64 c]] (AV.int IntKind.i64 0) [] ∧
      true = true ∧
        SpecP Tryd.prog G 14 [AV.agg [AV.int IntKind.i64 x, AV.int IntKind.i64 y]]
            (AV.int IntKind.i64 (bI (ins x y) 0 1)) [] ∧
          true = true ∧ true = true ∧ True) ∧
  ((bif false then true else bI (ins x y) 0 1 != 0) = true →
      (true = true ∧ True) ∧ 0 = rfPX 3 c x y ∧ 0 = rfPY 3 c x y ∧ 1 = rfE 3 c x y ∧ True) ∧
    ((bif false then true else bI (ins x y) 0 1 != 0) = false →
      (SpecP Tryd.prog G 31 []
            (AV.agg
              [AV.nilf, AV.nilf, AV.nilf, AV.fn 37 [] [], AV.fn 38 [] [], AV.fn 39 [] [], AV.fn 40 [] [],
                AV.fn 41 [] [], AV.fn 42 [] [], AV.fn 43 [] [], AV.fn 44 [] [], AV.fn 45 [] [AV.ptr 0 0],
                AV.fn 46 [] [], AV.fn 47 [] [], AV.fn 48 [] [AV.ptr 0 0]])
            [{ c := Cont.ints IntKind.u8 [0, 2, 1, 4, 3], sz := 1, n := 5, cap := none, nil := some false, mu := true,
                bx := true }] ∧
          true = true ∧
            true = true ∧
              true = true ∧
                true = true ∧
                  true = true ∧
                    true = true ∧
                      true = true ∧
                        SpecP Tryd.prog G 44 [AV.int IntKind.i64 c, AV.agg [AV.int IntKind.i64 x, AV.int IntKind.i64 y]]
                            (AV.agg [AV.int IntKind.i64 (2 * c - y), AV.int IntKind.i64 (2 * c - x)]) [] ∧
                          true = true ∧ True) ∧
        (true = true ∧
            SpecP Tryd.prog G 14 [AV.agg [AV.int IntKind.i64 (2 * c - y), AV.int IntKind.i64 (2 * c - x)]]
                (AV.int IntKind.i64 (bI (ins (2 * c - y) (2 * c - x)) 0 1)) [] ∧
              True) ∧
          ((bI (ins (2 * c - y) (2 * c - x)) 0 1 != 0) = true →
              (true = true ∧ True) ∧ 0 = rfPX 3 c x y ∧ 0 = rfPY 3 c x y ∧ 3 = rfE 3 c x y ∧ True) ∧
            ((bI (ins (2 * c - y) (2 * c - x)) 0 1 != 0) = false →
              (true = true ∧ true = true ∧ True) ∧
                2 * c - y = rfPX 3 c x y ∧ 2 * c - x = rfPY 3 c x y ∧ 0 = rfE 3 c x y ∧ True))) := by kernel_rfl

theorem ob_o18k4 (c x y : Int) : fnOb Tryd.prog G (dd2 true) 10000 fe18 (.cnd .nil (.cnd .nil .nil)) ([.agg [.int .u8 4, .int .i64 c], .agg [.int .i64 x, .int .i64 y]]) ([ptV (rfPX 4 c x y) (rfPY 4 c x y), .int .i64 (rfE 4 c x y)]) ([]) = some (
(true = true ∧
    SpecP Tryd.prog G 13 [AV.agg [AV.int IntKind.u8 4, AV.int IntKind.i64 c]] (AV.int IntKind.i64 0) [] ∧
      true = true ∧
        SpecP Tryd.prog G 14 [AV.agg [AV.int IntKind.i64 x, AV.int IntKind.i64 y]]
            (AV.int IntKind.i64 (bI (ins x y) 0 1)) [] ∧
          true = true ∧ true = true ∧ True) ∧
  ((bif false then true else bI (ins x y) 0 1 != 0) = true →
      (true = true ∧ True) ∧ 0 = rfPX 4 c x y ∧ 0 = rfPY 4 c x y ∧ 1 = rfE 4 c x y ∧ True) ∧
    ((bif false then true else bI (ins x y) 0 1 != 0) = false →
      (SpecP Tryd.prog G 31 []
            (AV.agg
              [AV.nilf, AV.nilf, AV.nilf, AV.fn 37 [] [], AV.fn 38 [] [], AV.fn 39 [] [], AV.fn 40 [] [],
                AV.fn 41 [] [], AV.fn 42 [] [], AV.fn 43 [] [], AV.fn 44 [] [], AV.fn 45 [] [AV.ptr 0 0],
                AV.fn 46 [] [], AV.fn 47 [] [], AV.fn 48 [] [AV.ptr 0 0]])
            [{ c := Cont.ints IntKind.u8 [0, 2, 1, 4, 3], sz := 1, n := 5, cap := none, nil := some false, mu := true,
                bx := true }] ∧
          true = true ∧
            true = true ∧
              true = true ∧
                true = true ∧
                  true = true ∧
                    true = true ∧
                      true = true ∧
                        SpecP Tryd.prog G 47 [AV.int IntKind.i64 c, AV.agg [AV.int IntKind.i64 x, AV.int IntKind.i64 y]]
                            (AV.agg [AV.int IntKind.i64 (y - 2 * c), AV.int IntKind.i64 (x + 2 * c)]) [] ∧
                          true = true ∧ True) ∧
        (true = true ∧
            SpecP Tryd.prog G 14 [AV.agg [AV.int IntKind.i64 (y - 2 * c), AV.int IntKind.i64 (x + 2 * c)]]
                (AV.int IntKind.i64 (bI (ins (y - 2 * c) (x + 2 * c)) 0 1)) [] ∧
              True) ∧
          ((bI (ins (y - 2 * c) (x + 2 * c)) 0 1 != 0) = true →
              (true = true ∧ True) ∧ 0 = rfPX 4 c x y ∧ 0 = rfPY 4 c x y ∧ 3 = rfE 4 c x y ∧ True) ∧
            ((bI (ins (y - 2 * c) (x + 2 * c)) 0 1 != 0) = false →
              (true = true ∧ true = true ∧ True) ∧
                y - 2 * c = rfPX 4 c x y ∧ x + 2 * c = rfPY 4 c x y ∧ 0 = rfE 4 c x y ∧ True))) := by kernel_rfl

theorem ob_o19 (k c x y : Int) : fnOb Tryd.prog G dd 10000 fe19 .nil ([.agg [.int .u8 k, .int .i64 c], .agg [.int .i64 x, .int .i64 y]]) ([ptV (rfX k c x y) (rfY k c x y)]) ([]) = some (
(true = true ∧
    SpecP Tryd.prog G 20 [AV.int IntKind.u8 k] (AV.tup [AV.int IntKind.i64 (crA k), AV.int IntKind.i64 (crB k)]) [] ∧
      true = true ∧ true = true ∧ True) ∧
  (true = true ∧
      true = true ∧
        SpecP Tryd.prog G 17
            [AV.agg [AV.int IntKind.u8 k, AV.int IntKind.i64 c], AV.agg [AV.int IntKind.i64 x, AV.int IntKind.i64 y]]
            (AV.int IntKind.i64 (acr k x y - 2 * c)) [] ∧
          inR IntKind.i64 (2 * (acr k x y - 2 * c)) = true ∧
            inR IntKind.i64 (crA k * crA k) = true ∧
              inR IntKind.i64 (crB k * crB k) = true ∧
                inR IntKind.i64 (crA k * crA k + crB k * crB k) = true ∧
                  inR IntKind.i64 ((2 * (acr k x y - 2 * c)).tdiv (crA k * crA k + crB k * crB k)) = true ∧
                    (!crA k * crA k + crB k * crB k == 0) = true ∧ True) ∧
    (true = true ∧
        inR IntKind.i64 ((2 * (acr k x y - 2 * c)).tdiv (crA k * crA k + crB k * crB k) * crA k) = true ∧
          inR IntKind.i64 (x - (2 * (acr k x y - 2 * c)).tdiv (crA k * crA k + crB k * crB k) * crA k) = true ∧
            true = true ∧
              inR IntKind.i64 ((2 * (acr k x y - 2 * c)).tdiv (crA k * crA k + crB k * crB k) * crB k) = true ∧
                inR IntKind.i64 (y - (2 * (acr k x y - 2 * c)).tdiv (crA k * crA k + crB k * crB k) * crB k) = true ∧
                  true = true ∧ True) ∧
      x - (2 * (acr k x y - 2 * c)).tdiv (crA k * crA k + crB k * crB k) * crA k = rfX k c x y ∧
        y - (2 * (acr k x y - 2 * c)).tdiv (crA k * crA k + crB k * crB k) * crB k = rfY k c x y ∧ True) := by kernel_rfl

theorem ob_o3ktt (k c x y : Int) : fnOb Tryd.prog G (dd3 true true) 10000 fe3 (.lit (.lit (.cnd (.cnd (.r [] (.r [] (.r [my (dd3 true true) 964, my (dd3 true true) 965, my (dd3 true true) 966, my (dd3 true true) 967, my (dd3 true true) 968, my (dd3 true true) 969, my (dd3 true true) 970, my (dd3 true true) 971, my (dd3 true true) 972, my (dd3 true true) 973, my (dd3 true true) 976] .nil))) (.r [] (.r [my (dd3 true true) 964, my (dd3 true true) 965, my (dd3 true true) 966, my (dd3 true true) 967, my (dd3 true true) 968, my (dd3 true true) 969, my (dd3 true true) 970, my (dd3 true true) 971, my (dd3 true true) 972, my (dd3 true true) 973, my (dd3 true true) 976] .nil))) (.cnd (.r [] (.r [] (.r [my (dd3 true true) 964, my (dd3 true true) 965, my (dd3 true true) 966, my (dd3 true true) 967, my (dd3 true true) 968, my (dd3 true true) 969, my (dd3 true true) 970, my (dd3 true true) 971, my (dd3 true true) 972, my (dd3 true true) 973, my (dd3 true true) 976] .nil))) (.r [] (.r [my (dd3 true true) 964, my (dd3 true true) 965, my (dd3 true true) 966, my (dd3 true true) 967, my (dd3 true true) 968, my (dd3 true true) 969, my (dd3 true true) 970, my (dd3 true true) 971, my (dd3 true true) 972, my (dd3 true true) 973, my (dd3 true true) 976] .nil)))))) ([.agg [.int .u8 k, .int .i64 c], .agg [.int .i64 x, .int .i64 y]]) ([.bool true]) ([]) = some (
(true = true ∧
    SpecP Tryd.prog G 11 [AV.agg [AV.int IntKind.u8 k, AV.int IntKind.i64 c]] (AV.int IntKind.i64 1) [] ∧ True) ∧
  (true = true ∧
      SpecP Tryd.prog G 12 [AV.agg [AV.int IntKind.i64 x, AV.int IntKind.i64 y]] (AV.int IntKind.i64 1) [] ∧ True) ∧
    (true = true ∧
        SpecP Tryd.prog G 13 [AV.agg [AV.int IntKind.u8 k, AV.int IntKind.i64 c]] (AV.int IntKind.i64 0) [] ∧
          true = true ∧
            true = true ∧
              true = true ∧
                true = true ∧
                  true = true ∧
                    SpecP Tryd.prog G 14 [AV.agg [AV.int IntKind.i64 x, AV.int IntKind.i64 y]] (AV.int IntKind.i64 0)
                        [] ∧
                      true = true ∧ true = true ∧ true = true ∧ true = true ∧ true = true ∧ true = true ∧ True) ∧
      (true = true ∧
          true = true ∧
            SpecP Tryd.prog G 15
                [AV.agg [AV.int IntKind.u8 k, AV.int IntKind.i64 c],
                  AV.agg [AV.int IntKind.i64 x, AV.int IntKind.i64 y]]
                (AV.int IntKind.i64 (sideI k c x y)) [] ∧
              True) ∧
        (true = true ∧ true = true ∧ True) ∧
          (true = true ∧
              true = true ∧
                SpecP Tryd.prog G 17
                    [AV.agg [AV.int IntKind.u8 k, AV.int IntKind.i64 c],
                      AV.agg [AV.int IntKind.i64 x, AV.int IntKind.i64 y]]
                    (AV.int IntKind.i64 (acr k x y - 2 * c)) [] ∧
                  True) ∧
            (ltb (acr k x y - 2 * c) 0 = true →
                (true = true ∧
                    true = true ∧
                      SpecP Tryd.prog G 17
                          [AV.agg [AV.int IntKind.u8 k, AV.int IntKind.i64 c],
                            AV.agg [AV.int IntKind.i64 x, AV.int IntKind.i64 y]]
                          (AV.int IntKind.i64 (acr k x y - 2 * c)) [] ∧
                        True) ∧
                  (ltb 0 (acr k x y - 2 * c) = true →
                      (true = true ∧
                          true = true ∧
                            SpecP Tryd.prog G 18
                                [AV.agg [AV.int IntKind.u8 k, AV.int IntKind.i64 c],
                                  AV.agg [AV.int IntKind.i64 x, AV.int IntKind.i64 y]]
                                (AV.tup
                                  [AV.agg [AV.int IntKind.i64 (rfPX k c x y), AV.int IntKind.i64 (rfPY k c x y)],
                                    AV.int IntKind.i64 (rfE k c x y)])
                                [] ∧
                              true = true ∧ true = true ∧ true = true ∧ True) ∧
                        (((true && sideI k c x y == 1) = true → (true && sideI k c x y == 1) = true) ∧
                            ((true && sideI k c x y == 1 && (true && sideI k c x y == 1) && true && !rfE k c x y != 0) =
                                  true →
                                true = true) ∧
                              ((true && sideI k c x y == 1 && (true && sideI k c x y == 1) && true &&
                                      !rfE k c x y != 0) =
                                    true →
                                  true = true) ∧
                                ((true && sideI k c x y == 1 && (true && sideI k c x y == 1) && true &&
                                        !rfE k c x y != 0) =
                                      true →
                                    (true && sideI k c x y == 1 && (true && sideI k c x y == 1) && true &&
                                        !rfE k c x y != 0) =
                                      true) ∧
                                  ((true && sideI k c x y == 1 && (true && sideI k c x y == 1) && true &&
                                          !rfE k c x y != 0) =
                                        true →
                                      (true && sideI k c x y == 1 && (true && sideI k c x y == 1) && true &&
                                          !rfE k c x y != 0) =
                                        true) ∧
                                    ((true && sideI k c x y == 1 && (true && sideI k c x y == 1) && true &&
                                            !rfE k c x y != 0) =
                                          true →
                                        SpecP Tryd.prog G 15
                                          [AV.agg [AV.int IntKind.u8 k, AV.int IntKind.i64 c],
                                            AV.agg
                                              [AV.int IntKind.i64 (rfPX k c x y), AV.int IntKind.i64 (rfPY k c x y)]]
                                          (AV.int IntKind.i64 (sideI k c (rfPX k c x y) (rfPY k c x y))) []) ∧
                                      ((true && sideI k c x y == 1 && (true && sideI k c x y == 1) && true &&
                                              !rfE k c x y != 0) =
                                            true →
                                          (true && sideI k c x y == 1 && (true && sideI k c x y == 1) && true &&
                                              !rfE k c x y != 0) =
                                            true) ∧
                                        ((true && sideI k c x y == 1 && (true && sideI k c x y == 1) && true &&
                                                !rfE k c x y != 0) =
                                              true →
                                            true = true) ∧
                                          ((true && sideI k c x y == 1 && (true && sideI k c x y == 1) && true &&
                                                  !rfE k c x y != 0) =
                                                true →
                                              (true && sideI k c x y == 1 && (true && sideI k c x y == 1) && true &&
                                                  !rfE k c x y != 0) =
                                                true) ∧
                                            ((true && sideI k c x y == 1 && (true && sideI k c x y == 1) && true &&
                                                    !rfE k c x y != 0) =
                                                  true →
                                                (true && sideI k c x y == 1 && (true && sideI k c x y == 1) && true &&
                                                    !rfE k c x y != 0) =
                                                  true) ∧
                                              ((true && sideI k c x y == 1) = true →
                                                  (true && sideI k c x y == 1 && (true && sideI k c x y == 1) && true) =
                                                    true) ∧
                                                ((true && sideI k c x y == 1) = true →
                                                    (bif rfE k c x y != 0 then true
                                                      else
                                                        true && sideI k c x y == 1 && (true && sideI k c x y == 1) &&
                                                              true &&
                                                            !rfE k c x y != 0 &&
                                                          true) =
                                                      true) ∧
                                                  true = true ∧
                                                    (bif sideI k c x y == 1 then true && sideI k c x y == 1 && true
                                                        else true) =
                                                        true ∧
                                                      ((true &&
                                                              bif sideI k c x y == 1 then
                                                                bif rfE k c x y != 0 then true
                                                                else sideI k c (rfPX k c x y) (rfPY k c x y) == -1
                                                              else false) =
                                                            true →
                                                          SpecP Tryd.prog G 16 [] (AV.bool true) []) ∧
                                                        true = true ∧
                                                          (bif
                                                                  bif sideI k c x y == 1 then
                                                                    bif rfE k c x y != 0 then true
                                                                    else sideI k c (rfPX k c x y) (rfPY k c x y) == -1
                                                                  else false then
                                                                (true &&
                                                                    bif sideI k c x y == 1 then
                                                                      bif rfE k c x y != 0 then true
                                                                      else sideI k c (rfPX k c x y) (rfPY k c x y) == -1
                                                                    else false) &&
                                                                  true
                                                              else true) =
                                                              true ∧
                                                            True) ∧
                          (bif
                                  bif sideI k c x y == 1 then
                                    bif rfE k c x y != 0 then true else sideI k c (rfPX k c x y) (rfPY k c x y) == -1
                                  else false then
                                true
                              else false) =
                              true ∧
                            True) ∧
                    (ltb 0 (acr k x y - 2 * c) = false →
                      (true = true ∧
                          true = true ∧
                            SpecP Tryd.prog G 18
                                [AV.agg [AV.int IntKind.u8 k, AV.int IntKind.i64 c],
                                  AV.agg [AV.int IntKind.i64 x, AV.int IntKind.i64 y]]
                                (AV.tup
                                  [AV.agg [AV.int IntKind.i64 (rfPX k c x y), AV.int IntKind.i64 (rfPY k c x y)],
                                    AV.int IntKind.i64 (rfE k c x y)])
                                [] ∧
                              true = true ∧ true = true ∧ true = true ∧ True) ∧
                        (((true && sideI k c x y == -1) = true → (true && sideI k c x y == -1) = true) ∧
                            ((true && sideI k c x y == -1 && (true && sideI k c x y == -1) && true &&
                                    !rfE k c x y != 0) =
                                  true →
                                true = true) ∧
                              ((true && sideI k c x y == -1 && (true && sideI k c x y == -1) && true &&
                                      !rfE k c x y != 0) =
                                    true →
                                  true = true) ∧
                                ((true && sideI k c x y == -1 && (true && sideI k c x y == -1) && true &&
                                        !rfE k c x y != 0) =
                                      true →
                                    (true && sideI k c x y == -1 && (true && sideI k c x y == -1) && true &&
                                        !rfE k c x y != 0) =
                                      true) ∧
                                  ((true && sideI k c x y == -1 && (true && sideI k c x y == -1) && true &&
                                          !rfE k c x y != 0) =
                                        true →
                                      (true && sideI k c x y == -1 && (true && sideI k c x y == -1) && true &&
                                          !rfE k c x y != 0) =
                                        true) ∧
                                    ((true && sideI k c x y == -1 && (true && sideI k c x y == -1) && true &&
                                            !rfE k c x y != 0) =
                                          true →
                                        SpecP Tryd.prog G 15
                                          [AV.agg [AV.int IntKind.u8 k, AV.int IntKind.i64 c],
                                            AV.agg
                                              [AV.int IntKind.i64 (rfPX k c x y), AV.int IntKind.i64 (rfPY k c x y)]]
                                          (AV.int IntKind.i64 (sideI k c (rfPX k c x y) (rfPY k c x y))) []) ∧
                                      ((true && sideI k c x y == -1 && (true && sideI k c x y == -1) && true &&
                                              !rfE k c x y != 0) =
                                            true →
                                          (true && sideI k c x y == -1 && (true && sideI k c x y == -1) && true &&
                                              !rfE k c x y != 0) =
                                            true) ∧
                                        ((true && sideI k c x y == -1 && (true && sideI k c x y == -1) && true &&
                                                !rfE k c x y != 0) =
                                              true →
                                            true = true) ∧
                                          ((true && sideI k c x y == -1 && (true && sideI k c x y == -1) && true &&
                                                  !rfE k c x y != 0) =
                                                true →
                                              (true && sideI k c x y == -1 && (true && sideI k c x y == -1) && true &&
                                                  !rfE k c x y != 0) =
                                                true) ∧
                                            ((true && sideI k c x y == -1 && (true && sideI k c x y == -1) && true &&
                                                    !rfE k c x y != 0) =
                                                  true →
                                                (true && sideI k c x y == -1 && (true && sideI k c x y == -1) && true &&
                                                    !rfE k c x y != 0) =
                                                  true) ∧
                                              ((true && sideI k c x y == -1) = true →
                                                  (true && sideI k c x y == -1 && (true && sideI k c x y == -1) &&
                                                      true) =
                                                    true) ∧
                                                ((true && sideI k c x y == -1) = true →
                                                    (bif rfE k c x y != 0 then true
                                                      else
                                                        true && sideI k c x y == -1 && (true && sideI k c x y == -1) &&
                                                              true &&
                                                            !rfE k c x y != 0 &&
                                                          true) =
                                                      true) ∧
                                                  true = true ∧
                                                    (bif sideI k c x y == -1 then true && sideI k c x y == -1 && true
                                                        else true) =
                                                        true ∧
                                                      ((true &&
                                                              bif sideI k c x y == -1 then
                                                                bif rfE k c x y != 0 then true
                                                                else sideI k c (rfPX k c x y) (rfPY k c x y) == 1
                                                              else false) =
                                                            true →
                                                          SpecP Tryd.prog G 16 [] (AV.bool true) []) ∧
                                                        true = true ∧
                                                          (bif
                                                                  bif sideI k c x y == -1 then
                                                                    bif rfE k c x y != 0 then true
                                                                    else sideI k c (rfPX k c x y) (rfPY k c x y) == 1
                                                                  else false then
                                                                (true &&
                                                                    bif sideI k c x y == -1 then
                                                                      bif rfE k c x y != 0 then true
                                                                      else sideI k c (rfPX k c x y) (rfPY k c x y) == 1
                                                                    else false) &&
                                                                  true
                                                              else true) =
                                                              true ∧
                                                            True) ∧
                          (bif
                                  bif sideI k c x y == -1 then
                                    bif rfE k c x y != 0 then true else sideI k c (rfPX k c x y) (rfPY k c x y) == 1
                                  else false then
                                true
                              else false) =
                              true ∧
                            True)) ∧
              (ltb (acr k x y - 2 * c) 0 = false →
                (true = true ∧
                    true = true ∧
                      SpecP Tryd.prog G 17
                          [AV.agg [AV.int IntKind.u8 k, AV.int IntKind.i64 c],
                            AV.agg [AV.int IntKind.i64 x, AV.int IntKind.i64 y]]
                          (AV.int IntKind.i64 (acr k x y - 2 * c)) [] ∧
                        True) ∧
                  (ltb 0 (acr k x y - 2 * c) = true →
                      (true = true ∧
                          true = true ∧
                            SpecP Tryd.prog G 18
                                [AV.agg [AV.int IntKind.u8 k, AV.int IntKind.i64 c],
                                  AV.agg [AV.int IntKind.i64 x, AV.int IntKind.i64 y]]
                                (AV.tup
                                  [AV.agg [AV.int IntKind.i64 (rfPX k c x y), AV.int IntKind.i64 (rfPY k c x y)],
                                    AV.int IntKind.i64 (rfE k c x y)])
                                [] ∧
                              true = true ∧ true = true ∧ true = true ∧ True) ∧
                        (((true && sideI k c x y == 1) = true → (true && sideI k c x y == 1) = true) ∧
                            ((true && sideI k c x y == 1 && (true && sideI k c x y == 1) && true && !rfE k c x y != 0) =
                                  true →
                                true = true) ∧
                              ((true && sideI k c x y == 1 && (true && sideI k c x y == 1) && true &&
                                      !rfE k c x y != 0) =
                                    true →
                                  true = true) ∧
                                ((true && sideI k c x y == 1 && (true && sideI k c x y == 1) && true &&
                                        !rfE k c x y != 0) =
                                      true →
                                    (true && sideI k c x y == 1 && (true && sideI k c x y == 1) && true &&
                                        !rfE k c x y != 0) =
                                      true) ∧
                                  ((true && sideI k c x y == 1 && (true && sideI k c x y == 1) && true &&
                                          !rfE k c x y != 0) =
                                        true →
                                      (true && sideI k c x y == 1 && (true && sideI k c x y == 1) && true &&
                                          !rfE k c x y != 0) =
                                        true) ∧
                                    ((true && sideI k c x y == 1 && (true && sideI k c x y == 1) && true &&
                                            !rfE k c x y != 0) =
                                          true →
                                        SpecP Tryd.prog G 15
                                          [AV.agg [AV.int IntKind.u8 k, AV.int IntKind.i64 c],
                                            AV.agg
                                              [AV.int IntKind.i64 (rfPX k c x y), AV.int IntKind.i64 (rfPY k c x y)]]
                                          (AV.int IntKind.i64 (sideI k c (rfPX k c x y) (rfPY k c x y))) []) ∧
                                      ((true && sideI k c x y == 1 && (true && sideI k c x y == 1) && true &&
                                              !rfE k c x y != 0) =
                                            true →
                                          (true && sideI k c x y == 1 && (true && sideI k c x y == 1) && true &&
                                              !rfE k c x y != 0) =
                                            true) ∧
                                        ((true && sideI k c x y == 1 && (true && sideI k c x y == 1) && true &&
                                                !rfE k c x y != 0) =
                                              true →
                                            true = true) ∧
                                          ((true && sideI k c x y == 1 && (true && sideI k c x y == 1) && true &&
                                                  !rfE k c x y != 0) =
                                                true →
                                              (true && sideI k c x y == 1 && (true && sideI k c x y == 1) && true &&
                                                  !rfE k c x y != 0) =
                                                true) ∧
                                            ((true && sideI k c x y == 1 && (true && sideI k c x y == 1) && true &&
                                                    !rfE k c x y != 0) =
                                                  true →
                                                (true && sideI k c x y == 1 && (true && sideI k c x y == 1) && true &&
                                                    !rfE k c x y != 0) =
                                                  true) ∧
                                              ((true && sideI k c x y == 1) = true →
                                                  (true && sideI k c x y == 1 && (true && sideI k c x y == 1) && true) =
                                                    true) ∧
                                                ((true && sideI k c x y == 1) = true →
                                                    (bif rfE k c x y != 0 then true
                                                      else
                                                        true && sideI k c x y == 1 && (true && sideI k c x y == 1) &&
                                                              true &&
                                                            !rfE k c x y != 0 &&
                                                          true) =
                                                      true) ∧
                                                  true = true ∧
                                                    (bif sideI k c x y == 1 then true && sideI k c x y == 1 && true
                                                        else true) =
                                                        true ∧
                                                      ((true &&
                                                              bif sideI k c x y == 1 then
                                                                bif rfE k c x y != 0 then true
                                                                else sideI k c (rfPX k c x y) (rfPY k c x y) == -1
                                                              else false) =
                                                            true →
                                                          SpecP Tryd.prog G 16 [] (AV.bool true) []) ∧
                                                        true = true ∧
                                                          (bif
                                                                  bif sideI k c x y == 1 then
                                                                    bif rfE k c x y != 0 then true
                                                                    else sideI k c (rfPX k c x y) (rfPY k c x y) == -1
                                                                  else false then
                                                                (true &&
                                                                    bif sideI k c x y == 1 then
                                                                      bif rfE k c x y != 0 then true
                                                                      else sideI k c (rfPX k c x y) (rfPY k c x y) == -1
                                                                    else false) &&
                                                                  true
                                                              else true) =
                                                              true ∧
                                                            True) ∧
                          (bif
                                  bif sideI k c x y == 1 then
                                    bif rfE k c x y != 0 then true else sideI k c (rfPX k c x y) (rfPY k c x y) == -1
                                  else false then
                                true
                              else false) =
                              true ∧
                            True) ∧
                    (ltb 0 (acr k x y - 2 * c) = false →
                      (true = true ∧
                          true = true ∧
                            SpecP Tryd.prog G 18
                                [AV.agg [AV.int IntKind.u8 k, AV.int IntKind.i64 c],
                                  AV.agg [AV.int IntKind.i64 x, AV.int IntKind.i64 y]]
                                (AV.tup
                                  [AV.agg [AV.int IntKind.i64 (rfPX k c x y), AV.int IntKind.i64 (rfPY k c x y)],
                                    AV.int IntKind.i64 (rfE k c x y)])
                                [] ∧
                              true = true ∧ true = true ∧ true = true ∧ True) ∧
                        (((true && sideI k c x y == 0) = true → (true && sideI k c x y == 0) = true) ∧
                            ((true && sideI k c x y == 0 && (true && sideI k c x y == 0) && true && !rfE k c x y != 0) =
                                  true →
                                true = true) ∧
                              ((true && sideI k c x y == 0 && (true && sideI k c x y == 0) && true &&
                                      !rfE k c x y != 0) =
                                    true →
                                  true = true) ∧
                                ((true && sideI k c x y == 0 && (true && sideI k c x y == 0) && true &&
                                        !rfE k c x y != 0) =
                                      true →
                                    (true && sideI k c x y == 0 && (true && sideI k c x y == 0) && true &&
                                        !rfE k c x y != 0) =
                                      true) ∧
                                  ((true && sideI k c x y == 0 && (true && sideI k c x y == 0) && true &&
                                          !rfE k c x y != 0) =
                                        true →
                                      (true && sideI k c x y == 0 && (true && sideI k c x y == 0) && true &&
                                          !rfE k c x y != 0) =
                                        true) ∧
                                    ((true && sideI k c x y == 0 && (true && sideI k c x y == 0) && true &&
                                            !rfE k c x y != 0) =
                                          true →
                                        SpecP Tryd.prog G 15
                                          [AV.agg [AV.int IntKind.u8 k, AV.int IntKind.i64 c],
                                            AV.agg
                                              [AV.int IntKind.i64 (rfPX k c x y), AV.int IntKind.i64 (rfPY k c x y)]]
                                          (AV.int IntKind.i64 (sideI k c (rfPX k c x y) (rfPY k c x y))) []) ∧
                                      ((true && sideI k c x y == 0 && (true && sideI k c x y == 0) && true &&
                                              !rfE k c x y != 0) =
                                            true →
                                          (true && sideI k c x y == 0 && (true && sideI k c x y == 0) && true &&
                                              !rfE k c x y != 0) =
                                            true) ∧
                                        ((true && sideI k c x y == 0 && (true && sideI k c x y == 0) && true &&
                                                !rfE k c x y != 0) =
                                              true →
                                            true = true) ∧
                                          ((true && sideI k c x y == 0 && (true && sideI k c x y == 0) && true &&
                                                  !rfE k c x y != 0) =
                                                true →
                                              (true && sideI k c x y == 0 && (true && sideI k c x y == 0) && true &&
                                                  !rfE k c x y != 0) =
                                                true) ∧
                                            ((true && sideI k c x y == 0 && (true && sideI k c x y == 0) && true &&
                                                    !rfE k c x y != 0) =
                                                  true →
                                                (true && sideI k c x y == 0 && (true && sideI k c x y == 0) && true &&
                                                    !rfE k c x y != 0) =
                                                  true) ∧
                                              ((true && sideI k c x y == 0) = true →
                                                  (true && sideI k c x y == 0 && (true && sideI k c x y == 0) && true) =
                                                    true) ∧
                                                ((true && sideI k c x y == 0) = true →
                                                    (bif rfE k c x y != 0 then true
                                                      else
                                                        true && sideI k c x y == 0 && (true && sideI k c x y == 0) &&
                                                              true &&
                                                            !rfE k c x y != 0 &&
                                                          true) =
                                                      true) ∧
                                                  true = true ∧
                                                    (bif sideI k c x y == 0 then true && sideI k c x y == 0 && true
                                                        else true) =
                                                        true ∧
                                                      ((true &&
                                                              bif sideI k c x y == 0 then
                                                                bif rfE k c x y != 0 then true
                                                                else sideI k c (rfPX k c x y) (rfPY k c x y) == 0
                                                              else false) =
                                                            true →
                                                          SpecP Tryd.prog G 16 [] (AV.bool true) []) ∧
                                                        true = true ∧
                                                          (bif
                                                                  bif sideI k c x y == 0 then
                                                                    bif rfE k c x y != 0 then true
                                                                    else sideI k c (rfPX k c x y) (rfPY k c x y) == 0
                                                                  else false then
                                                                (true &&
                                                                    bif sideI k c x y == 0 then
                                                                      bif rfE k c x y != 0 then true
                                                                      else sideI k c (rfPX k c x y) (rfPY k c x y) == 0
                                                                    else false) &&
                                                                  true
                                                              else true) =
                                                              true ∧
                                                            True) ∧
                          (bif
                                  bif sideI k c x y == 0 then
                                    bif rfE k c x y != 0 then true else sideI k c (rfPX k c x y) (rfPY k c x y) == 0
                                  else false then
                                true
                              else false) =
                              true ∧
                            True))) := by kernel_rfl

theorem ob_o3ktf (k c x y : Int) : fnOb Tryd.prog G (dd3 true false) 10000 fe3 (.lit (.lit (.r [my (dd3 true false) 515] .nil))) ([.agg [.int .u8 k, .int .i64 c], .agg [.int .i64 x, .int .i64 y]]) ([.bool true]) ([]) = some (
(true = true ∧
    SpecP Tryd.prog G 11 [AV.agg [AV.int IntKind.u8 k, AV.int IntKind.i64 c]] (AV.int IntKind.i64 1) [] ∧ True) ∧
  (true = true ∧
      SpecP Tryd.prog G 12 [AV.agg [AV.int IntKind.i64 x, AV.int IntKind.i64 y]] (AV.int IntKind.i64 0) [] ∧ True) ∧
    (true = true ∧
        SpecP Tryd.prog G 13 [AV.agg [AV.int IntKind.u8 k, AV.int IntKind.i64 c]] (AV.int IntKind.i64 0) [] ∧
          true = true ∧
            true = true ∧
              true = true ∧
                true = true ∧
                  true = true ∧
                    SpecP Tryd.prog G 14 [AV.agg [AV.int IntKind.i64 x, AV.int IntKind.i64 y]] (AV.int IntKind.i64 1)
                        [] ∧
                      true = true ∧
                        true = true ∧
                          true = true ∧
                            SpecP Tryd.prog G 14 [AV.agg [AV.int IntKind.i64 x, AV.int IntKind.i64 y]]
                                (AV.int IntKind.i64 1) [] ∧
                              true = true ∧ true = true ∧ true = true ∧ true = true ∧ True) ∧
      (true = true ∧
          true = true ∧
            SpecP Tryd.prog G 15
                [AV.agg [AV.int IntKind.u8 k, AV.int IntKind.i64 c],
                  AV.agg [AV.int IntKind.i64 x, AV.int IntKind.i64 y]]
                (AV.int IntKind.i64 (sideI k c x y)) [] ∧
              True) ∧
        (true = true ∧ true = true ∧ True) ∧
          (((true && sideI k c x y == 0) = true → SpecP Tryd.prog G 16 [] (AV.bool true) []) ∧
              true = true ∧ (bif sideI k c x y == 0 then true && sideI k c x y == 0 && true else true) = true ∧ True) ∧
            (bif sideI k c x y == 0 then true else false) = true ∧ True) := by kernel_rfl

theorem ob_o3kft (k c x y : Int) : fnOb Tryd.prog G (dd3 false true) 10000 fe3 (.lit (.lit (.r [my (dd3 false true) 515] .nil))) ([.agg [.int .u8 k, .int .i64 c], .agg [.int .i64 x, .int .i64 y]]) ([.bool true]) ([]) = some (
(true = true ∧
    SpecP Tryd.prog G 11 [AV.agg [AV.int IntKind.u8 k, AV.int IntKind.i64 c]] (AV.int IntKind.i64 0) [] ∧ True) ∧
  (true = true ∧
      SpecP Tryd.prog G 12 [AV.agg [AV.int IntKind.i64 x, AV.int IntKind.i64 y]] (AV.int IntKind.i64 1) [] ∧ True) ∧
    (true = true ∧
        SpecP Tryd.prog G 13 [AV.agg [AV.int IntKind.u8 k, AV.int IntKind.i64 c]] (AV.int IntKind.i64 1) [] ∧
          true = true ∧
            SpecP Tryd.prog G 13 [AV.agg [AV.int IntKind.u8 k, AV.int IntKind.i64 c]] (AV.int IntKind.i64 1) [] ∧
              true = true ∧
                true = true ∧
                  true = true ∧
                    true = true ∧
                      true = true ∧
                        SpecP Tryd.prog G 14 [AV.agg [AV.int IntKind.i64 x, AV.int IntKind.i64 y]]
                            (AV.int IntKind.i64 0) [] ∧
                          true = true ∧ true = true ∧ true = true ∧ true = true ∧ true = true ∧ true = true ∧ True) ∧
      (true = true ∧
          true = true ∧
            SpecP Tryd.prog G 15
                [AV.agg [AV.int IntKind.u8 k, AV.int IntKind.i64 c],
                  AV.agg [AV.int IntKind.i64 x, AV.int IntKind.i64 y]]
                (AV.int IntKind.i64 (sideI k c x y)) [] ∧
              True) ∧
        (true = true ∧ true = true ∧ True) ∧
          (((true && sideI k c x y == 0) = true → SpecP Tryd.prog G 16 [] (AV.bool true) []) ∧
              true = true ∧ (bif sideI k c x y == 0 then true && sideI k c x y == 0 && true else true) = true ∧ True) ∧
            (bif sideI k c x y == 0 then true else false) = true ∧ True) := by kernel_rfl

theorem ob_o3kff (k c x y : Int) : fnOb Tryd.prog G (dd3 false false) 10000 fe3 (.lit (.lit (.r [my (dd3 false false) 515] .nil))) ([.agg [.int .u8 k, .int .i64 c], .agg [.int .i64 x, .int .i64 y]]) ([.bool true]) ([]) = some (
(true = true ∧
    SpecP Tryd.prog G 11 [AV.agg [AV.int IntKind.u8 k, AV.int IntKind.i64 c]] (AV.int IntKind.i64 0) [] ∧ True) ∧
  (true = true ∧
      SpecP Tryd.prog G 12 [AV.agg [AV.int IntKind.i64 x, AV.int IntKind.i64 y]] (AV.int IntKind.i64 0) [] ∧ True) ∧
    (true = true ∧
        SpecP Tryd.prog G 13 [AV.agg [AV.int IntKind.u8 k, AV.int IntKind.i64 c]] (AV.int IntKind.i64 1) [] ∧
          true = true ∧
            SpecP Tryd.prog G 13 [AV.agg [AV.int IntKind.u8 k, AV.int IntKind.i64 c]] (AV.int IntKind.i64 1) [] ∧
              true = true ∧
                true = true ∧
                  true = true ∧
                    true = true ∧
                      true = true ∧
                        SpecP Tryd.prog G 14 [AV.agg [AV.int IntKind.i64 x, AV.int IntKind.i64 y]]
                            (AV.int IntKind.i64 1) [] ∧
                          true = true ∧
                            true = true ∧
                              true = true ∧
                                SpecP Tryd.prog G 14 [AV.agg [AV.int IntKind.i64 x, AV.int IntKind.i64 y]]
                                    (AV.int IntKind.i64 1) [] ∧
                                  true = true ∧ true = true ∧ true = true ∧ true = true ∧ True) ∧
      (true = true ∧
          true = true ∧
            SpecP Tryd.prog G 15
                [AV.agg [AV.int IntKind.u8 k, AV.int IntKind.i64 c],
                  AV.agg [AV.int IntKind.i64 x, AV.int IntKind.i64 y]]
                (AV.int IntKind.i64 (sideI k c x y)) [] ∧
              True) ∧
        (true = true ∧ true = true ∧ True) ∧
          (((true && sideI k c x y == 0) = true → SpecP Tryd.prog G 16 [] (AV.bool true) []) ∧
              true = true ∧ (bif sideI k c x y == 0 then true && sideI k c x y == 0 && true else true) = true ∧ True) ∧
            (bif sideI k c x y == 0 then true else false) = true ∧ True) := by kernel_rfl

end Go.Proofs.YteghjimhlpbpkaaDoor.X
