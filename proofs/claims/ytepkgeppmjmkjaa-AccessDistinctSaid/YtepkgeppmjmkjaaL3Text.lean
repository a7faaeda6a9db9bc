/-
  The text of each function of this seat, as the plain library tells it; each by the kernel's own reckoning from the program.
-/
import Derived.Test.YtepkgeppmjmkjaaL3TextA
set_option linter.unusedVariables false
set_option maxRecDepth 100000
namespace Go.Proofs.Ytepkgeppmjmkjaa
open Go Go.Pb
def ac71_G1 : List AOper :=
  [⟨(some 34), .move (.tmp 0), (some (33, true)), false⟩,
    ⟨(some 35), .move (.tmp 10), (some (33, true)), false⟩,
    ⟨(some 36), .iaddr 1 (.tmp 34) (.tmp 35), (some (33, true)), false⟩,
    ⟨(some 37), .load 1 false (.tmp 36), (some (33, true)), false⟩,
    ⟨(some 38), .move (.tmp 0), (some (33, true)), false⟩,
    ⟨(some 39), .move (.tmp 1), (some (33, true)), false⟩,
    ⟨(some 40), .iaddr 1 (.tmp 38) (.tmp 39), (some (33, true)), false⟩,
    ⟨(some 41), .load 1 false (.tmp 40), (some (33, true)), false⟩,
    ⟨(some 42), .call (.func 69) [(.tmp 37), (.tmp 41)], (some (33, true)), false⟩,
    ⟨(some 43), .pick (.tmp 33) (.tmp 42) (.const (.bool false)), none, false⟩]
def ac71_L1 : AC :=
  .seq (.seq (.region true (⟨(some 30), .move (.tmp 10), none, false⟩ :: ⟨(some 31), .move (.tmp 11), none, false⟩ :: ⟨(some 32), .bin .leq 3 (.tmp 30) (.tmp 31), none, false⟩ :: ⟨(some 33), .move (.tmp 32), none, false⟩ :: (ac71_G1 ++ [])))
      (.cond (.tmp 43)
        (.skip)
        (.exit 0)))
    (.block 1 (.region false [⟨(some 44), .move (.tmp 10), none, false⟩,
          ⟨(some 45), .bin .add 3 (.tmp 44) (.const (.int .i64 1)), none, false⟩,
          ⟨(some 10), .move (.tmp 45), none, false⟩]))
def ac71_G2 : List AOper :=
  [⟨(some 50), .move (.tmp 0), (some (49, true)), false⟩,
    ⟨(some 51), .move (.tmp 11), (some (49, true)), false⟩,
    ⟨(some 52), .iaddr 1 (.tmp 50) (.tmp 51), (some (49, true)), false⟩,
    ⟨(some 53), .load 1 false (.tmp 52), (some (49, true)), false⟩,
    ⟨(some 54), .move (.tmp 0), (some (49, true)), false⟩,
    ⟨(some 55), .move (.tmp 1), (some (49, true)), false⟩,
    ⟨(some 56), .iaddr 1 (.tmp 54) (.tmp 55), (some (49, true)), false⟩,
    ⟨(some 57), .load 1 false (.tmp 56), (some (49, true)), false⟩,
    ⟨(some 58), .call (.func 69) [(.tmp 53), (.tmp 57)], (some (49, true)), false⟩,
    ⟨(some 59), .un .not (.tmp 58), (some (49, true)), false⟩,
    ⟨(some 60), .pick (.tmp 49) (.tmp 59) (.const (.bool false)), none, false⟩]
def ac71_L2 : AC :=
  .seq (.seq (.region true (⟨(some 46), .move (.tmp 10), none, false⟩ :: ⟨(some 47), .move (.tmp 11), none, false⟩ :: ⟨(some 48), .bin .leq 3 (.tmp 46) (.tmp 47), none, false⟩ :: ⟨(some 49), .move (.tmp 48), none, false⟩ :: (ac71_G2 ++ [])))
      (.cond (.tmp 60)
        (.skip)
        (.exit 2)))
    (.block 3 (.region false [⟨(some 61), .move (.tmp 11), none, false⟩,
          ⟨(some 62), .bin .sub 3 (.tmp 61) (.const (.int .i64 1)), none, false⟩,
          ⟨(some 11), .move (.tmp 62), none, false⟩]))
def ac71_G3 : List AOper :=
  [⟨(some 103), .move (.tmp 0), (some (102, true)), false⟩,
    ⟨(some 104), .move (.tmp 10), (some (102, true)), false⟩,
    ⟨(some 105), .iaddr 1 (.tmp 103) (.tmp 104), (some (102, true)), false⟩,
    ⟨(some 106), .load 1 false (.tmp 105), (some (102, true)), false⟩,
    ⟨(some 107), .move (.tmp 0), (some (102, true)), false⟩,
    ⟨(some 108), .move (.tmp 1), (some (102, true)), false⟩,
    ⟨(some 109), .iaddr 1 (.tmp 107) (.tmp 108), (some (102, true)), false⟩,
    ⟨(some 110), .load 1 false (.tmp 109), (some (102, true)), false⟩,
    ⟨(some 111), .call (.func 69) [(.tmp 106), (.tmp 110)], (some (102, true)), false⟩,
    ⟨(some 112), .pick (.tmp 102) (.tmp 111) (.const (.bool false)), none, false⟩]
def ac71_L4 : AC :=
  .seq (.seq (.region true (⟨(some 99), .move (.tmp 10), none, false⟩ :: ⟨(some 100), .move (.tmp 11), none, false⟩ :: ⟨(some 101), .bin .leq 3 (.tmp 99) (.tmp 100), none, false⟩ :: ⟨(some 102), .move (.tmp 101), none, false⟩ :: (ac71_G3 ++ [])))
      (.cond (.tmp 112)
        (.skip)
        (.exit 6)))
    (.block 7 (.region false [⟨(some 113), .move (.tmp 10), none, false⟩,
          ⟨(some 114), .bin .add 3 (.tmp 113) (.const (.int .i64 1)), none, false⟩,
          ⟨(some 10), .move (.tmp 114), none, false⟩]))
def ac71_G4 : List AOper :=
  [⟨(some 119), .move (.tmp 0), (some (118, true)), false⟩,
    ⟨(some 120), .move (.tmp 11), (some (118, true)), false⟩,
    ⟨(some 121), .iaddr 1 (.tmp 119) (.tmp 120), (some (118, true)), false⟩,
    ⟨(some 122), .load 1 false (.tmp 121), (some (118, true)), false⟩,
    ⟨(some 123), .move (.tmp 0), (some (118, true)), false⟩,
    ⟨(some 124), .move (.tmp 1), (some (118, true)), false⟩,
    ⟨(some 125), .iaddr 1 (.tmp 123) (.tmp 124), (some (118, true)), false⟩,
    ⟨(some 126), .load 1 false (.tmp 125), (some (118, true)), false⟩,
    ⟨(some 127), .call (.func 69) [(.tmp 122), (.tmp 126)], (some (118, true)), false⟩,
    ⟨(some 128), .un .not (.tmp 127), (some (118, true)), false⟩,
    ⟨(some 129), .pick (.tmp 118) (.tmp 128) (.const (.bool false)), none, false⟩]
def ac71_L5 : AC :=
  .seq (.seq (.region true (⟨(some 115), .move (.tmp 10), none, false⟩ :: ⟨(some 116), .move (.tmp 11), none, false⟩ :: ⟨(some 117), .bin .leq 3 (.tmp 115) (.tmp 116), none, false⟩ :: ⟨(some 118), .move (.tmp 117), none, false⟩ :: (ac71_G4 ++ [])))
      (.cond (.tmp 129)
        (.skip)
        (.exit 8)))
    (.block 9 (.region false [⟨(some 130), .move (.tmp 11), none, false⟩,
          ⟨(some 131), .bin .sub 3 (.tmp 130) (.const (.int .i64 1)), none, false⟩,
          ⟨(some 11), .move (.tmp 131), none, false⟩]))
def ac71_L3 : AC :=
  .block 5 (.seq (.block 6 (.loop ac71_L4))
      (.seq (.block 8 (.loop ac71_L5))
        (.seq (.seq (.region false [⟨(some 132), .move (.tmp 10), none, false⟩,
                ⟨(some 133), .move (.tmp 11), none, false⟩,
                ⟨(some 134), .bin .gtr 3 (.tmp 132) (.tmp 133), none, false⟩])
            (.cond (.tmp 134)
              (.exit 4)
              (.skip)))
          (.seq (.region true [⟨(some 135), .move (.tmp 0), none, false⟩,
                ⟨(some 136), .move (.tmp 10), none, false⟩,
                ⟨(some 137), .move (.tmp 0), none, true⟩,
                ⟨(some 138), .move (.tmp 11), none, true⟩,
                ⟨(some 139), .move (.tmp 0), none, false⟩,
                ⟨(some 140), .move (.tmp 11), none, false⟩,
                ⟨(some 141), .iaddr 1 (.tmp 139) (.tmp 140), none, false⟩,
                ⟨(some 142), .load 1 false (.tmp 141), none, false⟩,
                ⟨(some 143), .move (.tmp 0), none, false⟩,
                ⟨(some 144), .move (.tmp 10), none, false⟩,
                ⟨(some 145), .iaddr 1 (.tmp 143) (.tmp 144), none, false⟩,
                ⟨(some 146), .load 1 false (.tmp 145), none, false⟩,
                ⟨(some 147), .iaddr 1 (.tmp 135) (.tmp 136), none, false⟩,
                ⟨none, .store 1 (.tmp 147) (.tmp 142), none, false⟩,
                ⟨(some 148), .iaddr 1 (.tmp 137) (.tmp 138), none, false⟩,
                ⟨none, .store 1 (.tmp 148) (.tmp 146), none, false⟩])
            (.seq (.region false [⟨(some 149), .move (.tmp 10), none, false⟩,
                  ⟨(some 150), .bin .add 3 (.tmp 149) (.const (.int .i64 1)), none, false⟩,
                  ⟨(some 10), .move (.tmp 150), none, false⟩])
              (.region false [⟨(some 151), .move (.tmp 11), none, false⟩,
                  ⟨(some 152), .bin .sub 3 (.tmp 151) (.const (.int .i64 1)), none, false⟩,
                  ⟨(some 11), .move (.tmp 152), none, false⟩]))))))
/-- slices.partitionOrdered[int] -/
def ac71 : AC :=
  .seq (.region false [⟨(some 8), .move (.const (.int .i64 0)), none, false⟩,
        ⟨(some 9), .move (.const (.bool false)), none, false⟩])
    (.seq (.region true [⟨(some 12), .move (.tmp 0), none, false⟩,
          ⟨(some 13), .move (.tmp 1), none, false⟩,
          ⟨(some 14), .move (.tmp 0), none, true⟩,
          ⟨(some 15), .move (.tmp 3), none, true⟩,
          ⟨(some 16), .move (.tmp 0), none, false⟩,
          ⟨(some 17), .move (.tmp 3), none, false⟩,
          ⟨(some 18), .iaddr 1 (.tmp 16) (.tmp 17), none, false⟩,
          ⟨(some 19), .load 1 false (.tmp 18), none, false⟩,
          ⟨(some 20), .move (.tmp 0), none, false⟩,
          ⟨(some 21), .move (.tmp 1), none, false⟩,
          ⟨(some 22), .iaddr 1 (.tmp 20) (.tmp 21), none, false⟩,
          ⟨(some 23), .load 1 false (.tmp 22), none, false⟩,
          ⟨(some 24), .iaddr 1 (.tmp 12) (.tmp 13), none, false⟩,
          ⟨none, .store 1 (.tmp 24) (.tmp 19), none, false⟩,
          ⟨(some 25), .iaddr 1 (.tmp 14) (.tmp 15), none, false⟩,
          ⟨none, .store 1 (.tmp 25) (.tmp 23), none, false⟩])
      (.seq (.region false [⟨(some 26), .move (.tmp 1), none, false⟩,
            ⟨(some 27), .bin .add 3 (.tmp 26) (.const (.int .i64 1)), none, false⟩,
            ⟨(some 28), .move (.tmp 2), none, false⟩,
            ⟨(some 29), .bin .sub 3 (.tmp 28) (.const (.int .i64 1)), none, false⟩,
            ⟨(some 10), .move (.tmp 27), none, false⟩,
            ⟨(some 11), .move (.tmp 29), none, false⟩])
        (.seq (.block 0 (.loop ac71_L1))
          (.seq (.block 2 (.loop ac71_L2))
            (.seq (.seq (.region false [⟨(some 63), .move (.tmp 10), none, false⟩,
                    ⟨(some 64), .move (.tmp 11), none, false⟩,
                    ⟨(some 65), .bin .gtr 3 (.tmp 63) (.tmp 64), none, false⟩])
                (.cond (.tmp 65)
                  (.seq (.region true [⟨(some 66), .move (.tmp 0), none, false⟩,
                        ⟨(some 67), .move (.tmp 11), none, false⟩,
                        ⟨(some 68), .move (.tmp 0), none, true⟩,
                        ⟨(some 69), .move (.tmp 1), none, true⟩,
                        ⟨(some 70), .move (.tmp 0), none, false⟩,
                        ⟨(some 71), .move (.tmp 1), none, false⟩,
                        ⟨(some 72), .iaddr 1 (.tmp 70) (.tmp 71), none, false⟩,
                        ⟨(some 73), .load 1 false (.tmp 72), none, false⟩,
                        ⟨(some 74), .move (.tmp 0), none, false⟩,
                        ⟨(some 75), .move (.tmp 11), none, false⟩,
                        ⟨(some 76), .iaddr 1 (.tmp 74) (.tmp 75), none, false⟩,
                        ⟨(some 77), .load 1 false (.tmp 76), none, false⟩,
                        ⟨(some 78), .iaddr 1 (.tmp 66) (.tmp 67), none, false⟩,
                        ⟨none, .store 1 (.tmp 78) (.tmp 73), none, false⟩,
                        ⟨(some 79), .iaddr 1 (.tmp 68) (.tmp 69), none, false⟩,
                        ⟨none, .store 1 (.tmp 79) (.tmp 77), none, false⟩])
                    (.seq (.region false [⟨(some 80), .move (.tmp 11), none, false⟩,
                          ⟨(some 8), .move (.tmp 80), none, false⟩,
                          ⟨(some 9), .move (.const (.bool true)), none, false⟩])
                      (.ret)))
                  (.skip)))
              (.seq (.region true [⟨(some 81), .move (.tmp 0), none, false⟩,
                    ⟨(some 82), .move (.tmp 10), none, false⟩,
                    ⟨(some 83), .move (.tmp 0), none, true⟩,
                    ⟨(some 84), .move (.tmp 11), none, true⟩,
                    ⟨(some 85), .move (.tmp 0), none, false⟩,
                    ⟨(some 86), .move (.tmp 11), none, false⟩,
                    ⟨(some 87), .iaddr 1 (.tmp 85) (.tmp 86), none, false⟩,
                    ⟨(some 88), .load 1 false (.tmp 87), none, false⟩,
                    ⟨(some 89), .move (.tmp 0), none, false⟩,
                    ⟨(some 90), .move (.tmp 10), none, false⟩,
                    ⟨(some 91), .iaddr 1 (.tmp 89) (.tmp 90), none, false⟩,
                    ⟨(some 92), .load 1 false (.tmp 91), none, false⟩,
                    ⟨(some 93), .iaddr 1 (.tmp 81) (.tmp 82), none, false⟩,
                    ⟨none, .store 1 (.tmp 93) (.tmp 88), none, false⟩,
                    ⟨(some 94), .iaddr 1 (.tmp 83) (.tmp 84), none, false⟩,
                    ⟨none, .store 1 (.tmp 94) (.tmp 92), none, false⟩])
                (.seq (.region false [⟨(some 95), .move (.tmp 10), none, false⟩,
                      ⟨(some 96), .bin .add 3 (.tmp 95) (.const (.int .i64 1)), none, false⟩,
                      ⟨(some 10), .move (.tmp 96), none, false⟩])
                  (.seq (.region false [⟨(some 97), .move (.tmp 11), none, false⟩,
                        ⟨(some 98), .bin .sub 3 (.tmp 97) (.const (.int .i64 1)), none, false⟩,
                        ⟨(some 11), .move (.tmp 98), none, false⟩])
                    (.seq (.block 4 (.loop ac71_L3))
                      (.seq (.region true [⟨(some 153), .move (.tmp 0), none, false⟩,
                            ⟨(some 154), .move (.tmp 11), none, false⟩,
                            ⟨(some 155), .move (.tmp 0), none, true⟩,
                            ⟨(some 156), .move (.tmp 1), none, true⟩,
                            ⟨(some 157), .move (.tmp 0), none, false⟩,
                            ⟨(some 158), .move (.tmp 1), none, false⟩,
                            ⟨(some 159), .iaddr 1 (.tmp 157) (.tmp 158), none, false⟩,
                            ⟨(some 160), .load 1 false (.tmp 159), none, false⟩,
                            ⟨(some 161), .move (.tmp 0), none, false⟩,
                            ⟨(some 162), .move (.tmp 11), none, false⟩,
                            ⟨(some 163), .iaddr 1 (.tmp 161) (.tmp 162), none, false⟩,
                            ⟨(some 164), .load 1 false (.tmp 163), none, false⟩,
                            ⟨(some 165), .iaddr 1 (.tmp 153) (.tmp 154), none, false⟩,
                            ⟨none, .store 1 (.tmp 165) (.tmp 160), none, false⟩,
                            ⟨(some 166), .iaddr 1 (.tmp 155) (.tmp 156), none, false⟩,
                            ⟨none, .store 1 (.tmp 166) (.tmp 164), none, false⟩])
                        (.seq (.region false [⟨(some 167), .move (.tmp 11), none, false⟩,
                              ⟨(some 8), .move (.tmp 167), none, false⟩,
                              ⟨(some 9), .move (.const (.bool false)), none, false⟩])
                          (.ret))))))))))))
theorem text71 : FnText Try.prog 71 [] 168 4 ac71 [(8, none), (9, none)] :=
  ⟨Try.call71, follows, Try.f71, _, Try.func71, rfl, rfl, by decide, by kernel_rfl, by kernel_rfl⟩

def ac41_L2 : AC :=
  .seq (.seq (.region false [⟨(some 29), .move (.tmp 5), none, false⟩,
          ⟨(some 30), .move (.tmp 4), none, false⟩,
          ⟨(some 31), .bi .len [29].toArray 3 [(.tmp 30)], none, false⟩,
          ⟨(some 32), .bin .lss 3 (.tmp 29) (.tmp 31), none, false⟩])
      (.cond (.tmp 32)
        (.skip)
        (.exit 2)))
    (.seq (.block 3 (.seq (.region true [⟨(some 35), .move (.tmp 4), none, false⟩,
              ⟨(some 36), .move (.tmp 5), none, false⟩,
              ⟨(some 37), .iaddr 1 (.tmp 35) (.tmp 36), none, false⟩,
              ⟨(some 38), .load 1 false (.tmp 37), none, false⟩,
              ⟨(some 39), .move (.tmp 4), none, false⟩,
              ⟨(some 40), .move (.tmp 5), none, false⟩,
              ⟨(some 41), .bin .sub 3 (.tmp 40) (.const (.int .i64 1)), none, false⟩,
              ⟨(some 42), .iaddr 1 (.tmp 39) (.tmp 41), none, false⟩,
              ⟨(some 43), .load 1 false (.tmp 42), none, false⟩,
              ⟨(some 44), .bin .neq 3 (.tmp 38) (.tmp 43), none, false⟩])
          (.cond (.tmp 44)
            (.seq (.region false [⟨(some 45), .move (.tmp 0), none, false⟩,
                  ⟨(some 46), .move (.tmp 3), none, false⟩,
                  ⟨(some 47), .move (.tmp 4), none, false⟩,
                  ⟨(some 48), .move (.tmp 5), none, false⟩,
                  ⟨(some 49), .iaddr 1 (.tmp 47) (.tmp 48), none, false⟩,
                  ⟨(some 50), .load 1 false (.tmp 49), none, false⟩,
                  ⟨(some 51), .iaddr 1 (.tmp 45) (.tmp 46), none, false⟩,
                  ⟨none, .store 1 (.tmp 51) (.tmp 50), none, false⟩])
              (.region false [⟨(some 52), .move (.tmp 3), none, false⟩,
                  ⟨(some 53), .bin .add 3 (.tmp 52) (.const (.int .i64 1)), none, false⟩,
                  ⟨(some 3), .move (.tmp 53), none, false⟩]))
            (.skip))))
      (.region false [⟨(some 33), .move (.tmp 5), none, false⟩,
          ⟨(some 34), .bin .add 3 (.tmp 33) (.const (.int .i64 1)), none, false⟩,
          ⟨(some 5), .move (.tmp 34), none, false⟩]))
def ac41_L1 : AC :=
  .seq (.seq (.region false [⟨(some 10), .move (.tmp 3), none, false⟩,
          ⟨(some 11), .move (.tmp 0), none, false⟩,
          ⟨(some 12), .bi .len [29].toArray 3 [(.tmp 11)], none, false⟩,
          ⟨(some 13), .bin .lss 3 (.tmp 10) (.tmp 12), none, false⟩])
      (.cond (.tmp 13)
        (.skip)
        (.exit 0)))
    (.seq (.block 1 (.seq (.region true [⟨(some 16), .move (.tmp 0), none, false⟩,
              ⟨(some 17), .move (.tmp 3), none, false⟩,
              ⟨(some 18), .iaddr 1 (.tmp 16) (.tmp 17), none, false⟩,
              ⟨(some 19), .load 1 false (.tmp 18), none, false⟩,
              ⟨(some 20), .move (.tmp 0), none, false⟩,
              ⟨(some 21), .move (.tmp 3), none, false⟩,
              ⟨(some 22), .bin .sub 3 (.tmp 21) (.const (.int .i64 1)), none, false⟩,
              ⟨(some 23), .iaddr 1 (.tmp 20) (.tmp 22), none, false⟩,
              ⟨(some 24), .load 1 false (.tmp 23), none, false⟩,
              ⟨(some 25), .bin .eql 3 (.tmp 19) (.tmp 24), none, false⟩])
          (.cond (.tmp 25)
            (.seq (.region false [⟨(some 26), .move (.tmp 0), none, false⟩,
                  ⟨(some 27), .move (.tmp 3), none, false⟩,
                  ⟨(some 28), .slice 29 1 (.tmp 26) (some (.tmp 27)) none none, none, false⟩,
                  ⟨(some 4), .move (.tmp 28), none, false⟩])
              (.seq (.seq (.region false [⟨(some 5), .move (.const (.int .i64 1)), none, false⟩])
                  (.block 2 (.loop ac41_L2)))
                (.seq (.region false [⟨(some 54), .move (.tmp 0), none, false⟩,
                      ⟨(some 55), .move (.tmp 3), none, false⟩,
                      ⟨(some 56), .slice 29 1 (.tmp 54) (some (.tmp 55)) none none, none, false⟩,
                      ⟨none, .copy 0 0 0 (.const (.bool false)) (.const (.bool false)), none, false⟩])
                  (.seq (.region false [⟨(some 57), .move (.tmp 0), none, false⟩,
                        ⟨(some 58), .move (.tmp 3), none, false⟩,
                        ⟨(some 59), .slice 29 1 (.tmp 57) none (some (.tmp 58)) none, none, false⟩,
                        ⟨(some 2), .move (.tmp 59), none, false⟩])
                    (.ret)))))
            (.skip))))
      (.region false [⟨(some 14), .move (.tmp 3), none, false⟩,
          ⟨(some 15), .bin .add 3 (.tmp 14) (.const (.int .i64 1)), none, false⟩,
          ⟨(some 3), .move (.tmp 15), none, false⟩]))
/-- slices.Compact[[]int,int] -/
def ac41 : AC :=
  .seq (.region false [⟨(some 2), .move (.const (.slice none 0 0)), none, false⟩])
    (.seq (.seq (.region false [⟨(some 6), .move (.tmp 0), none, false⟩,
            ⟨(some 7), .bi .len [29].toArray 3 [(.tmp 6)], none, false⟩,
            ⟨(some 8), .bin .lss 3 (.tmp 7) (.const (.int .i64 2)), none, false⟩])
        (.cond (.tmp 8)
          (.seq (.region false [⟨(some 9), .move (.tmp 0), none, false⟩,
                ⟨(some 2), .move (.tmp 9), none, false⟩])
            (.ret))
          (.skip)))
      (.seq (.seq (.region false [⟨(some 3), .move (.const (.int .i64 1)), none, false⟩])
          (.block 0 (.loop ac41_L1)))
        (.seq (.region false [⟨(some 60), .move (.tmp 0), none, false⟩,
              ⟨(some 2), .move (.tmp 60), none, false⟩])
          (.ret))))
theorem text41 : FnText Try.prog 41 [] 61 1 ac41 [(2, none)] :=
  ⟨Try.call41, follows, Try.f41, _, Try.func41, rfl, rfl, by decide, by kernel_rfl, by kernel_rfl⟩

def ac23_L1 : AC :=
  .seq (.region false [⟨(some 19), .bin .lss 3 (.tmp 18) (.tmp 17), none, false⟩])
    (.seq (.cond (.tmp 19)
        (.skip)
        (.exit 0))
      (.seq (.block 1 (.seq (.region false [⟨(some 20), .iaddr 2 (.tmp 16) (.tmp 18), none, false⟩,
                ⟨(some 21), .load 2 true (.tmp 20), none, false⟩,
                ⟨(some 10), .alloc true 39 (.agg [(.int .i64 0), (.int .i64 0)].toArray), none, false⟩,
                ⟨none, .store 2 (.tmp 10) (.tmp 21), none, false⟩])
            (.regionT [⟨(some 22), .move (.tmp 8), none, false⟩,
                ⟨(some 23), .load 1 false (.tmp 4), none, false⟩,
                ⟨(some 24), .nilCheck (.tmp 23), none, false⟩,
                ⟨(some 25), .faddr 0 9 true (.tmp 24), none, false⟩,
                ⟨(some 26), .load 9 true (.tmp 25), none, false⟩,
                ⟨(some 27), .load 2 true (.tmp 10), none, false⟩,
                ⟨(some 28), .call (.func 7) [(.tmp 26), (.tmp 27)], none, false⟩] ⟨(some 29), .call (.tmp 22) [(.tmp 28)], none, false⟩)))
        (.region false [⟨(some 30), .bin .add 3 (.tmp 18) (.const (.int .i64 1)), none, false⟩,
            ⟨(some 18), .move (.tmp 30), none, false⟩])))
def ac23_L2 : AC :=
  .seq (.region false [⟨(some 34), .bin .lss 3 (.tmp 33) (.tmp 32), none, false⟩])
    (.seq (.cond (.tmp 34)
        (.skip)
        (.exit 2))
      (.seq (.block 3 (.seq (.region false [⟨(some 35), .iaddr 1 (.tmp 31) (.tmp 33), none, false⟩,
                ⟨(some 36), .load 1 false (.tmp 35), none, false⟩,
                ⟨(some 12), .move (.tmp 36), none, false⟩])
            (.region false [⟨(some 37), .move (.tmp 8), none, false⟩,
                ⟨(some 38), .load 1 false (.tmp 4), none, false⟩,
                ⟨(some 39), .nilCheck (.tmp 38), none, false⟩,
                ⟨(some 40), .faddr 0 9 true (.tmp 39), none, false⟩,
                ⟨(some 41), .load 9 true (.tmp 40), none, false⟩,
                ⟨(some 42), .move (.tmp 12), none, false⟩,
                ⟨(some 43), .call (.func 6) [(.tmp 41), (.tmp 42)], none, false⟩,
                ⟨(some 44), .call (.tmp 37) [(.tmp 43)], none, false⟩])))
        (.region false [⟨(some 45), .bin .add 3 (.tmp 33) (.const (.int .i64 1)), none, false⟩,
            ⟨(some 33), .move (.tmp 45), none, false⟩])))
def ac23_L3 : AC :=
  .seq (.region false [⟨(some 49), .bin .lss 3 (.tmp 48) (.tmp 47), none, false⟩])
    (.seq (.cond (.tmp 49)
        (.skip)
        (.exit 4))
      (.seq (.block 5 (.seq (.region false [⟨(some 50), .iaddr 1 (.tmp 46) (.tmp 48), none, false⟩,
                ⟨(some 51), .load 1 false (.tmp 50), none, false⟩,
                ⟨(some 14), .move (.tmp 51), none, false⟩])
            (.region false [⟨(some 52), .move (.tmp 8), none, false⟩,
                ⟨(some 53), .load 1 false (.tmp 4), none, false⟩,
                ⟨(some 54), .nilCheck (.tmp 53), none, false⟩,
                ⟨(some 55), .faddr 0 9 true (.tmp 54), none, false⟩,
                ⟨(some 56), .load 9 true (.tmp 55), none, false⟩,
                ⟨(some 57), .move (.tmp 14), none, false⟩,
                ⟨(some 58), .call (.func 8) [(.tmp 56), (.tmp 57)], none, false⟩,
                ⟨(some 59), .call (.tmp 52) [(.tmp 58)], none, false⟩])))
        (.region false [⟨(some 60), .bin .add 3 (.tmp 48) (.const (.int .i64 1)), none, false⟩,
            ⟨(some 48), .move (.tmp 60), none, false⟩])))
/-- (*patchbay/access.collector).add -/
def ac23 : AC :=
  .seq (.region false [⟨(some 4), .box false 78 (.tmp 0), none, false⟩])
    (.seq (.region false [⟨(some 15), .mkFunc (.func 34) [] [(.tmp 4)], none, false⟩,
          ⟨(some 8), .move (.tmp 15), none, false⟩])
      (.seq (.seq (.region false [⟨(some 16), .move (.tmp 1), none, false⟩,
              ⟨(some 17), .bi .len [82].toArray 3 [(.tmp 16)], none, false⟩,
              ⟨(some 18), .move (.const (.int .i64 0)), none, false⟩])
          (.block 0 (.loop ac23_L1)))
        (.seq (.seq (.region false [⟨(some 31), .move (.tmp 2), none, false⟩,
                ⟨(some 32), .bi .len [29].toArray 3 [(.tmp 31)], none, false⟩,
                ⟨(some 33), .move (.const (.int .i64 0)), none, false⟩])
            (.block 2 (.loop ac23_L2)))
          (.seq (.region false [⟨(some 46), .move (.tmp 3), none, false⟩,
                ⟨(some 47), .bi .len [29].toArray 3 [(.tmp 46)], none, false⟩,
                ⟨(some 48), .move (.const (.int .i64 0)), none, false⟩])
            (.block 4 (.loop ac23_L3))))))
theorem text23 : FnText Try.prog 23 [10] 61 4 ac23 [] :=
  ⟨Try.call23, follows, Try.f23, _, Try.func23, rfl, rfl, by decide, by kernel_rfl, by kernel_rfl⟩


/-- (*patchbay/access.collector).add$1 -/
def ac34 : AC :=
  .seq (.region false [⟨(some 3), .move (.tmp 0), none, false⟩,
        ⟨(some 4), .bin .geq 3 (.tmp 3) (.const (.int .i64 0)), none, false⟩])
    (.cond (.tmp 4)
      (.region true [⟨(some 5), .load 1 false (.tmp 1), none, true⟩,
          ⟨(some 6), .load 1 false (.tmp 1), none, false⟩,
          ⟨(some 7), .nilCheck (.tmp 6), none, false⟩,
          ⟨(some 8), .faddr 9 1 false (.tmp 7), none, false⟩,
          ⟨(some 9), .load 1 false (.tmp 8), none, false⟩,
          ⟨(some 10), .move (.tmp 0), none, false⟩,
          ⟨(some 11), .bslice false 3 1 false [(.tmp 10)], none, false⟩,
          ⟨(some 12), .append 29 3 1 8 (.tmp 9) (.tmp 11), none, false⟩,
          ⟨(some 13), .nilCheck (.tmp 5), none, false⟩,
          ⟨(some 14), .faddr 9 1 false (.tmp 13), none, false⟩,
          ⟨none, .store 1 (.tmp 14) (.tmp 12), none, false⟩])
      (.skip))
theorem text34 : FnText Try.prog 34 [] 15 2 ac34 [] :=
  ⟨Try.call34, follows, Try.f34, _, Try.func34, rfl, rfl, by decide, by kernel_rfl, by kernel_rfl⟩


/-- (*patchbay/access.collector).sorted -/
def ac26 : AC :=
  .seq (.region false [⟨(some 2), .move (.const (.slice none 0 0)), none, false⟩])
    (.seq (.region false [⟨(some 3), .move (.tmp 0), none, false⟩,
          ⟨(some 4), .nilCheck (.tmp 3), none, false⟩,
          ⟨(some 5), .faddr 9 1 false (.tmp 4), none, false⟩,
          ⟨(some 6), .load 1 false (.tmp 5), none, false⟩,
          ⟨(some 7), .call (.func 40) [(.tmp 6)], none, false⟩])
      (.seq (.region false [⟨(some 8), .move (.tmp 0), none, false⟩,
            ⟨(some 9), .nilCheck (.tmp 8), none, false⟩,
            ⟨(some 10), .faddr 9 1 false (.tmp 9), none, false⟩,
            ⟨(some 11), .load 1 false (.tmp 10), none, false⟩,
            ⟨(some 12), .call (.func 41) [(.tmp 11)], none, false⟩,
            ⟨(some 2), .move (.tmp 12), none, false⟩])
        (.ret)))
theorem text26 : FnText Try.prog 26 [] 13 1 ac26 [(2, none)] :=
  ⟨Try.call26, follows, Try.f26, _, Try.func26, rfl, rfl, by decide, by kernel_rfl, by kernel_rfl⟩

def ac27_G1 : List AOper :=
  [⟨(some 10), .faddr 0 1 false (.tmp 3), (some (9, false)), false⟩,
    ⟨(some 11), .load 1 false (.tmp 10), (some (9, false)), false⟩,
    ⟨(some 12), .faddr 5 1 false (.tmp 2), (some (9, false)), false⟩,
    ⟨(some 13), .load 1 false (.tmp 12), (some (9, false)), false⟩,
    ⟨(some 14), .bi .len [26].toArray 3 [(.tmp 13)], (some (9, false)), false⟩,
    ⟨(some 15), .bin .geq 3 (.tmp 11) (.tmp 14), (some (9, false)), false⟩,
    ⟨(some 16), .pick (.tmp 9) (.const (.bool true)) (.tmp 15), none, false⟩]
/-- patchbay/access.declared -/
def ac27 : AC :=
  .seq (.region false [⟨(some 2), .box false 31 (.tmp 0), none, false⟩,
        ⟨(some 3), .box false 64 (.tmp 1), none, false⟩,
        ⟨(some 4), .alloc true 53 (.agg [(.string ⟨[].toArray⟩), (.slice none 0 0), (.slice none 0 0), (.int .i64 0), (.slice none 0 0), (.int .i64 0)].toArray), none, false⟩,
        ⟨(some 5), .move (.const (.bool false)), none, false⟩])
    (.seq (.seq (.region false (⟨(some 6), .faddr 0 1 false (.tmp 3), none, false⟩ :: ⟨(some 7), .load 1 false (.tmp 6), none, false⟩ :: ⟨(some 8), .bin .lss 3 (.tmp 7) (.const (.int .i64 0)), none, false⟩ :: ⟨(some 9), .move (.tmp 8), none, false⟩ :: (ac27_G1 ++ [])))
        (.cond (.tmp 16)
          (.seq (.region false [⟨(some 17), .build [(.string ⟨[].toArray⟩), (.slice none 0 0), (.slice none 0 0), (.int .i64 0), (.slice none 0 0), (.int .i64 0)] [], none, false⟩,
                ⟨none, .store 6 (.tmp 4) (.tmp 17), none, false⟩,
                ⟨(some 5), .move (.const (.bool false)), none, false⟩])
            (.ret))
          (.skip)))
      (.seq (.region false [⟨(some 18), .faddr 5 1 false (.tmp 2), none, false⟩,
            ⟨(some 19), .load 1 false (.tmp 18), none, false⟩,
            ⟨(some 20), .faddr 0 1 false (.tmp 3), none, false⟩,
            ⟨(some 21), .load 1 false (.tmp 20), none, false⟩,
            ⟨(some 22), .iaddr 6 (.tmp 19) (.tmp 21), none, false⟩,
            ⟨(some 23), .load 6 true (.tmp 22), none, false⟩,
            ⟨none, .store 6 (.tmp 4) (.tmp 23), none, false⟩,
            ⟨(some 5), .move (.const (.bool true)), none, false⟩])
        (.ret)))
theorem text27 : FnText Try.prog 27 [4] 24 2 ac27 [(4, some (6, true)), (5, none)] :=
  ⟨Try.call27, follows, Try.f27, _, Try.func27, rfl, rfl, by decide, by kernel_rfl, by kernel_rfl⟩

def ac28_G1 : List AOper :=
  [⟨(some 58), .faddr 0 1 false (.tmp 9), (some (57, false)), false⟩,
    ⟨(some 59), .load 1 false (.tmp 58), (some (57, false)), false⟩,
    ⟨(some 60), .bin .eql 3 (.tmp 59) (.const (.int .i64 4)), (some (57, false)), false⟩,
    ⟨(some 61), .pick (.tmp 57) (.const (.bool true)) (.tmp 60), none, false⟩]
def ac28_G2 : List AOper :=
  [⟨(some 63), .faddr 1 2 true (.tmp 9), (some (62, true)), false⟩,
    ⟨(some 64), .faddr 0 1 false (.tmp 63), (some (62, true)), false⟩,
    ⟨(some 65), .load 1 false (.tmp 64), (some (62, true)), false⟩,
    ⟨(some 66), .bin .neq 3 (.tmp 65) (.const (.int .i64 (-1))), (some (62, true)), false⟩,
    ⟨(some 67), .pick (.tmp 62) (.tmp 66) (.const (.bool false)), none, false⟩]
def ac28_L1 : AC :=
  .seq (.region false [⟨(some 15), .bin .lss 3 (.tmp 14) (.tmp 13), none, false⟩])
    (.seq (.cond (.tmp 15)
        (.skip)
        (.exit 0))
      (.seq (.block 1 (.seq (.region false [⟨(some 16), .iaddr 7 (.tmp 12) (.tmp 14), none, false⟩,
                ⟨(some 17), .load 7 true (.tmp 16), none, false⟩,
                ⟨(some 9), .alloc true 73 (.agg [(.int .i64 0), (.int .i64 0), (.int .i64 0), (.int .i64 0), (.int .i64 0), (.slice none 0 0), (.slice none 0 0)].toArray), none, false⟩,
                ⟨none, .store 7 (.tmp 9) (.tmp 17), none, false⟩])
            (.seq (.seq (.region false [⟨(some 18), .faddr 0 1 false (.tmp 9), none, false⟩,
                    ⟨(some 19), .load 1 false (.tmp 18), none, false⟩])
                (.block 2 (.seq (.region false [⟨(some 21), .bin .eql 3 (.tmp 19) (.const (.int .i64 1)), none, false⟩,
                        ⟨(some 20), .move (.tmp 21), none, false⟩])
                    (.cond (.tmp 20)
                      (.region false [⟨(some 22), .faddr 6 1 false (.tmp 9), none, false⟩,
                          ⟨(some 23), .load 1 false (.tmp 22), none, false⟩,
                          ⟨(some 24), .call (.func 43) [(.tmp 7), (.tmp 23)], none, false⟩])
                      (.seq (.region false [⟨(some 26), .bin .eql 3 (.tmp 19) (.const (.int .i64 2)), none, false⟩,
                            ⟨(some 25), .move (.tmp 26), none, false⟩])
                        (.cond (.tmp 25)
                          (.region false [⟨(some 27), .faddr 1 1 false (.tmp 7), none, false⟩,
                              ⟨(some 28), .load 1 false (.tmp 27), none, false⟩,
                              ⟨(some 29), .faddr 4 1 false (.tmp 9), none, false⟩,
                              ⟨(some 30), .load 1 false (.tmp 29), none, false⟩,
                              ⟨(some 31), .bslice false 3 1 false [(.tmp 30)], none, false⟩,
                              ⟨(some 32), .append 29 3 1 8 (.tmp 28) (.tmp 31), none, false⟩,
                              ⟨(some 33), .faddr 1 1 false (.tmp 7), none, false⟩,
                              ⟨none, .store 1 (.tmp 33) (.tmp 32), none, false⟩])
                          (.seq (.region false [⟨(some 35), .bin .eql 3 (.tmp 19) (.const (.int .i64 4)), none, false⟩,
                                ⟨(some 34), .move (.tmp 35), none, false⟩])
                            (.cond (.tmp 34)
                              (.seq (.region false [⟨(some 36), .faddr 5 1 false (.tmp 9), none, false⟩,
                                    ⟨(some 37), .load 1 false (.tmp 36), none, false⟩,
                                    ⟨(some 38), .call (.func 43) [(.tmp 7), (.tmp 37)], none, false⟩])
                                (.region false [⟨(some 39), .faddr 2 1 false (.tmp 7), none, false⟩,
                                    ⟨(some 40), .load 1 false (.tmp 39), none, false⟩,
                                    ⟨(some 41), .faddr 3 1 false (.tmp 9), none, false⟩,
                                    ⟨(some 42), .load 1 false (.tmp 41), none, false⟩,
                                    ⟨(some 43), .bslice false 3 1 false [(.tmp 42)], none, false⟩,
                                    ⟨(some 44), .append 29 3 1 8 (.tmp 40) (.tmp 43), none, false⟩,
                                    ⟨(some 45), .faddr 2 1 false (.tmp 7), none, false⟩,
                                    ⟨none, .store 1 (.tmp 45) (.tmp 44), none, false⟩]))
                              (.seq (.region false [⟨(some 47), .bin .eql 3 (.tmp 19) (.const (.int .i64 5)), none, false⟩,
                                    ⟨(some 46), .move (.tmp 47), none, false⟩])
                                (.cond (.tmp 46)
                                  (.seq (.region false [⟨(some 48), .faddr 5 1 false (.tmp 9), none, false⟩,
                                        ⟨(some 49), .load 1 false (.tmp 48), none, false⟩,
                                        ⟨(some 50), .call (.func 43) [(.tmp 7), (.tmp 49)], none, false⟩])
                                    (.region false [⟨(some 51), .faddr 6 1 false (.tmp 9), none, false⟩,
                                        ⟨(some 52), .load 1 false (.tmp 51), none, false⟩,
                                        ⟨(some 53), .call (.func 43) [(.tmp 7), (.tmp 52)], none, false⟩]))
                                  (.skip)))))))))))
              (.seq (.region false (⟨(some 54), .faddr 0 1 false (.tmp 9), none, false⟩ :: ⟨(some 55), .load 1 false (.tmp 54), none, false⟩ :: ⟨(some 56), .bin .eql 3 (.tmp 55) (.const (.int .i64 1)), none, false⟩ :: ⟨(some 57), .move (.tmp 56), none, false⟩ :: (ac28_G1 ++ (⟨(some 62), .move (.tmp 61), none, false⟩ :: (ac28_G2 ++ [])))))
                (.cond (.tmp 67)
                  (.region false [⟨(some 68), .faddr 1 1 false (.tmp 7), none, false⟩,
                      ⟨(some 69), .load 1 false (.tmp 68), none, false⟩,
                      ⟨(some 70), .faddr 1 2 true (.tmp 9), none, false⟩,
                      ⟨(some 71), .faddr 0 1 false (.tmp 70), none, false⟩,
                      ⟨(some 72), .load 1 false (.tmp 71), none, false⟩,
                      ⟨(some 73), .bslice false 3 1 false [(.tmp 72)], none, false⟩,
                      ⟨(some 74), .append 29 3 1 8 (.tmp 69) (.tmp 73), none, false⟩,
                      ⟨(some 75), .faddr 1 1 false (.tmp 7), none, false⟩,
                      ⟨none, .store 1 (.tmp 75) (.tmp 74), none, false⟩])
                  (.skip))))))
        (.region false [⟨(some 76), .bin .add 3 (.tmp 14) (.const (.int .i64 1)), none, false⟩,
            ⟨(some 14), .move (.tmp 76), none, false⟩])))
/-- patchbay/action.Reads -/
def ac28 : AC :=
  .seq (.region false [⟨(some 2), .box false 31 (.tmp 0), none, false⟩,
        ⟨(some 4), .move (.const (.slice none 0 0)), none, false⟩,
        ⟨(some 5), .move (.const (.slice none 0 0)), none, false⟩,
        ⟨(some 6), .move (.const (.slice none 0 0)), none, false⟩])
    (.seq (.region false [⟨(some 7), .alloc true 105 (.agg [(.slice none 0 0), (.slice none 0 0), (.slice none 0 0)].toArray), none, false⟩])
      (.seq (.seq (.region false [⟨(some 10), .load 9 true (.tmp 2), none, false⟩,
              ⟨(some 11), .move (.tmp 1), none, false⟩,
              ⟨(some 12), .call (.func 42) [(.tmp 10), (.tmp 11)], none, false⟩,
              ⟨(some 13), .bi .len [45].toArray 3 [(.tmp 12)], none, false⟩,
              ⟨(some 14), .move (.const (.int .i64 0)), none, false⟩])
          (.block 0 (.loop ac28_L1)))
        (.seq (.region false [⟨(some 77), .call (.func 44) [(.tmp 7)], none, false⟩,
              ⟨(some 78), .extract (.tmp 77) 0, none, false⟩,
              ⟨(some 79), .extract (.tmp 77) 1, none, false⟩,
              ⟨(some 80), .extract (.tmp 77) 2, none, false⟩,
              ⟨(some 4), .move (.tmp 78), none, false⟩,
              ⟨(some 5), .move (.tmp 79), none, false⟩,
              ⟨(some 6), .move (.tmp 80), none, false⟩])
          (.ret))))
theorem text28 : FnText Try.prog 28 [7, 9] 81 2 ac28 [(4, none), (5, none), (6, none)] :=
  ⟨Try.call28, follows, Try.f28, _, Try.func28, rfl, rfl, by decide, by kernel_rfl, by kernel_rfl⟩


/-- patchbay/action.body -/
def ac42 : AC :=
  .seq (.region false [⟨(some 2), .box false 31 (.tmp 0), none, false⟩,
        ⟨(some 4), .move (.const (.slice none 0 0)), none, false⟩])
    (.seq (.seq (.region false [⟨(some 8), .load 9 true (.tmp 2), none, false⟩,
            ⟨(some 9), .move (.tmp 1), none, false⟩,
            ⟨(some 10), .call (.func 51) [(.tmp 8), (.tmp 9)], none, false⟩,
            ⟨(some 7), .move (.tmp 10), none, false⟩,
            ⟨(some 11), .extract (.tmp 7) 0, none, false⟩,
            ⟨(some 12), .extract (.tmp 7) 1, none, false⟩,
            ⟨(some 5), .move (.tmp 11), none, false⟩,
            ⟨(some 6), .move (.tmp 12), none, false⟩])
        (.seq (.region false [⟨(some 13), .move (.tmp 6), none, false⟩,
              ⟨(some 14), .bin .neq 116 (.tmp 13) (.const (.int .i64 0)), none, false⟩])
          (.cond (.tmp 14)
            (.seq (.region false [⟨(some 4), .move (.const (.slice none 0 0)), none, false⟩])
              (.ret))
            (.skip))))
      (.seq (.region false [⟨(some 15), .faddr 4 1 false (.tmp 2), none, false⟩,
            ⟨(some 16), .load 1 false (.tmp 15), none, false⟩,
            ⟨(some 17), .move (.tmp 1), none, false⟩,
            ⟨(some 18), .iaddr 3 (.tmp 16) (.tmp 17), none, false⟩,
            ⟨(some 19), .faddr 2 1 false (.tmp 18), none, false⟩,
            ⟨(some 20), .load 1 false (.tmp 19), none, false⟩,
            ⟨(some 4), .move (.tmp 20), none, false⟩])
        (.ret)))
theorem text42 : FnText Try.prog 42 [] 21 2 ac42 [(4, none)] :=
  ⟨Try.call42, follows, Try.f42, _, Try.func42, rfl, rfl, by decide, by kernel_rfl, by kernel_rfl⟩

def ac51_G1 : List AOper :=
  [⟨(some 13), .move (.tmp 1), (some (12, false)), false⟩,
    ⟨(some 14), .faddr 4 1 false (.tmp 2), (some (12, false)), false⟩,
    ⟨(some 15), .load 1 false (.tmp 14), (some (12, false)), false⟩,
    ⟨(some 16), .bi .len [25].toArray 3 [(.tmp 15)], (some (12, false)), false⟩,
    ⟨(some 17), .bin .geq 3 (.tmp 13) (.tmp 16), (some (12, false)), false⟩,
    ⟨(some 18), .pick (.tmp 12) (.const (.bool true)) (.tmp 17), none, false⟩]
def ac51_L1 : AC :=
  .seq (.region false [⟨(some 38), .bin .lss 3 (.tmp 37) (.tmp 36), none, false⟩])
    (.seq (.cond (.tmp 38)
        (.skip)
        (.exit 0))
      (.seq (.block 1 (.seq (.region false [⟨(some 39), .move (.tmp 37), none, false⟩,
                ⟨(some 40), .iaddr 7 (.tmp 35) (.tmp 37), none, false⟩,
                ⟨(some 41), .load 7 true (.tmp 40), none, false⟩,
                ⟨(some 9), .alloc true 73 (.agg [(.int .i64 0), (.int .i64 0), (.int .i64 0), (.int .i64 0), (.int .i64 0), (.slice none 0 0), (.slice none 0 0)].toArray), none, false⟩,
                ⟨(some 8), .move (.tmp 39), none, false⟩,
                ⟨none, .store 7 (.tmp 9) (.tmp 41), none, false⟩])
            (.seq (.region false [⟨(some 42), .load 10 true (.tmp 7), none, false⟩,
                  ⟨(some 43), .load 7 true (.tmp 9), none, false⟩,
                  ⟨(some 44), .call (.func 73) [(.tmp 42), (.tmp 43)], none, false⟩,
                  ⟨(some 5), .move (.tmp 44), none, false⟩])
              (.seq (.region false [⟨(some 45), .move (.tmp 5), none, false⟩,
                    ⟨(some 46), .bin .neq 116 (.tmp 45) (.const (.int .i64 0)), none, false⟩])
                (.cond (.tmp 46)
                  (.seq (.region false [⟨(some 47), .move (.tmp 8), none, false⟩,
                        ⟨(some 48), .move (.tmp 5), none, false⟩,
                        ⟨(some 4), .move (.tmp 47), none, false⟩,
                        ⟨(some 5), .move (.tmp 48), none, false⟩])
                    (.ret))
                  (.skip))))))
        (.region false [⟨(some 49), .bin .add 3 (.tmp 37) (.const (.int .i64 1)), none, false⟩,
            ⟨(some 37), .move (.tmp 49), none, false⟩])))
/-- patchbay/action.Check -/
def ac51 : AC :=
  .seq (.region false [⟨(some 2), .box false 31 (.tmp 0), none, false⟩,
        ⟨(some 4), .move (.const (.int .i64 0)), none, false⟩,
        ⟨(some 5), .move (.const (.int .i64 0)), none, false⟩])
    (.seq (.seq (.region false (⟨(some 10), .move (.tmp 1), none, false⟩ :: ⟨(some 11), .bin .lss 3 (.tmp 10) (.const (.int .i64 0)), none, false⟩ :: ⟨(some 12), .move (.tmp 11), none, false⟩ :: (ac51_G1 ++ [])))
        (.cond (.tmp 18)
          (.seq (.region false [⟨(some 4), .move (.const (.int .i64 (-1))), none, false⟩,
                ⟨(some 5), .move (.const (.int .i64 8)), none, false⟩])
            (.ret))
          (.skip)))
      (.seq (.region false [⟨(some 19), .faddr 4 1 false (.tmp 2), none, false⟩,
            ⟨(some 20), .load 1 false (.tmp 19), none, false⟩,
            ⟨(some 21), .move (.tmp 1), none, false⟩,
            ⟨(some 22), .iaddr 3 (.tmp 20) (.tmp 21), none, false⟩,
            ⟨(some 23), .load 3 true (.tmp 22), none, false⟩,
            ⟨(some 6), .alloc true 47 (.agg [(.string ⟨[].toArray⟩), (.slice none 0 0), (.slice none 0 0)].toArray), none, false⟩,
            ⟨none, .store 3 (.tmp 6) (.tmp 23), none, false⟩])
        (.seq (.seq (.region false [⟨(some 24), .load 3 true (.tmp 6), none, false⟩,
                ⟨(some 25), .call (.func 72) [(.tmp 24)], none, false⟩,
                ⟨(some 5), .move (.tmp 25), none, false⟩])
            (.seq (.region false [⟨(some 26), .move (.tmp 5), none, false⟩,
                  ⟨(some 27), .bin .neq 116 (.tmp 26) (.const (.int .i64 0)), none, false⟩])
              (.cond (.tmp 27)
                (.seq (.region false [⟨(some 28), .move (.tmp 5), none, false⟩,
                      ⟨(some 4), .move (.const (.int .i64 (-1))), none, false⟩,
                      ⟨(some 5), .move (.tmp 28), none, false⟩])
                  (.ret))
                (.skip))))
          (.seq (.region false [⟨(some 29), .load 9 true (.tmp 2), none, false⟩,
                ⟨(some 30), .faddr 1 1 false (.tmp 6), none, false⟩,
                ⟨(some 31), .load 1 false (.tmp 30), none, false⟩,
                ⟨(some 32), .build [(.string ⟨[].toArray⟩), (.slice none 0 0), (.slice none 0 0), (.slice none 0 0), (.slice none 0 0), (.slice none 0 0), (.slice none 0 0), (.slice none 0 0), (.slice none 0 0), (.slice none 0 0)] [(0, 9, (.tmp 29)), (9, 1, (.tmp 31))], none, false⟩,
                ⟨(some 33), .build [(.string ⟨[].toArray⟩), (.slice none 0 0), (.slice none 0 0), (.slice none 0 0), (.slice none 0 0), (.slice none 0 0), (.slice none 0 0), (.slice none 0 0), (.slice none 0 0), (.slice none 0 0)] [(0, 10, (.tmp 32))], none, false⟩,
                ⟨(some 7), .alloc true 141 (.agg [(.string ⟨[].toArray⟩), (.slice none 0 0), (.slice none 0 0), (.slice none 0 0), (.slice none 0 0), (.slice none 0 0), (.slice none 0 0), (.slice none 0 0), (.slice none 0 0), (.slice none 0 0)].toArray), none, false⟩,
                ⟨none, .store 10 (.tmp 7) (.tmp 33), none, false⟩])
            (.seq (.seq (.region false [⟨(some 34), .faddr 2 1 false (.tmp 6), none, false⟩,
                    ⟨(some 35), .load 1 false (.tmp 34), none, false⟩,
                    ⟨(some 36), .bi .len [45].toArray 3 [(.tmp 35)], none, false⟩,
                    ⟨(some 37), .move (.const (.int .i64 0)), none, false⟩])
                (.block 0 (.loop ac51_L1)))
              (.seq (.region false [⟨(some 4), .move (.const (.int .i64 0)), none, false⟩,
                    ⟨(some 5), .move (.const (.int .i64 0)), none, false⟩])
                (.ret)))))))
theorem text51 : FnText Try.prog 51 [6, 7, 9] 50 2 ac51 [(4, none), (5, none)] :=
  ⟨Try.call51, follows, Try.f51, _, Try.func51, rfl, rfl, by decide, by kernel_rfl, by kernel_rfl⟩

def ac72_G1 : List AOper :=
  [⟨(some 16), .faddr 2 1 false (.tmp 1), (some (15, false)), false⟩,
    ⟨(some 17), .load 1 false (.tmp 16), (some (15, false)), false⟩,
    ⟨(some 18), .bi .len [45].toArray 3 [(.tmp 17)], (some (15, false)), false⟩,
    ⟨(some 19), .bin .gtr 3 (.tmp 18) (.const (.int .i64 12)), (some (15, false)), false⟩,
    ⟨(some 20), .pick (.tmp 15) (.const (.bool true)) (.tmp 19), none, false⟩]
def ac72_G2 : List AOper :=
  [⟨(some 39), .faddr 1 1 false (.tmp 4), (some (38, false)), false⟩,
    ⟨(some 40), .load 1 false (.tmp 39), (some (38, false)), false⟩,
    ⟨(some 41), .bin .gtr 3 (.tmp 40) (.const (.int .i64 32)), (some (38, false)), false⟩,
    ⟨(some 42), .pick (.tmp 38) (.const (.bool true)) (.tmp 41), none, false⟩]
def ac72_L1 : AC :=
  .seq (.region false [⟨(some 25), .bin .lss 3 (.tmp 24) (.tmp 23), none, false⟩])
    (.seq (.cond (.tmp 25)
        (.skip)
        (.exit 1))
      (.seq (.block 2 (.seq (.region false [⟨(some 26), .move (.tmp 24), none, false⟩,
                ⟨(some 27), .iaddr 2 (.tmp 22) (.tmp 24), none, false⟩,
                ⟨(some 28), .load 2 true (.tmp 27), none, false⟩,
                ⟨(some 4), .alloc true 71 (.agg [(.string ⟨[].toArray⟩), (.int .i64 0)].toArray), none, false⟩,
                ⟨(some 3), .move (.tmp 26), none, false⟩,
                ⟨none, .store 2 (.tmp 4) (.tmp 28), none, false⟩])
            (.block 3 (.seq (.region false [⟨(some 30), .faddr 0 1 false (.tmp 4), none, false⟩,
                    ⟨(some 31), .load 1 false (.tmp 30), none, false⟩,
                    ⟨(some 32), .call (.func 82) [(.tmp 31)], none, false⟩,
                    ⟨(some 33), .un .not (.tmp 32), none, false⟩,
                    ⟨(some 29), .move (.tmp 33), none, false⟩])
                (.cond (.tmp 29)
                  (.seq (.region false [⟨(some 2), .move (.const (.int .i64 6)), none, false⟩])
                    (.ret))
                  (.seq (.region false (⟨(some 35), .faddr 1 1 false (.tmp 4), none, false⟩ :: ⟨(some 36), .load 1 false (.tmp 35), none, false⟩ :: ⟨(some 37), .bin .lss 3 (.tmp 36) (.const (.int .i64 1)), none, false⟩ :: ⟨(some 38), .move (.tmp 37), none, false⟩ :: (ac72_G2 ++ [⟨(some 34), .move (.tmp 42), none, false⟩])))
                    (.cond (.tmp 34)
                      (.seq (.region false [⟨(some 2), .move (.const (.int .i64 10)), none, false⟩])
                        (.ret))
                      (.seq (.region false [⟨(some 44), .faddr 1 1 false (.tmp 1), none, false⟩,
                            ⟨(some 45), .load 1 false (.tmp 44), none, false⟩,
                            ⟨(some 46), .move (.tmp 3), none, false⟩,
                            ⟨(some 47), .slice 23 2 (.tmp 45) none (some (.tmp 46)) none, none, false⟩,
                            ⟨(some 48), .mkFunc (.func 84) [] [(.tmp 4)], none, false⟩,
                            ⟨(some 49), .call (.func 83) [(.tmp 47), (.tmp 48)], none, false⟩,
                            ⟨(some 43), .move (.tmp 49), none, false⟩])
                        (.cond (.tmp 43)
                          (.seq (.region false [⟨(some 2), .move (.const (.int .i64 7)), none, false⟩])
                            (.ret))
                          (.skip))))))))))
        (.region false [⟨(some 50), .bin .add 3 (.tmp 24) (.const (.int .i64 1)), none, false⟩,
            ⟨(some 24), .move (.tmp 50), none, false⟩])))
/-- patchbay/action.declaration -/
def ac72 : AC :=
  .seq (.region false [⟨(some 1), .box false 47 (.tmp 0), none, false⟩,
        ⟨(some 2), .move (.const (.int .i64 0)), none, false⟩])
    (.seq (.block 0 (.seq (.region false [⟨(some 6), .faddr 0 1 false (.tmp 1), none, false⟩,
              ⟨(some 7), .load 1 false (.tmp 6), none, false⟩,
              ⟨(some 8), .call (.func 82) [(.tmp 7)], none, false⟩,
              ⟨(some 9), .un .not (.tmp 8), none, false⟩,
              ⟨(some 5), .move (.tmp 9), none, false⟩])
          (.cond (.tmp 5)
            (.seq (.region false [⟨(some 2), .move (.const (.int .i64 6)), none, false⟩])
              (.ret))
            (.seq (.region false (⟨(some 11), .faddr 1 1 false (.tmp 1), none, false⟩ :: ⟨(some 12), .load 1 false (.tmp 11), none, false⟩ :: ⟨(some 13), .bi .len [23].toArray 3 [(.tmp 12)], none, false⟩ :: ⟨(some 14), .bin .gtr 3 (.tmp 13) (.const (.int .i64 4)), none, false⟩ :: ⟨(some 15), .move (.tmp 14), none, false⟩ :: (ac72_G1 ++ [⟨(some 10), .move (.tmp 20), none, false⟩])))
              (.cond (.tmp 10)
                (.seq (.region false [⟨(some 2), .move (.const (.int .i64 12)), none, false⟩])
                  (.ret))
                (.skip))))))
      (.seq (.seq (.region false [⟨(some 21), .faddr 1 1 false (.tmp 1), none, false⟩,
              ⟨(some 22), .load 1 false (.tmp 21), none, false⟩,
              ⟨(some 23), .bi .len [23].toArray 3 [(.tmp 22)], none, false⟩,
              ⟨(some 24), .move (.const (.int .i64 0)), none, false⟩])
          (.block 1 (.loop ac72_L1)))
        (.seq (.region false [⟨(some 2), .move (.const (.int .i64 0)), none, false⟩])
          (.ret))))
theorem text72 : FnText Try.prog 72 [4] 51 1 ac72 [(2, none)] :=
  ⟨Try.call72, follows, Try.f72, _, Try.func72, rfl, rfl, by decide, by kernel_rfl, by kernel_rfl⟩

def ac82_G1 : List AOper :=
  [⟨(some 7), .move (.tmp 0), (some (6, false)), false⟩,
    ⟨(some 8), .bi .len [9].toArray 3 [(.tmp 7)], (some (6, false)), false⟩,
    ⟨(some 9), .bin .gtr 3 (.tmp 8) (.const (.int .i64 16)), (some (6, false)), false⟩,
    ⟨(some 10), .pick (.tmp 6) (.const (.bool true)) (.tmp 9), none, false⟩]
def ac82_G2 : List AOper :=
  [⟨(some 12), .move (.tmp 0), (some (11, false)), false⟩,
    ⟨(some 13), .indexS 9 (.tmp 12) (.const (.int .i64 0)), (some (11, false)), false⟩,
    ⟨(some 14), .call (.func 90) [(.tmp 13)], (some (11, false)), false⟩,
    ⟨(some 15), .un .not (.tmp 14), (some (11, false)), false⟩,
    ⟨(some 16), .pick (.tmp 11) (.const (.bool true)) (.tmp 15), none, false⟩]
/-- patchbay/lexer.IsIdentifier -/
def ac82 : AC :=
  .seq (.region false [⟨(some 2), .move (.const (.bool false)), none, false⟩])
    (.seq (.seq (.region false (⟨(some 3), .move (.tmp 0), none, false⟩ :: ⟨(some 4), .bi .len [9].toArray 3 [(.tmp 3)], none, false⟩ :: ⟨(some 5), .bin .eql 3 (.tmp 4) (.const (.int .i64 0)), none, false⟩ :: ⟨(some 6), .move (.tmp 5), none, false⟩ :: (ac82_G1 ++ (⟨(some 11), .move (.tmp 10), none, false⟩ :: (ac82_G2 ++ [])))))
        (.cond (.tmp 16)
          (.seq (.region false [⟨(some 2), .move (.const (.bool false)), none, false⟩])
            (.ret))
          (.skip)))
      (.seq (.region false [⟨(some 17), .move (.tmp 0), none, false⟩,
            ⟨(some 18), .call (.func 91) [(.tmp 17), (.func 92)], none, false⟩,
            ⟨(some 19), .move (.tmp 0), none, false⟩,
            ⟨(some 20), .bi .len [9].toArray 3 [(.tmp 19)], none, false⟩,
            ⟨(some 21), .bin .eql 3 (.tmp 18) (.tmp 20), none, false⟩,
            ⟨(some 2), .move (.tmp 21), none, false⟩])
        (.ret)))
theorem text82 : FnText Try.prog 82 [] 22 1 ac82 [(2, none)] :=
  ⟨Try.call82, follows, Try.f82, _, Try.func82, rfl, rfl, by decide, by kernel_rfl, by kernel_rfl⟩

def ac90_G1 : List AOper :=
  [⟨(some 6), .move (.tmp 0), (some (5, true)), false⟩,
    ⟨(some 7), .bin .leq 5 (.tmp 6) (.const (.int .u8 122)), (some (5, true)), false⟩,
    ⟨(some 8), .pick (.tmp 5) (.tmp 7) (.const (.bool false)), none, false⟩]
def ac90_G3 : List AOper :=
  [⟨(some 13), .move (.tmp 0), (some (12, true)), false⟩,
    ⟨(some 14), .bin .leq 5 (.tmp 13) (.const (.int .u8 90)), (some (12, true)), false⟩,
    ⟨(some 15), .pick (.tmp 12) (.tmp 14) (.const (.bool false)), (some (9, false)), false⟩]
def ac90_G2 : List AOper :=
  (⟨(some 10), .move (.tmp 0), (some (9, false)), false⟩ :: ⟨(some 11), .bin .geq 5 (.tmp 10) (.const (.int .u8 65)), (some (9, false)), false⟩ :: ⟨(some 12), .move (.tmp 11), (some (9, false)), false⟩ :: (ac90_G3 ++ [⟨(some 16), .pick (.tmp 9) (.const (.bool true)) (.tmp 15), none, false⟩]))
/-- patchbay/lexer.isLetter -/
def ac90 : AC :=
  .seq (.region false [⟨(some 2), .move (.const (.bool false)), none, false⟩])
    (.seq (.region false (⟨(some 3), .move (.tmp 0), none, false⟩ :: ⟨(some 4), .bin .geq 5 (.tmp 3) (.const (.int .u8 97)), none, false⟩ :: ⟨(some 5), .move (.tmp 4), none, false⟩ :: (ac90_G1 ++ (⟨(some 9), .move (.tmp 8), none, false⟩ :: (ac90_G2 ++ [⟨(some 2), .move (.tmp 16), none, false⟩])))))
      (.ret))
theorem text90 : FnText Try.prog 90 [] 17 1 ac90 [(2, none)] :=
  ⟨Try.call90, follows, Try.f90, _, Try.func90, rfl, rfl, by decide, by kernel_rfl, by kernel_rfl⟩

def ac91_G1 : List AOper :=
  [⟨(some 11), .move (.tmp 1), (some (10, true)), false⟩,
    ⟨(some 12), .move (.tmp 0), (some (10, true)), false⟩,
    ⟨(some 13), .move (.tmp 5), (some (10, true)), false⟩,
    ⟨(some 14), .indexS 9 (.tmp 12) (.tmp 13), (some (10, true)), false⟩,
    ⟨(some 15), .call (.tmp 11) [(.tmp 14)], (some (10, true)), false⟩,
    ⟨(some 16), .pick (.tmp 10) (.tmp 15) (.const (.bool false)), none, false⟩]
def ac91_L1 : AC :=
  .seq (.seq (.region false (⟨(some 6), .move (.tmp 5), none, false⟩ :: ⟨(some 7), .move (.tmp 0), none, false⟩ :: ⟨(some 8), .bi .len [9].toArray 3 [(.tmp 7)], none, false⟩ :: ⟨(some 9), .bin .lss 3 (.tmp 6) (.tmp 8), none, false⟩ :: ⟨(some 10), .move (.tmp 9), none, false⟩ :: (ac91_G1 ++ [])))
      (.cond (.tmp 16)
        (.skip)
        (.exit 0)))
    (.block 1 (.region false [⟨(some 17), .move (.tmp 5), none, false⟩,
          ⟨(some 18), .bin .add 3 (.tmp 17) (.const (.int .i64 1)), none, false⟩,
          ⟨(some 5), .move (.tmp 18), none, false⟩]))
/-- patchbay/lexer.extent -/
def ac91 : AC :=
  .seq (.region false [⟨(some 4), .move (.const (.int .i64 0)), none, false⟩])
    (.seq (.region false [⟨(some 5), .move (.const (.int .i64 0)), none, false⟩])
      (.seq (.block 0 (.loop ac91_L1))
        (.seq (.region false [⟨(some 19), .move (.tmp 5), none, false⟩,
              ⟨(some 4), .move (.tmp 19), none, false⟩])
          (.ret))))
theorem text91 : FnText Try.prog 91 [] 20 2 ac91 [(4, none)] :=
  ⟨Try.call91, follows, Try.f91, _, Try.func91, rfl, rfl, by decide, by kernel_rfl, by kernel_rfl⟩

def ac92_G1 : List AOper :=
  [⟨(some 6), .move (.tmp 0), (some (5, false)), false⟩,
    ⟨(some 7), .call (.func 93) [(.tmp 6)], (some (5, false)), false⟩,
    ⟨(some 8), .pick (.tmp 5) (.const (.bool true)) (.tmp 7), none, false⟩]
def ac92_G2 : List AOper :=
  [⟨(some 10), .move (.tmp 0), (some (9, false)), false⟩,
    ⟨(some 11), .bin .eql 5 (.tmp 10) (.const (.int .u8 95)), (some (9, false)), false⟩,
    ⟨(some 12), .pick (.tmp 9) (.const (.bool true)) (.tmp 11), none, false⟩]
/-- patchbay/lexer.IsIdentifier$1 -/
def ac92 : AC :=
  .seq (.region false [⟨(some 2), .move (.const (.bool false)), none, false⟩])
    (.seq (.region false (⟨(some 3), .move (.tmp 0), none, false⟩ :: ⟨(some 4), .call (.func 90) [(.tmp 3)], none, false⟩ :: ⟨(some 5), .move (.tmp 4), none, false⟩ :: (ac92_G1 ++ (⟨(some 9), .move (.tmp 8), none, false⟩ :: (ac92_G2 ++ [⟨(some 2), .move (.tmp 12), none, false⟩])))))
      (.ret))
theorem text92 : FnText Try.prog 92 [] 13 1 ac92 [(2, none)] :=
  ⟨Try.call92, follows, Try.f92, _, Try.func92, rfl, rfl, by decide, by kernel_rfl, by kernel_rfl⟩

def ac93_G1 : List AOper :=
  [⟨(some 6), .move (.tmp 0), (some (5, true)), false⟩,
    ⟨(some 7), .bin .leq 5 (.tmp 6) (.const (.int .u8 57)), (some (5, true)), false⟩,
    ⟨(some 8), .pick (.tmp 5) (.tmp 7) (.const (.bool false)), none, false⟩]
/-- patchbay/lexer.isDigit -/
def ac93 : AC :=
  .seq (.region false [⟨(some 2), .move (.const (.bool false)), none, false⟩])
    (.seq (.region false (⟨(some 3), .move (.tmp 0), none, false⟩ :: ⟨(some 4), .bin .geq 5 (.tmp 3) (.const (.int .u8 48)), none, false⟩ :: ⟨(some 5), .move (.tmp 4), none, false⟩ :: (ac93_G1 ++ [⟨(some 2), .move (.tmp 8), none, false⟩])))
      (.ret))
theorem text93 : FnText Try.prog 93 [] 9 1 ac93 [(2, none)] :=
  ⟨Try.call93, follows, Try.f93, _, Try.func93, rfl, rfl, by decide, by kernel_rfl, by kernel_rfl⟩


/-- patchbay/action.declaration$1 -/
def ac84 : AC :=
  .seq (.region false [⟨(some 2), .box false 71 (.tmp 0), none, false⟩,
        ⟨(some 3), .move (.const (.bool false)), none, false⟩])
    (.seq (.region false [⟨(some 4), .faddr 0 1 false (.tmp 2), none, false⟩,
          ⟨(some 5), .load 1 false (.tmp 4), none, false⟩,
          ⟨(some 6), .faddr 0 1 false (.tmp 1), none, false⟩,
          ⟨(some 7), .load 1 false (.tmp 6), none, false⟩,
          ⟨(some 8), .bin .eql 9 (.tmp 5) (.tmp 7), none, false⟩,
          ⟨(some 3), .move (.tmp 8), none, false⟩])
      (.ret))
theorem text84 : FnText Try.prog 84 [] 9 2 ac84 [(3, none)] :=
  ⟨Try.call84, follows, Try.f84, _, Try.func84, rfl, rfl, by decide, by kernel_rfl, by kernel_rfl⟩


/-- slices.ContainsFunc[[]patchbay/api.Field,patchbay/api.Field] -/
def ac83 : AC :=
  .seq (.region false [⟨(some 4), .move (.const (.bool false)), none, false⟩])
    (.seq (.region false [⟨(some 5), .move (.tmp 0), none, false⟩,
          ⟨(some 6), .move (.tmp 1), none, false⟩,
          ⟨(some 7), .call (.func 94) [(.tmp 5), (.tmp 6)], none, false⟩,
          ⟨(some 8), .bin .geq 3 (.tmp 7) (.const (.int .i64 0)), none, false⟩,
          ⟨(some 4), .move (.tmp 8), none, false⟩])
      (.ret))
theorem text83 : FnText Try.prog 83 [] 9 2 ac83 [(4, none)] :=
  ⟨Try.call83, follows, Try.f83, _, Try.func83, rfl, rfl, by decide, by kernel_rfl, by kernel_rfl⟩

def ac94_L1 : AC :=
  .seq (.region false [⟨(some 9), .bin .lss 3 (.tmp 8) (.tmp 7), none, false⟩])
    (.seq (.cond (.tmp 9)
        (.skip)
        (.exit 0))
      (.seq (.block 1 (.seq (.region false [⟨(some 10), .move (.tmp 8), none, false⟩,
                ⟨(some 5), .move (.tmp 10), none, false⟩])
            (.seq (.region false [⟨(some 11), .move (.tmp 1), none, false⟩,
                  ⟨(some 12), .move (.tmp 0), none, false⟩,
                  ⟨(some 13), .move (.tmp 5), none, false⟩,
                  ⟨(some 14), .iaddr 2 (.tmp 12) (.tmp 13), none, false⟩,
                  ⟨(some 15), .load 2 true (.tmp 14), none, false⟩,
                  ⟨(some 16), .call (.tmp 11) [(.tmp 15)], none, false⟩])
              (.cond (.tmp 16)
                (.seq (.region false [⟨(some 17), .move (.tmp 5), none, false⟩,
                      ⟨(some 4), .move (.tmp 17), none, false⟩])
                  (.ret))
                (.skip)))))
        (.region false [⟨(some 18), .bin .add 3 (.tmp 8) (.const (.int .i64 1)), none, false⟩,
            ⟨(some 8), .move (.tmp 18), none, false⟩])))
/-- slices.IndexFunc[[]patchbay/api.Field,patchbay/api.Field] -/
def ac94 : AC :=
  .seq (.region false [⟨(some 4), .move (.const (.int .i64 0)), none, false⟩])
    (.seq (.seq (.region false [⟨(some 6), .move (.tmp 0), none, false⟩,
            ⟨(some 7), .bi .len [23].toArray 3 [(.tmp 6)], none, false⟩,
            ⟨(some 8), .move (.const (.int .i64 0)), none, false⟩])
        (.block 0 (.loop ac94_L1)))
      (.seq (.region false [⟨(some 4), .move (.const (.int .i64 (-1))), none, false⟩])
        (.ret)))
theorem text94 : FnText Try.prog 94 [] 19 2 ac94 [(4, none)] :=
  ⟨Try.call94, follows, Try.f94, _, Try.func94, rfl, rfl, by decide, by kernel_rfl, by kernel_rfl⟩

def ac73_G1 : List AOper :=
  [⟨(some 25), .faddr 3 1 false (.tmp 3), (some (24, true)), false⟩,
    ⟨(some 26), .load 1 false (.tmp 25), (some (24, true)), false⟩,
    ⟨(some 27), .faddr 3 1 false (.tmp 5), (some (24, true)), false⟩,
    ⟨(some 28), .load 1 false (.tmp 27), (some (24, true)), false⟩,
    ⟨(some 29), .bi .len [24].toArray 3 [(.tmp 28)], (some (24, true)), false⟩,
    ⟨(some 30), .bin .lss 3 (.tmp 26) (.tmp 29), (some (24, true)), false⟩,
    ⟨(some 31), .pick (.tmp 24) (.tmp 30) (.const (.bool false)), none, false⟩]
def ac73_G2 : List AOper :=
  [⟨(some 50), .faddr 4 1 false (.tmp 3), (some (49, false)), false⟩,
    ⟨(some 51), .load 1 false (.tmp 50), (some (49, false)), false⟩,
    ⟨(some 52), .faddr 1 1 false (.tmp 5), (some (49, false)), false⟩,
    ⟨(some 53), .load 1 false (.tmp 52), (some (49, false)), false⟩,
    ⟨(some 54), .bi .len [22].toArray 3 [(.tmp 53)], (some (49, false)), false⟩,
    ⟨(some 55), .bin .geq 3 (.tmp 51) (.tmp 54), (some (49, false)), false⟩,
    ⟨(some 56), .pick (.tmp 49) (.const (.bool true)) (.tmp 55), none, false⟩]
def ac73_G4 : List AOper :=
  [⟨(some 67), .move (.tmp 7), (some (66, true)), false⟩,
    ⟨(some 68), .un .not (.tmp 67), (some (66, true)), false⟩,
    ⟨(some 69), .pick (.tmp 66) (.tmp 68) (.const (.bool false)), (some (62, false)), false⟩]
def ac73_G3 : List AOper :=
  (⟨(some 63), .faddr 0 1 false (.tmp 3), (some (62, false)), false⟩ :: ⟨(some 64), .load 1 false (.tmp 63), (some (62, false)), false⟩ :: ⟨(some 65), .bin .eql 3 (.tmp 64) (.const (.int .i64 4)), (some (62, false)), false⟩ :: ⟨(some 66), .move (.tmp 65), (some (62, false)), false⟩ :: (ac73_G4 ++ [⟨(some 70), .pick (.tmp 62) (.const (.bool true)) (.tmp 69), none, false⟩]))
/-- (patchbay/action.checker).statement -/
def ac73 : AC :=
  .seq (.region false [⟨(some 2), .box false 141 (.tmp 0), none, false⟩,
        ⟨(some 3), .box false 73 (.tmp 1), none, false⟩,
        ⟨(some 4), .move (.const (.int .i64 0)), none, false⟩])
    (.seq (.region false [⟨(some 11), .faddr 0 10 true (.tmp 2), none, false⟩,
          ⟨(some 12), .faddr 0 9 true (.tmp 11), none, false⟩,
          ⟨(some 13), .load 9 true (.tmp 12), none, false⟩,
          ⟨(some 5), .alloc true 31 (.agg [(.string ⟨[].toArray⟩), (.slice none 0 0), (.slice none 0 0), (.slice none 0 0), (.slice none 0 0), (.slice none 0 0), (.slice none 0 0), (.slice none 0 0), (.slice none 0 0)].toArray), none, false⟩,
          ⟨none, .store 9 (.tmp 5) (.tmp 13), none, false⟩])
      (.seq (.region false [⟨(some 15), .load 9 true (.tmp 5), none, false⟩,
            ⟨(some 16), .faddr 1 2 true (.tmp 3), none, false⟩,
            ⟨(some 17), .load 2 true (.tmp 16), none, false⟩,
            ⟨(some 18), .call (.func 85) [(.tmp 15), (.tmp 17)], none, false⟩,
            ⟨(some 14), .move (.tmp 18), none, false⟩,
            ⟨(some 19), .extract (.tmp 14) 0, none, false⟩,
            ⟨(some 20), .extract (.tmp 14) 1, none, false⟩,
            ⟨(some 6), .move (.tmp 19), none, false⟩,
            ⟨(some 7), .move (.tmp 20), none, false⟩])
        (.seq (.region false (⟨(some 21), .faddr 3 1 false (.tmp 3), none, false⟩ :: ⟨(some 22), .load 1 false (.tmp 21), none, false⟩ :: ⟨(some 23), .bin .geq 3 (.tmp 22) (.const (.int .i64 0)), none, false⟩ :: ⟨(some 24), .move (.tmp 23), none, false⟩ :: (ac73_G1 ++ [⟨(some 8), .move (.tmp 31), none, false⟩])))
          (.seq (.seq (.region false [⟨(some 32), .faddr 0 1 false (.tmp 3), none, false⟩,
                  ⟨(some 33), .load 1 false (.tmp 32), none, false⟩])
              (.block 0 (.seq (.region false [⟨(some 35), .bin .eql 3 (.tmp 33) (.const (.int .i64 1)), none, false⟩,
                      ⟨(some 34), .move (.tmp 35), none, false⟩])
                  (.cond (.tmp 34)
                    (.seq (.seq (.region false [⟨(some 36), .move (.tmp 7), none, false⟩,
                            ⟨(some 37), .un .not (.tmp 36), none, false⟩])
                        (.cond (.tmp 37)
                          (.seq (.region false [⟨(some 4), .move (.const (.int .i64 8)), none, false⟩])
                            (.ret))
                          (.skip)))
                      (.seq (.region false [⟨(some 38), .load 10 true (.tmp 2), none, false⟩,
                            ⟨(some 39), .faddr 6 1 false (.tmp 3), none, false⟩,
                            ⟨(some 40), .load 1 false (.tmp 39), none, false⟩,
                            ⟨(some 41), .move (.tmp 6), none, false⟩,
                            ⟨(some 42), .call (.func 86) [(.tmp 38), (.tmp 40), (.tmp 41)], none, false⟩,
                            ⟨(some 4), .move (.tmp 42), none, false⟩])
                        (.ret)))
                    (.seq (.seq (.region false [⟨(some 44), .bin .eql 3 (.tmp 33) (.const (.int .i64 2)), none, false⟩,
                            ⟨(some 43), .move (.tmp 44), none, false⟩])
                        (.cond (.tmp 43)
                          (.skip)
                          (.region false [⟨(some 45), .bin .eql 3 (.tmp 33) (.const (.int .i64 3)), none, false⟩,
                              ⟨(some 43), .move (.tmp 45), none, false⟩])))
                      (.cond (.tmp 43)
                        (.seq (.seq (.region false (⟨(some 46), .faddr 4 1 false (.tmp 3), none, false⟩ :: ⟨(some 47), .load 1 false (.tmp 46), none, false⟩ :: ⟨(some 48), .bin .lss 3 (.tmp 47) (.const (.int .i64 0)), none, false⟩ :: ⟨(some 49), .move (.tmp 48), none, false⟩ :: (ac73_G2 ++ [])))
                            (.cond (.tmp 56)
                              (.seq (.region false [⟨(some 4), .move (.const (.int .i64 8)), none, false⟩])
                                (.ret))
                              (.skip)))
                          (.seq (.region false [⟨(some 4), .move (.const (.int .i64 0)), none, false⟩])
                            (.ret)))
                        (.seq (.seq (.region false [⟨(some 58), .bin .eql 3 (.tmp 33) (.const (.int .i64 4)), none, false⟩,
                                ⟨(some 57), .move (.tmp 58), none, false⟩])
                            (.cond (.tmp 57)
                              (.skip)
                              (.region false [⟨(some 59), .bin .eql 3 (.tmp 33) (.const (.int .i64 5)), none, false⟩,
                                  ⟨(some 57), .move (.tmp 59), none, false⟩])))
                          (.cond (.tmp 57)
                            (.seq (.seq (.region false (⟨(some 60), .move (.tmp 8), none, false⟩ :: ⟨(some 61), .un .not (.tmp 60), none, false⟩ :: ⟨(some 62), .move (.tmp 61), none, false⟩ :: (ac73_G3 ++ [])))
                                (.cond (.tmp 70)
                                  (.seq (.region false [⟨(some 4), .move (.const (.int .i64 8)), none, false⟩])
                                    (.ret))
                                  (.skip)))
                              (.seq (.seq (.region false [⟨(some 72), .faddr 5 1 false (.tmp 3), none, false⟩,
                                      ⟨(some 73), .load 1 false (.tmp 72), none, false⟩,
                                      ⟨(some 74), .faddr 0 10 true (.tmp 2), none, false⟩,
                                      ⟨(some 75), .load 10 true (.tmp 74), none, false⟩,
                                      ⟨(some 76), .call (.func 87) [(.tmp 73), (.tmp 75)], none, false⟩,
                                      ⟨(some 71), .move (.tmp 76), none, false⟩,
                                      ⟨(some 77), .extract (.tmp 71) 0, none, false⟩,
                                      ⟨(some 78), .extract (.tmp 71) 1, none, false⟩,
                                      ⟨(some 9), .move (.tmp 77), none, false⟩,
                                      ⟨(some 10), .move (.tmp 78), none, false⟩])
                                  (.seq (.region false [⟨(some 79), .move (.tmp 10), none, false⟩,
                                        ⟨(some 80), .bin .neq 116 (.tmp 79) (.const (.int .i64 0)), none, false⟩])
                                    (.cond (.tmp 80)
                                      (.seq (.region false [⟨(some 81), .move (.tmp 10), none, false⟩,
                                            ⟨(some 4), .move (.tmp 81), none, false⟩])
                                        (.ret))
                                      (.skip))))
                                (.seq (.seq (.region false [⟨(some 82), .faddr 0 1 false (.tmp 3), none, false⟩,
                                        ⟨(some 83), .load 1 false (.tmp 82), none, false⟩,
                                        ⟨(some 84), .bin .eql 3 (.tmp 83) (.const (.int .i64 5)), none, false⟩])
                                    (.cond (.tmp 84)
                                      (.seq (.region true [⟨(some 85), .load 10 true (.tmp 2), none, false⟩,
                                            ⟨(some 86), .faddr 6 1 false (.tmp 3), none, false⟩,
                                            ⟨(some 87), .load 1 false (.tmp 86), none, false⟩,
                                            ⟨(some 88), .faddr 3 1 false (.tmp 5), none, false⟩,
                                            ⟨(some 89), .load 1 false (.tmp 88), none, false⟩,
                                            ⟨(some 90), .faddr 3 1 false (.tmp 3), none, false⟩,
                                            ⟨(some 91), .load 1 false (.tmp 90), none, false⟩,
                                            ⟨(some 92), .iaddr 3 (.tmp 89) (.tmp 91), none, false⟩,
                                            ⟨(some 93), .faddr 1 1 false (.tmp 92), none, false⟩,
                                            ⟨(some 94), .load 1 false (.tmp 93), none, false⟩,
                                            ⟨(some 95), .call (.func 86) [(.tmp 85), (.tmp 87), (.tmp 94)], none, false⟩,
                                            ⟨(some 4), .move (.tmp 95), none, false⟩])
                                        (.ret))
                                      (.skip)))
                                  (.seq (.seq (.region false [⟨(some 96), .move (.tmp 6), none, false⟩,
                                          ⟨(some 97), .faddr 3 1 false (.tmp 5), none, false⟩,
                                          ⟨(some 98), .load 1 false (.tmp 97), none, false⟩,
                                          ⟨(some 99), .faddr 3 1 false (.tmp 3), none, false⟩,
                                          ⟨(some 100), .load 1 false (.tmp 99), none, false⟩,
                                          ⟨(some 101), .iaddr 3 (.tmp 98) (.tmp 100), none, false⟩,
                                          ⟨(some 102), .faddr 1 1 false (.tmp 101), none, false⟩,
                                          ⟨(some 103), .load 1 false (.tmp 102), none, false⟩,
                                          ⟨(some 104), .bin .neq 3 (.tmp 96) (.tmp 103), none, false⟩])
                                      (.cond (.tmp 104)
                                        (.seq (.region false [⟨(some 4), .move (.const (.int .i64 10)), none, false⟩])
                                          (.ret))
                                        (.skip)))
                                    (.seq (.region false [⟨(some 4), .move (.const (.int .i64 0)), none, false⟩])
                                      (.ret))))))
                            (.skip)))))))))
            (.seq (.region false [⟨(some 4), .move (.const (.int .i64 11)), none, false⟩])
              (.ret))))))
theorem text73 : FnText Try.prog 73 [5] 105 2 ac73 [(4, none)] :=
  ⟨Try.call73, follows, Try.f73, _, Try.func73, rfl, rfl, by decide, by kernel_rfl, by kernel_rfl⟩

def ac85_G1 : List AOper :=
  [⟨(some 16), .faddr 0 1 false (.tmp 3), (some (15, false)), false⟩,
    ⟨(some 17), .load 1 false (.tmp 16), (some (15, false)), false⟩,
    ⟨(some 18), .faddr 1 1 false (.tmp 2), (some (15, false)), false⟩,
    ⟨(some 19), .load 1 false (.tmp 18), (some (15, false)), false⟩,
    ⟨(some 20), .bi .len [22].toArray 3 [(.tmp 19)], (some (15, false)), false⟩,
    ⟨(some 21), .bin .geq 3 (.tmp 17) (.tmp 20), (some (15, false)), false⟩,
    ⟨(some 22), .pick (.tmp 15) (.const (.bool true)) (.tmp 21), none, false⟩]
def ac85_G2 : List AOper :=
  [⟨(some 34), .faddr 1 1 false (.tmp 3), (some (33, false)), false⟩,
    ⟨(some 35), .load 1 false (.tmp 34), (some (33, false)), false⟩,
    ⟨(some 36), .move (.tmp 6), (some (33, false)), false⟩,
    ⟨(some 37), .bi .len [23].toArray 3 [(.tmp 36)], (some (33, false)), false⟩,
    ⟨(some 38), .bin .geq 3 (.tmp 35) (.tmp 37), (some (33, false)), false⟩,
    ⟨(some 39), .pick (.tmp 33) (.const (.bool true)) (.tmp 38), none, false⟩]
/-- patchbay/action.width -/
def ac85 : AC :=
  .seq (.region false [⟨(some 2), .box false 31 (.tmp 0), none, false⟩,
        ⟨(some 3), .box false 39 (.tmp 1), none, false⟩,
        ⟨(some 4), .move (.const (.int .i64 0)), none, false⟩,
        ⟨(some 5), .move (.const (.bool false)), none, false⟩])
    (.seq (.region false [⟨(some 7), .faddr 2 1 false (.tmp 2), none, false⟩,
          ⟨(some 8), .load 1 false (.tmp 7), none, false⟩,
          ⟨(some 6), .move (.tmp 8), none, false⟩])
      (.seq (.seq (.region false [⟨(some 9), .faddr 0 1 false (.tmp 3), none, false⟩,
              ⟨(some 10), .load 1 false (.tmp 9), none, false⟩,
              ⟨(some 11), .bin .neq 3 (.tmp 10) (.const (.int .i64 (-1))), none, false⟩])
          (.cond (.tmp 11)
            (.seq (.seq (.region false (⟨(some 12), .faddr 0 1 false (.tmp 3), none, false⟩ :: ⟨(some 13), .load 1 false (.tmp 12), none, false⟩ :: ⟨(some 14), .bin .lss 3 (.tmp 13) (.const (.int .i64 0)), none, false⟩ :: ⟨(some 15), .move (.tmp 14), none, false⟩ :: (ac85_G1 ++ [])))
                (.cond (.tmp 22)
                  (.seq (.region false [⟨(some 4), .move (.const (.int .i64 0)), none, false⟩,
                        ⟨(some 5), .move (.const (.bool false)), none, false⟩])
                    (.ret))
                  (.skip)))
              (.region false [⟨(some 23), .faddr 1 1 false (.tmp 2), none, false⟩,
                  ⟨(some 24), .load 1 false (.tmp 23), none, false⟩,
                  ⟨(some 25), .faddr 0 1 false (.tmp 3), none, false⟩,
                  ⟨(some 26), .load 1 false (.tmp 25), none, false⟩,
                  ⟨(some 27), .iaddr 2 (.tmp 24) (.tmp 26), none, false⟩,
                  ⟨(some 28), .faddr 1 1 false (.tmp 27), none, false⟩,
                  ⟨(some 29), .load 1 false (.tmp 28), none, false⟩,
                  ⟨(some 6), .move (.tmp 29), none, false⟩]))
            (.skip)))
        (.seq (.seq (.region false (⟨(some 30), .faddr 1 1 false (.tmp 3), none, false⟩ :: ⟨(some 31), .load 1 false (.tmp 30), none, false⟩ :: ⟨(some 32), .bin .lss 3 (.tmp 31) (.const (.int .i64 0)), none, false⟩ :: ⟨(some 33), .move (.tmp 32), none, false⟩ :: (ac85_G2 ++ [])))
            (.cond (.tmp 39)
              (.seq (.region false [⟨(some 4), .move (.const (.int .i64 0)), none, false⟩,
                    ⟨(some 5), .move (.const (.bool false)), none, false⟩])
                (.ret))
              (.skip)))
          (.seq (.region false [⟨(some 40), .move (.tmp 6), none, false⟩,
                ⟨(some 41), .faddr 1 1 false (.tmp 3), none, false⟩,
                ⟨(some 42), .load 1 false (.tmp 41), none, false⟩,
                ⟨(some 43), .iaddr 2 (.tmp 40) (.tmp 42), none, false⟩,
                ⟨(some 44), .faddr 1 1 false (.tmp 43), none, false⟩,
                ⟨(some 45), .load 1 false (.tmp 44), none, false⟩,
                ⟨(some 4), .move (.tmp 45), none, false⟩,
                ⟨(some 5), .move (.const (.bool true)), none, false⟩])
            (.ret)))))
theorem text85 : FnText Try.prog 85 [] 46 2 ac85 [(4, none), (5, none)] :=
  ⟨Try.call85, follows, Try.f85, _, Try.func85, rfl, rfl, by decide, by kernel_rfl, by kernel_rfl⟩

def ac86_G1 : List AOper :=
  [⟨(some 19), .move (.tmp 7), (some (18, true)), false⟩,
    ⟨(some 20), .move (.tmp 2), (some (18, true)), false⟩,
    ⟨(some 21), .bin .neq 3 (.tmp 19) (.tmp 20), (some (18, true)), false⟩,
    ⟨(some 22), .pick (.tmp 18) (.tmp 21) (.const (.bool false)), none, false⟩]
/-- (patchbay/action.checker).value -/
def ac86 : AC :=
  .seq (.region false [⟨(some 3), .box false 141 (.tmp 0), none, false⟩,
        ⟨(some 6), .move (.const (.int .i64 0)), none, false⟩])
    (.seq (.region false [⟨(some 10), .move (.tmp 1), none, false⟩,
          ⟨(some 11), .faddr 0 10 true (.tmp 3), none, false⟩,
          ⟨(some 12), .load 10 true (.tmp 11), none, false⟩,
          ⟨(some 13), .call (.func 87) [(.tmp 10), (.tmp 12)], none, false⟩,
          ⟨(some 9), .move (.tmp 13), none, false⟩,
          ⟨(some 14), .extract (.tmp 9) 0, none, false⟩,
          ⟨(some 15), .extract (.tmp 9) 1, none, false⟩,
          ⟨(some 7), .move (.tmp 14), none, false⟩,
          ⟨(some 8), .move (.tmp 15), none, false⟩])
      (.seq (.seq (.region false (⟨(some 16), .move (.tmp 8), none, false⟩ :: ⟨(some 17), .bin .eql 116 (.tmp 16) (.const (.int .i64 0)), none, false⟩ :: ⟨(some 18), .move (.tmp 17), none, false⟩ :: (ac86_G1 ++ [])))
          (.cond (.tmp 22)
            (.seq (.region false [⟨(some 6), .move (.const (.int .i64 10)), none, false⟩])
              (.ret))
            (.skip)))
        (.seq (.region false [⟨(some 23), .move (.tmp 8), none, false⟩,
              ⟨(some 6), .move (.tmp 23), none, false⟩])
          (.ret))))
theorem text86 : FnText Try.prog 86 [] 24 3 ac86 [(6, none)] :=
  ⟨Try.call86, follows, Try.f86, _, Try.func86, rfl, rfl, by decide, by kernel_rfl, by kernel_rfl⟩


/-- patchbay/expr.Check -/
def ac87 : AC :=
  .seq (.region false [⟨(some 3), .box false 139 (.tmp 1), none, false⟩,
        ⟨(some 4), .move (.const (.int .i64 0)), none, false⟩,
        ⟨(some 5), .move (.const (.int .i64 0)), none, false⟩])
    (.seq (.seq (.region false [⟨(some 7), .move (.tmp 0), none, false⟩,
            ⟨(some 8), .bi .len [61].toArray 3 [(.tmp 7)], none, false⟩,
            ⟨(some 9), .bin .gtr 3 (.tmp 8) (.const (.int .i64 24)), none, false⟩])
        (.cond (.tmp 9)
          (.seq (.region false [⟨(some 4), .move (.const (.int .i64 0)), none, false⟩,
                ⟨(some 5), .move (.const (.int .i64 12)), none, false⟩])
            (.ret))
          (.skip)))
      (.seq (.region false [⟨(some 11), .load 10 true (.tmp 3), none, false⟩,
            ⟨(some 12), .move (.tmp 0), none, false⟩,
            ⟨(some 13), .call (.func 95) [(.tmp 11), (.tmp 12), (.const (.int .i64 0))], none, false⟩,
            ⟨(some 10), .move (.tmp 13), none, false⟩,
            ⟨(some 14), .extract (.tmp 10) 0, none, false⟩,
            ⟨(some 15), .extract (.tmp 10) 1, none, false⟩,
            ⟨(some 16), .extract (.tmp 10) 2, none, false⟩,
            ⟨(some 4), .move (.tmp 14), none, false⟩,
            ⟨(some 6), .move (.tmp 15), none, false⟩,
            ⟨(some 5), .move (.tmp 16), none, false⟩])
        (.seq (.block 0 (.seq (.region false [⟨(some 18), .move (.tmp 5), none, false⟩,
                  ⟨(some 19), .bin .neq 116 (.tmp 18) (.const (.int .i64 0)), none, false⟩,
                  ⟨(some 17), .move (.tmp 19), none, false⟩])
              (.cond (.tmp 17)
                (.seq (.region false [⟨(some 20), .move (.tmp 5), none, false⟩,
                      ⟨(some 4), .move (.const (.int .i64 0)), none, false⟩,
                      ⟨(some 5), .move (.tmp 20), none, false⟩])
                  (.ret))
                (.seq (.region false [⟨(some 22), .move (.tmp 6), none, false⟩,
                      ⟨(some 23), .move (.tmp 0), none, false⟩,
                      ⟨(some 24), .bi .len [61].toArray 3 [(.tmp 23)], none, false⟩,
                      ⟨(some 25), .bin .lss 3 (.tmp 22) (.tmp 24), none, false⟩,
                      ⟨(some 21), .move (.tmp 25), none, false⟩])
                  (.cond (.tmp 21)
                    (.seq (.region false [⟨(some 4), .move (.const (.int .i64 0)), none, false⟩,
                          ⟨(some 5), .move (.const (.int .i64 4)), none, false⟩])
                      (.ret))
                    (.skip))))))
          (.seq (.region false [⟨(some 26), .move (.tmp 4), none, false⟩,
                ⟨(some 4), .move (.tmp 26), none, false⟩,
                ⟨(some 5), .move (.const (.int .i64 0)), none, false⟩])
            (.ret)))))
theorem text87 : FnText Try.prog 87 [] 27 2 ac87 [(4, none), (5, none)] :=
  ⟨Try.call87, follows, Try.f87, _, Try.func87, rfl, rfl, by decide, by kernel_rfl, by kernel_rfl⟩

def ac95_L1 : AC :=
  .seq (.region false [⟨(some 45), .bin .lss 3 (.tmp 44) (.tmp 43), none, false⟩])
    (.seq (.cond (.tmp 45)
        (.skip)
        (.exit 1))
      (.seq (.block 2 (.seq (.region false [⟨(some 46), .move (.tmp 44), none, false⟩,
                ⟨(some 11), .move (.tmp 46), none, false⟩])
            (.seq (.region false [⟨(some 48), .move (.tmp 11), none, false⟩,
                  ⟨(some 49), .load 10 true (.tmp 3), none, false⟩,
                  ⟨(some 50), .move (.tmp 1), none, false⟩,
                  ⟨(some 51), .move (.tmp 7), none, false⟩,
                  ⟨(some 52), .call (.func 95) [(.tmp 49), (.tmp 50), (.tmp 51)], none, false⟩,
                  ⟨(some 47), .move (.tmp 52), none, false⟩,
                  ⟨(some 53), .extract (.tmp 47) 0, none, false⟩,
                  ⟨(some 54), .extract (.tmp 47) 1, none, false⟩,
                  ⟨(some 55), .extract (.tmp 47) 2, none, false⟩,
                  ⟨(some 56), .iaddrA 3 1 false (.tmp 10) (.tmp 48), none, false⟩,
                  ⟨none, .store 1 (.tmp 56) (.tmp 53), none, false⟩,
                  ⟨(some 7), .move (.tmp 54), none, false⟩,
                  ⟨(some 8), .move (.tmp 55), none, false⟩])
              (.seq (.region false [⟨(some 57), .move (.tmp 8), none, false⟩,
                    ⟨(some 58), .bin .neq 116 (.tmp 57) (.const (.int .i64 0)), none, false⟩])
                (.cond (.tmp 58)
                  (.seq (.region false [⟨(some 59), .move (.tmp 8), none, false⟩,
                        ⟨(some 6), .move (.const (.int .i64 0)), none, false⟩,
                        ⟨(some 7), .move (.const (.int .i64 0)), none, false⟩,
                        ⟨(some 8), .move (.tmp 59), none, false⟩])
                    (.ret))
                  (.skip))))))
        (.region false [⟨(some 60), .bin .add 3 (.tmp 44) (.const (.int .i64 1)), none, false⟩,
            ⟨(some 44), .move (.tmp 60), none, false⟩])))
/-- (patchbay/expr.Scope).check -/
def ac95 : AC :=
  .seq (.region false [⟨(some 3), .box false 139 (.tmp 0), none, false⟩,
        ⟨(some 6), .move (.const (.int .i64 0)), none, false⟩,
        ⟨(some 7), .move (.const (.int .i64 0)), none, false⟩,
        ⟨(some 8), .move (.const (.int .i64 0)), none, false⟩])
    (.seq (.seq (.region false [⟨(some 12), .move (.tmp 2), none, false⟩,
            ⟨(some 13), .move (.tmp 1), none, false⟩,
            ⟨(some 14), .bi .len [61].toArray 3 [(.tmp 13)], none, false⟩,
            ⟨(some 15), .bin .geq 3 (.tmp 12) (.tmp 14), none, false⟩])
        (.cond (.tmp 15)
          (.seq (.region false [⟨(some 6), .move (.const (.int .i64 0)), none, false⟩,
                ⟨(some 7), .move (.const (.int .i64 0)), none, false⟩,
                ⟨(some 8), .move (.const (.int .i64 3)), none, false⟩])
            (.ret))
          (.skip)))
      (.seq (.region false [⟨(some 16), .move (.tmp 1), none, false⟩,
            ⟨(some 17), .move (.tmp 2), none, false⟩,
            ⟨(some 18), .iaddr 3 (.tmp 16) (.tmp 17), none, false⟩,
            ⟨(some 19), .faddr 0 1 false (.tmp 18), none, false⟩,
            ⟨(some 20), .load 1 false (.tmp 19), none, false⟩,
            ⟨(some 21), .call (.func 96) [(.tmp 20)], none, false⟩,
            ⟨(some 9), .move (.tmp 21), none, false⟩])
        (.seq (.block 0 (.seq (.region false [⟨(some 23), .move (.tmp 9), none, false⟩,
                  ⟨(some 24), .bin .lss 3 (.tmp 23) (.const (.int .i64 0)), none, false⟩,
                  ⟨(some 22), .move (.tmp 24), none, false⟩])
              (.cond (.tmp 22)
                (.seq (.region false [⟨(some 6), .move (.const (.int .i64 0)), none, false⟩,
                      ⟨(some 7), .move (.const (.int .i64 0)), none, false⟩,
                      ⟨(some 8), .move (.const (.int .i64 11)), none, false⟩])
                  (.ret))
                (.seq (.region false [⟨(some 26), .move (.tmp 9), none, false⟩,
                      ⟨(some 27), .bin .eql 3 (.tmp 26) (.const (.int .i64 0)), none, false⟩,
                      ⟨(some 25), .move (.tmp 27), none, false⟩])
                  (.cond (.tmp 25)
                    (.seq (.region true [⟨(some 29), .load 10 true (.tmp 3), none, false⟩,
                          ⟨(some 30), .move (.tmp 1), none, false⟩,
                          ⟨(some 31), .move (.tmp 2), none, false⟩,
                          ⟨(some 32), .iaddr 3 (.tmp 30) (.tmp 31), none, false⟩,
                          ⟨(some 33), .load 3 true (.tmp 32), none, false⟩,
                          ⟨(some 34), .call (.func 97) [(.tmp 29), (.tmp 33)], none, false⟩,
                          ⟨(some 28), .move (.tmp 34), none, false⟩,
                          ⟨(some 35), .extract (.tmp 28) 0, none, false⟩,
                          ⟨(some 36), .extract (.tmp 28) 1, none, false⟩,
                          ⟨(some 6), .move (.tmp 35), none, false⟩,
                          ⟨(some 8), .move (.tmp 36), none, false⟩])
                      (.seq (.region false [⟨(some 37), .move (.tmp 6), none, false⟩,
                            ⟨(some 38), .move (.tmp 2), none, false⟩,
                            ⟨(some 39), .bin .add 3 (.tmp 38) (.const (.int .i64 1)), none, false⟩,
                            ⟨(some 40), .move (.tmp 8), none, false⟩,
                            ⟨(some 6), .move (.tmp 37), none, false⟩,
                            ⟨(some 7), .move (.tmp 39), none, false⟩,
                            ⟨(some 8), .move (.tmp 40), none, false⟩])
                        (.ret)))
                    (.skip))))))
          (.seq (.region false [⟨(some 10), .alloc true 168 (.agg [(.int .i64 0), (.int .i64 0), (.int .i64 0)].toArray), none, false⟩])
            (.seq (.region false [⟨(some 41), .move (.tmp 2), none, false⟩,
                  ⟨(some 42), .bin .add 3 (.tmp 41) (.const (.int .i64 1)), none, false⟩,
                  ⟨(some 7), .move (.tmp 42), none, false⟩])
              (.seq (.seq (.region false [⟨(some 43), .move (.tmp 9), none, false⟩,
                      ⟨(some 44), .move (.const (.int .i64 0)), none, false⟩])
                  (.block 1 (.loop ac95_L1)))
                (.seq (.region true [⟨(some 62), .move (.tmp 1), none, false⟩,
                      ⟨(some 63), .move (.tmp 2), none, false⟩,
                      ⟨(some 64), .iaddr 3 (.tmp 62) (.tmp 63), none, false⟩,
                      ⟨(some 65), .load 3 true (.tmp 64), none, false⟩,
                      ⟨(some 66), .load 3 true (.tmp 10), none, false⟩,
                      ⟨(some 67), .call (.func 98) [(.tmp 65), (.tmp 66)], none, false⟩,
                      ⟨(some 61), .move (.tmp 67), none, false⟩,
                      ⟨(some 68), .extract (.tmp 61) 0, none, false⟩,
                      ⟨(some 69), .extract (.tmp 61) 1, none, false⟩,
                      ⟨(some 6), .move (.tmp 68), none, false⟩,
                      ⟨(some 8), .move (.tmp 69), none, false⟩])
                  (.seq (.region false [⟨(some 70), .move (.tmp 6), none, false⟩,
                        ⟨(some 71), .move (.tmp 7), none, false⟩,
                        ⟨(some 72), .move (.tmp 8), none, false⟩,
                        ⟨(some 6), .move (.tmp 70), none, false⟩,
                        ⟨(some 7), .move (.tmp 71), none, false⟩,
                        ⟨(some 8), .move (.tmp 72), none, false⟩])
                    (.ret)))))))))
theorem text95 : FnText Try.prog 95 [10] 73 3 ac95 [(6, none), (7, none), (8, none)] :=
  ⟨Try.call95, follows, Try.f95, _, Try.func95, rfl, rfl, by decide, by kernel_rfl, by kernel_rfl⟩


/-- patchbay/expr.arity -/
def ac96 : AC :=
  .seq (.region false [⟨(some 2), .move (.const (.int .i64 0)), none, false⟩])
    (.seq (.seq (.region false [⟨(some 3), .move (.tmp 0), none, false⟩])
        (.block 0 (.seq (.seq (.region false [⟨(some 5), .bin .eql 3 (.tmp 3) (.const (.int .i64 1)), none, false⟩,
                  ⟨(some 4), .move (.tmp 5), none, false⟩])
              (.cond (.tmp 4)
                (.skip)
                (.seq (.region false [⟨(some 6), .bin .eql 3 (.tmp 3) (.const (.int .i64 2)), none, false⟩,
                      ⟨(some 4), .move (.tmp 6), none, false⟩])
                  (.cond (.tmp 4)
                    (.skip)
                    (.seq (.region false [⟨(some 7), .bin .eql 3 (.tmp 3) (.const (.int .i64 3)), none, false⟩,
                          ⟨(some 4), .move (.tmp 7), none, false⟩])
                      (.cond (.tmp 4)
                        (.skip)
                        (.region false [⟨(some 8), .bin .eql 3 (.tmp 3) (.const (.int .i64 4)), none, false⟩,
                            ⟨(some 4), .move (.tmp 8), none, false⟩])))))))
            (.cond (.tmp 4)
              (.seq (.region false [⟨(some 2), .move (.const (.int .i64 0)), none, false⟩])
                (.ret))
              (.seq (.seq (.region false [⟨(some 10), .bin .eql 3 (.tmp 3) (.const (.int .i64 5)), none, false⟩,
                      ⟨(some 9), .move (.tmp 10), none, false⟩])
                  (.cond (.tmp 9)
                    (.skip)
                    (.seq (.region false [⟨(some 11), .bin .eql 3 (.tmp 3) (.const (.int .i64 6)), none, false⟩,
                          ⟨(some 9), .move (.tmp 11), none, false⟩])
                      (.cond (.tmp 9)
                        (.skip)
                        (.seq (.region false [⟨(some 12), .bin .eql 3 (.tmp 3) (.const (.int .i64 7)), none, false⟩,
                              ⟨(some 9), .move (.tmp 12), none, false⟩])
                          (.cond (.tmp 9)
                            (.skip)
                            (.region false [⟨(some 13), .bin .eql 3 (.tmp 3) (.const (.int .i64 8)), none, false⟩,
                                ⟨(some 9), .move (.tmp 13), none, false⟩])))))))
                (.cond (.tmp 9)
                  (.seq (.region false [⟨(some 2), .move (.const (.int .i64 1)), none, false⟩])
                    (.ret))
                  (.seq (.seq (.region false [⟨(some 15), .bin .eql 3 (.tmp 3) (.const (.int .i64 9)), none, false⟩,
                          ⟨(some 14), .move (.tmp 15), none, false⟩])
                      (.cond (.tmp 14)
                        (.skip)
                        (.seq (.region false [⟨(some 16), .bin .eql 3 (.tmp 3) (.const (.int .i64 10)), none, false⟩,
                              ⟨(some 14), .move (.tmp 16), none, false⟩])
                          (.cond (.tmp 14)
                            (.skip)
                            (.seq (.region false [⟨(some 17), .bin .eql 3 (.tmp 3) (.const (.int .i64 11)), none, false⟩,
                                  ⟨(some 14), .move (.tmp 17), none, false⟩])
                              (.cond (.tmp 14)
                                (.skip)
                                (.seq (.region false [⟨(some 18), .bin .eql 3 (.tmp 3) (.const (.int .i64 12)), none, false⟩,
                                      ⟨(some 14), .move (.tmp 18), none, false⟩])
                                  (.cond (.tmp 14)
                                    (.skip)
                                    (.seq (.region false [⟨(some 19), .bin .eql 3 (.tmp 3) (.const (.int .i64 13)), none, false⟩,
                                          ⟨(some 14), .move (.tmp 19), none, false⟩])
                                      (.cond (.tmp 14)
                                        (.skip)
                                        (.seq (.region false [⟨(some 20), .bin .eql 3 (.tmp 3) (.const (.int .i64 14)), none, false⟩,
                                              ⟨(some 14), .move (.tmp 20), none, false⟩])
                                          (.cond (.tmp 14)
                                            (.skip)
                                            (.seq (.region false [⟨(some 21), .bin .eql 3 (.tmp 3) (.const (.int .i64 15)), none, false⟩,
                                                  ⟨(some 14), .move (.tmp 21), none, false⟩])
                                              (.cond (.tmp 14)
                                                (.skip)
                                                (.region false [⟨(some 22), .bin .eql 3 (.tmp 3) (.const (.int .i64 16)), none, false⟩,
                                                    ⟨(some 14), .move (.tmp 22), none, false⟩])))))))))))))))
                    (.cond (.tmp 14)
                      (.seq (.region false [⟨(some 2), .move (.const (.int .i64 2)), none, false⟩])
                        (.ret))
                      (.seq (.region false [⟨(some 24), .bin .eql 3 (.tmp 3) (.const (.int .i64 17)), none, false⟩,
                            ⟨(some 23), .move (.tmp 24), none, false⟩])
                        (.cond (.tmp 23)
                          (.seq (.region false [⟨(some 2), .move (.const (.int .i64 3)), none, false⟩])
                            (.ret))
                          (.skip)))))))))))
      (.seq (.region false [⟨(some 2), .move (.const (.int .i64 (-1))), none, false⟩])
        (.ret)))
theorem text96 : FnText Try.prog 96 [] 25 1 ac96 [(2, none)] :=
  ⟨Try.call96, follows, Try.f96, _, Try.func96, rfl, rfl, by decide, by kernel_rfl, by kernel_rfl⟩

def ac97_G2 : List AOper :=
  [⟨(some 27), .faddr 1 1 false (.tmp 3), (some (26, false)), false⟩,
    ⟨(some 28), .load 1 false (.tmp 27), (some (26, false)), false⟩,
    ⟨(some 29), .move (.tmp 6), (some (26, false)), false⟩,
    ⟨(some 30), .call (.func 33) [(.tmp 29)], (some (26, false)), false⟩,
    ⟨(some 31), .conv 94 3 (.tmp 30), (some (26, false)), false⟩,
    ⟨(some 32), .bin .gtr 3 (.tmp 28) (.tmp 31), (some (26, false)), false⟩,
    ⟨(some 33), .pick (.tmp 26) (.const (.bool true)) (.tmp 32), (some (22, true)), false⟩]
def ac97_G1 : List AOper :=
  (⟨(some 23), .faddr 1 1 false (.tmp 3), (some (22, true)), false⟩ :: ⟨(some 24), .load 1 false (.tmp 23), (some (22, true)), false⟩ :: ⟨(some 25), .bin .lss 3 (.tmp 24) (.const (.int .i64 0)), (some (22, true)), false⟩ :: ⟨(some 26), .move (.tmp 25), (some (22, true)), false⟩ :: (ac97_G2 ++ [⟨(some 34), .pick (.tmp 22) (.tmp 33) (.const (.bool false)), none, false⟩]))
def ac97_G3 : List AOper :=
  [⟨(some 61), .faddr 1 1 false (.tmp 3), (some (60, false)), false⟩,
    ⟨(some 62), .load 1 false (.tmp 61), (some (60, false)), false⟩,
    ⟨(some 63), .faddr 9 1 false (.tmp 2), (some (60, false)), false⟩,
    ⟨(some 64), .load 1 false (.tmp 63), (some (60, false)), false⟩,
    ⟨(some 65), .bi .len [23].toArray 3 [(.tmp 64)], (some (60, false)), false⟩,
    ⟨(some 66), .bin .geq 3 (.tmp 62) (.tmp 65), (some (60, false)), false⟩,
    ⟨(some 67), .pick (.tmp 60) (.const (.bool true)) (.tmp 66), none, false⟩]
def ac97_G4 : List AOper :=
  [⟨(some 82), .faddr 1 1 false (.tmp 3), (some (81, false)), false⟩,
    ⟨(some 83), .load 1 false (.tmp 82), (some (81, false)), false⟩,
    ⟨(some 84), .faddr 0 9 true (.tmp 2), (some (81, false)), false⟩,
    ⟨(some 85), .faddr 1 1 false (.tmp 84), (some (81, false)), false⟩,
    ⟨(some 86), .load 1 false (.tmp 85), (some (81, false)), false⟩,
    ⟨(some 87), .bi .len [22].toArray 3 [(.tmp 86)], (some (81, false)), false⟩,
    ⟨(some 88), .bin .geq 3 (.tmp 83) (.tmp 87), (some (81, false)), false⟩,
    ⟨(some 89), .pick (.tmp 81) (.const (.bool true)) (.tmp 88), none, false⟩]
/-- (patchbay/expr.Scope).primary -/
def ac97 : AC :=
  .seq (.region false [⟨(some 2), .box false 139 (.tmp 0), none, false⟩,
        ⟨(some 3), .box false 60 (.tmp 1), none, false⟩,
        ⟨(some 4), .move (.const (.int .i64 0)), none, false⟩,
        ⟨(some 5), .move (.const (.int .i64 0)), none, false⟩])
    (.seq (.seq (.region false [⟨(some 10), .faddr 0 1 false (.tmp 3), none, false⟩,
            ⟨(some 11), .load 1 false (.tmp 10), none, false⟩])
        (.block 0 (.seq (.region false [⟨(some 13), .bin .eql 3 (.tmp 11) (.const (.int .i64 1)), none, false⟩,
                ⟨(some 12), .move (.tmp 13), none, false⟩])
            (.cond (.tmp 12)
              (.seq (.region false [⟨(some 15), .faddr 2 1 false (.tmp 3), none, false⟩,
                    ⟨(some 16), .load 1 false (.tmp 15), none, false⟩,
                    ⟨(some 17), .call (.func 99) [(.tmp 16)], none, false⟩,
                    ⟨(some 14), .move (.tmp 17), none, false⟩,
                    ⟨(some 18), .extract (.tmp 14) 0, none, false⟩,
                    ⟨(some 19), .extract (.tmp 14) 1, none, false⟩,
                    ⟨(some 6), .move (.tmp 18), none, false⟩,
                    ⟨(some 7), .move (.tmp 19), none, false⟩])
                (.seq (.seq (.region true (⟨(some 20), .move (.tmp 7), none, false⟩ :: ⟨(some 21), .bin .eql 116 (.tmp 20) (.const (.int .i64 0)), none, false⟩ :: ⟨(some 22), .move (.tmp 21), none, false⟩ :: (ac97_G1 ++ [])))
                    (.cond (.tmp 34)
                      (.seq (.region false [⟨(some 4), .move (.const (.int .i64 0)), none, false⟩,
                            ⟨(some 5), .move (.const (.int .i64 9)), none, false⟩])
                        (.ret))
                      (.skip)))
                  (.seq (.region false [⟨(some 35), .move (.tmp 6), none, false⟩,
                        ⟨(some 36), .move (.tmp 7), none, false⟩,
                        ⟨(some 4), .move (.tmp 35), none, false⟩,
                        ⟨(some 5), .move (.tmp 36), none, false⟩])
                    (.ret))))
              (.seq (.region false [⟨(some 38), .bin .eql 3 (.tmp 11) (.const (.int .i64 2)), none, false⟩,
                    ⟨(some 37), .move (.tmp 38), none, false⟩])
                (.cond (.tmp 37)
                  (.seq (.region false [⟨(some 40), .load 10 true (.tmp 2), none, false⟩,
                        ⟨(some 41), .faddr 1 1 false (.tmp 3), none, false⟩,
                        ⟨(some 42), .load 1 false (.tmp 41), none, false⟩,
                        ⟨(some 43), .faddr 2 1 false (.tmp 3), none, false⟩,
                        ⟨(some 44), .load 1 false (.tmp 43), none, false⟩,
                        ⟨(some 45), .call (.func 100) [(.tmp 40), (.tmp 42), (.tmp 44)], none, false⟩,
                        ⟨(some 39), .move (.tmp 45), none, false⟩,
                        ⟨(some 46), .extract (.tmp 39) 0, none, false⟩,
                        ⟨(some 47), .extract (.tmp 39) 1, none, false⟩,
                        ⟨(some 8), .alloc true 71 (.agg [(.string ⟨[].toArray⟩), (.int .i64 0)].toArray), none, false⟩,
                        ⟨none, .store 2 (.tmp 8) (.tmp 46), none, false⟩,
                        ⟨(some 9), .move (.tmp 47), none, false⟩])
                    (.seq (.seq (.region false [⟨(some 48), .move (.tmp 9), none, false⟩,
                            ⟨(some 49), .un .not (.tmp 48), none, false⟩])
                        (.cond (.tmp 49)
                          (.seq (.region false [⟨(some 4), .move (.const (.int .i64 0)), none, false⟩,
                                ⟨(some 5), .move (.const (.int .i64 8)), none, false⟩])
                            (.ret))
                          (.skip)))
                      (.seq (.region false [⟨(some 50), .faddr 1 1 false (.tmp 8), none, false⟩,
                            ⟨(some 51), .load 1 false (.tmp 50), none, false⟩,
                            ⟨(some 52), .call (.func 99) [(.tmp 51)], none, false⟩,
                            ⟨(some 53), .extract (.tmp 52) 0, none, false⟩,
                            ⟨(some 54), .extract (.tmp 52) 1, none, false⟩,
                            ⟨(some 4), .move (.tmp 53), none, false⟩,
                            ⟨(some 5), .move (.tmp 54), none, false⟩])
                        (.ret))))
                  (.seq (.region false [⟨(some 56), .bin .eql 3 (.tmp 11) (.const (.int .i64 3)), none, false⟩,
                        ⟨(some 55), .move (.tmp 56), none, false⟩])
                    (.cond (.tmp 55)
                      (.seq (.seq (.region false (⟨(some 57), .faddr 1 1 false (.tmp 3), none, false⟩ :: ⟨(some 58), .load 1 false (.tmp 57), none, false⟩ :: ⟨(some 59), .bin .lss 3 (.tmp 58) (.const (.int .i64 0)), none, false⟩ :: ⟨(some 60), .move (.tmp 59), none, false⟩ :: (ac97_G3 ++ [])))
                          (.cond (.tmp 67)
                            (.seq (.region false [⟨(some 4), .move (.const (.int .i64 0)), none, false⟩,
                                  ⟨(some 5), .move (.const (.int .i64 8)), none, false⟩])
                              (.ret))
                            (.skip)))
                        (.seq (.region false [⟨(some 68), .faddr 9 1 false (.tmp 2), none, false⟩,
                              ⟨(some 69), .load 1 false (.tmp 68), none, false⟩,
                              ⟨(some 70), .faddr 1 1 false (.tmp 3), none, false⟩,
                              ⟨(some 71), .load 1 false (.tmp 70), none, false⟩,
                              ⟨(some 72), .iaddr 2 (.tmp 69) (.tmp 71), none, false⟩,
                              ⟨(some 73), .faddr 1 1 false (.tmp 72), none, false⟩,
                              ⟨(some 74), .load 1 false (.tmp 73), none, false⟩,
                              ⟨(some 75), .call (.func 99) [(.tmp 74)], none, false⟩,
                              ⟨(some 76), .extract (.tmp 75) 0, none, false⟩,
                              ⟨(some 77), .extract (.tmp 75) 1, none, false⟩,
                              ⟨(some 4), .move (.tmp 76), none, false⟩,
                              ⟨(some 5), .move (.tmp 77), none, false⟩])
                          (.ret)))
                      (.skip)))))))))
      (.seq (.seq (.region false (⟨(some 78), .faddr 1 1 false (.tmp 3), none, false⟩ :: ⟨(some 79), .load 1 false (.tmp 78), none, false⟩ :: ⟨(some 80), .bin .lss 3 (.tmp 79) (.const (.int .i64 0)), none, false⟩ :: ⟨(some 81), .move (.tmp 80), none, false⟩ :: (ac97_G4 ++ [])))
          (.cond (.tmp 89)
            (.seq (.region false [⟨(some 4), .move (.const (.int .i64 0)), none, false⟩,
                  ⟨(some 5), .move (.const (.int .i64 8)), none, false⟩])
              (.ret))
            (.skip)))
        (.seq (.region false [⟨(some 4), .move (.const (.int .i64 1)), none, false⟩,
              ⟨(some 5), .move (.const (.int .i64 0)), none, false⟩])
          (.ret))))
theorem text97 : FnText Try.prog 97 [8] 90 2 ac97 [(4, none), (5, none)] :=
  ⟨Try.call97, follows, Try.f97, _, Try.func97, rfl, rfl, by decide, by kernel_rfl, by kernel_rfl⟩

def ac99_G1 : List AOper :=
  [⟨(some 7), .move (.tmp 0), (some (6, false)), false⟩,
    ⟨(some 8), .bin .gtr 3 (.tmp 7) (.const (.int .i64 32)), (some (6, false)), false⟩,
    ⟨(some 9), .pick (.tmp 6) (.const (.bool true)) (.tmp 8), none, false⟩]
/-- patchbay/expr.wide -/
def ac99 : AC :=
  .seq (.region false [⟨(some 2), .move (.const (.int .i64 0)), none, false⟩,
        ⟨(some 3), .move (.const (.int .i64 0)), none, false⟩])
    (.seq (.seq (.region false (⟨(some 4), .move (.tmp 0), none, false⟩ :: ⟨(some 5), .bin .lss 3 (.tmp 4) (.const (.int .i64 1)), none, false⟩ :: ⟨(some 6), .move (.tmp 5), none, false⟩ :: (ac99_G1 ++ [])))
        (.cond (.tmp 9)
          (.seq (.region false [⟨(some 2), .move (.const (.int .i64 0)), none, false⟩,
                ⟨(some 3), .move (.const (.int .i64 10)), none, false⟩])
            (.ret))
          (.skip)))
      (.seq (.region false [⟨(some 10), .move (.tmp 0), none, false⟩,
            ⟨(some 2), .move (.tmp 10), none, false⟩,
            ⟨(some 3), .move (.const (.int .i64 0)), none, false⟩])
        (.ret)))
theorem text99 : FnText Try.prog 99 [] 11 1 ac99 [(2, none), (3, none)] :=
  ⟨Try.call99, follows, Try.f99, _, Try.func99, rfl, rfl, by decide, by kernel_rfl, by kernel_rfl⟩

def ac100_G1 : List AOper :=
  [⟨(some 17), .move (.tmp 1), (some (16, false)), false⟩,
    ⟨(some 18), .faddr 0 9 true (.tmp 3), (some (16, false)), false⟩,
    ⟨(some 19), .faddr 1 1 false (.tmp 18), (some (16, false)), false⟩,
    ⟨(some 20), .load 1 false (.tmp 19), (some (16, false)), false⟩,
    ⟨(some 21), .bi .len [22].toArray 3 [(.tmp 20)], (some (16, false)), false⟩,
    ⟨(some 22), .bin .geq 3 (.tmp 17) (.tmp 21), (some (16, false)), false⟩,
    ⟨(some 23), .pick (.tmp 16) (.const (.bool true)) (.tmp 22), none, false⟩]
def ac100_G2 : List AOper :=
  [⟨(some 35), .move (.tmp 2), (some (34, false)), false⟩,
    ⟨(some 36), .move (.tmp 8), (some (34, false)), false⟩,
    ⟨(some 37), .bi .len [23].toArray 3 [(.tmp 36)], (some (34, false)), false⟩,
    ⟨(some 38), .bin .geq 3 (.tmp 35) (.tmp 37), (some (34, false)), false⟩,
    ⟨(some 39), .pick (.tmp 34) (.const (.bool true)) (.tmp 38), none, false⟩]
/-- (patchbay/expr.Scope).field -/
def ac100 : AC :=
  .seq (.region false [⟨(some 3), .box false 139 (.tmp 0), none, false⟩,
        ⟨(some 6), .alloc true 71 (.agg [(.string ⟨[].toArray⟩), (.int .i64 0)].toArray), none, false⟩,
        ⟨(some 7), .move (.const (.bool false)), none, false⟩])
    (.seq (.region false [⟨(some 9), .faddr 0 9 true (.tmp 3), none, false⟩,
          ⟨(some 10), .faddr 2 1 false (.tmp 9), none, false⟩,
          ⟨(some 11), .load 1 false (.tmp 10), none, false⟩,
          ⟨(some 8), .move (.tmp 11), none, false⟩])
      (.seq (.seq (.region false [⟨(some 12), .move (.tmp 1), none, false⟩,
              ⟨(some 13), .bin .neq 3 (.tmp 12) (.const (.int .i64 (-1))), none, false⟩])
          (.cond (.tmp 13)
            (.seq (.seq (.region false (⟨(some 14), .move (.tmp 1), none, false⟩ :: ⟨(some 15), .bin .lss 3 (.tmp 14) (.const (.int .i64 0)), none, false⟩ :: ⟨(some 16), .move (.tmp 15), none, false⟩ :: (ac100_G1 ++ [])))
                (.cond (.tmp 23)
                  (.seq (.region false [⟨(some 24), .build [(.string ⟨[].toArray⟩), (.int .i64 0)] [], none, false⟩,
                        ⟨none, .store 2 (.tmp 6) (.tmp 24), none, false⟩,
                        ⟨(some 7), .move (.const (.bool false)), none, false⟩])
                    (.ret))
                  (.skip)))
              (.region false [⟨(some 25), .faddr 0 9 true (.tmp 3), none, false⟩,
                  ⟨(some 26), .faddr 1 1 false (.tmp 25), none, false⟩,
                  ⟨(some 27), .load 1 false (.tmp 26), none, false⟩,
                  ⟨(some 28), .move (.tmp 1), none, false⟩,
                  ⟨(some 29), .iaddr 2 (.tmp 27) (.tmp 28), none, false⟩,
                  ⟨(some 30), .faddr 1 1 false (.tmp 29), none, false⟩,
                  ⟨(some 31), .load 1 false (.tmp 30), none, false⟩,
                  ⟨(some 8), .move (.tmp 31), none, false⟩]))
            (.skip)))
        (.seq (.seq (.region false (⟨(some 32), .move (.tmp 2), none, false⟩ :: ⟨(some 33), .bin .lss 3 (.tmp 32) (.const (.int .i64 0)), none, false⟩ :: ⟨(some 34), .move (.tmp 33), none, false⟩ :: (ac100_G2 ++ [])))
            (.cond (.tmp 39)
              (.seq (.region false [⟨(some 40), .build [(.string ⟨[].toArray⟩), (.int .i64 0)] [], none, false⟩,
                    ⟨none, .store 2 (.tmp 6) (.tmp 40), none, false⟩,
                    ⟨(some 7), .move (.const (.bool false)), none, false⟩])
                (.ret))
              (.skip)))
          (.seq (.region false [⟨(some 41), .move (.tmp 8), none, false⟩,
                ⟨(some 42), .move (.tmp 2), none, false⟩,
                ⟨(some 43), .iaddr 2 (.tmp 41) (.tmp 42), none, false⟩,
                ⟨(some 44), .load 2 true (.tmp 43), none, false⟩,
                ⟨none, .store 2 (.tmp 6) (.tmp 44), none, false⟩,
                ⟨(some 7), .move (.const (.bool true)), none, false⟩])
            (.ret)))))
theorem text100 : FnText Try.prog 100 [6] 45 3 ac100 [(6, some (2, true)), (7, none)] :=
  ⟨Try.call100, follows, Try.f100, _, Try.func100, rfl, rfl, by decide, by kernel_rfl, by kernel_rfl⟩

def ac98_G1 : List AOper :=
  [⟨(some 17), .faddr 1 1 false (.tmp 2), (some (16, false)), false⟩,
    ⟨(some 18), .load 1 false (.tmp 17), (some (16, false)), false⟩,
    ⟨(some 19), .bin .gtr 3 (.tmp 18) (.const (.int .i64 31)), (some (16, false)), false⟩,
    ⟨(some 20), .pick (.tmp 16) (.const (.bool true)) (.tmp 19), none, false⟩]
def ac98_G2 : List AOper :=
  [⟨(some 35), .faddr 1 1 false (.tmp 2), (some (34, false)), false⟩,
    ⟨(some 36), .load 1 false (.tmp 35), (some (34, false)), false⟩,
    ⟨(some 37), .iaddrA 3 1 false (.tmp 3) (.const (.int .i64 0)), (some (34, false)), false⟩,
    ⟨(some 38), .load 1 false (.tmp 37), (some (34, false)), false⟩,
    ⟨(some 39), .faddr 2 1 false (.tmp 2), (some (34, false)), false⟩,
    ⟨(some 40), .load 1 false (.tmp 39), (some (34, false)), false⟩,
    ⟨(some 41), .bin .sub 3 (.tmp 38) (.tmp 40), (some (34, false)), false⟩,
    ⟨(some 42), .bin .gtr 3 (.tmp 36) (.tmp 41), (some (34, false)), false⟩,
    ⟨(some 43), .pick (.tmp 34) (.const (.bool true)) (.tmp 42), none, false⟩]
def ac98_G3 : List AOper :=
  [⟨(some 62), .iaddrA 3 1 false (.tmp 3) (.const (.int .i64 1)), (some (61, false)), false⟩,
    ⟨(some 63), .load 1 false (.tmp 62), (some (61, false)), false⟩,
    ⟨(some 64), .iaddrA 3 1 false (.tmp 3) (.const (.int .i64 2)), (some (61, false)), false⟩,
    ⟨(some 65), .load 1 false (.tmp 64), (some (61, false)), false⟩,
    ⟨(some 66), .bin .neq 3 (.tmp 63) (.tmp 65), (some (61, false)), false⟩,
    ⟨(some 67), .pick (.tmp 61) (.const (.bool true)) (.tmp 66), none, false⟩]
def ac98_G4 : List AOper :=
  [⟨(some 75), .iaddrA 3 1 false (.tmp 3) (.const (.int .i64 0)), (some (74, true)), false⟩,
    ⟨(some 76), .load 1 false (.tmp 75), (some (74, true)), false⟩,
    ⟨(some 77), .iaddrA 3 1 false (.tmp 3) (.const (.int .i64 1)), (some (74, true)), false⟩,
    ⟨(some 78), .load 1 false (.tmp 77), (some (74, true)), false⟩,
    ⟨(some 79), .bin .neq 3 (.tmp 76) (.tmp 78), (some (74, true)), false⟩,
    ⟨(some 80), .pick (.tmp 74) (.tmp 79) (.const (.bool false)), none, false⟩]
def ac98_G5 : List AOper :=
  [⟨(some 85), .faddr 0 1 false (.tmp 2), (some (84, false)), false⟩,
    ⟨(some 86), .load 1 false (.tmp 85), (some (84, false)), false⟩,
    ⟨(some 87), .bin .eql 3 (.tmp 86) (.const (.int .i64 16)), (some (84, false)), false⟩,
    ⟨(some 88), .pick (.tmp 84) (.const (.bool true)) (.tmp 87), none, false⟩]
/-- patchbay/expr.combine -/
def ac98 : AC :=
  .seq (.region false [⟨(some 2), .box false 60 (.tmp 0), none, false⟩,
        ⟨(some 3), .box false 168 (.tmp 1), none, false⟩,
        ⟨(some 4), .move (.const (.int .i64 0)), none, false⟩,
        ⟨(some 5), .move (.const (.int .i64 0)), none, false⟩])
    (.seq (.seq (.region false [⟨(some 8), .faddr 0 1 false (.tmp 2), none, false⟩,
            ⟨(some 9), .load 1 false (.tmp 8), none, false⟩])
        (.block 0 (.seq (.seq (.region false [⟨(some 11), .bin .eql 3 (.tmp 9) (.const (.int .i64 6)), none, false⟩,
                  ⟨(some 10), .move (.tmp 11), none, false⟩])
              (.cond (.tmp 10)
                (.skip)
                (.region false [⟨(some 12), .bin .eql 3 (.tmp 9) (.const (.int .i64 7)), none, false⟩,
                    ⟨(some 10), .move (.tmp 12), none, false⟩])))
            (.cond (.tmp 10)
              (.seq (.region false (⟨(some 13), .faddr 1 1 false (.tmp 2), none, false⟩ :: ⟨(some 14), .load 1 false (.tmp 13), none, false⟩ :: ⟨(some 15), .bin .lss 3 (.tmp 14) (.const (.int .i64 0)), none, false⟩ :: ⟨(some 16), .move (.tmp 15), none, false⟩ :: (ac98_G1 ++ [])))
                (.cond (.tmp 20)
                  (.seq (.region false [⟨(some 4), .move (.const (.int .i64 0)), none, false⟩,
                        ⟨(some 5), .move (.const (.int .i64 9)), none, false⟩])
                    (.ret))
                  (.skip)))
              (.seq (.region false [⟨(some 22), .bin .eql 3 (.tmp 9) (.const (.int .i64 8)), none, false⟩,
                    ⟨(some 21), .move (.tmp 22), none, false⟩])
                (.cond (.tmp 21)
                  (.seq (.seq (.region false [⟨(some 23), .faddr 1 1 false (.tmp 2), none, false⟩,
                          ⟨(some 24), .load 1 false (.tmp 23), none, false⟩,
                          ⟨(some 25), .bin .lss 3 (.tmp 24) (.const (.int .i64 0)), none, false⟩])
                      (.cond (.tmp 25)
                        (.seq (.region false [⟨(some 4), .move (.const (.int .i64 0)), none, false⟩,
                              ⟨(some 5), .move (.const (.int .i64 9)), none, false⟩])
                          (.ret))
                        (.skip)))
                    (.seq (.seq (.region false [⟨(some 27), .faddr 2 1 false (.tmp 2), none, false⟩,
                            ⟨(some 28), .load 1 false (.tmp 27), none, false⟩,
                            ⟨(some 29), .call (.func 99) [(.tmp 28)], none, false⟩,
                            ⟨(some 26), .move (.tmp 29), none, false⟩,
                            ⟨(some 30), .extract (.tmp 26) 0, none, false⟩,
                            ⟨(some 31), .extract (.tmp 26) 1, none, false⟩,
                            ⟨(some 6), .move (.tmp 30), none, false⟩,
                            ⟨(some 7), .move (.tmp 31), none, false⟩])
                        (.seq (.region false (⟨(some 32), .move (.tmp 7), none, false⟩ :: ⟨(some 33), .bin .neq 116 (.tmp 32) (.const (.int .i64 0)), none, false⟩ :: ⟨(some 34), .move (.tmp 33), none, false⟩ :: (ac98_G2 ++ [])))
                          (.cond (.tmp 43)
                            (.seq (.region false [⟨(some 4), .move (.const (.int .i64 0)), none, false⟩,
                                  ⟨(some 5), .move (.const (.int .i64 10)), none, false⟩])
                              (.ret))
                            (.skip))))
                      (.seq (.region false [⟨(some 44), .faddr 2 1 false (.tmp 2), none, false⟩,
                            ⟨(some 45), .load 1 false (.tmp 44), none, false⟩,
                            ⟨(some 4), .move (.tmp 45), none, false⟩,
                            ⟨(some 5), .move (.const (.int .i64 0)), none, false⟩])
                        (.ret))))
                  (.seq (.region false [⟨(some 47), .bin .eql 3 (.tmp 9) (.const (.int .i64 14)), none, false⟩,
                        ⟨(some 46), .move (.tmp 47), none, false⟩])
                    (.cond (.tmp 46)
                      (.seq (.region false [⟨(some 48), .iaddrA 3 1 false (.tmp 3) (.const (.int .i64 0)), none, false⟩,
                            ⟨(some 49), .load 1 false (.tmp 48), none, false⟩,
                            ⟨(some 50), .iaddrA 3 1 false (.tmp 3) (.const (.int .i64 1)), none, false⟩,
                            ⟨(some 51), .load 1 false (.tmp 50), none, false⟩,
                            ⟨(some 52), .bin .add 3 (.tmp 49) (.tmp 51), none, false⟩,
                            ⟨(some 53), .call (.func 99) [(.tmp 52)], none, false⟩,
                            ⟨(some 54), .extract (.tmp 53) 0, none, false⟩,
                            ⟨(some 55), .extract (.tmp 53) 1, none, false⟩,
                            ⟨(some 4), .move (.tmp 54), none, false⟩,
                            ⟨(some 5), .move (.tmp 55), none, false⟩])
                        (.ret))
                      (.seq (.region false [⟨(some 57), .bin .eql 3 (.tmp 9) (.const (.int .i64 17)), none, false⟩,
                            ⟨(some 56), .move (.tmp 57), none, false⟩])
                        (.cond (.tmp 56)
                          (.seq (.seq (.region false (⟨(some 58), .iaddrA 3 1 false (.tmp 3) (.const (.int .i64 0)), none, false⟩ :: ⟨(some 59), .load 1 false (.tmp 58), none, false⟩ :: ⟨(some 60), .bin .neq 3 (.tmp 59) (.const (.int .i64 1)), none, false⟩ :: ⟨(some 61), .move (.tmp 60), none, false⟩ :: (ac98_G3 ++ [])))
                              (.cond (.tmp 67)
                                (.seq (.region false [⟨(some 4), .move (.const (.int .i64 0)), none, false⟩,
                                      ⟨(some 5), .move (.const (.int .i64 10)), none, false⟩])
                                  (.ret))
                                (.skip)))
                            (.seq (.region false [⟨(some 68), .iaddrA 3 1 false (.tmp 3) (.const (.int .i64 1)), none, false⟩,
                                  ⟨(some 69), .load 1 false (.tmp 68), none, false⟩,
                                  ⟨(some 4), .move (.tmp 69), none, false⟩,
                                  ⟨(some 5), .move (.const (.int .i64 0)), none, false⟩])
                              (.ret)))
                          (.skip)))))))))))
      (.seq (.seq (.region false (⟨(some 70), .faddr 0 1 false (.tmp 2), none, false⟩ :: ⟨(some 71), .load 1 false (.tmp 70), none, false⟩ :: ⟨(some 72), .call (.func 96) [(.tmp 71)], none, false⟩ :: ⟨(some 73), .bin .eql 3 (.tmp 72) (.const (.int .i64 2)), none, false⟩ :: ⟨(some 74), .move (.tmp 73), none, false⟩ :: (ac98_G4 ++ [])))
          (.cond (.tmp 80)
            (.seq (.region false [⟨(some 4), .move (.const (.int .i64 0)), none, false⟩,
                  ⟨(some 5), .move (.const (.int .i64 10)), none, false⟩])
              (.ret))
            (.skip)))
        (.seq (.seq (.region false (⟨(some 81), .faddr 0 1 false (.tmp 2), none, false⟩ :: ⟨(some 82), .load 1 false (.tmp 81), none, false⟩ :: ⟨(some 83), .bin .eql 3 (.tmp 82) (.const (.int .i64 15)), none, false⟩ :: ⟨(some 84), .move (.tmp 83), none, false⟩ :: (ac98_G5 ++ [])))
            (.cond (.tmp 88)
              (.seq (.region false [⟨(some 4), .move (.const (.int .i64 1)), none, false⟩,
                    ⟨(some 5), .move (.const (.int .i64 0)), none, false⟩])
                (.ret))
              (.skip)))
          (.seq (.region false [⟨(some 89), .iaddrA 3 1 false (.tmp 3) (.const (.int .i64 0)), none, false⟩,
                ⟨(some 90), .load 1 false (.tmp 89), none, false⟩,
                ⟨(some 4), .move (.tmp 90), none, false⟩,
                ⟨(some 5), .move (.const (.int .i64 0)), none, false⟩])
            (.ret)))))
theorem text98 : FnText Try.prog 98 [] 91 2 ac98 [(4, none), (5, none)] :=
  ⟨Try.call98, follows, Try.f98, _, Try.func98, rfl, rfl, by decide, by kernel_rfl, by kernel_rfl⟩


/-- (*patchbay/action.access).expression -/
def ac43 : AC :=
  .seq (.region true [⟨(some 4), .move (.tmp 0), none, true⟩,
        ⟨(some 5), .move (.tmp 0), none, false⟩,
        ⟨(some 6), .nilCheck (.tmp 5), none, false⟩,
        ⟨(some 7), .faddr 0 1 false (.tmp 6), none, false⟩,
        ⟨(some 8), .load 1 false (.tmp 7), none, false⟩,
        ⟨(some 9), .move (.tmp 1), none, false⟩,
        ⟨(some 10), .call (.func 24) [(.tmp 9)], none, false⟩,
        ⟨(some 11), .append 82 39 2 16 (.tmp 8) (.tmp 10), none, false⟩,
        ⟨(some 12), .nilCheck (.tmp 4), none, false⟩,
        ⟨(some 13), .faddr 0 1 false (.tmp 12), none, false⟩,
        ⟨none, .store 1 (.tmp 13) (.tmp 11), none, false⟩])
    (.region true [⟨(some 14), .move (.tmp 0), none, true⟩,
        ⟨(some 15), .move (.tmp 0), none, false⟩,
        ⟨(some 16), .nilCheck (.tmp 15), none, false⟩,
        ⟨(some 17), .faddr 1 1 false (.tmp 16), none, false⟩,
        ⟨(some 18), .load 1 false (.tmp 17), none, false⟩,
        ⟨(some 19), .move (.tmp 1), none, false⟩,
        ⟨(some 20), .call (.func 25) [(.tmp 19)], none, false⟩,
        ⟨(some 21), .append 29 3 1 8 (.tmp 18) (.tmp 20), none, false⟩,
        ⟨(some 22), .nilCheck (.tmp 14), none, false⟩,
        ⟨(some 23), .faddr 1 1 false (.tmp 22), none, false⟩,
        ⟨none, .store 1 (.tmp 23) (.tmp 21), none, false⟩])
theorem text43 : FnText Try.prog 43 [] 24 2 ac43 [] :=
  ⟨Try.call43, follows, Try.f43, _, Try.func43, rfl, rfl, by decide, by kernel_rfl, by kernel_rfl⟩


/-- (*patchbay/action.access).sorted -/
def ac44 : AC :=
  .seq (.region false [⟨(some 2), .move (.const (.slice none 0 0)), none, false⟩,
        ⟨(some 3), .move (.const (.slice none 0 0)), none, false⟩,
        ⟨(some 4), .move (.const (.slice none 0 0)), none, false⟩])
    (.seq (.region false [⟨(some 5), .move (.tmp 0), none, false⟩,
          ⟨(some 6), .nilCheck (.tmp 5), none, false⟩,
          ⟨(some 7), .faddr 0 1 false (.tmp 6), none, false⟩,
          ⟨(some 8), .load 1 false (.tmp 7), none, false⟩,
          ⟨(some 9), .call (.func 35) [(.tmp 8), (.func 52)], none, false⟩])
      (.seq (.region false [⟨(some 10), .move (.tmp 0), none, false⟩,
            ⟨(some 11), .nilCheck (.tmp 10), none, false⟩,
            ⟨(some 12), .faddr 1 1 false (.tmp 11), none, false⟩,
            ⟨(some 13), .load 1 false (.tmp 12), none, false⟩,
            ⟨(some 14), .call (.func 40) [(.tmp 13)], none, false⟩])
        (.seq (.region false [⟨(some 15), .move (.tmp 0), none, false⟩,
              ⟨(some 16), .nilCheck (.tmp 15), none, false⟩,
              ⟨(some 17), .faddr 2 1 false (.tmp 16), none, false⟩,
              ⟨(some 18), .load 1 false (.tmp 17), none, false⟩,
              ⟨(some 19), .call (.func 40) [(.tmp 18)], none, false⟩])
          (.seq (.region true [⟨(some 20), .move (.tmp 0), none, false⟩,
                ⟨(some 21), .nilCheck (.tmp 20), none, false⟩,
                ⟨(some 22), .faddr 0 1 false (.tmp 21), none, false⟩,
                ⟨(some 23), .load 1 false (.tmp 22), none, false⟩,
                ⟨(some 24), .call (.func 39) [(.tmp 23)], none, false⟩,
                ⟨(some 25), .move (.tmp 0), none, false⟩,
                ⟨(some 26), .nilCheck (.tmp 25), none, false⟩,
                ⟨(some 27), .faddr 1 1 false (.tmp 26), none, false⟩,
                ⟨(some 28), .load 1 false (.tmp 27), none, false⟩,
                ⟨(some 29), .call (.func 41) [(.tmp 28)], none, false⟩,
                ⟨(some 30), .move (.tmp 0), none, false⟩,
                ⟨(some 31), .nilCheck (.tmp 30), none, false⟩,
                ⟨(some 32), .faddr 2 1 false (.tmp 31), none, false⟩,
                ⟨(some 33), .load 1 false (.tmp 32), none, false⟩,
                ⟨(some 34), .call (.func 41) [(.tmp 33)], none, false⟩,
                ⟨(some 2), .move (.tmp 24), none, false⟩,
                ⟨(some 3), .move (.tmp 29), none, false⟩,
                ⟨(some 4), .move (.tmp 34), none, false⟩])
            (.ret)))))
theorem text44 : FnText Try.prog 44 [] 35 1 ac44 [(2, none), (3, none), (4, none)] :=
  ⟨Try.call44, follows, Try.f44, _, Try.func44, rfl, rfl, by decide, by kernel_rfl, by kernel_rfl⟩


/-- (*patchbay/action.access).sorted$1 -/
def ac52 : AC :=
  .seq (.region false [⟨(some 2), .box false 39 (.tmp 0), none, false⟩,
        ⟨(some 3), .box false 39 (.tmp 1), none, false⟩,
        ⟨(some 4), .move (.const (.int .i64 0)), none, false⟩])
    (.seq (.region true [⟨(some 5), .faddr 0 1 false (.tmp 2), none, false⟩,
          ⟨(some 6), .load 1 false (.tmp 5), none, false⟩,
          ⟨(some 7), .faddr 0 1 false (.tmp 3), none, false⟩,
          ⟨(some 8), .load 1 false (.tmp 7), none, false⟩,
          ⟨(some 9), .call (.func 38) [(.tmp 6), (.tmp 8)], none, false⟩,
          ⟨(some 10), .faddr 1 1 false (.tmp 2), none, false⟩,
          ⟨(some 11), .load 1 false (.tmp 10), none, false⟩,
          ⟨(some 12), .faddr 1 1 false (.tmp 3), none, false⟩,
          ⟨(some 13), .load 1 false (.tmp 12), none, false⟩,
          ⟨(some 14), .call (.func 38) [(.tmp 11), (.tmp 13)], none, false⟩,
          ⟨(some 15), .bslice false 3 1 false [(.tmp 9), (.tmp 14)], none, false⟩,
          ⟨(some 16), .call (.func 37) [(.tmp 15)], none, false⟩,
          ⟨(some 4), .move (.tmp 16), none, false⟩])
      (.ret))
theorem text52 : FnText Try.prog 52 [] 17 2 ac52 [(4, none)] :=
  ⟨Try.call52, follows, Try.f52, _, Try.func52, rfl, rfl, by decide, by kernel_rfl, by kernel_rfl⟩

def ac16_L1 : AC :=
  .seq (.seq (.region false [⟨(some 11), .move (.tmp 5), none, false⟩,
          ⟨(some 12), .move (.tmp 0), none, false⟩,
          ⟨(some 13), .bi .len [29].toArray 3 [(.tmp 12)], none, false⟩,
          ⟨(some 14), .bin .lss 3 (.tmp 11) (.tmp 13), none, false⟩])
      (.cond (.tmp 14)
        (.skip)
        (.exit 0)))
    (.seq (.block 1 (.seq (.region true [⟨(some 17), .move (.tmp 0), none, false⟩,
              ⟨(some 18), .move (.tmp 5), none, false⟩,
              ⟨(some 19), .iaddr 1 (.tmp 17) (.tmp 18), none, false⟩,
              ⟨(some 20), .load 1 false (.tmp 19), none, false⟩,
              ⟨(some 21), .move (.tmp 1), none, false⟩,
              ⟨(some 22), .move (.tmp 5), none, false⟩,
              ⟨(some 23), .iaddr 1 (.tmp 21) (.tmp 22), none, false⟩,
              ⟨(some 24), .load 1 false (.tmp 23), none, false⟩,
              ⟨(some 25), .bin .neq 3 (.tmp 20) (.tmp 24), none, false⟩])
          (.cond (.tmp 25)
            (.seq (.region false [⟨(some 4), .move (.const (.bool false)), none, false⟩])
              (.ret))
            (.skip))))
      (.region false [⟨(some 15), .move (.tmp 5), none, false⟩,
          ⟨(some 16), .bin .add 3 (.tmp 15) (.const (.int .i64 1)), none, false⟩,
          ⟨(some 5), .move (.tmp 16), none, false⟩]))
/-- patchbay/patchbaylaw31.equal -/
def ac16 : AC :=
  .seq (.region false [⟨(some 4), .move (.const (.bool false)), none, false⟩])
    (.seq (.seq (.region false [⟨(some 6), .move (.tmp 0), none, false⟩,
            ⟨(some 7), .bi .len [29].toArray 3 [(.tmp 6)], none, false⟩,
            ⟨(some 8), .move (.tmp 1), none, false⟩,
            ⟨(some 9), .bi .len [29].toArray 3 [(.tmp 8)], none, false⟩,
            ⟨(some 10), .bin .neq 3 (.tmp 7) (.tmp 9), none, false⟩])
        (.cond (.tmp 10)
          (.seq (.region false [⟨(some 4), .move (.const (.bool false)), none, false⟩])
            (.ret))
          (.skip)))
      (.seq (.seq (.region false [⟨(some 5), .move (.const (.int .i64 0)), none, false⟩])
          (.block 0 (.loop ac16_L1)))
        (.seq (.region false [⟨(some 4), .move (.const (.bool true)), none, false⟩])
          (.ret))))
theorem text16 : FnText Try.prog 16 [] 26 2 ac16 [(4, none)] :=
  ⟨Try.call16, follows, Try.f16, _, Try.func16, rfl, rfl, by decide, by kernel_rfl, by kernel_rfl⟩

def ac18_L1 : AC :=
  .seq (.region false [⟨(some 25), .bin .lss 3 (.tmp 24) (.tmp 23), none, false⟩])
    (.seq (.cond (.tmp 25)
        (.skip)
        (.exit 0))
      (.seq (.block 1 (.seq (.region false [⟨(some 26), .iaddr 1 (.tmp 22) (.tmp 24), none, false⟩,
                ⟨(some 27), .load 1 false (.tmp 26), none, false⟩,
                ⟨(some 9), .move (.tmp 27), none, false⟩])
            (.region false [⟨(some 28), .move (.tmp 7), none, false⟩,
                ⟨(some 29), .load 9 true (.tmp 2), none, false⟩,
                ⟨(some 30), .move (.tmp 9), none, false⟩,
                ⟨(some 31), .call (.func 29) [(.tmp 29), (.tmp 30)], none, false⟩,
                ⟨(some 32), .extract (.tmp 31) 0, none, false⟩,
                ⟨(some 33), .extract (.tmp 31) 1, none, false⟩,
                ⟨(some 34), .extract (.tmp 31) 2, none, false⟩,
                ⟨(some 35), .call (.func 23) [(.tmp 28), (.tmp 32), (.tmp 33), (.tmp 34)], none, false⟩])))
        (.region false [⟨(some 36), .bin .add 3 (.tmp 24) (.const (.int .i64 1)), none, false⟩,
            ⟨(some 24), .move (.tmp 36), none, false⟩])))
/-- patchbay/access.Writes -/
def ac18 : AC :=
  .seq (.region false [⟨(some 2), .box false 31 (.tmp 0), none, false⟩,
        ⟨(some 3), .box false 64 (.tmp 1), none, false⟩,
        ⟨(some 4), .move (.const (.slice none 0 0)), none, false⟩])
    (.seq (.region false [⟨(some 11), .load 9 true (.tmp 2), none, false⟩,
          ⟨(some 12), .load 3 true (.tmp 3), none, false⟩,
          ⟨(some 13), .call (.func 27) [(.tmp 11), (.tmp 12)], none, false⟩,
          ⟨(some 10), .move (.tmp 13), none, false⟩,
          ⟨(some 14), .extract (.tmp 10) 0, none, false⟩,
          ⟨(some 15), .extract (.tmp 10) 1, none, false⟩,
          ⟨(some 5), .alloc true 53 (.agg [(.string ⟨[].toArray⟩), (.slice none 0 0), (.slice none 0 0), (.int .i64 0), (.slice none 0 0), (.int .i64 0)].toArray), none, false⟩,
          ⟨none, .store 6 (.tmp 5) (.tmp 14), none, false⟩,
          ⟨(some 6), .move (.tmp 15), none, false⟩])
      (.seq (.seq (.region false [⟨(some 16), .move (.tmp 6), none, false⟩,
              ⟨(some 17), .un .not (.tmp 16), none, false⟩])
          (.cond (.tmp 17)
            (.seq (.region false [⟨(some 4), .move (.const (.slice none 0 0)), none, false⟩])
              (.ret))
            (.skip)))
        (.seq (.region false [⟨(some 18), .load 9 true (.tmp 2), none, false⟩,
              ⟨(some 19), .build [(.string ⟨[].toArray⟩), (.slice none 0 0), (.slice none 0 0), (.slice none 0 0), (.slice none 0 0), (.slice none 0 0), (.slice none 0 0), (.slice none 0 0), (.slice none 0 0), (.slice none 0 0)] [(0, 9, (.tmp 18))], none, false⟩,
              ⟨(some 20), .box true 80 (.tmp 19), none, false⟩,
              ⟨(some 7), .move (.tmp 20), none, false⟩])
          (.seq (.seq (.region false [⟨(some 21), .faddr 2 1 false (.tmp 5), none, false⟩,
                  ⟨(some 22), .load 1 false (.tmp 21), none, false⟩,
                  ⟨(some 23), .bi .len [29].toArray 3 [(.tmp 22)], none, false⟩,
                  ⟨(some 24), .move (.const (.int .i64 0)), none, false⟩])
              (.block 0 (.loop ac18_L1)))
            (.seq (.region false [⟨(some 37), .move (.tmp 7), none, false⟩,
                  ⟨(some 38), .call (.func 26) [(.tmp 37)], none, false⟩,
                  ⟨(some 4), .move (.tmp 38), none, false⟩])
              (.ret))))))
theorem text18 : FnText Try.prog 18 [5, 20] 39 2 ac18 [(4, none)] :=
  ⟨Try.call18, follows, Try.f18, _, Try.func18, rfl, rfl, by decide, by kernel_rfl, by kernel_rfl⟩

def ac29_L2 : AC :=
  .seq (.region false [⟨(some 50), .bin .lss 3 (.tmp 49) (.tmp 48), none, false⟩])
    (.seq (.cond (.tmp 50)
        (.skip)
        (.exit 3))
      (.seq (.block 4 (.seq (.region false [⟨(some 51), .move (.tmp 49), none, false⟩,
                ⟨(some 10), .move (.tmp 51), none, false⟩])
            (.region false [⟨(some 52), .faddr 0 1 false (.tmp 7), none, false⟩,
                ⟨(some 53), .load 1 false (.tmp 52), none, false⟩,
                ⟨(some 54), .faddr 4 1 false (.tmp 9), none, false⟩,
                ⟨(some 55), .load 1 false (.tmp 54), none, false⟩,
                ⟨(some 56), .move (.tmp 10), none, false⟩,
                ⟨(some 57), .build [(.int .i64 0), (.int .i64 0)] [(0, 1, (.tmp 55)), (1, 1, (.tmp 56))], none, false⟩,
                ⟨(some 58), .bslice false 39 2 false [(.tmp 57)], none, false⟩,
                ⟨(some 59), .append 82 39 2 16 (.tmp 53) (.tmp 58), none, false⟩,
                ⟨(some 60), .faddr 0 1 false (.tmp 7), none, false⟩,
                ⟨none, .store 1 (.tmp 60) (.tmp 59), none, false⟩])))
        (.region false [⟨(some 61), .bin .add 3 (.tmp 49) (.const (.int .i64 1)), none, false⟩,
            ⟨(some 49), .move (.tmp 61), none, false⟩])))
def ac29_L1 : AC :=
  .seq (.region false [⟨(some 16), .bin .lss 3 (.tmp 15) (.tmp 14), none, false⟩])
    (.seq (.cond (.tmp 16)
        (.skip)
        (.exit 0))
      (.seq (.block 1 (.seq (.region false [⟨(some 17), .iaddr 7 (.tmp 13) (.tmp 15), none, false⟩,
                ⟨(some 18), .load 7 true (.tmp 17), none, false⟩,
                ⟨(some 9), .alloc true 73 (.agg [(.int .i64 0), (.int .i64 0), (.int .i64 0), (.int .i64 0), (.int .i64 0), (.slice none 0 0), (.slice none 0 0)].toArray), none, false⟩,
                ⟨none, .store 7 (.tmp 9) (.tmp 18), none, false⟩])
            (.seq (.region false [⟨(some 19), .faddr 0 1 false (.tmp 9), none, false⟩,
                  ⟨(some 20), .load 1 false (.tmp 19), none, false⟩])
              (.block 2 (.seq (.seq (.region false [⟨(some 22), .bin .eql 3 (.tmp 20) (.const (.int .i64 1)), none, false⟩,
                        ⟨(some 21), .move (.tmp 22), none, false⟩])
                    (.cond (.tmp 21)
                      (.skip)
                      (.region false [⟨(some 23), .bin .eql 3 (.tmp 20) (.const (.int .i64 4)), none, false⟩,
                          ⟨(some 21), .move (.tmp 23), none, false⟩])))
                  (.cond (.tmp 21)
                    (.region false [⟨(some 24), .faddr 0 1 false (.tmp 7), none, false⟩,
                        ⟨(some 25), .load 1 false (.tmp 24), none, false⟩,
                        ⟨(some 26), .faddr 1 2 true (.tmp 9), none, false⟩,
                        ⟨(some 27), .load 2 true (.tmp 26), none, false⟩,
                        ⟨(some 28), .bslice false 39 2 false [(.tmp 27)], none, false⟩,
                        ⟨(some 29), .append 82 39 2 16 (.tmp 25) (.tmp 28), none, false⟩,
                        ⟨(some 30), .faddr 0 1 false (.tmp 7), none, false⟩,
                        ⟨none, .store 1 (.tmp 30) (.tmp 29), none, false⟩])
                    (.seq (.seq (.region false [⟨(some 32), .bin .eql 3 (.tmp 20) (.const (.int .i64 2)), none, false⟩,
                            ⟨(some 31), .move (.tmp 32), none, false⟩])
                        (.cond (.tmp 31)
                          (.skip)
                          (.region false [⟨(some 33), .bin .eql 3 (.tmp 20) (.const (.int .i64 3)), none, false⟩,
                              ⟨(some 31), .move (.tmp 33), none, false⟩])))
                      (.cond (.tmp 31)
                        (.seq (.region false [⟨(some 34), .faddr 1 1 false (.tmp 7), none, false⟩,
                              ⟨(some 35), .load 1 false (.tmp 34), none, false⟩,
                              ⟨(some 36), .faddr 4 1 false (.tmp 9), none, false⟩,
                              ⟨(some 37), .load 1 false (.tmp 36), none, false⟩,
                              ⟨(some 38), .bslice false 3 1 false [(.tmp 37)], none, false⟩,
                              ⟨(some 39), .append 29 3 1 8 (.tmp 35) (.tmp 38), none, false⟩,
                              ⟨(some 40), .faddr 1 1 false (.tmp 7), none, false⟩,
                              ⟨none, .store 1 (.tmp 40) (.tmp 39), none, false⟩])
                          (.seq (.region false [⟨(some 41), .faddr 1 1 false (.tmp 2), none, false⟩,
                                ⟨(some 42), .load 1 false (.tmp 41), none, false⟩,
                                ⟨(some 43), .faddr 4 1 false (.tmp 9), none, false⟩,
                                ⟨(some 44), .load 1 false (.tmp 43), none, false⟩,
                                ⟨(some 45), .iaddr 2 (.tmp 42) (.tmp 44), none, false⟩,
                                ⟨(some 46), .faddr 1 1 false (.tmp 45), none, false⟩,
                                ⟨(some 47), .load 1 false (.tmp 46), none, false⟩,
                                ⟨(some 48), .bi .len [23].toArray 3 [(.tmp 47)], none, false⟩,
                                ⟨(some 49), .move (.const (.int .i64 0)), none, false⟩])
                            (.block 3 (.loop ac29_L2))))
                        (.seq (.region false [⟨(some 63), .bin .eql 3 (.tmp 20) (.const (.int .i64 5)), none, false⟩,
                              ⟨(some 62), .move (.tmp 63), none, false⟩])
                          (.cond (.tmp 62)
                            (.region false [⟨(some 64), .faddr 2 1 false (.tmp 7), none, false⟩,
                                ⟨(some 65), .load 1 false (.tmp 64), none, false⟩,
                                ⟨(some 66), .faddr 3 1 false (.tmp 9), none, false⟩,
                                ⟨(some 67), .load 1 false (.tmp 66), none, false⟩,
                                ⟨(some 68), .bslice false 3 1 false [(.tmp 67)], none, false⟩,
                                ⟨(some 69), .append 29 3 1 8 (.tmp 65) (.tmp 68), none, false⟩,
                                ⟨(some 70), .faddr 2 1 false (.tmp 7), none, false⟩,
                                ⟨none, .store 1 (.tmp 70) (.tmp 69), none, false⟩])
                            (.skip)))))))))))
        (.region false [⟨(some 71), .bin .add 3 (.tmp 15) (.const (.int .i64 1)), none, false⟩,
            ⟨(some 15), .move (.tmp 71), none, false⟩])))
/-- patchbay/action.Writes -/
def ac29 : AC :=
  .seq (.region false [⟨(some 2), .box false 31 (.tmp 0), none, false⟩,
        ⟨(some 4), .move (.const (.slice none 0 0)), none, false⟩,
        ⟨(some 5), .move (.const (.slice none 0 0)), none, false⟩,
        ⟨(some 6), .move (.const (.slice none 0 0)), none, false⟩])
    (.seq (.region false [⟨(some 7), .alloc true 105 (.agg [(.slice none 0 0), (.slice none 0 0), (.slice none 0 0)].toArray), none, false⟩])
      (.seq (.seq (.region false [⟨(some 11), .load 9 true (.tmp 2), none, false⟩,
              ⟨(some 12), .move (.tmp 1), none, false⟩,
              ⟨(some 13), .call (.func 42) [(.tmp 11), (.tmp 12)], none, false⟩,
              ⟨(some 14), .bi .len [45].toArray 3 [(.tmp 13)], none, false⟩,
              ⟨(some 15), .move (.const (.int .i64 0)), none, false⟩])
          (.block 0 (.loop ac29_L1)))
        (.seq (.region false [⟨(some 72), .call (.func 44) [(.tmp 7)], none, false⟩,
              ⟨(some 73), .extract (.tmp 72) 0, none, false⟩,
              ⟨(some 74), .extract (.tmp 72) 1, none, false⟩,
              ⟨(some 75), .extract (.tmp 72) 2, none, false⟩,
              ⟨(some 4), .move (.tmp 73), none, false⟩,
              ⟨(some 5), .move (.tmp 74), none, false⟩,
              ⟨(some 6), .move (.tmp 75), none, false⟩])
          (.ret))))
theorem text29 : FnText Try.prog 29 [7, 9] 76 2 ac29 [(4, none), (5, none), (6, none)] :=
  ⟨Try.call29, follows, Try.f29, _, Try.func29, rfl, rfl, by decide, by kernel_rfl, by kernel_rfl⟩

end Go.Proofs.Ytepkgeppmjmkjaa
