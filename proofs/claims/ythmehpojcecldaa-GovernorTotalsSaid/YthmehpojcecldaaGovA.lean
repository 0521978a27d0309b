/- The codes of the generators' functions, in the logic of abstract states. -/
import Derived.Test.YthmehpojcecldaaAwR
import Derived.Test.YthmehpojcecldaaProg
import Derived.KernelRfl
set_option linter.unusedVariables false
namespace Go.Proofs.Ythmehpojcecldaa
open Go.Proofs.Ythmehpojcecldaa.Aw
/- gridhall/gridhallkeep4.GovernorFalls -/
def a4 : ACode :=
  (.seq (.region false [] [
     ⟨(some 3), none, (.box 29 (.t 0))⟩,
     ⟨(some 6), none, (.mov (.v (.bool false)))⟩])
  (.seq (.region false [] [
     ⟨(some 11), none, (.mov (.t 1))⟩,
     ⟨(some 12), none, (.call 19 [(.t 11), (.v (.int .i64 (-10000))), (.v (.int .i64 10000))])⟩,
     ⟨(some 1), none, (.mov (.t 12))⟩])
  (.seq (.region false [] [
     ⟨(some 13), none, (.mov (.t 2))⟩,
     ⟨(some 14), none, (.mov (.t 1))⟩,
     ⟨(some 15), none, (.bin .sub 3 (.v (.int .i64 10000)) (.t 14))⟩,
     ⟨(some 16), none, (.call 19 [(.t 13), (.v (.int .i64 0)), (.t 15)])⟩,
     ⟨(some 2), none, (.mov (.t 16))⟩])
  (.seq (.region false [] [
     ⟨(some 18), none, (.load 6 true (.t 3))⟩,
     ⟨(some 19), none, (.mov (.t 1))⟩,
     ⟨(some 20), none, (.call 20 [(.t 18), (.t 19)])⟩,
     ⟨(some 17), none, (.mov (.t 20))⟩,
     ⟨(some 21), none, (.ext 0 (.t 17))⟩,
     ⟨(some 22), none, (.ext 1 (.t 17))⟩,
     ⟨(some 7), none, (.mov (.t 21))⟩,
     ⟨(some 8), none, (.mov (.t 22))⟩])
  (.seq (.region false [] [
     ⟨(some 24), none, (.load 6 true (.t 3))⟩,
     ⟨(some 25), none, (.mov (.t 1))⟩,
     ⟨(some 26), none, (.mov (.t 2))⟩,
     ⟨(some 27), none, (.bin .add 3 (.t 25) (.t 26))⟩,
     ⟨(some 28), none, (.call 20 [(.t 24), (.t 27)])⟩,
     ⟨(some 23), none, (.mov (.t 28))⟩,
     ⟨(some 29), none, (.ext 0 (.t 23))⟩,
     ⟨(some 30), none, (.ext 1 (.t 23))⟩,
     ⟨(some 9), none, (.mov (.t 29))⟩,
     ⟨(some 10), none, (.mov (.t 30))⟩])
  (.seq (.seq (.region false [] [
     ⟨(some 31), none, (.mov (.t 8))⟩,
     ⟨(some 32), none, (.bin .neq 31 (.t 31) (.v (.int .i64 0)))⟩])
  (.cond (.t 32)
    (.seq (.region false [] [
       ⟨(some 33), none, (.call 21 [])⟩,
       ⟨(some 34), none, (.mov (.t 33))⟩,
       ⟨(some 35), (some (34, true)), (.mov (.t 7))⟩,
       ⟨(some 36), (some (34, true)), (.bin .eql 3 (.t 35) (.v (.int .i64 0)))⟩,
       ⟨(some 37), none, (.pick (.t 34) (.t 36) (.v (.bool false)))⟩,
       ⟨(some 38), none, (.mov (.t 37))⟩,
       ⟨(some 39), (some (38, true)), (.mov (.t 9))⟩,
       ⟨(some 40), (some (38, true)), (.bin .eql 3 (.t 39) (.v (.int .i64 0)))⟩,
       ⟨(some 41), none, (.pick (.t 38) (.t 40) (.v (.bool false)))⟩,
       ⟨(some 42), none, (.mov (.t 41))⟩,
       ⟨(some 43), (some (42, true)), (.mov (.t 10))⟩,
       ⟨(some 44), (some (42, true)), (.mov (.t 8))⟩,
       ⟨(some 45), (some (42, true)), (.bin .eql 31 (.t 43) (.t 44))⟩,
       ⟨(some 46), none, (.pick (.t 42) (.t 45) (.v (.bool false)))⟩,
       ⟨(some 6), none, (.mov (.t 46))⟩])
    .ret)
    .skip))
  (.seq (.region false [] [
     ⟨(some 47), none, (.call 21 [])⟩,
     ⟨(some 48), none, (.mov (.t 47))⟩,
     ⟨(some 49), (some (48, true)), (.mov (.t 10))⟩,
     ⟨(some 50), (some (48, true)), (.bin .eql 31 (.t 49) (.v (.int .i64 0)))⟩,
     ⟨(some 51), none, (.pick (.t 48) (.t 50) (.v (.bool false)))⟩,
     ⟨(some 52), none, (.mov (.t 51))⟩,
     ⟨(some 53), (some (52, true)), (.mov (.t 9))⟩,
     ⟨(some 54), (some (52, true)), (.mov (.t 7))⟩,
     ⟨(some 55), (some (52, true)), (.bin .leq 3 (.t 53) (.t 54))⟩,
     ⟨(some 56), none, (.pick (.t 52) (.t 55) (.v (.bool false)))⟩,
     ⟨(some 57), none, (.mov (.t 56))⟩,
     ⟨(some 58), (some (57, true)), (.mov (.t 9))⟩,
     ⟨(some 59), (some (57, true)), (.fld 1 (.t 3))⟩,
     ⟨(some 60), (some (57, true)), (.load 1 false (.t 59))⟩,
     ⟨(some 61), (some (57, true)), (.bin .geq 3 (.t 58) (.t 60))⟩,
     ⟨(some 62), none, (.pick (.t 57) (.t 61) (.v (.bool false)))⟩,
     ⟨(some 63), none, (.mov (.t 62))⟩,
     ⟨(some 64), (some (63, true)), (.mov (.t 7))⟩,
     ⟨(some 65), (some (63, true)), (.fld 2 (.t 3))⟩,
     ⟨(some 66), (some (63, true)), (.load 1 false (.t 65))⟩,
     ⟨(some 67), (some (63, true)), (.bin .leq 3 (.t 64) (.t 66))⟩,
     ⟨(some 68), none, (.pick (.t 63) (.t 67) (.v (.bool false)))⟩,
     ⟨(some 6), none, (.mov (.t 68))⟩])
  .ret)))))))
theorem k4 : FnIs Try.prog 4 69 [.t 6] a4 := ⟨_, _, Try.func4, rfl, by kernel_rfl, by kernel_rfl, rfl⟩
/- gridhall/gridhallkeep4.GovernorTotals -/
def a5 : ACode :=
  (.seq (.region false [] [
     ⟨(some 4), none, (.mov (.v (.bool false)))⟩])
  (.seq (.region false [] [
     ⟨(some 13), none, (.mov (.t 0))⟩,
     ⟨(some 14), none, (.mov (.t 1))⟩,
     ⟨(some 15), none, (.call 22 [(.t 13), (.t 14)])⟩,
     ⟨(some 12), none, (.mov (.t 15))⟩,
     ⟨(some 16), none, (.ext 0 (.t 12))⟩,
     ⟨(some 17), none, (.ext 1 (.t 12))⟩,
     ⟨(some 5), none, (.mov (.t 16))⟩,
     ⟨(some 6), none, (.mov (.t 17))⟩])
  (.seq (.seq (.region false [] [
     ⟨(some 18), none, (.mov (.t 6))⟩,
     ⟨(some 19), none, (.bin .neq 31 (.t 18) (.v (.int .i64 0)))⟩])
  (.cond (.t 19)
    (.seq (.region false [] [
       ⟨(some 20), none, (.call 21 [])⟩,
       ⟨(some 21), none, (.mov (.t 20))⟩,
       ⟨(some 22), (some (21, true)), (.mov (.t 5))⟩,
       ⟨(some 23), (some (21, true)), (.bin .eql 3 (.t 22) (.v (.int .i64 0)))⟩,
       ⟨(some 24), none, (.pick (.t 21) (.t 23) (.v (.bool false)))⟩,
       ⟨(some 4), none, (.mov (.t 24))⟩])
    .ret)
    .skip))
  (.seq (.region false [] [
     ⟨(some 7), none, (.mov (.v (.int .i64 0)))⟩])
  (.seq (.seq (.region false [] [
     ⟨(some 25), none, (.mov (.t 0))⟩,
     ⟨(some 26), none, (.len (.t 25))⟩,
     ⟨(some 27), none, (.mov (.v (.int .i64 0)))⟩])
  (.block 0 (.loop (.seq (.region false [] [
       ⟨(some 28), none, (.bin .lss 3 (.t 27) (.t 26))⟩])
    (.seq (.cond (.t 28)
      .skip
      (.exit 0))
    (.seq (.block 1 (.seq (.region false [] [
        ⟨(some 29), none, (.idx 6 (.t 25) (.t 27))⟩,
        ⟨(some 30), none, (.load 6 true (.t 29))⟩,
        ⟨(some 9), none, (.alloc 29 (.agg #[(.int .i64 0), (.int .i64 0), (.int .i64 0), (.int .i64 0), (.int .i64 0), (.int .i64 0)]))⟩,
        ⟨none, none, (.store 6 (.t 9) (.t 30))⟩])
     (.seq (.region false [] [
        ⟨(some 32), none, (.load 6 true (.t 9))⟩,
        ⟨(some 33), none, (.mov (.t 1))⟩,
        ⟨(some 34), none, (.call 20 [(.t 32), (.t 33)])⟩,
        ⟨(some 31), none, (.mov (.t 34))⟩,
        ⟨(some 35), none, (.ext 0 (.t 31))⟩,
        ⟨(some 36), none, (.ext 1 (.t 31))⟩,
        ⟨(some 10), none, (.mov (.t 35))⟩,
        ⟨(some 11), none, (.mov (.t 36))⟩])
     (.seq (.seq (.region false [] [
        ⟨(some 37), none, (.mov (.t 11))⟩,
        ⟨(some 38), none, (.bin .neq 31 (.t 37) (.v (.int .i64 0)))⟩])
     (.cond (.t 38)
       (.seq (.region false [] [
          ⟨(some 4), none, (.mov (.v (.bool false)))⟩])
       .ret)
       .skip))
     (.region false [] [
        ⟨(some 39), none, (.mov (.t 7))⟩,
        ⟨(some 40), none, (.mov (.t 10))⟩,
        ⟨(some 41), none, (.bin .add 3 (.t 39) (.t 40))⟩,
        ⟨(some 7), none, (.mov (.t 41))⟩])))))
    (.region false [] [
       ⟨(some 42), none, (.bin .add 3 (.t 27) (.v (.int .i64 1)))⟩,
       ⟨(some 27), none, (.mov (.t 42))⟩])))))))
  (.seq (.region false [] [
     ⟨(some 43), none, (.call 21 [])⟩,
     ⟨(some 44), none, (.mov (.t 43))⟩,
     ⟨(some 45), (some (44, true)), (.mov (.t 7))⟩,
     ⟨(some 46), (some (44, true)), (.mov (.t 5))⟩,
     ⟨(some 47), (some (44, true)), (.bin .eql 3 (.t 45) (.t 46))⟩,
     ⟨(some 48), none, (.pick (.t 44) (.t 47) (.v (.bool false)))⟩,
     ⟨(some 4), none, (.mov (.t 48))⟩])
  .ret))))))
theorem k5 : FnIs Try.prog 5 49 [.t 4] a5 := ⟨_, _, Try.func5, rfl, by kernel_rfl, by kernel_rfl, rfl⟩
/- gridhall/gridhallkeep4.GovernorSettles -/
def a6 : ACode :=
  (.seq (.region false [] [
     ⟨(some 4), none, (.mov (.v (.bool false)))⟩])
  (.seq (.region false [] [
     ⟨(some 14), none, (.mov (.t 0))⟩,
     ⟨(some 15), none, (.mov (.t 1))⟩,
     ⟨(some 16), none, (.call 23 [(.t 14), (.t 15)])⟩,
     ⟨(some 13), none, (.mov (.t 16))⟩,
     ⟨(some 17), none, (.ext 0 (.t 13))⟩,
     ⟨(some 18), none, (.ext 1 (.t 13))⟩,
     ⟨(some 5), none, (.mov (.t 17))⟩,
     ⟨(some 6), none, (.mov (.t 18))⟩])
  (.seq (.seq (.region false [] [
     ⟨(some 19), none, (.mov (.t 6))⟩,
     ⟨(some 20), none, (.bin .neq 31 (.t 19) (.v (.int .i64 0)))⟩])
  (.cond (.t 20)
    (.seq (.region false [] [
       ⟨(some 22), none, (.mov (.t 0))⟩,
       ⟨(some 23), none, (.call 22 [(.t 22), (.v (.int .i64 (-10000)))])⟩,
       ⟨(some 21), none, (.mov (.t 23))⟩,
       ⟨(some 24), none, (.ext 0 (.t 21))⟩,
       ⟨(some 25), none, (.ext 1 (.t 21))⟩,
       ⟨(some 7), none, (.mov (.t 24))⟩,
       ⟨(some 8), none, (.mov (.t 25))⟩])
    (.seq (.region false [] [
       ⟨(some 26), none, (.call 21 [])⟩,
       ⟨(some 27), none, (.mov (.t 26))⟩,
       ⟨(some 28), (some (27, true)), (.mov (.t 5))⟩,
       ⟨(some 29), (some (27, true)), (.bin .eql 3 (.t 28) (.v (.int .i64 0)))⟩,
       ⟨(some 30), none, (.pick (.t 27) (.t 29) (.v (.bool false)))⟩,
       ⟨(some 31), none, (.mov (.t 30))⟩,
       ⟨(some 32), (some (31, true)), (.mov (.t 6))⟩,
       ⟨(some 33), (some (31, true)), (.bin .eql 31 (.t 32) (.v (.int .i64 8)))⟩,
       ⟨(some 34), (some (31, true)), (.mov (.t 33))⟩,
       ⟨(some 35), (some (34, true)), (.mov (.t 8))⟩,
       ⟨(some 36), (some (34, true)), (.bin .eql 31 (.t 35) (.v (.int .i64 0)))⟩,
       ⟨(some 37), (some (31, true)), (.pick (.t 34) (.t 36) (.v (.bool false)))⟩,
       ⟨(some 38), (some (31, true)), (.mov (.t 37))⟩,
       ⟨(some 39), (some (38, true)), (.mov (.t 7))⟩,
       ⟨(some 40), (some (38, true)), (.mov (.t 1))⟩,
       ⟨(some 41), (some (38, true)), (.bin .lss 3 (.t 39) (.t 40))⟩,
       ⟨(some 42), (some (31, true)), (.pick (.t 38) (.t 41) (.v (.bool false)))⟩,
       ⟨(some 43), (some (31, true)), (.mov (.t 42))⟩,
       ⟨(some 44), (some (43, false)), (.mov (.t 6))⟩,
       ⟨(some 45), (some (43, false)), (.bin .neq 31 (.t 44) (.v (.int .i64 8)))⟩,
       ⟨(some 46), (some (43, false)), (.mov (.t 45))⟩,
       ⟨(some 47), (some (46, true)), (.mov (.t 8))⟩,
       ⟨(some 48), (some (46, true)), (.mov (.t 6))⟩,
       ⟨(some 49), (some (46, true)), (.bin .eql 31 (.t 47) (.t 48))⟩,
       ⟨(some 50), (some (43, false)), (.pick (.t 46) (.t 49) (.v (.bool false)))⟩,
       ⟨(some 51), (some (31, true)), (.pick (.t 43) (.v (.bool true)) (.t 50))⟩,
       ⟨(some 52), none, (.pick (.t 31) (.t 51) (.v (.bool false)))⟩,
       ⟨(some 4), none, (.mov (.t 52))⟩])
    .ret))
    .skip))
  (.seq (.region false [] [
     ⟨(some 54), none, (.mov (.t 0))⟩,
     ⟨(some 55), none, (.mov (.t 5))⟩,
     ⟨(some 56), none, (.call 22 [(.t 54), (.t 55)])⟩,
     ⟨(some 53), none, (.mov (.t 56))⟩,
     ⟨(some 57), none, (.ext 0 (.t 53))⟩,
     ⟨(some 58), none, (.ext 1 (.t 53))⟩,
     ⟨(some 9), none, (.mov (.t 57))⟩,
     ⟨(some 10), none, (.mov (.t 58))⟩])
  (.seq (.seq (.region false [] [
     ⟨(some 59), none, (.mov (.t 10))⟩,
     ⟨(some 60), none, (.bin .neq 31 (.t 59) (.v (.int .i64 0)))⟩,
     ⟨(some 61), none, (.mov (.t 60))⟩,
     ⟨(some 62), (some (61, false)), (.mov (.t 9))⟩,
     ⟨(some 63), (some (61, false)), (.mov (.t 1))⟩,
     ⟨(some 64), (some (61, false)), (.bin .lss 3 (.t 62) (.t 63))⟩,
     ⟨(some 65), none, (.pick (.t 61) (.v (.bool true)) (.t 64))⟩])
  (.cond (.t 65)
    (.seq (.region false [] [
       ⟨(some 4), none, (.mov (.v (.bool false)))⟩])
    .ret)
    .skip))
  (.seq (.seq (.region false [] [
     ⟨(some 66), none, (.mov (.t 5))⟩,
     ⟨(some 67), none, (.bin .eql 3 (.t 66) (.v (.int .i64 10000)))⟩])
  (.cond (.t 67)
    (.seq (.region false [] [
       ⟨(some 68), none, (.call 21 [])⟩,
       ⟨(some 4), none, (.mov (.t 68))⟩])
    .ret)
    .skip))
  (.seq (.region false [] [
     ⟨(some 70), none, (.mov (.t 0))⟩,
     ⟨(some 71), none, (.mov (.t 5))⟩,
     ⟨(some 72), none, (.bin .add 3 (.t 71) (.v (.int .i64 1)))⟩,
     ⟨(some 73), none, (.call 22 [(.t 70), (.t 72)])⟩,
     ⟨(some 69), none, (.mov (.t 73))⟩,
     ⟨(some 74), none, (.ext 0 (.t 69))⟩,
     ⟨(some 75), none, (.ext 1 (.t 69))⟩,
     ⟨(some 11), none, (.mov (.t 74))⟩,
     ⟨(some 12), none, (.mov (.t 75))⟩])
  (.seq (.region false [] [
     ⟨(some 76), none, (.call 21 [])⟩,
     ⟨(some 77), none, (.mov (.t 76))⟩,
     ⟨(some 78), (some (77, true)), (.mov (.t 12))⟩,
     ⟨(some 79), (some (77, true)), (.bin .eql 31 (.t 78) (.v (.int .i64 0)))⟩,
     ⟨(some 80), none, (.pick (.t 77) (.t 79) (.v (.bool false)))⟩,
     ⟨(some 81), none, (.mov (.t 80))⟩,
     ⟨(some 82), (some (81, true)), (.mov (.t 11))⟩,
     ⟨(some 83), (some (81, true)), (.mov (.t 1))⟩,
     ⟨(some 84), (some (81, true)), (.bin .lss 3 (.t 82) (.t 83))⟩,
     ⟨(some 85), none, (.pick (.t 81) (.t 84) (.v (.bool false)))⟩,
     ⟨(some 4), none, (.mov (.t 85))⟩])
  .ret))))))))
theorem k6 : FnIs Try.prog 6 86 [.t 4] a6 := ⟨_, _, Try.func6, rfl, by kernel_rfl, by kernel_rfl, rfl⟩
/- gridhall/gridhallkeep4.GovernorReaches -/
def a7 : ACode :=
  (.seq (.region false [] [
     ⟨(some 3), none, (.box 29 (.t 0))⟩,
     ⟨(some 6), none, (.mov (.v (.bool false)))⟩])
  (.seq (.region false [] [
     ⟨(some 12), none, (.load 6 true (.t 3))⟩,
     ⟨(some 13), none, (.mov (.t 2))⟩,
     ⟨(some 14), none, (.call 20 [(.t 12), (.t 13)])⟩,
     ⟨(some 11), none, (.mov (.t 14))⟩,
     ⟨(some 15), none, (.ext 0 (.t 11))⟩,
     ⟨(some 16), none, (.ext 1 (.t 11))⟩,
     ⟨(some 7), none, (.mov (.t 15))⟩,
     ⟨(some 8), none, (.mov (.t 16))⟩])
  (.seq (.seq (.region false [] [
     ⟨(some 17), none, (.mov (.t 8))⟩,
     ⟨(some 18), none, (.bin .neq 31 (.t 17) (.v (.int .i64 0)))⟩])
  (.cond (.t 18)
    (.seq (.region false [] [
       ⟨(some 19), none, (.call 21 [])⟩,
       ⟨(some 20), none, (.mov (.t 19))⟩,
       ⟨(some 21), (some (20, true)), (.mov (.t 7))⟩,
       ⟨(some 22), (some (20, true)), (.bin .eql 3 (.t 21) (.v (.int .i64 0)))⟩,
       ⟨(some 23), none, (.pick (.t 20) (.t 22) (.v (.bool false)))⟩,
       ⟨(some 6), none, (.mov (.t 23))⟩])
    .ret)
    .skip))
  (.seq (.region false [] [
     ⟨(some 24), none, (.mov (.t 1))⟩,
     ⟨(some 25), none, (.fld 1 (.t 3))⟩,
     ⟨(some 26), none, (.load 1 false (.t 25))⟩,
     ⟨(some 27), none, (.fld 2 (.t 3))⟩,
     ⟨(some 28), none, (.load 1 false (.t 27))⟩,
     ⟨(some 29), none, (.call 19 [(.t 24), (.t 26), (.t 28)])⟩,
     ⟨(some 1), none, (.mov (.t 29))⟩])
  (.seq (.seq (.region false [] [
     ⟨(some 30), none, (.mov (.v (.int .i64 0)))⟩])
  (.block 0 (.loop (.seq (.region false [] [
       ⟨(some 31), none, (.bin .lss 3 (.t 30) (.v (.int .i64 50)))⟩])
    (.seq (.cond (.t 31)
      .skip
      (.exit 0))
    (.seq (.block 1 (.seq (.region false [] [
        ⟨(some 33), none, (.load 6 true (.t 3))⟩,
        ⟨(some 34), none, (.mov (.t 1))⟩,
        ⟨(some 35), none, (.mov (.t 2))⟩,
        ⟨(some 36), none, (.call 24 [(.t 33), (.t 34), (.t 35)])⟩,
        ⟨(some 32), none, (.mov (.t 36))⟩,
        ⟨(some 37), none, (.ext 0 (.t 32))⟩,
        ⟨(some 38), none, (.ext 1 (.t 32))⟩,
        ⟨(some 9), none, (.mov (.t 37))⟩,
        ⟨(some 10), none, (.mov (.t 38))⟩])
     (.seq (.seq (.region false [] [
        ⟨(some 39), none, (.mov (.t 10))⟩,
        ⟨(some 40), none, (.bin .neq 31 (.t 39) (.v (.int .i64 0)))⟩,
        ⟨(some 41), none, (.mov (.t 40))⟩,
        ⟨(some 42), (some (41, false)), (.mov (.t 9))⟩,
        ⟨(some 43), (some (41, false)), (.mov (.t 1))⟩,
        ⟨(some 44), (some (41, false)), (.bin .sub 3 (.t 42) (.t 43))⟩,
        ⟨(some 45), (some (41, false)), (.mov (.t 1))⟩,
        ⟨(some 46), (some (41, false)), (.mov (.t 9))⟩,
        ⟨(some 47), (some (41, false)), (.bin .sub 3 (.t 45) (.t 46))⟩,
        ⟨(some 48), (some (41, false)), (.mxi (.t 44) (.t 47))⟩,
        ⟨(some 49), (some (41, false)), (.fld 5 (.t 3))⟩,
        ⟨(some 50), (some (41, false)), (.load 1 false (.t 49))⟩,
        ⟨(some 51), (some (41, false)), (.bin .gtr 3 (.t 48) (.t 50))⟩,
        ⟨(some 52), none, (.pick (.t 41) (.v (.bool true)) (.t 51))⟩,
        ⟨(some 53), none, (.mov (.t 52))⟩,
        ⟨(some 54), (some (53, false)), (.mov (.t 9))⟩,
        ⟨(some 55), (some (53, false)), (.mov (.t 7))⟩,
        ⟨(some 56), (some (53, false)), (.bin .sub 3 (.t 54) (.t 55))⟩,
        ⟨(some 57), (some (53, false)), (.mov (.t 7))⟩,
        ⟨(some 58), (some (53, false)), (.mov (.t 9))⟩,
        ⟨(some 59), (some (53, false)), (.bin .sub 3 (.t 57) (.t 58))⟩,
        ⟨(some 60), (some (53, false)), (.mxi (.t 56) (.t 59))⟩,
        ⟨(some 61), (some (53, false)), (.mov (.t 1))⟩,
        ⟨(some 62), (some (53, false)), (.mov (.t 7))⟩,
        ⟨(some 63), (some (53, false)), (.bin .sub 3 (.t 61) (.t 62))⟩,
        ⟨(some 64), (some (53, false)), (.mov (.t 7))⟩,
        ⟨(some 65), (some (53, false)), (.mov (.t 1))⟩,
        ⟨(some 66), (some (53, false)), (.bin .sub 3 (.t 64) (.t 65))⟩,
        ⟨(some 67), (some (53, false)), (.mxi (.t 63) (.t 66))⟩,
        ⟨(some 68), (some (53, false)), (.bin .gtr 3 (.t 60) (.t 67))⟩,
        ⟨(some 69), none, (.pick (.t 53) (.v (.bool true)) (.t 68))⟩,
        ⟨(some 70), none, (.mov (.t 69))⟩,
        ⟨(some 71), (some (70, false)), (.mov (.t 9))⟩,
        ⟨(some 72), (some (70, false)), (.mov (.t 7))⟩,
        ⟨(some 73), (some (70, false)), (.bin .neq 3 (.t 71) (.t 72))⟩,
        ⟨(some 74), (some (70, false)), (.mov (.t 73))⟩,
        ⟨(some 75), (some (74, true)), (.mov (.t 9))⟩,
        ⟨(some 76), (some (74, true)), (.mov (.t 1))⟩,
        ⟨(some 77), (some (74, true)), (.bin .sub 3 (.t 75) (.t 76))⟩,
        ⟨(some 78), (some (74, true)), (.mov (.t 1))⟩,
        ⟨(some 79), (some (74, true)), (.mov (.t 9))⟩,
        ⟨(some 80), (some (74, true)), (.bin .sub 3 (.t 78) (.t 79))⟩,
        ⟨(some 81), (some (74, true)), (.mxi (.t 77) (.t 80))⟩,
        ⟨(some 82), (some (74, true)), (.fld 5 (.t 3))⟩,
        ⟨(some 83), (some (74, true)), (.load 1 false (.t 82))⟩,
        ⟨(some 84), (some (74, true)), (.bin .neq 3 (.t 81) (.t 83))⟩,
        ⟨(some 85), (some (70, false)), (.pick (.t 74) (.t 84) (.v (.bool false)))⟩,
        ⟨(some 86), none, (.pick (.t 70) (.v (.bool true)) (.t 85))⟩])
     (.cond (.t 86)
       (.seq (.region false [] [
          ⟨(some 6), none, (.mov (.v (.bool false)))⟩])
       .ret)
       .skip))
     (.region false [] [
        ⟨(some 87), none, (.mov (.t 9))⟩,
        ⟨(some 1), none, (.mov (.t 87))⟩]))))
    (.region false [] [
       ⟨(some 88), none, (.bin .add 3 (.t 30) (.v (.int .i64 1)))⟩,
       ⟨(some 30), none, (.mov (.t 88))⟩])))))))
  (.seq (.region false [] [
     ⟨(some 89), none, (.call 21 [])⟩,
     ⟨(some 90), none, (.mov (.t 89))⟩,
     ⟨(some 91), (some (90, true)), (.fld 5 (.t 3))⟩,
     ⟨(some 92), (some (90, true)), (.load 1 false (.t 91))⟩,
     ⟨(some 93), (some (90, true)), (.bin .eql 3 (.t 92) (.v (.int .i64 0)))⟩,
     ⟨(some 94), (some (90, true)), (.mov (.t 93))⟩,
     ⟨(some 95), (some (94, false)), (.mov (.t 1))⟩,
     ⟨(some 96), (some (94, false)), (.mov (.t 7))⟩,
     ⟨(some 97), (some (94, false)), (.bin .eql 3 (.t 95) (.t 96))⟩,
     ⟨(some 98), (some (90, true)), (.pick (.t 94) (.v (.bool true)) (.t 97))⟩,
     ⟨(some 99), (some (90, true)), (.mov (.t 98))⟩,
     ⟨(some 100), (some (99, false)), (.fld 5 (.t 3))⟩,
     ⟨(some 101), (some (99, false)), (.load 1 false (.t 100))⟩,
     ⟨(some 102), (some (99, false)), (.bin .mul 3 (.v (.int .i64 50)) (.t 101))⟩,
     ⟨(some 103), (some (99, false)), (.fld 2 (.t 3))⟩,
     ⟨(some 104), (some (99, false)), (.load 1 false (.t 103))⟩,
     ⟨(some 105), (some (99, false)), (.fld 1 (.t 3))⟩,
     ⟨(some 106), (some (99, false)), (.load 1 false (.t 105))⟩,
     ⟨(some 107), (some (99, false)), (.bin .sub 3 (.t 104) (.t 106))⟩,
     ⟨(some 108), (some (99, false)), (.bin .lss 3 (.t 102) (.t 107))⟩,
     ⟨(some 109), (some (90, true)), (.pick (.t 99) (.v (.bool true)) (.t 108))⟩,
     ⟨(some 110), none, (.pick (.t 90) (.t 109) (.v (.bool false)))⟩,
     ⟨(some 6), none, (.mov (.t 110))⟩])
  .ret))))))
theorem k7 : FnIs Try.prog 7 111 [.t 6] a7 := ⟨_, _, Try.func7, rfl, by kernel_rfl, by kernel_rfl, rfl⟩
/- gridhall/gridhallref4.Cut -/
def a19 : ACode :=
  (.seq (.region false [] [
     ⟨(some 6), none, (.mov (.v (.int .i64 0)))⟩])
  (.seq (.region false [] [
     ⟨(some 8), none, (.mov (.t 2))⟩,
     ⟨(some 9), none, (.mov (.t 1))⟩,
     ⟨(some 10), none, (.bin .sub 3 (.t 8) (.t 9))⟩,
     ⟨(some 11), none, (.bin .add 3 (.t 10) (.v (.int .i64 1)))⟩,
     ⟨(some 7), none, (.mov (.t 11))⟩])
  (.seq (.region false [] [
     ⟨(some 12), none, (.mov (.t 0))⟩,
     ⟨(some 13), none, (.mov (.t 7))⟩,
     ⟨(some 14), none, (.bin .rem 3 (.t 12) (.t 13))⟩,
     ⟨(some 0), none, (.mov (.t 14))⟩])
  (.seq (.seq (.region false [] [
     ⟨(some 15), none, (.mov (.t 0))⟩,
     ⟨(some 16), none, (.bin .lss 3 (.t 15) (.v (.int .i64 0)))⟩])
  (.cond (.t 16)
    (.region false [] [
       ⟨(some 17), none, (.mov (.t 0))⟩,
       ⟨(some 18), none, (.mov (.t 7))⟩,
       ⟨(some 19), none, (.bin .add 3 (.t 17) (.t 18))⟩,
       ⟨(some 0), none, (.mov (.t 19))⟩])
    .skip))
  (.seq (.region false [] [
     ⟨(some 20), none, (.mov (.t 1))⟩,
     ⟨(some 21), none, (.mov (.t 0))⟩,
     ⟨(some 22), none, (.bin .add 3 (.t 20) (.t 21))⟩,
     ⟨(some 6), none, (.mov (.t 22))⟩])
  .ret)))))
theorem k19 : FnIs Try.prog 19 23 [.t 6] a19 := ⟨_, _, Try.func19, rfl, by kernel_rfl, by kernel_rfl, rfl⟩
/- gridhall/governor.Target -/
def a20 : ACode :=
  (.seq (.region false [] [
     ⟨(some 2), none, (.box 29 (.t 0))⟩,
     ⟨(some 4), none, (.mov (.v (.int .i64 0)))⟩,
     ⟨(some 5), none, (.mov (.v (.int .i64 0)))⟩])
  (.seq (.seq (.region false [] [
     ⟨(some 7), none, (.load 6 true (.t 2))⟩,
     ⟨(some 8), none, (.call 52 [(.t 7)])⟩,
     ⟨(some 6), none, (.mov (.t 8))⟩])
  (.seq (.region false [] [
     ⟨(some 9), none, (.mov (.t 6))⟩,
     ⟨(some 10), none, (.bin .neq 31 (.t 9) (.v (.int .i64 0)))⟩])
  (.cond (.t 10)
    (.seq (.region false [] [
       ⟨(some 11), none, (.mov (.t 6))⟩,
       ⟨(some 4), none, (.mov (.v (.int .i64 0)))⟩,
       ⟨(some 5), none, (.mov (.t 11))⟩])
    .ret)
    .skip)))
  (.seq (.seq (.region false [] [
     ⟨(some 12), none, (.mov (.t 1))⟩,
     ⟨(some 13), none, (.call 53 [(.t 12)])⟩,
     ⟨(some 14), none, (.un .not (.t 13))⟩])
  (.cond (.t 14)
    (.seq (.region false [] [
       ⟨(some 4), none, (.mov (.v (.int .i64 0)))⟩,
       ⟨(some 5), none, (.mov (.v (.int .i64 4)))⟩])
    .ret)
    .skip))
  (.seq (.region false [] [
     ⟨(some 15), none, (.load 6 true (.t 2))⟩,
     ⟨(some 16), none, (.mov (.t 1))⟩,
     ⟨(some 17), none, (.call 54 [(.t 15), (.t 16)])⟩,
     ⟨(some 4), none, (.mov (.t 17))⟩,
     ⟨(some 5), none, (.mov (.v (.int .i64 0)))⟩])
  .ret))))
theorem k20 : FnIs Try.prog 20 18 [.t 4, .t 5] a20 := ⟨_, _, Try.func20, rfl, by kernel_rfl, by kernel_rfl, rfl⟩
/- gridhall/governor.Total -/
def a22 : ACode :=
  (.seq (.region false [] [
     ⟨(some 4), none, (.mov (.v (.int .i64 0)))⟩,
     ⟨(some 5), none, (.mov (.v (.int .i64 0)))⟩])
  (.seq (.seq (.region false [] [
     ⟨(some 7), none, (.mov (.t 0))⟩,
     ⟨(some 8), none, (.call 55 [(.t 7)])⟩,
     ⟨(some 6), none, (.mov (.t 8))⟩])
  (.seq (.region false [] [
     ⟨(some 9), none, (.mov (.t 6))⟩,
     ⟨(some 10), none, (.bin .neq 31 (.t 9) (.v (.int .i64 0)))⟩])
  (.cond (.t 10)
    (.seq (.region false [] [
       ⟨(some 11), none, (.mov (.t 6))⟩,
       ⟨(some 4), none, (.mov (.v (.int .i64 0)))⟩,
       ⟨(some 5), none, (.mov (.t 11))⟩])
    .ret)
    .skip)))
  (.seq (.seq (.region false [] [
     ⟨(some 12), none, (.mov (.t 1))⟩,
     ⟨(some 13), none, (.call 53 [(.t 12)])⟩,
     ⟨(some 14), none, (.un .not (.t 13))⟩])
  (.cond (.t 14)
    (.seq (.region false [] [
       ⟨(some 4), none, (.mov (.v (.int .i64 0)))⟩,
       ⟨(some 5), none, (.mov (.v (.int .i64 4)))⟩])
    .ret)
    .skip))
  (.seq (.region false [] [
     ⟨(some 15), none, (.mov (.t 0))⟩,
     ⟨(some 16), none, (.mov (.t 1))⟩,
     ⟨(some 17), none, (.call 56 [(.t 15), (.t 16)])⟩,
     ⟨(some 4), none, (.mov (.t 17))⟩,
     ⟨(some 5), none, (.mov (.v (.int .i64 0)))⟩])
  .ret))))
theorem k22 : FnIs Try.prog 22 18 [.t 4, .t 5] a22 := ⟨_, _, Try.func22, rfl, by kernel_rfl, by kernel_rfl, rfl⟩
/- gridhall/governor.Settle -/
def a23 : ACode :=
  (.seq (.region false [] [
     ⟨(some 4), none, (.mov (.v (.int .i64 0)))⟩,
     ⟨(some 5), none, (.mov (.v (.int .i64 0)))⟩])
  (.seq (.seq (.region false [] [
     ⟨(some 10), none, (.mov (.t 0))⟩,
     ⟨(some 11), none, (.call 55 [(.t 10)])⟩,
     ⟨(some 6), none, (.mov (.t 11))⟩])
  (.seq (.region false [] [
     ⟨(some 12), none, (.mov (.t 6))⟩,
     ⟨(some 13), none, (.bin .neq 31 (.t 12) (.v (.int .i64 0)))⟩])
  (.cond (.t 13)
    (.seq (.region false [] [
       ⟨(some 14), none, (.mov (.t 6))⟩,
       ⟨(some 4), none, (.mov (.v (.int .i64 0)))⟩,
       ⟨(some 5), none, (.mov (.t 14))⟩])
    .ret)
    .skip)))
  (.seq (.seq (.region false [] [
     ⟨(some 15), none, (.mov (.t 0))⟩,
     ⟨(some 16), none, (.call 56 [(.t 15), (.v (.int .i64 (-10000)))])⟩,
     ⟨(some 17), none, (.mov (.t 1))⟩,
     ⟨(some 18), none, (.bin .lss 3 (.t 16) (.t 17))⟩])
  (.cond (.t 18)
    (.seq (.region false [] [
       ⟨(some 4), none, (.mov (.v (.int .i64 0)))⟩,
       ⟨(some 5), none, (.mov (.v (.int .i64 8)))⟩])
    .ret)
    .skip))
  (.seq (.region false [] [
     ⟨(some 7), none, (.mov (.v (.int .i64 (-10000))))⟩,
     ⟨(some 8), none, (.mov (.v (.int .i64 10000)))⟩])
  (.seq (.block 0 (.loop (.seq (.seq (.region false [] [
       ⟨(some 19), none, (.mov (.t 7))⟩,
       ⟨(some 20), none, (.mov (.t 8))⟩,
       ⟨(some 21), none, (.bin .lss 3 (.t 19) (.t 20))⟩])
    (.cond (.t 21)
      .skip
      (.exit 0)))
    (.block 1 (.seq (.region false [] [
        ⟨(some 22), none, (.mov (.t 7))⟩,
        ⟨(some 23), none, (.mov (.t 8))⟩,
        ⟨(some 24), none, (.mov (.t 7))⟩,
        ⟨(some 25), none, (.bin .sub 3 (.t 23) (.t 24))⟩,
        ⟨(some 26), none, (.bin .add 3 (.t 25) (.v (.int .i64 1)))⟩,
        ⟨(some 27), none, (.bin .quo 3 (.t 26) (.v (.int .i64 2)))⟩,
        ⟨(some 28), none, (.bin .add 3 (.t 22) (.t 27))⟩,
        ⟨(some 9), none, (.mov (.t 28))⟩])
     (.seq (.region false [] [
        ⟨(some 29), none, (.mov (.t 0))⟩,
        ⟨(some 30), none, (.mov (.t 9))⟩,
        ⟨(some 31), none, (.call 56 [(.t 29), (.t 30)])⟩,
        ⟨(some 32), none, (.mov (.t 1))⟩,
        ⟨(some 33), none, (.bin .geq 3 (.t 31) (.t 32))⟩])
     (.cond (.t 33)
       (.region false [] [
          ⟨(some 34), none, (.mov (.t 9))⟩,
          ⟨(some 7), none, (.mov (.t 34))⟩])
       (.region false [] [
          ⟨(some 35), none, (.mov (.t 9))⟩,
          ⟨(some 36), none, (.bin .sub 3 (.t 35) (.v (.int .i64 1)))⟩,
          ⟨(some 8), none, (.mov (.t 36))⟩]))))))))
  (.seq (.region false [] [
     ⟨(some 37), none, (.mov (.t 7))⟩,
     ⟨(some 4), none, (.mov (.t 37))⟩,
     ⟨(some 5), none, (.mov (.v (.int .i64 0)))⟩])
  .ret))))))
theorem k23 : FnIs Try.prog 23 38 [.t 4, .t 5] a23 := ⟨_, _, Try.func23, rfl, by kernel_rfl, by kernel_rfl, rfl⟩
/- gridhall/governor.Next -/
def a24 : ACode :=
  (.seq (.region false [] [
     ⟨(some 3), none, (.box 29 (.t 0))⟩,
     ⟨(some 6), none, (.mov (.v (.int .i64 0)))⟩,
     ⟨(some 7), none, (.mov (.v (.int .i64 0)))⟩])
  (.seq (.region false [] [
     ⟨(some 11), none, (.load 6 true (.t 3))⟩,
     ⟨(some 12), none, (.mov (.t 2))⟩,
     ⟨(some 13), none, (.call 20 [(.t 11), (.t 12)])⟩,
     ⟨(some 10), none, (.mov (.t 13))⟩,
     ⟨(some 14), none, (.ext 0 (.t 10))⟩,
     ⟨(some 15), none, (.ext 1 (.t 10))⟩,
     ⟨(some 8), none, (.mov (.t 14))⟩,
     ⟨(some 9), none, (.mov (.t 15))⟩])
  (.seq (.seq (.region false [] [
     ⟨(some 16), none, (.mov (.t 9))⟩,
     ⟨(some 17), none, (.bin .neq 31 (.t 16) (.v (.int .i64 0)))⟩])
  (.cond (.t 17)
    (.seq (.region false [] [
       ⟨(some 18), none, (.mov (.t 9))⟩,
       ⟨(some 6), none, (.mov (.v (.int .i64 0)))⟩,
       ⟨(some 7), none, (.mov (.t 18))⟩])
    .ret)
    .skip))
  (.seq (.seq (.region false [] [
     ⟨(some 19), none, (.mov (.t 1))⟩,
     ⟨(some 20), none, (.fld 1 (.t 3))⟩,
     ⟨(some 21), none, (.load 1 false (.t 20))⟩,
     ⟨(some 22), none, (.bin .lss 3 (.t 19) (.t 21))⟩,
     ⟨(some 23), none, (.mov (.t 22))⟩,
     ⟨(some 24), (some (23, false)), (.mov (.t 1))⟩,
     ⟨(some 25), (some (23, false)), (.fld 2 (.t 3))⟩,
     ⟨(some 26), (some (23, false)), (.load 1 false (.t 25))⟩,
     ⟨(some 27), (some (23, false)), (.bin .gtr 3 (.t 24) (.t 26))⟩,
     ⟨(some 28), none, (.pick (.t 23) (.v (.bool true)) (.t 27))⟩])
  (.cond (.t 28)
    (.seq (.region false [] [
       ⟨(some 6), none, (.mov (.v (.int .i64 0)))⟩,
       ⟨(some 7), none, (.mov (.v (.int .i64 11)))⟩])
    .ret)
    .skip))
  (.seq (.region false [] [
     ⟨(some 29), none, (.mov (.t 8))⟩,
     ⟨(some 30), none, (.mov (.t 1))⟩,
     ⟨(some 31), none, (.fld 5 (.t 3))⟩,
     ⟨(some 32), none, (.load 1 false (.t 31))⟩,
     ⟨(some 33), none, (.bin .sub 3 (.t 30) (.t 32))⟩,
     ⟨(some 34), none, (.mxi (.t 29) (.t 33))⟩,
     ⟨(some 35), none, (.mov (.t 1))⟩,
     ⟨(some 36), none, (.fld 5 (.t 3))⟩,
     ⟨(some 37), none, (.load 1 false (.t 36))⟩,
     ⟨(some 38), none, (.bin .add 3 (.t 35) (.t 37))⟩,
     ⟨(some 39), none, (.mni (.t 34) (.t 38))⟩,
     ⟨(some 6), none, (.mov (.t 39))⟩,
     ⟨(some 7), none, (.mov (.v (.int .i64 0)))⟩])
  .ret)))))
theorem k24 : FnIs Try.prog 24 40 [.t 6, .t 7] a24 := ⟨_, _, Try.func24, rfl, by kernel_rfl, by kernel_rfl, rfl⟩
/- gridhall/gridhallkeep4.governorFact -/
def a21 : ACode :=
  (.seq (.region false [] [
     ⟨(some 0), none, (.mov (.v (.bool false)))⟩])
  (.seq (.region false [] [
     ⟨(some 6), none, (.build (.agg #[(.int .i64 0), (.int .i64 0), (.int .i64 0), (.int .i64 0), (.int .i64 0), (.int .i64 0)]) [(0, (1, (.v (.int .i64 50)))), (2, (1, (.v (.int .i64 100)))), (3, (1, (.v (.int .i64 10)))), (4, (1, (.v (.int .i64 20))))])⟩,
     ⟨(some 1), none, (.alloc 29 (.agg #[(.int .i64 0), (.int .i64 0), (.int .i64 0), (.int .i64 0), (.int .i64 0), (.int .i64 0)]))⟩,
     ⟨none, none, (.store 6 (.t 1) (.t 6))⟩])
  (.seq (.region false [] [
     ⟨(some 8), none, (.load 6 true (.t 1))⟩,
     ⟨(some 9), none, (.call 20 [(.t 8), (.v (.int .i64 (-65)))])⟩,
     ⟨(some 7), none, (.mov (.t 9))⟩,
     ⟨(some 10), none, (.ext 0 (.t 7))⟩,
     ⟨(some 11), none, (.ext 1 (.t 7))⟩,
     ⟨(some 2), none, (.mov (.t 10))⟩,
     ⟨(some 3), none, (.mov (.t 11))⟩])
  (.seq (.region false [] [
     ⟨(some 13), none, (.load 6 true (.t 1))⟩,
     ⟨(some 14), none, (.bsl 29 6 1 [(0, (.t 13))])⟩,
     ⟨(some 15), none, (.call 23 [(.t 14), (.v (.int .i64 54))])⟩,
     ⟨(some 12), none, (.mov (.t 15))⟩,
     ⟨(some 16), none, (.ext 0 (.t 12))⟩,
     ⟨(some 17), none, (.ext 1 (.t 12))⟩,
     ⟨(some 4), none, (.mov (.t 16))⟩,
     ⟨(some 5), none, (.mov (.t 17))⟩])
  (.seq (.region false [] [
     ⟨(some 18), none, (.mov (.t 3))⟩,
     ⟨(some 19), none, (.bin .eql 31 (.t 18) (.v (.int .i64 0)))⟩,
     ⟨(some 20), none, (.mov (.t 19))⟩,
     ⟨(some 21), (some (20, true)), (.mov (.t 5))⟩,
     ⟨(some 22), (some (20, true)), (.bin .eql 31 (.t 21) (.v (.int .i64 0)))⟩,
     ⟨(some 23), none, (.pick (.t 20) (.t 22) (.v (.bool false)))⟩,
     ⟨(some 24), none, (.mov (.t 23))⟩,
     ⟨(some 25), (some (24, true)), (.mov (.t 2))⟩,
     ⟨(some 26), (some (24, true)), (.bin .eql 3 (.t 25) (.v (.int .i64 54)))⟩,
     ⟨(some 27), none, (.pick (.t 24) (.t 26) (.v (.bool false)))⟩,
     ⟨(some 28), none, (.mov (.t 27))⟩,
     ⟨(some 29), (some (28, true)), (.mov (.t 4))⟩,
     ⟨(some 30), (some (28, true)), (.bin .eql 3 (.t 29) (.v (.int .i64 (-60))))⟩,
     ⟨(some 31), none, (.pick (.t 28) (.t 30) (.v (.bool false)))⟩,
     ⟨(some 0), none, (.mov (.t 31))⟩])
  .ret)))))
theorem k21 : FnIs Try.prog 21 32 [.t 0] a21 := ⟨_, _, Try.func21, rfl, by kernel_rfl, by kernel_rfl, rfl⟩
/- gridhall/governor.Check -/
def a52 : ACode :=
  (.seq (.region false [] [
     ⟨(some 1), none, (.box 29 (.t 0))⟩,
     ⟨(some 2), none, (.mov (.v (.int .i64 0)))⟩])
  (.seq (.block 0 (.seq (.region false [] [
      ⟨(some 4), none, (.fld 1 (.t 1))⟩,
      ⟨(some 5), none, (.load 1 false (.t 4))⟩,
      ⟨(some 6), none, (.bin .lss 3 (.t 5) (.v (.int .i64 0)))⟩,
      ⟨(some 7), none, (.mov (.t 6))⟩,
      ⟨(some 8), (some (7, false)), (.fld 2 (.t 1))⟩,
      ⟨(some 9), (some (7, false)), (.load 1 false (.t 8))⟩,
      ⟨(some 10), (some (7, false)), (.bin .gtr 3 (.t 9) (.v (.int .i64 100000)))⟩,
      ⟨(some 11), none, (.pick (.t 7) (.v (.bool true)) (.t 10))⟩,
      ⟨(some 12), none, (.mov (.t 11))⟩,
      ⟨(some 13), (some (12, false)), (.fld 1 (.t 1))⟩,
      ⟨(some 14), (some (12, false)), (.load 1 false (.t 13))⟩,
      ⟨(some 15), (some (12, false)), (.fld 2 (.t 1))⟩,
      ⟨(some 16), (some (12, false)), (.load 1 false (.t 15))⟩,
      ⟨(some 17), (some (12, false)), (.bin .gtr 3 (.t 14) (.t 16))⟩,
      ⟨(some 18), none, (.pick (.t 12) (.v (.bool true)) (.t 17))⟩,
      ⟨(some 19), none, (.mov (.t 18))⟩,
      ⟨(some 20), (some (19, false)), (.fld 0 (.t 1))⟩,
      ⟨(some 21), (some (19, false)), (.load 1 false (.t 20))⟩,
      ⟨(some 22), (some (19, false)), (.fld 1 (.t 1))⟩,
      ⟨(some 23), (some (19, false)), (.load 1 false (.t 22))⟩,
      ⟨(some 24), (some (19, false)), (.bin .lss 3 (.t 21) (.t 23))⟩,
      ⟨(some 25), none, (.pick (.t 19) (.v (.bool true)) (.t 24))⟩,
      ⟨(some 26), none, (.mov (.t 25))⟩,
      ⟨(some 27), (some (26, false)), (.fld 0 (.t 1))⟩,
      ⟨(some 28), (some (26, false)), (.load 1 false (.t 27))⟩,
      ⟨(some 29), (some (26, false)), (.fld 2 (.t 1))⟩,
      ⟨(some 30), (some (26, false)), (.load 1 false (.t 29))⟩,
      ⟨(some 31), (some (26, false)), (.bin .gtr 3 (.t 28) (.t 30))⟩,
      ⟨(some 32), none, (.pick (.t 26) (.v (.bool true)) (.t 31))⟩,
      ⟨(some 3), none, (.mov (.t 32))⟩])
   (.cond (.t 3)
     (.seq (.region false [] [
        ⟨(some 2), none, (.mov (.v (.int .i64 4)))⟩])
     .ret)
     (.seq (.region false [] [
        ⟨(some 34), none, (.fld 3 (.t 1))⟩,
        ⟨(some 35), none, (.load 1 false (.t 34))⟩,
        ⟨(some 36), none, (.bin .lss 3 (.t 35) (.v (.int .i64 1)))⟩,
        ⟨(some 37), none, (.mov (.t 36))⟩,
        ⟨(some 38), (some (37, false)), (.fld 3 (.t 1))⟩,
        ⟨(some 39), (some (37, false)), (.load 1 false (.t 38))⟩,
        ⟨(some 40), (some (37, false)), (.bin .gtr 3 (.t 39) (.v (.int .i64 10000)))⟩,
        ⟨(some 41), none, (.pick (.t 37) (.v (.bool true)) (.t 40))⟩,
        ⟨(some 42), none, (.mov (.t 41))⟩,
        ⟨(some 43), (some (42, false)), (.fld 4 (.t 1))⟩,
        ⟨(some 44), (some (42, false)), (.load 1 false (.t 43))⟩,
        ⟨(some 45), (some (42, false)), (.bin .lss 3 (.t 44) (.v (.int .i64 0)))⟩,
        ⟨(some 46), none, (.pick (.t 42) (.v (.bool true)) (.t 45))⟩,
        ⟨(some 47), none, (.mov (.t 46))⟩,
        ⟨(some 48), (some (47, false)), (.fld 4 (.t 1))⟩,
        ⟨(some 49), (some (47, false)), (.load 1 false (.t 48))⟩,
        ⟨(some 50), (some (47, false)), (.bin .gtr 3 (.t 49) (.v (.int .i64 10000)))⟩,
        ⟨(some 51), none, (.pick (.t 47) (.v (.bool true)) (.t 50))⟩,
        ⟨(some 52), none, (.mov (.t 51))⟩,
        ⟨(some 53), (some (52, false)), (.fld 5 (.t 1))⟩,
        ⟨(some 54), (some (52, false)), (.load 1 false (.t 53))⟩,
        ⟨(some 55), (some (52, false)), (.bin .lss 3 (.t 54) (.v (.int .i64 0)))⟩,
        ⟨(some 56), none, (.pick (.t 52) (.v (.bool true)) (.t 55))⟩,
        ⟨(some 57), none, (.mov (.t 56))⟩,
        ⟨(some 58), (some (57, false)), (.fld 5 (.t 1))⟩,
        ⟨(some 59), (some (57, false)), (.load 1 false (.t 58))⟩,
        ⟨(some 60), (some (57, false)), (.bin .gtr 3 (.t 59) (.v (.int .i64 100000)))⟩,
        ⟨(some 61), none, (.pick (.t 57) (.v (.bool true)) (.t 60))⟩,
        ⟨(some 33), none, (.mov (.t 61))⟩])
     (.cond (.t 33)
       (.seq (.region false [] [
          ⟨(some 2), none, (.mov (.v (.int .i64 4)))⟩])
       .ret)
       .skip)))))
  (.seq (.region false [] [
     ⟨(some 2), none, (.mov (.v (.int .i64 0)))⟩])
  .ret)))
theorem k52 : FnIs Try.prog 52 62 [.t 2] a52 := ⟨_, _, Try.func52, rfl, by kernel_rfl, by kernel_rfl, rfl⟩
/- gridhall/governor.frequency -/
def a53 : ACode :=
  (.seq (.region false [] [
     ⟨(some 2), none, (.mov (.v (.bool false)))⟩])
  (.seq (.region false [] [
     ⟨(some 3), none, (.mov (.t 0))⟩,
     ⟨(some 4), none, (.bin .geq 3 (.t 3) (.v (.int .i64 (-10000))))⟩,
     ⟨(some 5), none, (.mov (.t 4))⟩,
     ⟨(some 6), (some (5, true)), (.mov (.t 0))⟩,
     ⟨(some 7), (some (5, true)), (.bin .leq 3 (.t 6) (.v (.int .i64 10000)))⟩,
     ⟨(some 8), none, (.pick (.t 5) (.t 7) (.v (.bool false)))⟩,
     ⟨(some 2), none, (.mov (.t 8))⟩])
  .ret))
theorem k53 : FnIs Try.prog 53 9 [.t 2] a53 := ⟨_, _, Try.func53, rfl, by kernel_rfl, by kernel_rfl, rfl⟩
/- gridhall/governor.target -/
def a54 : ACode :=
  (.seq (.region false [] [
     ⟨(some 2), none, (.box 29 (.t 0))⟩,
     ⟨(some 4), none, (.mov (.v (.int .i64 0)))⟩])
  (.seq (.region false [] [
     ⟨(some 5), none, (.mov (.v (.int .i64 0)))⟩])
  (.seq (.block 0 (.seq (.region false [] [
      ⟨(some 7), none, (.mov (.t 1))⟩,
      ⟨(some 8), none, (.fld 4 (.t 2))⟩,
      ⟨(some 9), none, (.load 1 false (.t 8))⟩,
      ⟨(some 10), none, (.bin .gtr 3 (.t 7) (.t 9))⟩,
      ⟨(some 6), none, (.mov (.t 10))⟩])
   (.cond (.t 6)
     (.region false [] [
        ⟨(some 11), none, (.mov (.t 1))⟩,
        ⟨(some 12), none, (.fld 4 (.t 2))⟩,
        ⟨(some 13), none, (.load 1 false (.t 12))⟩,
        ⟨(some 14), none, (.bin .sub 3 (.t 11) (.t 13))⟩,
        ⟨(some 5), none, (.mov (.t 14))⟩])
     (.seq (.region false [] [
        ⟨(some 16), none, (.mov (.t 1))⟩,
        ⟨(some 17), none, (.fld 4 (.t 2))⟩,
        ⟨(some 18), none, (.load 1 false (.t 17))⟩,
        ⟨(some 19), none, (.un .neg (.t 18))⟩,
        ⟨(some 20), none, (.bin .lss 3 (.t 16) (.t 19))⟩,
        ⟨(some 15), none, (.mov (.t 20))⟩])
     (.cond (.t 15)
       (.region false [] [
          ⟨(some 21), none, (.mov (.t 1))⟩,
          ⟨(some 22), none, (.fld 4 (.t 2))⟩,
          ⟨(some 23), none, (.load 1 false (.t 22))⟩,
          ⟨(some 24), none, (.bin .add 3 (.t 21) (.t 23))⟩,
          ⟨(some 5), none, (.mov (.t 24))⟩])
       .skip)))))
  (.seq (.region true [[], [0], [], [], [3], [2, 4], [1, 5], [], [7], [6, 8], [], [10], [9, 11], [12, 0, 1, 2, 3, 4, 5, 6, 7, 8, 9, 10, 11, 12]] [
     ⟨(some 25), none, (.fld 0 (.t 2))⟩,
     ⟨(some 26), none, (.load 1 false (.t 25))⟩,
     ⟨(some 27), none, (.mov (.t 5))⟩,
     ⟨(some 28), none, (.fld 3 (.t 2))⟩,
     ⟨(some 29), none, (.load 1 false (.t 28))⟩,
     ⟨(some 30), none, (.bin .quo 3 (.t 27) (.t 29))⟩,
     ⟨(some 31), none, (.bin .sub 3 (.t 26) (.t 30))⟩,
     ⟨(some 32), none, (.fld 1 (.t 2))⟩,
     ⟨(some 33), none, (.load 1 false (.t 32))⟩,
     ⟨(some 34), none, (.mxi (.t 31) (.t 33))⟩,
     ⟨(some 35), none, (.fld 2 (.t 2))⟩,
     ⟨(some 36), none, (.load 1 false (.t 35))⟩,
     ⟨(some 37), none, (.mni (.t 34) (.t 36))⟩,
     ⟨(some 4), none, (.mov (.t 37))⟩])
  .ret))))
theorem k54 : FnIs Try.prog 54 38 [.t 4] a54 := ⟨_, _, Try.func54, rfl, by kernel_rfl, by kernel_rfl, rfl⟩
/- gridhall/governor.all -/
def a55 : ACode :=
  (.seq (.region false [] [
     ⟨(some 2), none, (.mov (.v (.int .i64 0)))⟩])
  (.seq (.seq (.region false [] [
     ⟨(some 6), none, (.mov (.t 0))⟩,
     ⟨(some 7), none, (.len (.t 6))⟩,
     ⟨(some 8), none, (.bin .gtr 3 (.t 7) (.v (.int .i64 10)))⟩])
  (.cond (.t 8)
    (.seq (.region false [] [
       ⟨(some 2), none, (.mov (.v (.int .i64 2)))⟩])
    .ret)
    .skip))
  (.seq (.seq (.region false [] [
     ⟨(some 9), none, (.mov (.t 0))⟩,
     ⟨(some 10), none, (.len (.t 9))⟩,
     ⟨(some 11), none, (.mov (.v (.int .i64 0)))⟩])
  (.block 0 (.loop (.seq (.region false [] [
       ⟨(some 12), none, (.bin .lss 3 (.t 11) (.t 10))⟩])
    (.seq (.cond (.t 12)
      .skip
      (.exit 0))
    (.seq (.block 1 (.seq (.region false [] [
        ⟨(some 13), none, (.idx 6 (.t 9) (.t 11))⟩,
        ⟨(some 14), none, (.load 6 true (.t 13))⟩,
        ⟨(some 4), none, (.alloc 29 (.agg #[(.int .i64 0), (.int .i64 0), (.int .i64 0), (.int .i64 0), (.int .i64 0), (.int .i64 0)]))⟩,
        ⟨none, none, (.store 6 (.t 4) (.t 14))⟩])
     (.seq (.region false [] [
        ⟨(some 15), none, (.load 6 true (.t 4))⟩,
        ⟨(some 16), none, (.call 52 [(.t 15)])⟩,
        ⟨(some 5), none, (.mov (.t 16))⟩])
     (.seq (.region false [] [
        ⟨(some 17), none, (.mov (.t 5))⟩,
        ⟨(some 18), none, (.bin .neq 31 (.t 17) (.v (.int .i64 0)))⟩])
     (.cond (.t 18)
       (.seq (.region false [] [
          ⟨(some 19), none, (.mov (.t 5))⟩,
          ⟨(some 2), none, (.mov (.t 19))⟩])
       .ret)
       .skip)))))
    (.region false [] [
       ⟨(some 20), none, (.bin .add 3 (.t 11) (.v (.int .i64 1)))⟩,
       ⟨(some 11), none, (.mov (.t 20))⟩])))))))
  (.seq (.region false [] [
     ⟨(some 2), none, (.mov (.v (.int .i64 0)))⟩])
  .ret))))
theorem k55 : FnIs Try.prog 55 21 [.t 2] a55 := ⟨_, _, Try.func55, rfl, by kernel_rfl, by kernel_rfl, rfl⟩
/- gridhall/governor.sum -/
def a56 : ACode :=
  (.seq (.region false [] [
     ⟨(some 4), none, (.mov (.v (.int .i64 0)))⟩])
  (.seq (.region false [] [
     ⟨(some 5), none, (.mov (.v (.int .i64 0)))⟩])
  (.seq (.seq (.region false [] [
     ⟨(some 8), none, (.mov (.t 0))⟩,
     ⟨(some 9), none, (.len (.t 8))⟩,
     ⟨(some 10), none, (.mov (.v (.int .i64 0)))⟩])
  (.block 0 (.loop (.seq (.region false [] [
       ⟨(some 11), none, (.bin .lss 3 (.t 10) (.t 9))⟩])
    (.seq (.cond (.t 11)
      .skip
      (.exit 0))
    (.seq (.block 1 (.seq (.region false [] [
        ⟨(some 12), none, (.idx 6 (.t 8) (.t 10))⟩,
        ⟨(some 13), none, (.load 6 true (.t 12))⟩,
        ⟨(some 7), none, (.alloc 29 (.agg #[(.int .i64 0), (.int .i64 0), (.int .i64 0), (.int .i64 0), (.int .i64 0), (.int .i64 0)]))⟩,
        ⟨none, none, (.store 6 (.t 7) (.t 13))⟩])
     (.region false [] [
        ⟨(some 14), none, (.mov (.t 5))⟩,
        ⟨(some 15), none, (.load 6 true (.t 7))⟩,
        ⟨(some 16), none, (.mov (.t 1))⟩,
        ⟨(some 17), none, (.call 54 [(.t 15), (.t 16)])⟩,
        ⟨(some 18), none, (.bin .add 3 (.t 14) (.t 17))⟩,
        ⟨(some 5), none, (.mov (.t 18))⟩])))
    (.region false [] [
       ⟨(some 19), none, (.bin .add 3 (.t 10) (.v (.int .i64 1)))⟩,
       ⟨(some 10), none, (.mov (.t 19))⟩])))))))
  (.seq (.region false [] [
     ⟨(some 20), none, (.mov (.t 5))⟩,
     ⟨(some 4), none, (.mov (.t 20))⟩])
  .ret))))
theorem k56 : FnIs Try.prog 56 21 [.t 4] a56 := ⟨_, _, Try.func56, rfl, by kernel_rfl, by kernel_rfl, rfl⟩

end Go.Proofs.Ythmehpojcecldaa
