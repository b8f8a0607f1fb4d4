/-
  Functions of the program, in the small language (written by program).
-/
import Derived.Test.YtbecgpajbcafiaaGreatKD
set_option linter.unusedVariables false
set_option maxRecDepth 100000
namespace Go.Proofs.YtbecgpajbcafiaaGreat
open Go.Av Go.RowKit

def a89_r0 : List AOper := [
  ⟨(some 1), (.mv (.k (.d (.bool false)))), none⟩]
def a89_r1 : List AOper := [
  ⟨(some 2), (.fld 3 (.t 0)), none⟩,
  ⟨(some 3), (.load false 1 (.t 2)), none⟩,
  ⟨(some 4), (.bin .lss (.t 3) (.k (.d (.int .i64 0)))), none⟩,
  ⟨(some 5), (.mv (.t 4)), none⟩,
  ⟨(some 6), (.fld 4 (.t 0)), (some (5, false))⟩,
  ⟨(some 7), (.load false 1 (.t 6)), (some (5, false))⟩,
  ⟨(some 8), (.fld 3 (.t 0)), (some (5, false))⟩,
  ⟨(some 9), (.load false 1 (.t 8)), (some (5, false))⟩,
  ⟨(some 10), (.bin .lss (.t 7) (.t 9)), (some (5, false))⟩,
  ⟨(some 11), (.pick (.t 5) (.k (.d (.bool true))) (.t 10)), none⟩,
  ⟨(some 12), (.mv (.t 11)), none⟩,
  ⟨(some 13), (.fld 4 (.t 0)), (some (12, false))⟩,
  ⟨(some 14), (.load false 1 (.t 13)), (some (12, false))⟩,
  ⟨(some 15), (.bin .gtr (.t 14) (.k (.d (.int .i64 1048576)))), (some (12, false))⟩,
  ⟨(some 16), (.pick (.t 12) (.k (.d (.bool true))) (.t 15)), none⟩,
  ⟨(some 1), (.mv (.t 16)), none⟩]
def e89 : EFunc := ⟨17, [(.tmp 1)],
  .seq (.region false a89_r0) (.seq (.region false a89_r1) (.ret))⟩

def a90_r0 : List AOper := [
  ⟨(some 1), (.mv (.k (.d (.bool false)))), none⟩]
def a90_r1 : List AOper := [
  ⟨(some 2), (.fld 5 (.t 0)), none⟩,
  ⟨(some 3), (.load false 1 (.t 2)), none⟩,
  ⟨(some 4), (.fld 4 (.t 0)), none⟩,
  ⟨(some 5), (.load false 1 (.t 4)), none⟩,
  ⟨(some 6), (.bin .leq (.t 3) (.t 5)), none⟩,
  ⟨(some 7), (.mv (.t 6)), none⟩,
  ⟨(some 8), (.fld 5 (.t 0)), (some (7, false))⟩,
  ⟨(some 9), (.load false 1 (.t 8)), (some (7, false))⟩,
  ⟨(some 10), (.bin .gtr (.t 9) (.k (.d (.int .i64 1048577)))), (some (7, false))⟩,
  ⟨(some 11), (.pick (.t 7) (.k (.d (.bool true))) (.t 10)), none⟩,
  ⟨(some 1), (.mv (.t 11)), none⟩]
def e90 : EFunc := ⟨12, [(.tmp 1)],
  .seq (.region false a90_r0) (.seq (.region false a90_r1) (.ret))⟩

def a91_r0 : List AOper := [
  ⟨(some 1), (.mv (.k (.d (.bool false)))), none⟩]
def a91_r1 : List AOper := [
  ⟨(some 2), (.fld 6 (.t 0)), none⟩,
  ⟨(some 3), (.load false 1 (.t 2)), none⟩,
  ⟨(some 4), (.bin .lss (.t 3) (.k (.d (.int .i64 1)))), none⟩,
  ⟨(some 5), (.mv (.t 4)), none⟩,
  ⟨(some 6), (.fld 6 (.t 0)), (some (5, false))⟩,
  ⟨(some 7), (.load false 1 (.t 6)), (some (5, false))⟩,
  ⟨(some 8), (.bin .gtr (.t 7) (.k (.d (.int .i64 1073741824)))), (some (5, false))⟩,
  ⟨(some 9), (.pick (.t 5) (.k (.d (.bool true))) (.t 8)), none⟩,
  ⟨(some 1), (.mv (.t 9)), none⟩]
def e91 : EFunc := ⟨10, [(.tmp 1)],
  .seq (.region false a91_r0) (.seq (.region false a91_r1) (.ret))⟩

def a92_r0 : List AOper := [
  ⟨(some 2), (.mv (.k (.d (.bool false)))), none⟩]
def a92_r1 : List AOper := [
  ⟨(some 3), (.fld 7 (.t 0)), none⟩,
  ⟨(some 4), (.load false 1 (.t 3)), none⟩,
  ⟨(some 5), (.len false (.t 4)), none⟩,
  ⟨(some 6), (.fld 0 (.t 1)), none⟩,
  ⟨(some 7), (.load false 1 (.t 6)), none⟩,
  ⟨(some 8), (.bin .neq (.t 5) (.t 7)), none⟩,
  ⟨(some 9), (.mv (.t 8)), none⟩,
  ⟨(some 10), (.fld 7 (.t 0)), (some (9, false))⟩,
  ⟨(some 11), (.load false 1 (.t 10)), (some (9, false))⟩,
  ⟨(some 12), (.call (.k (.cl 38 [] [])) [(.t 11)]), (some (9, false))⟩,
  ⟨(some 13), (.un .not (.t 12)), (some (9, false))⟩,
  ⟨(some 14), (.pick (.t 9) (.k (.d (.bool true))) (.t 13)), none⟩,
  ⟨(some 2), (.mv (.t 14)), none⟩]
def e92 : EFunc := ⟨15, [(.tmp 2)],
  .seq (.region false a92_r0) (.seq (.region false a92_r1) (.ret))⟩

def a93_r0 : List AOper := [
  ⟨(some 2), (.box 24 true 3 (.t 0)), none⟩,
  ⟨(some 4), (.mv (.k (.d (.int .i64 0)))), none⟩]
def a93_r1 : List AOper := [
  ⟨(some 5), (.alloc 9 [(.d (.str ⟨#[]⟩))]), none⟩,
  ⟨none, (.store 1 (.t 5) (.k (.d (.str ⟨#[]⟩)))), none⟩]
def a93_r2 : List AOper := [
  ⟨(some 12), (.mv (.t 1)), none⟩,
  ⟨(some 13), (.len false (.t 12)), none⟩,
  ⟨(some 14), (.mv (.k (.d (.int .i64 0)))), none⟩]
def a93_r3 : List AOper := [
  ⟨(some 15), (.bin .lss (.t 14) (.t 13)), none⟩]
def a93_r4 : List AOper := [
  ⟨(some 16), (.ixa 4 (.t 12) (.t 14)), none⟩,
  ⟨(some 17), (.load true 4 (.t 16)), none⟩,
  ⟨(some 7), (.alloc 79 [(.d (.str ⟨#[]⟩)), (.d (.int .i64 0)), (.d (.int .i64 0)), (.d (.str ⟨#[]⟩))]), none⟩,
  ⟨none, (.store 4 (.t 7) (.t 17)), none⟩]
def a93_r5 : List AOper := [
  ⟨(some 18), (.fld 2 (.t 2)), none⟩,
  ⟨(some 19), (.load false 1 (.t 18)), none⟩,
  ⟨(some 20), (.mkfn 176 [] [(.t 7)]), none⟩,
  ⟨(some 21), (.call (.k (.cl 175 [] [])) [(.t 19), (.t 20)]), none⟩,
  ⟨(some 8), (.mv (.t 21)), none⟩]
def a93_r6 : List AOper := [
  ⟨(some 22), (.mv (.t 8)), none⟩,
  ⟨(some 23), (.bin .lss (.t 22) (.k (.d (.int .i64 0)))), none⟩]
def a93_r7 : List AOper := [
  ⟨(some 4), (.mv (.k (.d (.int .i64 5)))), none⟩]
def a93_d8 : List DOp := [
  ⟨⟨(some 24), (.fld 2 (.t 2)), none⟩, [], 0⟩,
  ⟨⟨(some 25), (.load false 1 (.t 24)), none⟩, [true], 0⟩,
  ⟨⟨(some 26), (.mv (.t 8)), none⟩, [false, false], 0⟩,
  ⟨⟨(some 27), (.ixa 5 (.t 25) (.t 26)), none⟩, [true, true, true], 0⟩,
  ⟨⟨(some 28), (.load true 5 (.t 27)), none⟩, [true, true, true, true], 0⟩,
  ⟨⟨(some 29), (.fld 1 (.t 7)), none⟩, [false, false, false, false, false], 0⟩,
  ⟨⟨(some 30), (.load false 1 (.t 29)), none⟩, [false, false, false, false, false, true], 0⟩,
  ⟨⟨(some 31), (.bin .eql (.t 30) (.k (.d (.int .i64 1)))), none⟩, [false, false, false, false, false, true, true], 0⟩,
  ⟨⟨(some 9), (.alloc 77 [(.d (.str ⟨#[]⟩)), (.d (.int .i64 0)), (.d (.int .i64 0)), (.d (.int .i64 0)), (.nils 9 1)]), none⟩, [false, false, false, false, false, false, false, false], 0⟩,
  ⟨⟨(some 10), (.alloc 4 [(.d (.bool false))]), none⟩, [false, false, false, false, false, false, false, false, false], 1⟩,
  ⟨⟨none, (.store 5 (.t 9) (.t 28)), none⟩, [true, true, true, true, true, false, false, false, true, true], 0⟩,
  ⟨⟨none, (.store 1 (.t 10) (.t 31)), none⟩, [true, true, true, true, true, true, true, true, true, true, true], 0⟩]
def a93_r9 : List AOper := [
  ⟨(some 32), (.mkfn 177 [] [(.t 7), (.t 5)]), none⟩,
  ⟨(some 33), (.build [.nilf, (.d (.int .i64 0))] [(0, (1, (.t 32))), (1, (1, (.k (.d (.int .i64 6)))))]), none⟩,
  ⟨(some 34), (.mkfn 178 [] [(.t 7), (.t 9)]), none⟩,
  ⟨(some 35), (.build [.nilf, (.d (.int .i64 0))] [(0, (1, (.t 34))), (1, (1, (.k (.d (.int .i64 130)))))]), none⟩,
  ⟨(some 36), (.mkfn 179 [] [(.t 10), (.t 7)]), none⟩,
  ⟨(some 37), (.build [.nilf, (.d (.int .i64 0))] [(0, (1, (.t 36))), (1, (1, (.k (.d (.int .i64 3)))))]), none⟩,
  ⟨(some 38), (.mkfn 180 [] [(.t 10), (.t 7), (.t 9)]), none⟩,
  ⟨(some 39), (.build [.nilf, (.d (.int .i64 0))] [(0, (1, (.t 38))), (1, (1, (.k (.d (.int .i64 131)))))]), none⟩,
  ⟨(some 40), (.mkfn 181 [] [(.t 10), (.t 9), (.t 7)]), none⟩,
  ⟨(some 41), (.build [.nilf, (.d (.int .i64 0))] [(0, (1, (.t 40))), (1, (1, (.k (.d (.int .i64 131)))))]), none⟩,
  ⟨(some 42), (.bsl 143 2 [(.t 33), (.t 35), (.t 37), (.t 39), (.t 41)]), none⟩,
  ⟨(some 43), (.call (.k (.cl 87 [] [])) [(.t 42)]), none⟩,
  ⟨(some 11), (.mv (.t 43)), none⟩]
def a93_r10 : List AOper := [
  ⟨(some 44), (.mv (.t 11)), none⟩,
  ⟨(some 45), (.bin .neq (.t 44) (.k (.d (.int .i64 0)))), none⟩]
def a93_r11 : List AOper := [
  ⟨(some 46), (.mv (.t 11)), none⟩,
  ⟨(some 4), (.mv (.t 46)), none⟩]
def a93_r12 : List AOper := [
  ⟨(some 47), (.fld 0 (.t 7)), none⟩,
  ⟨(some 48), (.load false 1 (.t 47)), none⟩,
  ⟨none, (.store 1 (.t 5) (.t 48)), none⟩]
def a93_r13 : List AOper := [
  ⟨(some 49), (.bin .add (.t 14) (.k (.d (.int .i64 1)))), none⟩,
  ⟨(some 14), (.mv (.t 49)), none⟩]
def a93_r14 : List AOper := [
  ⟨(some 4), (.mv (.k (.d (.int .i64 0)))), none⟩]
def l93_0 : ECode :=
  .seq (.region false a93_r3) (.seq (.cond (.t 15) (.skip) (.exit 0)) (.seq (.block 1 (.seq (.region false a93_r4) (.seq (.region false a93_r5) (.seq (.seq (.region false a93_r6) (.cond (.t 23) (.seq (.region false a93_r7) (.ret)) (.skip))) (.seq (.draw 2 a93_d8) (.seq (.region false a93_r9) (.seq (.seq (.region false a93_r10) (.cond (.t 45) (.seq (.region false a93_r11) (.ret)) (.skip))) (.region false a93_r12)))))))) (.region false a93_r13)))
def e93 : EFunc := ⟨50, [(.tmp 4)],
  .seq (.region false a93_r0) (.seq (.region false a93_r1) (.seq (.seq (.region false a93_r2) (.block 0 (.loop [false, false, true, false, false, true, false, false, false, false, false, false, true, true, true] [false, false, false, false, true] l93_0))) (.seq (.region false a93_r14) (.ret))))⟩

def a95_r0 : List AOper := [
  ⟨(some 2), (.box 146 true 2 (.t 0)), none⟩,
  ⟨(some 4), (.mv (.k (.d (.bool false)))), none⟩]
def a95_d1 : List DOp := [
  ⟨⟨(some 5), (.load true 2 (.t 2)), none⟩, [], 0⟩,
  ⟨⟨(some 6), (.load true 2 (.t 2)), none⟩, [false], 0⟩,
  ⟨⟨(some 7), (.mv (.t 1)), none⟩, [false, false], 0⟩,
  ⟨⟨(some 8), (.call (.k (.cl 142 [] [])) [(.t 6), (.t 7)]), none⟩, [false, true, true], 0⟩,
  ⟨⟨(some 9), (.eqa false [0, 0] (.t 5) (.t 8)), none⟩, [true, true, true, true], 0⟩,
  ⟨⟨(some 4), (.mv (.t 9)), none⟩, [true, true, true, true, true], 0⟩]
def e95 : EFunc := ⟨10, [(.tmp 4)],
  .seq (.region false a95_r0) (.seq (.regw a95_d1) (.ret))⟩

def a97_r0 : List AOper := [
  ⟨(some 4), (.mv (.k (.d (.int .i64 0)))), none⟩]
def a97_r1 : List AOper := [
  ⟨(some 6), (.mv (.t 0)), none⟩,
  ⟨(some 7), (.len false (.t 6)), none⟩,
  ⟨(some 8), (.mv (.k (.d (.int .i64 0)))), none⟩]
def a97_r2 : List AOper := [
  ⟨(some 9), (.bin .lss (.t 8) (.t 7)), none⟩]
def a97_r3 : List AOper := [
  ⟨(some 10), (.mv (.t 8)), none⟩,
  ⟨(some 5), (.mv (.t 10)), none⟩]
def a97_r4 : List AOper := [
  ⟨(some 11), (.mv (.t 1)), none⟩,
  ⟨(some 12), (.mv (.t 0)), none⟩,
  ⟨(some 13), (.mv (.t 5)), none⟩,
  ⟨(some 14), (.ixa 4 (.t 12) (.t 13)), none⟩,
  ⟨(some 15), (.load true 4 (.t 14)), none⟩,
  ⟨(some 16), (.call (.t 11) [(.t 15)]), none⟩]
def a97_r5 : List AOper := [
  ⟨(some 17), (.mv (.t 5)), none⟩,
  ⟨(some 4), (.mv (.t 17)), none⟩]
def a97_r6 : List AOper := [
  ⟨(some 18), (.bin .add (.t 8) (.k (.d (.int .i64 1)))), none⟩,
  ⟨(some 8), (.mv (.t 18)), none⟩]
def a97_r7 : List AOper := [
  ⟨(some 4), (.mv (.k (.d (.int .i64 (-1))))), none⟩]
def l97_0 : ECode :=
  .seq (.region false a97_r2) (.seq (.cond (.t 9) (.skip) (.exit 0)) (.seq (.block 1 (.seq (.region false a97_r3) (.seq (.region false a97_r4) (.cond (.t 16) (.seq (.region false a97_r5) (.ret)) (.skip))))) (.region false a97_r6)))
def e97 : EFunc := ⟨19, [(.tmp 4)],
  .seq (.region false a97_r0) (.seq (.seq (.region false a97_r1) (.block 0 (.loop [true, true, false, false, false, false, false, true, true] [false, false, false, false, true] l97_0))) (.seq (.region false a97_r7) (.ret)))⟩

def a98_r0 : List AOper := [
  ⟨(some 2), (.box 79 true 4 (.t 0)), none⟩,
  ⟨(some 3), (.mv (.k (.d (.bool false)))), none⟩]
def a98_r1 : List AOper := [
  ⟨(some 4), (.fld 0 (.t 2)), none⟩,
  ⟨(some 5), (.load false 1 (.t 4)), none⟩,
  ⟨(some 6), (.load false 1 (.t 1)), none⟩,
  ⟨(some 7), (.bin .eql (.t 5) (.t 6)), none⟩,
  ⟨(some 3), (.mv (.t 7)), none⟩]
def e98 : EFunc := ⟨8, [(.tmp 3)],
  .seq (.region false a98_r0) (.seq (.region false a98_r1) (.ret))⟩

def a99_r0 : List AOper := [
  ⟨(some 6), (.mv (.k (.d (.bool false)))), none⟩]
def a99_r1 : List AOper := [
  ⟨(some 9), (.mv (.t 0)), none⟩,
  ⟨(some 10), (.len false (.t 9)), none⟩,
  ⟨(some 11), (.mv (.k (.d (.int .i64 0)))), none⟩]
def a99_r2 : List AOper := [
  ⟨(some 12), (.bin .lss (.t 11) (.t 10)), none⟩]
def a99_r3 : List AOper := [
  ⟨(some 13), (.ixa 1 (.t 9) (.t 11)), none⟩,
  ⟨(some 14), (.load false 1 (.t 13)), none⟩,
  ⟨(some 8), (.mv (.t 14)), none⟩]
def a99_r4 : List AOper := [
  ⟨(some 15), (.mv (.t 2)), none⟩,
  ⟨(some 16), (.mv (.t 1)), none⟩,
  ⟨(some 17), (.mv (.t 8)), none⟩,
  ⟨(some 18), (.call (.t 15) [(.t 16), (.t 17)]), none⟩,
  ⟨(some 1), (.mv (.t 18)), none⟩]
def a99_r5 : List AOper := [
  ⟨(some 19), (.bin .add (.t 11) (.k (.d (.int .i64 1)))), none⟩,
  ⟨(some 11), (.mv (.t 19)), none⟩]
def a99_r6 : List AOper := [
  ⟨(some 20), (.mv (.t 1)), none⟩,
  ⟨(some 6), (.mv (.t 20)), none⟩]
def l99_0 : ECode :=
  .seq (.region false a99_r2) (.seq (.cond (.t 12) (.skip) (.exit 0)) (.seq (.block 1 (.seq (.region false a99_r3) (.region false a99_r4))) (.region false a99_r5)))
def e99 : EFunc := ⟨21, [(.tmp 6)],
  .seq (.region false a99_r0) (.seq (.seq (.region false a99_r1) (.block 0 (.loop [false, true, true, false, false, false, false, false, false, true, true, true] [false, true] l99_0))) (.seq (.region false a99_r6) (.ret)))⟩

def a100_r0 : List AOper := [
  ⟨(some 4), (.mv (.k (.d (.bool false)))), none⟩]
def a100_r1 : List AOper := [
  ⟨(some 5), (.mv (.t 0)), none⟩,
  ⟨(some 6), (.mv (.t 5)), none⟩,
  ⟨(some 7), (.mv (.t 1)), (some (6, true))⟩,
  ⟨(some 8), (.bin .geq (.t 7) (.k (.d (.int .i64 (-1000))))), (some (6, true))⟩,
  ⟨(some 9), (.pick (.t 6) (.t 8) (.k (.d (.bool false)))), none⟩,
  ⟨(some 10), (.mv (.t 9)), none⟩,
  ⟨(some 11), (.mv (.t 1)), (some (10, true))⟩,
  ⟨(some 12), (.bin .leq (.t 11) (.k (.d (.int .i64 1000)))), (some (10, true))⟩,
  ⟨(some 13), (.pick (.t 10) (.t 12) (.k (.d (.bool false)))), none⟩,
  ⟨(some 4), (.mv (.t 13)), none⟩]
def e100 : EFunc := ⟨14, [(.tmp 4)],
  .seq (.region false a100_r0) (.seq (.region false a100_r1) (.ret))⟩

def a104_r0 : List AOper := [
  ⟨(some 4), (.mv (.k (.d (.bool false)))), none⟩]
def a104_r1 : List AOper := [
  ⟨(some 5), (.mv (.t 0)), none⟩,
  ⟨(some 6), (.mv (.t 1)), none⟩,
  ⟨(some 7), (.call (.k (.cl 185 [] [])) [(.t 5), (.t 6)]), none⟩,
  ⟨(some 8), (.bin .geq (.t 7) (.k (.d (.int .i64 0)))), none⟩,
  ⟨(some 4), (.mv (.t 8)), none⟩]
def e104 : EFunc := ⟨9, [(.tmp 4)],
  .seq (.region false a104_r0) (.seq (.region false a104_r1) (.ret))⟩

def a106_r0 : List AOper := [
  ⟨(some 4), (.mv (.k (.d (.int .i64 0)))), none⟩]
def a106_r1 : List AOper := [
  ⟨(some 6), .mkmap, none⟩,
  ⟨none, (.mset true (.t 6) (.k (.d (.int .i64 1))) (.k (.cl 187 [] []))), none⟩,
  ⟨none, (.mset true (.t 6) (.k (.d (.int .i64 2))) (.k (.cl 188 [] []))), none⟩,
  ⟨none, (.mset true (.t 6) (.k (.d (.int .i64 3))) (.k (.cl 189 [] []))), none⟩,
  ⟨(some 7), (.mv (.t 6)), none⟩,
  ⟨(some 5), (.mv (.t 7)), none⟩]
def a106_r2 : List AOper := [
  ⟨(some 8), (.mv (.t 1)), none⟩,
  ⟨(some 9), (.mv (.t 5)), none⟩,
  ⟨(some 10), (.mv (.t 0)), none⟩,
  ⟨(some 11), (.look true false .nilf (.t 9) (.t 10)), none⟩,
  ⟨(some 12), (.call (.k (.cl 190 [] [])) [(.t 8), (.k (.d (.int .i64 0))), (.t 11)]), none⟩,
  ⟨(some 4), (.mv (.t 12)), none⟩]
def e106 : EFunc := ⟨13, [(.tmp 4)],
  .seq (.region false a106_r0) (.seq (.region false a106_r1) (.seq (.region false a106_r2) (.ret)))⟩

def a107_r0 : List AOper := [
  ⟨(some 4), (.nilsl 3 1), none⟩]
def a107_r1 : List AOper := [
  ⟨(some 7), (.mv (.t 0)), none⟩,
  ⟨(some 8), (.call (.k (.cl 137 [] [])) [(.t 7)]), none⟩,
  ⟨(some 5), (.mv (.t 8)), none⟩]
def a107_r2 : List AOper := [
  ⟨(some 9), (.mv (.t 5)), none⟩,
  ⟨(some 10), (.len false (.t 9)), none⟩,
  ⟨(some 11), (.mv (.k (.d (.int .i64 0)))), none⟩]
def a107_r3 : List AOper := [
  ⟨(some 12), (.bin .lss (.t 11) (.t 10)), none⟩]
def a107_r4 : List AOper := [
  ⟨(some 13), (.mv (.t 11)), none⟩,
  ⟨(some 6), (.mv (.t 13)), none⟩]
def a107_r5 : List AOper := [
  ⟨(some 14), (.mv (.t 5)), none⟩,
  ⟨(some 15), (.mv (.t 6)), none⟩,
  ⟨(some 16), (.ixa 1 (.t 14) (.t 15)), none⟩,
  ⟨(some 17), (.load false 1 (.t 16)), none⟩,
  ⟨(some 18), (.mv (.t 1)), none⟩,
  ⟨(some 19), (.mv (.t 6)), none⟩,
  ⟨(some 20), (.ixa 1 (.t 18) (.t 19)), none⟩,
  ⟨(some 21), (.load false 1 (.t 20)), none⟩,
  ⟨(some 22), (.bin .sub (.t 17) (.t 21)), none⟩,
  ⟨(some 23), (.ixa 1 (.t 14) (.t 15)), none⟩,
  ⟨none, (.store 1 (.t 23) (.t 22)), none⟩]
def a107_r6 : List AOper := [
  ⟨(some 24), (.bin .add (.t 11) (.k (.d (.int .i64 1)))), none⟩,
  ⟨(some 11), (.mv (.t 24)), none⟩]
def a107_r7 : List AOper := [
  ⟨(some 25), (.mv (.t 5)), none⟩,
  ⟨(some 4), (.mv (.t 25)), none⟩]
def l107_0 : ECode :=
  .seq (.region false a107_r3) (.seq (.cond (.t 12) (.skip) (.exit 0)) (.seq (.block 1 (.seq (.region false a107_r4) (.region true a107_r5))) (.region false a107_r6)))
def e107 : EFunc := ⟨26, [(.tmp 4)],
  .seq (.region false a107_r0) (.seq (.region false a107_r1) (.seq (.seq (.region false a107_r2) (.block 0 (.loop [false, true, false, false, false, true, false, false, false, false, true, true] [false, false, false, false, false, true] l107_0))) (.seq (.region false a107_r7) (.ret))))⟩

def a117_r0 : List AOper := [
  ⟨(some 2), (.nilsl 5 1), none⟩]
def a117_r1 : List AOper := [
  ⟨(some 3), (.mv (.t 0)), none⟩,
  ⟨(some 4), (.call (.k (.cl 199 [] [])) [(.t 3), (.k (.cl 200 [] []))]), none⟩,
  ⟨(some 2), (.mv (.t 4)), none⟩]
def e117 : EFunc := ⟨5, [(.tmp 2)],
  .seq (.region false a117_r0) (.seq (.region false a117_r1) (.ret))⟩

def a118_r0 : List AOper := [
  ⟨(some 2), (.nilsl 5 1), none⟩]
def a118_r1 : List AOper := [
  ⟨(some 3), (.mv (.t 0)), none⟩,
  ⟨(some 4), (.call (.k (.cl 201 [] [])) [(.t 3), (.k (.cl 202 [] []))]), none⟩,
  ⟨(some 2), (.mv (.t 4)), none⟩]
def e118 : EFunc := ⟨5, [(.tmp 2)],
  .seq (.region false a118_r0) (.seq (.region false a118_r1) (.ret))⟩

def a119_r0 : List AOper := [
  ⟨(some 2), (.nilsl 3 1), none⟩,
  ⟨(some 3), (.mv (.k (.d (.int .i64 0)))), none⟩,
  ⟨(some 4), (.mv (.k (.d (.int .i64 0)))), none⟩]
def a119_r1 : List AOper := [
  ⟨(some 5), (.mv (.t 0)), none⟩,
  ⟨(some 6), (.call (.k (.cl 203 [] [])) [(.t 5), (.k (.d (.int .i64 1))), (.k (.cl 204 [] []))]), none⟩,
  ⟨(some 7), (.ext (.t 6) 0), none⟩,
  ⟨(some 8), (.ext (.t 6) 1), none⟩,
  ⟨(some 9), (.ext (.t 6) 2), none⟩,
  ⟨(some 2), (.mv (.t 7)), none⟩,
  ⟨(some 3), (.mv (.t 8)), none⟩,
  ⟨(some 4), (.mv (.t 9)), none⟩]
def e119 : EFunc := ⟨10, [(.tmp 2), (.tmp 3), (.tmp 4)],
  .seq (.region false a119_r0) (.seq (.region false a119_r1) (.ret))⟩

def a120_r0 : List AOper := [
  ⟨(some 2), (.nilsl 9 1), none⟩,
  ⟨(some 3), (.mv (.k (.d (.int .i64 0)))), none⟩,
  ⟨(some 4), (.mv (.k (.d (.int .i64 0)))), none⟩]
def a120_r1 : List AOper := [
  ⟨(some 5), (.mv (.t 0)), none⟩,
  ⟨(some 6), (.call (.k (.cl 205 [] [])) [(.t 5), (.k (.d (.int .i64 1))), (.k (.cl 206 [] []))]), none⟩,
  ⟨(some 7), (.ext (.t 6) 0), none⟩,
  ⟨(some 8), (.ext (.t 6) 1), none⟩,
  ⟨(some 9), (.ext (.t 6) 2), none⟩,
  ⟨(some 2), (.mv (.t 7)), none⟩,
  ⟨(some 3), (.mv (.t 8)), none⟩,
  ⟨(some 4), (.mv (.t 9)), none⟩]
def e120 : EFunc := ⟨10, [(.tmp 2), (.tmp 3), (.tmp 4)],
  .seq (.region false a120_r0) (.seq (.region false a120_r1) (.ret))⟩

def a121_r0 : List AOper := [
  ⟨(some 2), (.mv (.k (.d (.int .i64 0)))), none⟩]
def a121_r1 : List AOper := [
  ⟨(some 4), (.mv (.t 0)), none⟩,
  ⟨(some 5), (.mv (.t 0)), none⟩,
  ⟨(some 6), (.nilck (.t 5)), none⟩,
  ⟨(some 7), (.fld 2 (.t 6)), none⟩,
  ⟨(some 8), (.load false 1 (.t 7)), none⟩,
  ⟨(some 9), (.mv (.t 8)), none⟩,
  ⟨(some 10), (.mv (.t 0)), (some (9, false))⟩,
  ⟨(some 11), (.nilck (.t 10)), (some (9, false))⟩,
  ⟨(some 12), (.fld 0 (.t 11)), (some (9, false))⟩,
  ⟨(some 13), (.load false 1 (.t 12)), (some (9, false))⟩,
  ⟨(some 14), (.len false (.t 13)), (some (9, false))⟩,
  ⟨(some 15), (.bin .eql (.t 14) (.k (.d (.int .i64 0)))), (some (9, false))⟩,
  ⟨(some 16), (.pick (.t 9) (.k (.d (.bool true))) (.t 15)), none⟩,
  ⟨(some 17), (.nilck (.t 4)), none⟩,
  ⟨(some 18), (.fld 2 (.t 17)), none⟩,
  ⟨none, (.store 1 (.t 18) (.t 16)), none⟩]
def a121_r2 : List AOper := [
  ⟨(some 19), (.mv (.t 0)), none⟩,
  ⟨(some 20), (.nilck (.t 19)), none⟩,
  ⟨(some 21), (.fld 2 (.t 20)), none⟩,
  ⟨(some 22), (.load false 1 (.t 21)), none⟩]
def a121_r3 : List AOper := [
  ⟨(some 2), (.mv (.k (.d (.int .i64 0)))), none⟩]
def a121_r4 : List AOper := [
  ⟨(some 23), (.mv (.t 0)), none⟩,
  ⟨(some 24), (.nilck (.t 23)), none⟩,
  ⟨(some 25), (.fld 0 (.t 24)), none⟩,
  ⟨(some 26), (.load false 1 (.t 25)), none⟩,
  ⟨(some 27), (.ixa 1 (.t 26) (.k (.d (.int .i64 0)))), none⟩,
  ⟨(some 28), (.load false 1 (.t 27)), none⟩,
  ⟨(some 3), (.mv (.t 28)), none⟩]
def a121_r5 : List AOper := [
  ⟨(some 29), (.mv (.t 0)), none⟩,
  ⟨(some 30), (.mv (.t 0)), none⟩,
  ⟨(some 31), (.nilck (.t 30)), none⟩,
  ⟨(some 32), (.fld 0 (.t 31)), none⟩,
  ⟨(some 33), (.load false 1 (.t 32)), none⟩,
  ⟨(some 34), (.slc 1 (.t 33) (some (.k (.d (.int .i64 1)))) none), none⟩,
  ⟨(some 35), (.nilck (.t 29)), none⟩,
  ⟨(some 36), (.fld 0 (.t 35)), none⟩,
  ⟨none, (.store 1 (.t 36) (.t 34)), none⟩]
def a121_r6 : List AOper := [
  ⟨(some 37), (.mv (.t 3)), none⟩,
  ⟨(some 2), (.mv (.t 37)), none⟩]
def e121 : EFunc := ⟨38, [(.tmp 2)],
  .seq (.region false a121_r0) (.seq (.seq (.region false a121_r1) (.seq (.region false a121_r2) (.cond (.t 22) (.seq (.region false a121_r3) (.ret)) (.skip)))) (.seq (.region false a121_r4) (.seq (.region false a121_r5) (.seq (.region false a121_r6) (.ret)))))⟩

def a122_r0 : List AOper := [
  ⟨(some 2), (.nilsl 3 1), none⟩]
def a122_r1 : List AOper := [
  ⟨(some 3), (.nilsl 3 1), none⟩]
def a122_r2 : List AOper := [
  ⟨(some 4), (.mv (.t 0)), none⟩,
  ⟨(some 5), (.mv (.t 0)), none⟩,
  ⟨(some 6), (.nilck (.t 5)), none⟩,
  ⟨(some 7), (.fld 0 (.t 6)), none⟩,
  ⟨(some 8), (.load false 1 (.t 7)), none⟩,
  ⟨(some 9), (.len false (.t 8)), none⟩,
  ⟨(some 10), (.call (.k (.cl 123 [] [])) [(.t 4), (.t 9)]), none⟩,
  ⟨(some 11), (.mv (.k (.d (.int .i64 0)))), none⟩]
def a122_r3 : List AOper := [
  ⟨(some 12), (.bin .lss (.t 11) (.t 10)), none⟩]
def a122_r4 : List AOper := [
  ⟨(some 13), (.mv (.t 3)), none⟩,
  ⟨(some 14), (.mv (.t 0)), none⟩,
  ⟨(some 15), (.call (.k (.cl 121 [] [])) [(.t 14)]), none⟩,
  ⟨(some 16), (.bsl 3 1 [(.t 15)]), none⟩,
  ⟨(some 17), (.app false 3 1 8 (.t 13) (.t 16)), none⟩,
  ⟨(some 3), (.mv (.t 17)), none⟩]
def a122_r5 : List AOper := [
  ⟨(some 18), (.bin .add (.t 11) (.k (.d (.int .i64 1)))), none⟩,
  ⟨(some 11), (.mv (.t 18)), none⟩]
def a122_r6 : List AOper := [
  ⟨(some 19), (.mv (.t 3)), none⟩,
  ⟨(some 2), (.mv (.t 19)), none⟩]
def l122_0 : ECode :=
  .seq (.region false a122_r3) (.seq (.cond (.t 12) (.skip) (.exit 0)) (.seq (.block 1 (.region false a122_r4)) (.region false a122_r5)))
def e122 : EFunc := ⟨20, [(.tmp 2)],
  .seq (.region false a122_r0) (.seq (.region false a122_r1) (.seq (.seq (.region false a122_r2) (.block 0 (.loop [true, false, false, true, false, false, false, false, false, false, true, true] [false, false, false, true] l122_0))) (.seq (.region false a122_r6) (.ret))))⟩

def a123_r0 : List AOper := [
  ⟨(some 4), (.mv (.k (.d (.int .i64 0)))), none⟩]
def a123_r1 : List AOper := [
  ⟨(some 6), (.mv (.t 0)), none⟩,
  ⟨(some 7), (.call (.k (.cl 121 [] [])) [(.t 6)]), none⟩,
  ⟨(some 5), (.mv (.t 7)), none⟩]
def a123_r2 : List AOper := [
  ⟨(some 8), (.mv (.t 0)), none⟩,
  ⟨(some 9), (.mv (.t 0)), none⟩,
  ⟨(some 10), (.nilck (.t 9)), none⟩,
  ⟨(some 11), (.fld 2 (.t 10)), none⟩,
  ⟨(some 12), (.load false 1 (.t 11)), none⟩,
  ⟨(some 13), (.mv (.t 12)), none⟩,
  ⟨(some 14), (.mv (.t 5)), (some (13, false))⟩,
  ⟨(some 15), (.bin .lss (.t 14) (.k (.d (.int .i64 0)))), (some (13, false))⟩,
  ⟨(some 16), (.pick (.t 13) (.k (.d (.bool true))) (.t 15)), none⟩,
  ⟨(some 17), (.mv (.t 16)), none⟩,
  ⟨(some 18), (.mv (.t 5)), (some (17, false))⟩,
  ⟨(some 19), (.mv (.t 1)), (some (17, false))⟩,
  ⟨(some 20), (.bin .gtr (.t 18) (.t 19)), (some (17, false))⟩,
  ⟨(some 21), (.pick (.t 17) (.k (.d (.bool true))) (.t 20)), none⟩,
  ⟨(some 22), (.nilck (.t 8)), none⟩,
  ⟨(some 23), (.fld 2 (.t 22)), none⟩,
  ⟨none, (.store 1 (.t 23) (.t 21)), none⟩]
def a123_r3 : List AOper := [
  ⟨(some 24), (.mv (.t 0)), none⟩,
  ⟨(some 25), (.nilck (.t 24)), none⟩,
  ⟨(some 26), (.fld 2 (.t 25)), none⟩,
  ⟨(some 27), (.load false 1 (.t 26)), none⟩]
def a123_r4 : List AOper := [
  ⟨(some 4), (.mv (.k (.d (.int .i64 0)))), none⟩]
def a123_r5 : List AOper := [
  ⟨(some 28), (.mv (.t 5)), none⟩,
  ⟨(some 4), (.mv (.t 28)), none⟩]
def e123 : EFunc := ⟨29, [(.tmp 4)],
  .seq (.region false a123_r0) (.seq (.region false a123_r1) (.seq (.seq (.region false a123_r2) (.seq (.region false a123_r3) (.cond (.t 27) (.seq (.region false a123_r4) (.ret)) (.skip)))) (.seq (.region false a123_r5) (.ret))))⟩

def a124_r0 : List AOper := [
  ⟨(some 2), (.nilsl 9 1), none⟩]
def a124_r1 : List AOper := [
  ⟨(some 3), (.mv (.t 0)), none⟩,
  ⟨(some 4), (.isn false (.t 3)), none⟩]
def a124_r2 : List AOper := [
  ⟨(some 2), (.nilsl 9 1), none⟩]
def a124_r3 : List AOper := [
  ⟨(some 5), (.bsl 9 1 []), none⟩,
  ⟨(some 6), (.mv (.t 0)), none⟩,
  ⟨(some 7), (.app false 9 1 16 (.t 5) (.t 6)), none⟩,
  ⟨(some 2), (.mv (.t 7)), none⟩]
def e124 : EFunc := ⟨8, [(.tmp 2)],
  .seq (.region false a124_r0) (.seq (.seq (.region false a124_r1) (.cond (.t 4) (.seq (.region false a124_r2) (.ret)) (.skip))) (.seq (.region false a124_r3) (.ret)))⟩

def a125_r0 : List AOper := [
  ⟨(some 2), (.nilsl 3 1), none⟩,
  ⟨(some 3), (.mv (.k (.d (.int .i64 0)))), none⟩,
  ⟨(some 4), (.mv (.k (.d (.int .i64 0)))), none⟩]
def a125_r1 : List AOper := [
  ⟨(some 14), (.mv (.t 0)), none⟩,
  ⟨(some 15), (.call (.k (.cl 207 [] [])) [(.t 14), (.k (.d (.int .i64 1)))]), none⟩,
  ⟨(some 13), (.mv (.t 15)), none⟩,
  ⟨(some 16), (.ext (.t 13) 0), none⟩,
  ⟨(some 17), (.ext (.t 13) 1), none⟩,
  ⟨(some 18), (.ext (.t 13) 2), none⟩,
  ⟨(some 5), (.mv (.t 16)), none⟩,
  ⟨(some 6), (.mv (.t 17)), none⟩,
  ⟨(some 7), (.mv (.t 18)), none⟩]
def a125_r2 : List AOper := [
  ⟨(some 19), (.mv (.t 7)), none⟩,
  ⟨(some 20), (.bin .neq (.t 19) (.k (.d (.int .i64 0)))), none⟩]
def a125_r3 : List AOper := [
  ⟨(some 21), (.mv (.t 7)), none⟩,
  ⟨(some 2), (.nilsl 3 1), none⟩,
  ⟨(some 3), (.mv (.k (.d (.int .i64 0)))), none⟩,
  ⟨(some 4), (.mv (.t 21)), none⟩]
def a125_r4 : List AOper := [
  ⟨(some 8), (.nilsl 3 1), none⟩]
def a125_r5 : List AOper := [
  ⟨(some 9), (.mv (.k (.d (.int .i64 0)))), none⟩]
def a125_r6 : List AOper := [
  ⟨(some 22), (.mv (.t 9)), none⟩,
  ⟨(some 23), (.mv (.t 5)), none⟩,
  ⟨(some 24), (.bin .lss (.t 22) (.t 23)), none⟩]
def a125_r7 : List AOper := [
  ⟨(some 28), (.mv (.t 0)), none⟩,
  ⟨(some 29), (.mv (.t 6)), none⟩,
  ⟨(some 30), (.slc 1 (.t 28) (some (.t 29)) none), none⟩,
  ⟨(some 31), (.call (.k (.cl 208 [] [])) [(.t 30)]), none⟩,
  ⟨(some 27), (.mv (.t 31)), none⟩,
  ⟨(some 32), (.ext (.t 27) 0), none⟩,
  ⟨(some 33), (.ext (.t 27) 1), none⟩,
  ⟨(some 34), (.ext (.t 27) 2), none⟩,
  ⟨(some 10), (.mv (.t 32)), none⟩,
  ⟨(some 11), (.mv (.t 33)), none⟩,
  ⟨(some 12), (.mv (.t 34)), none⟩]
def a125_r8 : List AOper := [
  ⟨(some 35), (.mv (.t 12)), none⟩,
  ⟨(some 36), (.bin .neq (.t 35) (.k (.d (.int .i64 0)))), none⟩]
def a125_r9 : List AOper := [
  ⟨(some 37), (.mv (.t 12)), none⟩,
  ⟨(some 2), (.nilsl 3 1), none⟩,
  ⟨(some 3), (.mv (.k (.d (.int .i64 0)))), none⟩,
  ⟨(some 4), (.mv (.t 37)), none⟩]
def a125_r10 : List AOper := [
  ⟨(some 38), (.mv (.t 8)), none⟩,
  ⟨(some 39), (.mv (.t 10)), none⟩,
  ⟨(some 40), (.bsl 3 1 [(.t 39)]), none⟩,
  ⟨(some 41), (.app false 3 1 8 (.t 38) (.t 40)), none⟩,
  ⟨(some 8), (.mv (.t 41)), none⟩]
def a125_r11 : List AOper := [
  ⟨(some 42), (.mv (.t 6)), none⟩,
  ⟨(some 43), (.mv (.t 11)), none⟩,
  ⟨(some 44), (.bin .add (.t 42) (.t 43)), none⟩,
  ⟨(some 6), (.mv (.t 44)), none⟩]
def a125_r12 : List AOper := [
  ⟨(some 25), (.mv (.t 9)), none⟩,
  ⟨(some 26), (.bin .add (.t 25) (.k (.d (.int .i64 1)))), none⟩,
  ⟨(some 9), (.mv (.t 26)), none⟩]
def a125_r13 : List AOper := [
  ⟨(some 45), (.mv (.t 8)), none⟩,
  ⟨(some 46), (.mv (.t 6)), none⟩,
  ⟨(some 2), (.mv (.t 45)), none⟩,
  ⟨(some 3), (.mv (.t 46)), none⟩,
  ⟨(some 4), (.mv (.k (.d (.int .i64 0)))), none⟩]
def l125_0 : ECode :=
  .seq (.seq (.region false a125_r6) (.cond (.t 24) (.skip) (.exit 0))) (.seq (.block 1 (.seq (.region false a125_r7) (.seq (.seq (.region false a125_r8) (.cond (.t 36) (.seq (.region false a125_r9) (.ret)) (.skip))) (.seq (.region false a125_r10) (.region false a125_r11))))) (.region false a125_r12))
def e125 : EFunc := ⟨47, [(.tmp 2), (.tmp 3), (.tmp 4)],
  .seq (.region false a125_r0) (.seq (.region false a125_r1) (.seq (.seq (.region false a125_r2) (.cond (.t 20) (.seq (.region false a125_r3) (.ret)) (.skip))) (.seq (.region false a125_r4) (.seq (.seq (.region false a125_r5) (.block 0 (.loop [true, false, false, false, false, true, true, false, true, true] [false, false, true, true, true, false, true, false, true] l125_0))) (.seq (.region false a125_r13) (.ret))))))⟩

def a126_r0 : List AOper := [
  ⟨(some 2), (.nilsl 9 1), none⟩,
  ⟨(some 3), (.mv (.k (.d (.int .i64 0)))), none⟩,
  ⟨(some 4), (.mv (.k (.d (.int .i64 0)))), none⟩]
def a126_r1 : List AOper := [
  ⟨(some 14), (.mv (.t 0)), none⟩,
  ⟨(some 15), (.call (.k (.cl 207 [] [])) [(.t 14), (.k (.d (.int .i64 1)))]), none⟩,
  ⟨(some 13), (.mv (.t 15)), none⟩,
  ⟨(some 16), (.ext (.t 13) 0), none⟩,
  ⟨(some 17), (.ext (.t 13) 1), none⟩,
  ⟨(some 18), (.ext (.t 13) 2), none⟩,
  ⟨(some 5), (.mv (.t 16)), none⟩,
  ⟨(some 6), (.mv (.t 17)), none⟩,
  ⟨(some 7), (.mv (.t 18)), none⟩]
def a126_r2 : List AOper := [
  ⟨(some 19), (.mv (.t 7)), none⟩,
  ⟨(some 20), (.bin .neq (.t 19) (.k (.d (.int .i64 0)))), none⟩]
def a126_r3 : List AOper := [
  ⟨(some 21), (.mv (.t 7)), none⟩,
  ⟨(some 2), (.nilsl 9 1), none⟩,
  ⟨(some 3), (.mv (.k (.d (.int .i64 0)))), none⟩,
  ⟨(some 4), (.mv (.t 21)), none⟩]
def a126_r4 : List AOper := [
  ⟨(some 8), (.nilsl 9 1), none⟩]
def a126_r5 : List AOper := [
  ⟨(some 9), (.mv (.k (.d (.int .i64 0)))), none⟩]
def a126_r6 : List AOper := [
  ⟨(some 22), (.mv (.t 9)), none⟩,
  ⟨(some 23), (.mv (.t 5)), none⟩,
  ⟨(some 24), (.bin .lss (.t 22) (.t 23)), none⟩]
def a126_r7 : List AOper := [
  ⟨(some 28), (.mv (.t 0)), none⟩,
  ⟨(some 29), (.mv (.t 6)), none⟩,
  ⟨(some 30), (.slc 1 (.t 28) (some (.t 29)) none), none⟩,
  ⟨(some 31), (.call (.k (.cl 209 [] [])) [(.t 30)]), none⟩,
  ⟨(some 27), (.mv (.t 31)), none⟩,
  ⟨(some 32), (.ext (.t 27) 0), none⟩,
  ⟨(some 33), (.ext (.t 27) 1), none⟩,
  ⟨(some 34), (.ext (.t 27) 2), none⟩,
  ⟨(some 10), (.mv (.t 32)), none⟩,
  ⟨(some 11), (.mv (.t 33)), none⟩,
  ⟨(some 12), (.mv (.t 34)), none⟩]
def a126_r8 : List AOper := [
  ⟨(some 35), (.mv (.t 12)), none⟩,
  ⟨(some 36), (.bin .neq (.t 35) (.k (.d (.int .i64 0)))), none⟩]
def a126_r9 : List AOper := [
  ⟨(some 37), (.mv (.t 12)), none⟩,
  ⟨(some 2), (.nilsl 9 1), none⟩,
  ⟨(some 3), (.mv (.k (.d (.int .i64 0)))), none⟩,
  ⟨(some 4), (.mv (.t 37)), none⟩]
def a126_r10 : List AOper := [
  ⟨(some 38), (.mv (.t 8)), none⟩,
  ⟨(some 39), (.mv (.t 10)), none⟩,
  ⟨(some 40), (.bsl 9 1 [(.t 39)]), none⟩,
  ⟨(some 41), (.app false 9 1 16 (.t 38) (.t 40)), none⟩,
  ⟨(some 8), (.mv (.t 41)), none⟩]
def a126_r11 : List AOper := [
  ⟨(some 42), (.mv (.t 6)), none⟩,
  ⟨(some 43), (.mv (.t 11)), none⟩,
  ⟨(some 44), (.bin .add (.t 42) (.t 43)), none⟩,
  ⟨(some 6), (.mv (.t 44)), none⟩]
def a126_r12 : List AOper := [
  ⟨(some 25), (.mv (.t 9)), none⟩,
  ⟨(some 26), (.bin .add (.t 25) (.k (.d (.int .i64 1)))), none⟩,
  ⟨(some 9), (.mv (.t 26)), none⟩]
def a126_r13 : List AOper := [
  ⟨(some 45), (.mv (.t 8)), none⟩,
  ⟨(some 46), (.mv (.t 6)), none⟩,
  ⟨(some 2), (.mv (.t 45)), none⟩,
  ⟨(some 3), (.mv (.t 46)), none⟩,
  ⟨(some 4), (.mv (.k (.d (.int .i64 0)))), none⟩]
def l126_0 : ECode :=
  .seq (.seq (.region false a126_r6) (.cond (.t 24) (.skip) (.exit 0))) (.seq (.block 1 (.seq (.region false a126_r7) (.seq (.seq (.region false a126_r8) (.cond (.t 36) (.seq (.region false a126_r9) (.ret)) (.skip))) (.seq (.region false a126_r10) (.region false a126_r11))))) (.region false a126_r12))
def e126 : EFunc := ⟨47, [(.tmp 2), (.tmp 3), (.tmp 4)],
  .seq (.region false a126_r0) (.seq (.region false a126_r1) (.seq (.seq (.region false a126_r2) (.cond (.t 20) (.seq (.region false a126_r3) (.ret)) (.skip))) (.seq (.region false a126_r4) (.seq (.seq (.region false a126_r5) (.block 0 (.loop [true, false, false, false, false, true, true, false, true, true] [false, false, true, true, true, false, true, false, true] l126_0))) (.seq (.region false a126_r13) (.ret))))))⟩

def a127_r0 : List AOper := [
  ⟨(some 4), (.alloc 42 [(.d (.int .i64 0)), (.nils 3 1), (.nils 3 1), (.nils 119 2), (.d (.int .i64 0)), (.d (.int .i64 0)), (.d (.int .i64 0)), (.d (.int .i64 0)), (.d (.int .i64 0)), (.nils 100 4), (.d (.int .i64 0))]), none⟩]
def a127_r1 : List AOper := [
  ⟨(some 22), (.build [(.d (.int .i64 0)), (.nils 3 1), (.nils 3 1), (.nils 119 2), (.d (.int .i64 0)), (.d (.int .i64 0)), (.d (.int .i64 0)), (.d (.int .i64 0)), (.d (.int .i64 0)), (.nils 100 4), (.d (.int .i64 0))] [(10, (1, (.k (.d (.int .i64 11)))))]), none⟩,
  ⟨(some 5), (.alloc 42 [(.d (.int .i64 0)), (.nils 3 1), (.nils 3 1), (.nils 119 2), (.d (.int .i64 0)), (.d (.int .i64 0)), (.d (.int .i64 0)), (.d (.int .i64 0)), (.d (.int .i64 0)), (.nils 100 4), (.d (.int .i64 0))]), none⟩,
  ⟨none, (.store 11 (.t 5) (.t 22)), none⟩]
def a127_r2 : List AOper := [
  ⟨(some 23), (.mv (.t 0)), none⟩,
  ⟨(some 24), (.len false (.t 23)), none⟩,
  ⟨(some 25), (.bin .lss (.t 24) (.k (.d (.int .i64 6)))), none⟩]
def a127_r3 : List AOper := [
  ⟨(some 26), (.load true 11 (.t 5)), none⟩,
  ⟨none, (.store 11 (.t 4) (.t 26)), none⟩]
def a127_d4 : List DOp := [
  ⟨⟨(some 27), (.mv (.t 0)), none⟩, [], 0⟩,
  ⟨⟨(some 28), (.ixa 1 (.t 27) (.k (.d (.int .i64 0)))), none⟩, [true], 0⟩,
  ⟨⟨(some 29), (.load false 1 (.t 28)), none⟩, [true, true], 0⟩,
  ⟨⟨(some 30), (.mv (.t 0)), none⟩, [false, false, false], 0⟩,
  ⟨⟨(some 31), (.ixa 1 (.t 30) (.k (.d (.int .i64 1)))), none⟩, [false, false, false, true], 0⟩,
  ⟨⟨(some 32), (.load false 1 (.t 31)), none⟩, [false, false, false, true, true], 0⟩,
  ⟨⟨(some 33), (.mv (.t 0)), none⟩, [false, false, false, false, false, false], 0⟩,
  ⟨⟨(some 34), (.ixa 1 (.t 33) (.k (.d (.int .i64 2)))), none⟩, [false, false, false, false, false, false, true], 0⟩,
  ⟨⟨(some 35), (.load false 1 (.t 34)), none⟩, [false, false, false, false, false, false, true, true], 0⟩,
  ⟨⟨(some 36), (.mv (.t 0)), none⟩, [false, false, false, false, false, false, false, false, false], 0⟩,
  ⟨⟨(some 37), (.ixa 1 (.t 36) (.k (.d (.int .i64 3)))), none⟩, [false, false, false, false, false, false, false, false, false, true], 0⟩,
  ⟨⟨(some 38), (.load false 1 (.t 37)), none⟩, [false, false, false, false, false, false, false, false, false, true, true], 0⟩,
  ⟨⟨(some 39), (.mv (.t 0)), none⟩, [false, false, false, false, false, false, false, false, false, false, false, false], 0⟩,
  ⟨⟨(some 40), (.ixa 1 (.t 39) (.k (.d (.int .i64 4)))), none⟩, [false, false, false, false, false, false, false, false, false, false, false, false, true], 0⟩,
  ⟨⟨(some 41), (.load false 1 (.t 40)), none⟩, [false, false, false, false, false, false, false, false, false, false, false, false, true, true], 0⟩,
  ⟨⟨(some 42), (.mv (.t 0)), none⟩, [false, false, false, false, false, false, false, false, false, false, false, false, false, false, false], 0⟩,
  ⟨⟨(some 43), (.ixa 1 (.t 42) (.k (.d (.int .i64 5)))), none⟩, [false, false, false, false, false, false, false, false, false, false, false, false, false, false, false, true], 0⟩,
  ⟨⟨(some 44), (.load false 1 (.t 43)), none⟩, [false, false, false, false, false, false, false, false, false, false, false, false, false, false, false, true, true], 0⟩,
  ⟨⟨(some 45), (.build [(.d (.int .i64 0)), (.nils 3 1), (.nils 3 1), (.nils 119 2), (.d (.int .i64 0)), (.d (.int .i64 0)), (.d (.int .i64 0)), (.d (.int .i64 0)), (.d (.int .i64 0)), (.nils 100 4)] [(0, (1, (.t 29))), (4, (1, (.t 32))), (5, (1, (.t 35))), (6, (1, (.t 38))), (7, (1, (.t 41))), (8, (1, (.t 44)))]), none⟩, [true, true, true, true, true, true, true, true, true, true, true, true, true, true, true, true, true, true], 0⟩,
  ⟨⟨(some 6), (.alloc 33 [(.d (.int .i64 0)), (.nils 3 1), (.nils 3 1), (.nils 119 2), (.d (.int .i64 0)), (.d (.int .i64 0)), (.d (.int .i64 0)), (.d (.int .i64 0)), (.d (.int .i64 0)), (.nils 100 4)]), none⟩, [false, false, false, false, false, false, false, false, false, false, false, false, false, false, false, false, false, false, false], 0⟩,
  ⟨⟨none, (.store 10 (.t 6) (.t 45)), none⟩, [true, true, true, true, true, true, true, true, true, true, true, true, true, true, true, true, true, true, true, true], 0⟩]
def a127_r5 : List AOper := [
  ⟨(some 47), (.mv (.t 0)), none⟩,
  ⟨(some 48), (.slc 1 (.t 47) (some (.k (.d (.int .i64 6)))) none), none⟩,
  ⟨(some 49), (.call (.k (.cl 210 [] [])) [(.t 48), (.k (.d (.int .i64 1)))]), none⟩,
  ⟨(some 46), (.mv (.t 49)), none⟩,
  ⟨(some 50), (.ext (.t 46) 0), none⟩,
  ⟨(some 51), (.ext (.t 46) 1), none⟩,
  ⟨(some 52), (.ext (.t 46) 2), none⟩,
  ⟨(some 7), (.mv (.t 50)), none⟩,
  ⟨(some 8), (.mv (.t 51)), none⟩,
  ⟨(some 9), (.mv (.t 52)), none⟩]
def a127_r6 : List AOper := [
  ⟨(some 54), (.mv (.t 8)), none⟩,
  ⟨(some 55), (.call (.k (.cl 210 [] [])) [(.t 54), (.k (.d (.int .i64 1)))]), none⟩,
  ⟨(some 53), (.mv (.t 55)), none⟩,
  ⟨(some 56), (.ext (.t 53) 0), none⟩,
  ⟨(some 57), (.ext (.t 53) 1), none⟩,
  ⟨(some 58), (.ext (.t 53) 2), none⟩,
  ⟨(some 10), (.mv (.t 56)), none⟩,
  ⟨(some 11), (.mv (.t 57)), none⟩,
  ⟨(some 12), (.mv (.t 58)), none⟩]
def a127_r7 : List AOper := [
  ⟨(some 60), (.mv (.t 11)), none⟩,
  ⟨(some 61), (.call (.k (.cl 210 [] [])) [(.t 60), (.k (.d (.int .i64 2)))]), none⟩,
  ⟨(some 59), (.mv (.t 61)), none⟩,
  ⟨(some 62), (.ext (.t 59) 0), none⟩,
  ⟨(some 63), (.ext (.t 59) 1), none⟩,
  ⟨(some 64), (.ext (.t 59) 2), none⟩,
  ⟨(some 13), (.mv (.t 62)), none⟩,
  ⟨(some 14), (.mv (.t 63)), none⟩,
  ⟨(some 15), (.mv (.t 64)), none⟩]
def a127_r8 : List AOper := [
  ⟨(some 66), (.mv (.t 14)), none⟩,
  ⟨(some 67), (.call (.k (.cl 210 [] [])) [(.t 66), (.k (.d (.int .i64 4)))]), none⟩,
  ⟨(some 65), (.mv (.t 67)), none⟩,
  ⟨(some 68), (.ext (.t 65) 0), none⟩,
  ⟨(some 69), (.ext (.t 65) 1), none⟩,
  ⟨(some 70), (.ext (.t 65) 2), none⟩,
  ⟨(some 16), (.mv (.t 68)), none⟩,
  ⟨(some 17), (.mv (.t 69)), none⟩,
  ⟨(some 18), (.mv (.t 70)), none⟩]
def a127_r9 : List AOper := [
  ⟨(some 71), (.mv (.t 9)), none⟩,
  ⟨(some 72), (.un .not (.t 71)), none⟩,
  ⟨(some 73), (.mv (.t 72)), none⟩,
  ⟨(some 74), (.mv (.t 12)), (some (73, false))⟩,
  ⟨(some 75), (.un .not (.t 74)), (some (73, false))⟩,
  ⟨(some 76), (.pick (.t 73) (.k (.d (.bool true))) (.t 75)), none⟩,
  ⟨(some 77), (.mv (.t 76)), none⟩,
  ⟨(some 78), (.mv (.t 15)), (some (77, false))⟩,
  ⟨(some 79), (.un .not (.t 78)), (some (77, false))⟩,
  ⟨(some 80), (.pick (.t 77) (.k (.d (.bool true))) (.t 79)), none⟩,
  ⟨(some 81), (.mv (.t 80)), none⟩,
  ⟨(some 82), (.mv (.t 18)), (some (81, false))⟩,
  ⟨(some 83), (.un .not (.t 82)), (some (81, false))⟩,
  ⟨(some 84), (.pick (.t 81) (.k (.d (.bool true))) (.t 83)), none⟩,
  ⟨(some 85), (.mv (.t 84)), none⟩,
  ⟨(some 86), (.mv (.t 17)), (some (85, false))⟩,
  ⟨(some 87), (.len false (.t 86)), (some (85, false))⟩,
  ⟨(some 88), (.bin .gtr (.t 87) (.k (.d (.int .i64 0)))), (some (85, false))⟩,
  ⟨(some 89), (.pick (.t 85) (.k (.d (.bool true))) (.t 88)), none⟩]
def a127_r10 : List AOper := [
  ⟨(some 90), (.load true 11 (.t 5)), none⟩,
  ⟨none, (.store 11 (.t 4) (.t 90)), none⟩]
def a127_r11 : List AOper := [
  ⟨(some 91), (.bsl 3 1 []), none⟩,
  ⟨(some 92), (.mv (.t 7)), none⟩,
  ⟨(some 93), (.app false 3 1 8 (.t 91) (.t 92)), none⟩,
  ⟨(some 94), (.bsl 3 1 []), none⟩,
  ⟨(some 95), (.mv (.t 10)), none⟩,
  ⟨(some 96), (.app false 3 1 8 (.t 94) (.t 95)), none⟩,
  ⟨(some 97), (.build [(.nils 3 1), (.nils 3 1)] [(0, (1, (.t 93))), (1, (1, (.t 96)))]), none⟩,
  ⟨(some 98), (.fld 1 (.t 6)), none⟩,
  ⟨none, (.store 2 (.t 98) (.t 97)), none⟩]
def a127_r12 : List AOper := [
  ⟨(some 19), (.mv (.k (.d (.int .i64 0)))), none⟩]
def a127_r13 : List AOper := [
  ⟨(some 99), (.mv (.t 19)), none⟩,
  ⟨(some 100), (.mv (.t 13)), none⟩,
  ⟨(some 101), (.len false (.t 100)), none⟩,
  ⟨(some 102), (.bin .lss (.t 99) (.t 101)), none⟩]
def a127_d14 : List DOp := [
  ⟨⟨(some 105), (.fld 3 (.t 6)), none⟩, [], 0⟩,
  ⟨⟨(some 106), (.load false 1 (.t 105)), none⟩, [true], 0⟩,
  ⟨⟨(some 107), (.mv (.t 13)), none⟩, [false, false], 0⟩,
  ⟨⟨(some 108), (.mv (.t 19)), none⟩, [false, false, false], 0⟩,
  ⟨⟨(some 109), (.ixa 1 (.t 107) (.t 108)), none⟩, [false, false, true, true], 0⟩,
  ⟨⟨(some 110), (.load false 1 (.t 109)), none⟩, [false, false, true, true, true], 0⟩,
  ⟨⟨(some 111), (.mv (.t 13)), none⟩, [false, false, false, false, false, false], 0⟩,
  ⟨⟨(some 112), (.mv (.t 19)), none⟩, [false, false, false, false, false, false, false], 0⟩,
  ⟨⟨(some 113), (.bin .add (.t 112) (.k (.d (.int .i64 1)))), none⟩, [false, false, false, false, false, false, false, true], 0⟩,
  ⟨⟨(some 114), (.ixa 1 (.t 111) (.t 113)), none⟩, [false, false, false, false, false, false, true, true, true], 0⟩,
  ⟨⟨(some 115), (.load false 1 (.t 114)), none⟩, [false, false, false, false, false, false, true, true, true, true], 0⟩,
  ⟨⟨(some 116), (.build [(.d (.int .i64 0)), (.d (.int .i64 0))] [(0, (1, (.t 110))), (1, (1, (.t 115)))]), none⟩, [false, false, true, true, true, true, true, true, true, true, true], 0⟩,
  ⟨⟨(some 117), (.bsl 119 2 [(.t 116)]), none⟩, [false, false, true, true, true, true, true, true, true, true, true, true], 0⟩,
  ⟨⟨(some 118), (.app false 119 2 16 (.t 106) (.t 117)), none⟩, [true, true, true, true, true, true, true, true, true, true, true, true, true], 1⟩,
  ⟨⟨(some 119), (.fld 3 (.t 6)), none⟩, [true, true, true, true, true, true, true, true, true, true, true, true, true, true], 0⟩,
  ⟨⟨none, (.store 1 (.t 119) (.t 118)), none⟩, [true, true, true, true, true, true, true, true, true, true, true, true, true, true, true], 0⟩]
def a127_r15 : List AOper := [
  ⟨(some 103), (.mv (.t 19)), none⟩,
  ⟨(some 104), (.bin .add (.t 103) (.k (.d (.int .i64 2)))), none⟩,
  ⟨(some 19), (.mv (.t 104)), none⟩]
def a127_r16 : List AOper := [
  ⟨(some 20), (.mv (.k (.d (.int .i64 0)))), none⟩]
def a127_r17 : List AOper := [
  ⟨(some 120), (.mv (.t 20)), none⟩,
  ⟨(some 121), (.mv (.t 16)), none⟩,
  ⟨(some 122), (.len false (.t 121)), none⟩,
  ⟨(some 123), (.bin .lss (.t 120) (.t 122)), none⟩]
def a127_r18 : List AOper := [
  ⟨(some 126), (.mv (.t 16)), none⟩,
  ⟨(some 127), (.mv (.t 20)), none⟩,
  ⟨(some 128), (.bin .add (.t 127) (.k (.d (.int .i64 3)))), none⟩,
  ⟨(some 129), (.ixa 1 (.t 126) (.t 128)), none⟩,
  ⟨(some 130), (.load false 1 (.t 129)), none⟩,
  ⟨(some 21), (.mv (.t 130)), none⟩]
def a127_r19 : List AOper := [
  ⟨(some 131), (.mv (.t 21)), none⟩,
  ⟨(some 132), (.bin .lss (.t 131) (.k (.d (.int .i64 0)))), none⟩,
  ⟨(some 133), (.mv (.t 132)), none⟩,
  ⟨(some 134), (.mv (.t 21)), (some (133, false))⟩,
  ⟨(some 135), (.mv (.t 1)), (some (133, false))⟩,
  ⟨(some 136), (.len false (.t 135)), (some (133, false))⟩,
  ⟨(some 137), (.bin .gtr (.t 134) (.t 136)), (some (133, false))⟩,
  ⟨(some 138), (.pick (.t 133) (.k (.d (.bool true))) (.t 137)), none⟩]
def a127_r20 : List AOper := [
  ⟨(some 139), (.load true 11 (.t 5)), none⟩,
  ⟨none, (.store 11 (.t 4) (.t 139)), none⟩]
def a127_d21 : List DOp := [
  ⟨⟨(some 140), (.fld 9 (.t 6)), none⟩, [], 0⟩,
  ⟨⟨(some 141), (.load false 1 (.t 140)), none⟩, [true], 0⟩,
  ⟨⟨(some 142), (.mv (.t 16)), none⟩, [false, false], 0⟩,
  ⟨⟨(some 143), (.mv (.t 20)), none⟩, [false, false, false], 0⟩,
  ⟨⟨(some 144), (.ixa 1 (.t 142) (.t 143)), none⟩, [false, false, true, true], 0⟩,
  ⟨⟨(some 145), (.load false 1 (.t 144)), none⟩, [false, false, true, true, true], 0⟩,
  ⟨⟨(some 146), (.mv (.t 16)), none⟩, [false, false, false, false, false, false], 0⟩,
  ⟨⟨(some 147), (.mv (.t 20)), none⟩, [false, false, false, false, false, false, false], 0⟩,
  ⟨⟨(some 148), (.bin .add (.t 147) (.k (.d (.int .i64 1)))), none⟩, [false, false, false, false, false, false, false, true], 0⟩,
  ⟨⟨(some 149), (.ixa 1 (.t 146) (.t 148)), none⟩, [false, false, false, false, false, false, true, true, true], 0⟩,
  ⟨⟨(some 150), (.load false 1 (.t 149)), none⟩, [false, false, false, false, false, false, true, true, true, true], 0⟩,
  ⟨⟨(some 151), (.mv (.t 16)), none⟩, [false, false, false, false, false, false, false, false, false, false, false], 0⟩,
  ⟨⟨(some 152), (.mv (.t 20)), none⟩, [false, false, false, false, false, false, false, false, false, false, false, false], 0⟩,
  ⟨⟨(some 153), (.bin .add (.t 152) (.k (.d (.int .i64 2)))), none⟩, [false, false, false, false, false, false, false, false, false, false, false, false, true], 0⟩,
  ⟨⟨(some 154), (.ixa 1 (.t 151) (.t 153)), none⟩, [false, false, false, false, false, false, false, false, false, false, false, true, true, true], 0⟩,
  ⟨⟨(some 155), (.load false 1 (.t 154)), none⟩, [false, false, false, false, false, false, false, false, false, false, false, true, true, true, true], 0⟩,
  ⟨⟨(some 156), (.bsl 9 1 []), none⟩, [false, false, false, false, false, false, false, false, false, false, false, false, false, false, false, false], 0⟩,
  ⟨⟨(some 157), (.mv (.t 1)), none⟩, [false, false, false, false, false, false, false, false, false, false, false, false, false, false, false, false, false], 0⟩,
  ⟨⟨(some 158), (.mv (.t 21)), none⟩, [false, false, false, false, false, false, false, false, false, false, false, false, false, false, false, false, false, false], 0⟩,
  ⟨⟨(some 159), (.slc 1 (.t 157) none (some (.t 158))), none⟩, [false, false, false, false, false, false, false, false, false, false, false, false, false, false, false, false, false, true, true], 0⟩,
  ⟨⟨(some 160), (.app false 9 1 16 (.t 156) (.t 159)), none⟩, [false, false, false, false, false, false, false, false, false, false, false, false, false, false, false, false, true, true, true, true], 1⟩,
  ⟨⟨(some 161), (.build [(.d (.int .i64 0)), (.d (.int .i64 0)), (.d (.int .i64 0)), (.nils 9 1)] [(0, (1, (.t 145))), (1, (1, (.t 150))), (2, (1, (.t 155))), (3, (1, (.t 160)))]), none⟩, [false, false, true, true, true, true, true, true, true, true, true, true, true, true, true, true, true, true, true, true, true], 0⟩,
  ⟨⟨(some 162), (.bsl 100 4 [(.t 161)]), none⟩, [false, false, true, true, true, true, true, true, true, true, true, true, true, true, true, true, true, true, true, true, true, true], 2⟩,
  ⟨⟨(some 163), (.app false 100 4 48 (.t 141) (.t 162)), none⟩, [true, true, true, true, true, true, true, true, true, true, true, true, true, true, true, true, true, true, true, true, true, true, true], 3⟩,
  ⟨⟨(some 164), (.fld 9 (.t 6)), none⟩, [true, true, true, true, true, true, true, true, true, true, true, true, true, true, true, true, true, true, true, true, true, true, true, true], 0⟩,
  ⟨⟨none, (.store 1 (.t 164) (.t 163)), none⟩, [true, true, true, true, true, true, true, true, true, true, true, true, true, true, true, true, true, true, true, true, true, true, true, true, true], 0⟩]
def a127_r22 : List AOper := [
  ⟨(some 165), (.mv (.t 1)), none⟩,
  ⟨(some 166), (.mv (.t 21)), none⟩,
  ⟨(some 167), (.slc 1 (.t 165) (some (.t 166)) none), none⟩,
  ⟨(some 1), (.mv (.t 167)), none⟩]
def a127_r23 : List AOper := [
  ⟨(some 124), (.mv (.t 20)), none⟩,
  ⟨(some 125), (.bin .add (.t 124) (.k (.d (.int .i64 4)))), none⟩,
  ⟨(some 20), (.mv (.t 125)), none⟩]
def a127_r24 : List AOper := [
  ⟨(some 168), (.mv (.t 1)), none⟩,
  ⟨(some 169), (.len false (.t 168)), none⟩,
  ⟨(some 170), (.bin .gtr (.t 169) (.k (.d (.int .i64 0)))), none⟩]
def a127_r25 : List AOper := [
  ⟨(some 171), (.load true 11 (.t 5)), none⟩,
  ⟨none, (.store 11 (.t 4) (.t 171)), none⟩]
def a127_r26 : List AOper := [
  ⟨(some 172), (.load true 10 (.t 6)), none⟩,
  ⟨(some 173), (.build [(.d (.int .i64 0)), (.nils 3 1), (.nils 3 1), (.nils 119 2), (.d (.int .i64 0)), (.d (.int .i64 0)), (.d (.int .i64 0)), (.d (.int .i64 0)), (.d (.int .i64 0)), (.nils 100 4), (.d (.int .i64 0))] [(0, (10, (.t 172)))]), none⟩,
  ⟨none, (.store 11 (.t 4) (.t 173)), none⟩]
def l127_0 : ECode :=
  .seq (.seq (.region false a127_r17) (.cond (.t 123) (.skip) (.exit 2))) (.seq (.block 3 (.seq (.region false a127_r18) (.seq (.seq (.region false a127_r19) (.cond (.t 138) (.seq (.region false a127_r20) (.ret)) (.skip))) (.seq (.regw a127_d21) (.region false a127_r22))))) (.region false a127_r23))
def l127_1 : ECode :=
  .seq (.seq (.region false a127_r13) (.cond (.t 102) (.skip) (.exit 0))) (.seq (.block 1 (.regw a127_d14)) (.region false a127_r15))
def e127 : EFunc := ⟨174, [(.cell 4 true 11)],
  .seq (.region false a127_r0) (.seq (.region false a127_r1) (.seq (.seq (.region false a127_r2) (.cond (.t 25) (.seq (.region false a127_r3) (.ret)) (.skip))) (.seq (.regw a127_d4) (.seq (.region false a127_r5) (.seq (.region false a127_r6) (.seq (.region false a127_r7) (.seq (.region false a127_r8) (.seq (.seq (.region false a127_r9) (.cond (.t 89) (.seq (.region false a127_r10) (.ret)) (.skip))) (.seq (.region false a127_r11) (.seq (.seq (.region false a127_r12) (.block 0 (.loop [false, true, false, false, true, true, true, false, false, false, false, false, false, true, false, false, true, false, false, true] [false, true, false, false, true, true, true, false, false, false, false, false, false, false, false, false, true] l127_1))) (.seq (.seq (.region false a127_r16) (.block 2 (.loop [false, true, false, false, true, true, true, false, false, false, false, false, false, false, false, false, true, false, false, false, true] [false, true, false, false, true, true, true] l127_0))) (.seq (.seq (.region false a127_r24) (.cond (.t 170) (.seq (.region false a127_r25) (.ret)) (.skip))) (.seq (.region false a127_r26) (.ret))))))))))))))⟩

def a128_r0 : List AOper := [
  ⟨(some 2), (.nilsl 5 1), none⟩]
def a128_r1 : List AOper := [
  ⟨(some 5), (.mv (.t 0)), none⟩,
  ⟨(some 6), (.len false (.t 5)), none⟩,
  ⟨(some 7), (.call (.k (.cl 211 [] [])) [(.t 6)]), none⟩,
  ⟨(some 3), (.mv (.t 7)), none⟩]
def a128_r2 : List AOper := [
  ⟨(some 4), (.mv (.k (.d (.int .i64 0)))), none⟩]
def a128_r3 : List AOper := [
  ⟨(some 8), (.mv (.t 4)), none⟩,
  ⟨(some 9), (.mv (.t 0)), none⟩,
  ⟨(some 10), (.len false (.t 9)), none⟩,
  ⟨(some 11), (.bin .lss (.t 8) (.t 10)), none⟩]
def a128_r4 : List AOper := [
  ⟨(some 14), (.mv (.t 3)), none⟩,
  ⟨(some 15), (.mv (.t 0)), none⟩,
  ⟨(some 16), (.mv (.t 4)), none⟩,
  ⟨(some 17), (.ixa 1 (.t 15) (.t 16)), none⟩,
  ⟨(some 18), (.load false 1 (.t 17)), none⟩,
  ⟨(some 19), (.call (.k (.cl 211 [] [])) [(.t 18)]), none⟩,
  ⟨(some 20), (.app false 5 1 1 (.t 14) (.t 19)), none⟩,
  ⟨(some 3), (.mv (.t 20)), none⟩]
def a128_r5 : List AOper := [
  ⟨(some 12), (.mv (.t 4)), none⟩,
  ⟨(some 13), (.bin .add (.t 12) (.k (.d (.int .i64 1)))), none⟩,
  ⟨(some 4), (.mv (.t 13)), none⟩]
def a128_r6 : List AOper := [
  ⟨(some 21), (.mv (.t 3)), none⟩,
  ⟨(some 2), (.mv (.t 21)), none⟩]
def l128_0 : ECode :=
  .seq (.seq (.region false a128_r3) (.cond (.t 11) (.skip) (.exit 0))) (.seq (.block 1 (.region false a128_r4)) (.region false a128_r5))
def e128 : EFunc := ⟨22, [(.tmp 2)],
  .seq (.region false a128_r0) (.seq (.region false a128_r1) (.seq (.seq (.region false a128_r2) (.block 0 (.loop [true, false, false, true, true] [false, false, false, true] l128_0))) (.seq (.region false a128_r6) (.ret))))⟩

def a129_r0 : List AOper := [
  ⟨(some 2), (.nilsl 5 1), none⟩]
def a129_r1 : List AOper := [
  ⟨(some 5), (.mv (.t 0)), none⟩,
  ⟨(some 6), (.len false (.t 5)), none⟩,
  ⟨(some 7), (.call (.k (.cl 211 [] [])) [(.t 6)]), none⟩,
  ⟨(some 3), (.mv (.t 7)), none⟩]
def a129_r2 : List AOper := [
  ⟨(some 4), (.mv (.k (.d (.int .i64 0)))), none⟩]
def a129_r3 : List AOper := [
  ⟨(some 8), (.mv (.t 4)), none⟩,
  ⟨(some 9), (.mv (.t 0)), none⟩,
  ⟨(some 10), (.len false (.t 9)), none⟩,
  ⟨(some 11), (.bin .lss (.t 8) (.t 10)), none⟩]
def a129_r4 : List AOper := [
  ⟨(some 14), (.mv (.t 3)), none⟩,
  ⟨(some 15), (.mv (.t 0)), none⟩,
  ⟨(some 16), (.mv (.t 4)), none⟩,
  ⟨(some 17), (.ixa 1 (.t 15) (.t 16)), none⟩,
  ⟨(some 18), (.load false 1 (.t 17)), none⟩,
  ⟨(some 19), (.call (.k (.cl 212 [] [])) [(.t 18)]), none⟩,
  ⟨(some 20), (.app false 5 1 1 (.t 14) (.t 19)), none⟩,
  ⟨(some 3), (.mv (.t 20)), none⟩]
def a129_r5 : List AOper := [
  ⟨(some 12), (.mv (.t 4)), none⟩,
  ⟨(some 13), (.bin .add (.t 12) (.k (.d (.int .i64 1)))), none⟩,
  ⟨(some 4), (.mv (.t 13)), none⟩]
def a129_r6 : List AOper := [
  ⟨(some 21), (.mv (.t 3)), none⟩,
  ⟨(some 2), (.mv (.t 21)), none⟩]
def l129_0 : ECode :=
  .seq (.seq (.region false a129_r3) (.cond (.t 11) (.skip) (.exit 0))) (.seq (.block 1 (.region false a129_r4)) (.region false a129_r5))
def e129 : EFunc := ⟨22, [(.tmp 2)],
  .seq (.region false a129_r0) (.seq (.region false a129_r1) (.seq (.seq (.region false a129_r2) (.block 0 (.loop [true, false, false, true, true] [false, false, false, true] l129_0))) (.seq (.region false a129_r6) (.ret))))⟩

def a130_r0 : List AOper := [
  ⟨(some 1), (.mv (.k (.d (.bool false)))), none⟩]
def a130_r1 : List AOper := [
  ⟨(some 2), (.fld 0 (.t 0)), none⟩,
  ⟨(some 3), (.load false 1 (.t 2)), none⟩,
  ⟨(some 4), (.bin .lss (.t 3) (.k (.d (.int .i64 1)))), none⟩,
  ⟨(some 5), (.mv (.t 4)), none⟩,
  ⟨(some 6), (.fld 0 (.t 0)), (some (5, false))⟩,
  ⟨(some 7), (.load false 1 (.t 6)), (some (5, false))⟩,
  ⟨(some 8), (.bin .gtr (.t 7) (.k (.d (.int .i64 32)))), (some (5, false))⟩,
  ⟨(some 9), (.pick (.t 5) (.k (.d (.bool true))) (.t 8)), none⟩,
  ⟨(some 10), (.mv (.t 9)), none⟩,
  ⟨(some 11), (.fld 1 (.t 0)), (some (10, false))⟩,
  ⟨(some 12), (.load false 1 (.t 11)), (some (10, false))⟩,
  ⟨(some 13), (.bin .lss (.t 12) (.k (.d (.int .i64 1)))), (some (10, false))⟩,
  ⟨(some 14), (.pick (.t 10) (.k (.d (.bool true))) (.t 13)), none⟩,
  ⟨(some 15), (.mv (.t 14)), none⟩,
  ⟨(some 16), (.fld 1 (.t 0)), (some (15, false))⟩,
  ⟨(some 17), (.load false 1 (.t 16)), (some (15, false))⟩,
  ⟨(some 18), (.bin .gtr (.t 17) (.k (.d (.int .i64 3)))), (some (15, false))⟩,
  ⟨(some 19), (.pick (.t 15) (.k (.d (.bool true))) (.t 18)), none⟩,
  ⟨(some 1), (.mv (.t 19)), none⟩]
def e130 : EFunc := ⟨20, [(.tmp 1)],
  .seq (.region false a130_r0) (.seq (.region false a130_r1) (.ret))⟩

def a131_r0 : List AOper := [
  ⟨(some 1), (.mv (.k (.d (.bool false)))), none⟩]
def a131_r1 : List AOper := [
  ⟨(some 2), (.fld 2 (.t 0)), none⟩,
  ⟨(some 3), (.load false 1 (.t 2)), none⟩,
  ⟨(some 4), (.len false (.t 3)), none⟩,
  ⟨(some 5), (.bin .gtr (.t 4) (.k (.d (.int .i64 16)))), none⟩,
  ⟨(some 1), (.mv (.t 5)), none⟩]
def e131 : EFunc := ⟨6, [(.tmp 1)],
  .seq (.region false a131_r0) (.seq (.region false a131_r1) (.ret))⟩

def a132_r0 : List AOper := [
  ⟨(some 2), (.box 77 true 5 (.t 0)), none⟩,
  ⟨(some 3), (.box 9 false 1 (.t 1)), none⟩,
  ⟨(some 4), (.mv (.k (.d (.int .i64 0)))), none⟩]
def a132_r1 : List AOper := [
  ⟨(some 6), (.mkfn 213 [] [(.t 2)]), none⟩,
  ⟨(some 7), (.build [.nilf, (.d (.int .i64 0))] [(0, (1, (.t 6))), (1, (1, (.k (.d (.int .i64 5)))))]), none⟩,
  ⟨(some 8), (.mkfn 215 [] [(.t 2), (.t 3)]), none⟩,
  ⟨(some 9), (.build [.nilf, (.d (.int .i64 0))] [(0, (1, (.t 8))), (1, (1, (.k (.d (.int .i64 6)))))]), none⟩,
  ⟨(some 10), (.mkfn 216 [] [(.t 2)]), none⟩,
  ⟨(some 11), (.build [.nilf, (.d (.int .i64 0))] [(0, (1, (.t 10))), (1, (1, (.k (.d (.int .i64 130)))))]), none⟩,
  ⟨(some 12), (.bsl 143 2 [(.t 7), (.t 9), (.t 11)]), none⟩,
  ⟨(some 13), (.call (.k (.cl 87 [] [])) [(.t 12)]), none⟩,
  ⟨(some 5), (.mv (.t 13)), none⟩]
def a132_r2 : List AOper := [
  ⟨(some 14), (.mv (.t 5)), none⟩,
  ⟨(some 15), (.bin .neq (.t 14) (.k (.d (.int .i64 0)))), none⟩]
def a132_r3 : List AOper := [
  ⟨(some 16), (.mv (.t 5)), none⟩,
  ⟨(some 4), (.mv (.t 16)), none⟩]
def a132_r4 : List AOper := [
  ⟨(some 17), (.fld 1 (.t 2)), none⟩,
  ⟨(some 18), (.load false 1 (.t 17)), none⟩,
  ⟨(some 19), (.bin .eql (.t 18) (.k (.d (.int .i64 1)))), none⟩]
def a132_r5 : List AOper := [
  ⟨(some 20), (.mkfn 217 [] [(.t 2)]), none⟩,
  ⟨(some 21), (.build [.nilf, (.d (.int .i64 0))] [(0, (1, (.t 20))), (1, (1, (.k (.d (.int .i64 131)))))]), none⟩,
  ⟨(some 22), (.mkfn 218 [] [(.t 2)]), none⟩,
  ⟨(some 23), (.build [.nilf, (.d (.int .i64 0))] [(0, (1, (.t 22))), (1, (1, (.k (.d (.int .i64 3)))))]), none⟩,
  ⟨(some 24), (.bsl 143 2 [(.t 21), (.t 23)]), none⟩,
  ⟨(some 25), (.call (.k (.cl 87 [] [])) [(.t 24)]), none⟩,
  ⟨(some 4), (.mv (.t 25)), none⟩]
def a132_r6 : List AOper := [
  ⟨(some 26), (.mkfn 219 [] [(.t 2)]), none⟩,
  ⟨(some 27), (.build [.nilf, (.d (.int .i64 0))] [(0, (1, (.t 26))), (1, (1, (.k (.d (.int .i64 3)))))]), none⟩,
  ⟨(some 28), (.mkfn 220 [] [(.t 2)]), none⟩,
  ⟨(some 29), (.build [.nilf, (.d (.int .i64 0))] [(0, (1, (.t 28))), (1, (1, (.k (.d (.int .i64 2)))))]), none⟩,
  ⟨(some 30), (.mkfn 221 [] [(.t 2)]), none⟩,
  ⟨(some 31), (.build [.nilf, (.d (.int .i64 0))] [(0, (1, (.t 30))), (1, (1, (.k (.d (.int .i64 5)))))]), none⟩,
  ⟨(some 32), (.mkfn 223 [] [(.t 2)]), none⟩,
  ⟨(some 33), (.build [.nilf, (.d (.int .i64 0))] [(0, (1, (.t 32))), (1, (1, (.k (.d (.int .i64 6)))))]), none⟩,
  ⟨(some 34), (.bsl 143 2 [(.t 27), (.t 29), (.t 31), (.t 33)]), none⟩,
  ⟨(some 35), (.call (.k (.cl 87 [] [])) [(.t 34)]), none⟩,
  ⟨(some 4), (.mv (.t 35)), none⟩]
def e132 : EFunc := ⟨36, [(.tmp 4)],
  .seq (.region false a132_r0) (.seq (.region false a132_r1) (.seq (.seq (.region false a132_r2) (.cond (.t 15) (.seq (.region false a132_r3) (.ret)) (.skip))) (.seq (.seq (.region false a132_r4) (.cond (.t 19) (.seq (.region false a132_r5) (.ret)) (.skip))) (.seq (.region false a132_r6) (.ret)))))⟩

def a133_r0 : List AOper := [
  ⟨(some 4), (.mv (.k (.d (.int .i64 0)))), none⟩]
def a133_r1 : List AOper := [
  ⟨(some 6), (.mv (.t 0)), none⟩,
  ⟨(some 7), (.len false (.t 6)), none⟩,
  ⟨(some 8), (.mv (.k (.d (.int .i64 0)))), none⟩]
def a133_r2 : List AOper := [
  ⟨(some 9), (.bin .lss (.t 8) (.t 7)), none⟩]
def a133_r3 : List AOper := [
  ⟨(some 10), (.mv (.t 8)), none⟩,
  ⟨(some 5), (.mv (.t 10)), none⟩]
def a133_r4 : List AOper := [
  ⟨(some 11), (.mv (.t 1)), none⟩,
  ⟨(some 12), (.mv (.t 0)), none⟩,
  ⟨(some 13), (.mv (.t 5)), none⟩,
  ⟨(some 14), (.ixa 1 (.t 12) (.t 13)), none⟩,
  ⟨(some 15), (.load false 1 (.t 14)), none⟩,
  ⟨(some 16), (.call (.t 11) [(.t 15)]), none⟩]
def a133_r5 : List AOper := [
  ⟨(some 17), (.mv (.t 5)), none⟩,
  ⟨(some 4), (.mv (.t 17)), none⟩]
def a133_r6 : List AOper := [
  ⟨(some 18), (.bin .add (.t 8) (.k (.d (.int .i64 1)))), none⟩,
  ⟨(some 8), (.mv (.t 18)), none⟩]
def a133_r7 : List AOper := [
  ⟨(some 4), (.mv (.k (.d (.int .i64 (-1))))), none⟩]
def l133_0 : ECode :=
  .seq (.region false a133_r2) (.seq (.cond (.t 9) (.skip) (.exit 0)) (.seq (.block 1 (.seq (.region false a133_r3) (.seq (.region false a133_r4) (.cond (.t 16) (.seq (.region false a133_r5) (.ret)) (.skip))))) (.region false a133_r6)))
def e133 : EFunc := ⟨19, [(.tmp 4)],
  .seq (.region false a133_r0) (.seq (.seq (.region false a133_r1) (.block 0 (.loop [true, true, false, false, false, false, false, true, true] [false, false, false, false, true] l133_0))) (.seq (.region false a133_r7) (.ret)))⟩

def a134_r0 : List AOper := [
  ⟨(some 4), (.mv (.k (.d (.int .i64 0)))), none⟩]
def a134_r1 : List AOper := [
  ⟨(some 6), (.mv (.t 0)), none⟩,
  ⟨(some 7), (.len false (.t 6)), none⟩,
  ⟨(some 8), (.mv (.k (.d (.int .i64 0)))), none⟩]
def a134_r2 : List AOper := [
  ⟨(some 9), (.bin .lss (.t 8) (.t 7)), none⟩]
def a134_r3 : List AOper := [
  ⟨(some 10), (.mv (.t 8)), none⟩,
  ⟨(some 5), (.mv (.t 10)), none⟩]
def a134_r4 : List AOper := [
  ⟨(some 11), (.mv (.t 1)), none⟩,
  ⟨(some 12), (.mv (.t 0)), none⟩,
  ⟨(some 13), (.mv (.t 5)), none⟩,
  ⟨(some 14), (.ixa 9 (.t 12) (.t 13)), none⟩,
  ⟨(some 15), (.load true 9 (.t 14)), none⟩,
  ⟨(some 16), (.call (.t 11) [(.t 15)]), none⟩]
def a134_r5 : List AOper := [
  ⟨(some 17), (.mv (.t 5)), none⟩,
  ⟨(some 4), (.mv (.t 17)), none⟩]
def a134_r6 : List AOper := [
  ⟨(some 18), (.bin .add (.t 8) (.k (.d (.int .i64 1)))), none⟩,
  ⟨(some 8), (.mv (.t 18)), none⟩]
def a134_r7 : List AOper := [
  ⟨(some 4), (.mv (.k (.d (.int .i64 (-1))))), none⟩]
def l134_0 : ECode :=
  .seq (.region false a134_r2) (.seq (.cond (.t 9) (.skip) (.exit 0)) (.seq (.block 1 (.seq (.region false a134_r3) (.seq (.region false a134_r4) (.cond (.t 16) (.seq (.region false a134_r5) (.ret)) (.skip))))) (.region false a134_r6)))
def e134 : EFunc := ⟨19, [(.tmp 4)],
  .seq (.region false a134_r0) (.seq (.seq (.region false a134_r1) (.block 0 (.loop [true, true, false, false, false, false, false, true, true] [false, false, false, false, true] l134_0))) (.seq (.region false a134_r7) (.ret)))⟩

def a135_r0 : List AOper := [
  ⟨(some 3), (.mv (.k (.d (.bool false)))), none⟩]
def a135_r1 : List AOper := [
  ⟨(some 4), (.mv (.t 0)), none⟩,
  ⟨(some 5), (.call (.k (.cl 136 [] [])) [(.t 4)]), none⟩,
  ⟨(some 6), (.un .not (.t 5)), none⟩,
  ⟨(some 7), (.mv (.t 6)), none⟩,
  ⟨(some 8), (.mv (.t 0)), (some (7, false))⟩,
  ⟨(some 9), (.len false (.t 8)), (some (7, false))⟩,
  ⟨(some 10), (.load false 1 (.t 1)), (some (7, false))⟩,
  ⟨(some 11), (.ixa 1 (.t 10) (.k (.d (.int .i64 0)))), (some (7, false))⟩,
  ⟨(some 12), (.load false 1 (.t 11)), (some (7, false))⟩,
  ⟨(some 13), (.len false (.t 12)), (some (7, false))⟩,
  ⟨(some 14), (.bin .neq (.t 9) (.t 13)), (some (7, false))⟩,
  ⟨(some 15), (.pick (.t 7) (.k (.d (.bool true))) (.t 14)), none⟩,
  ⟨(some 3), (.mv (.t 15)), none⟩]
def e135 : EFunc := ⟨16, [(.tmp 3)],
  .seq (.region false a135_r0) (.seq (.region false a135_r1) (.ret))⟩

def a136_r0 : List AOper := [
  ⟨(some 2), (.mv (.k (.d (.bool false)))), none⟩]
def a136_r1 : List AOper := [
  ⟨(some 3), (.mv (.k (.cl 225 [] []))), none⟩]
def a136_r2 : List AOper := [
  ⟨(some 4), (.mv (.t 0)), none⟩,
  ⟨(some 5), (.len false (.t 4)), none⟩,
  ⟨(some 6), (.bin .geq (.t 5) (.k (.d (.int .i64 1)))), none⟩,
  ⟨(some 7), (.mv (.t 6)), none⟩,
  ⟨(some 8), (.mv (.t 0)), (some (7, true))⟩,
  ⟨(some 9), (.len false (.t 8)), (some (7, true))⟩,
  ⟨(some 10), (.bin .leq (.t 9) (.k (.d (.int .i64 32)))), (some (7, true))⟩,
  ⟨(some 11), (.pick (.t 7) (.t 10) (.k (.d (.bool false)))), none⟩,
  ⟨(some 12), (.mv (.t 11)), none⟩,
  ⟨(some 13), (.mv (.t 0)), (some (12, true))⟩,
  ⟨(some 14), (.mv (.t 3)), (some (12, true))⟩,
  ⟨(some 15), (.call (.k (.cl 226 [] [])) [(.t 13), (.t 14)]), (some (12, true))⟩,
  ⟨(some 16), (.un .not (.t 15)), (some (12, true))⟩,
  ⟨(some 17), (.pick (.t 12) (.t 16) (.k (.d (.bool false)))), none⟩,
  ⟨(some 2), (.mv (.t 17)), none⟩]
def e136 : EFunc := ⟨18, [(.tmp 2)],
  .seq (.region false a136_r0) (.seq (.region false a136_r1) (.seq (.region false a136_r2) (.ret)))⟩

def a137_r0 : List AOper := [
  ⟨(some 2), (.nilsl 3 1), none⟩]
def a137_r1 : List AOper := [
  ⟨(some 3), (.mv (.t 0)), none⟩,
  ⟨(some 4), (.isn false (.t 3)), none⟩]
def a137_r2 : List AOper := [
  ⟨(some 2), (.nilsl 3 1), none⟩]
def a137_r3 : List AOper := [
  ⟨(some 5), (.bsl 3 1 []), none⟩,
  ⟨(some 6), (.mv (.t 0)), none⟩,
  ⟨(some 7), (.app false 3 1 8 (.t 5) (.t 6)), none⟩,
  ⟨(some 2), (.mv (.t 7)), none⟩]
def e137 : EFunc := ⟨8, [(.tmp 2)],
  .seq (.region false a137_r0) (.seq (.seq (.region false a137_r1) (.cond (.t 4) (.seq (.region false a137_r2) (.ret)) (.skip))) (.seq (.region false a137_r3) (.ret)))⟩

def a138_r0 : List AOper := [
  ⟨(some 6), (.nilsl 3 1), none⟩]
def a138_r1 : List AOper := [
  ⟨(some 7), (.nilsl 3 1), none⟩]
def a138_r2 : List AOper := [
  ⟨(some 9), (.mv (.t 0)), none⟩,
  ⟨(some 10), (.len false (.t 9)), none⟩,
  ⟨(some 11), (.mv (.k (.d (.int .i64 0)))), none⟩]
def a138_r3 : List AOper := [
  ⟨(some 12), (.bin .lss (.t 11) (.t 10)), none⟩]
def a138_r4 : List AOper := [
  ⟨(some 13), (.mv (.t 11)), none⟩,
  ⟨(some 8), (.mv (.t 13)), none⟩]
def a138_r5 : List AOper := [
  ⟨(some 14), (.mv (.t 7)), none⟩,
  ⟨(some 15), (.mv (.t 2)), none⟩,
  ⟨(some 16), (.mv (.t 0)), none⟩,
  ⟨(some 17), (.mv (.t 8)), none⟩,
  ⟨(some 18), (.ixa 1 (.t 16) (.t 17)), none⟩,
  ⟨(some 19), (.load false 1 (.t 18)), none⟩,
  ⟨(some 20), (.mv (.t 1)), none⟩,
  ⟨(some 21), (.mv (.t 8)), none⟩,
  ⟨(some 22), (.ixa 1 (.t 20) (.t 21)), none⟩,
  ⟨(some 23), (.load false 1 (.t 22)), none⟩,
  ⟨(some 24), (.call (.t 15) [(.t 19), (.t 23)]), none⟩,
  ⟨(some 25), (.bsl 3 1 [(.t 24)]), none⟩,
  ⟨(some 26), (.app false 3 1 8 (.t 14) (.t 25)), none⟩,
  ⟨(some 7), (.mv (.t 26)), none⟩]
def a138_r6 : List AOper := [
  ⟨(some 27), (.bin .add (.t 11) (.k (.d (.int .i64 1)))), none⟩,
  ⟨(some 11), (.mv (.t 27)), none⟩]
def a138_r7 : List AOper := [
  ⟨(some 28), (.mv (.t 7)), none⟩,
  ⟨(some 6), (.mv (.t 28)), none⟩]
def l138_0 : ECode :=
  .seq (.region false a138_r3) (.seq (.cond (.t 12) (.skip) (.exit 0)) (.seq (.block 1 (.seq (.region false a138_r4) (.region true a138_r5))) (.region false a138_r6)))
def e138 : EFunc := ⟨29, [(.tmp 6)],
  .seq (.region false a138_r0) (.seq (.region false a138_r1) (.seq (.seq (.region false a138_r2) (.block 0 (.loop [true, true, true, false, false, false, false, true, false, false, true, true] [false, false, false, false, false, false, false, true] l138_0))) (.seq (.region false a138_r7) (.ret))))⟩

def a139_r0 : List AOper := [
  ⟨(some 4), (.mv (.k (.d (.int .i64 0)))), none⟩]
def a139_r1 : List AOper := [
  ⟨(some 5), (.mv (.t 0)), none⟩,
  ⟨(some 6), (.mv (.t 1)), none⟩,
  ⟨(some 7), (.mn [(.t 5), (.t 6)]), none⟩,
  ⟨(some 4), (.mv (.t 7)), none⟩]
def e139 : EFunc := ⟨8, [(.tmp 4)],
  .seq (.region false a139_r0) (.seq (.region false a139_r1) (.ret))⟩

def a140_r0 : List AOper := [
  ⟨(some 4), (.mv (.k (.d (.int .i64 0)))), none⟩]
def a140_r1 : List AOper := [
  ⟨(some 5), (.mv (.t 0)), none⟩,
  ⟨(some 6), (.mv (.t 1)), none⟩,
  ⟨(some 7), (.mx [(.t 5), (.t 6)]), none⟩,
  ⟨(some 4), (.mv (.t 7)), none⟩]
def e140 : EFunc := ⟨8, [(.tmp 4)],
  .seq (.region false a140_r0) (.seq (.region false a140_r1) (.ret))⟩

def a141_r0 : List AOper := [
  ⟨(some 6), (.nilsl 27 1), none⟩,
  ⟨(some 7), (.mv (.k (.d (.int .i64 0)))), none⟩]
def a141_r1 : List AOper := [
  ⟨(some 11), (.mv (.t 0)), none⟩,
  ⟨(some 12), (.mv (.t 1)), none⟩,
  ⟨(some 13), (.call (.k (.cl 227 [] [])) [(.t 11), (.t 12)]), none⟩,
  ⟨(some 14), (.un .not (.t 13)), none⟩,
  ⟨(some 15), (.mv (.t 14)), none⟩,
  ⟨(some 16), (.mv (.t 2)), (some (15, false))⟩,
  ⟨(some 17), (.call (.k (.cl 228 [] [])) [(.t 16)]), (some (15, false))⟩,
  ⟨(some 18), (.un .not (.t 17)), (some (15, false))⟩,
  ⟨(some 19), (.pick (.t 15) (.k (.d (.bool true))) (.t 18)), none⟩,
  ⟨(some 20), (.mv (.t 19)), none⟩,
  ⟨(some 21), (.mv (.t 1)), (some (20, false))⟩,
  ⟨(some 22), (.ixa 1 (.t 21) (.k (.d (.int .i64 0)))), (some (20, false))⟩,
  ⟨(some 23), (.load false 1 (.t 22)), (some (20, false))⟩,
  ⟨(some 24), (.mv (.t 2)), (some (20, false))⟩,
  ⟨(some 25), (.ixa 1 (.t 24) (.k (.d (.int .i64 0)))), (some (20, false))⟩,
  ⟨(some 26), (.load false 1 (.t 25)), (some (20, false))⟩,
  ⟨(some 27), (.call (.k (.cl 229 [] [])) [(.t 23), (.t 26)]), (some (20, false))⟩,
  ⟨(some 28), (.un .not (.t 27)), (some (20, false))⟩,
  ⟨(some 29), (.pick (.t 20) (.k (.d (.bool true))) (.t 28)), none⟩]
def a141_r2 : List AOper := [
  ⟨(some 6), (.nilsl 27 1), none⟩,
  ⟨(some 7), (.mv (.k (.d (.int .i64 1)))), none⟩]
def a141_r3 : List AOper := [
  ⟨(some 8), (.nilsl 27 1), none⟩]
def a141_r4 : List AOper := [
  ⟨(some 30), (.mv (.t 2)), none⟩,
  ⟨(some 31), (.len false (.t 30)), none⟩,
  ⟨(some 32), (.mv (.k (.d (.int .i64 0)))), none⟩]
def a141_r5 : List AOper := [
  ⟨(some 33), (.bin .lss (.t 32) (.t 31)), none⟩]
def a141_r6 : List AOper := [
  ⟨(some 34), (.ixa 1 (.t 30) (.t 32)), none⟩,
  ⟨(some 35), (.load false 1 (.t 34)), none⟩,
  ⟨(some 10), (.mv (.t 35)), none⟩]
def a141_r7 : List AOper := [
  ⟨(some 36), (.mv (.t 8)), none⟩,
  ⟨(some 37), (.mv (.t 0)), none⟩,
  ⟨(some 38), (.mv (.t 1)), none⟩,
  ⟨(some 39), (.mv (.t 10)), none⟩,
  ⟨(some 40), (.call (.k (.cl 230 [] [])) [(.t 37), (.t 38), (.t 39)]), none⟩,
  ⟨(some 41), (.bsl 27 1 [(.t 40)]), none⟩,
  ⟨(some 42), (.app false 27 1 24 (.t 36) (.t 41)), none⟩,
  ⟨(some 8), (.mv (.t 42)), none⟩]
def a141_r8 : List AOper := [
  ⟨(some 43), (.bin .add (.t 32) (.k (.d (.int .i64 1)))), none⟩,
  ⟨(some 32), (.mv (.t 43)), none⟩]
def a141_r9 : List AOper := [
  ⟨(some 44), (.mv (.t 8)), none⟩,
  ⟨(some 6), (.mv (.t 44)), none⟩,
  ⟨(some 7), (.mv (.k (.d (.int .i64 0)))), none⟩]
def l141_0 : ECode :=
  .seq (.region false a141_r5) (.seq (.cond (.t 33) (.skip) (.exit 0)) (.seq (.block 1 (.seq (.region false a141_r6) (.region false a141_r7))) (.region false a141_r8)))
def e141 : EFunc := ⟨45, [(.tmp 6), (.tmp 7)],
  .seq (.region false a141_r0) (.seq (.seq (.region true a141_r1) (.cond (.t 29) (.seq (.region false a141_r2) (.ret)) (.skip))) (.seq (.region false a141_r3) (.seq (.seq (.region false a141_r4) (.block 0 (.loop [true, true, false, false, false, false, false, false, true, false, false, false, false, false, false, false, false, false, false, false, false, false, false, false, false, false, false, false, false, false, true, true, true] [false, false, false, false, false, false, false, false, true] l141_0))) (.seq (.region false a141_r9) (.ret)))))⟩

def a142_r0 : List AOper := [
  ⟨(some 2), (.box 146 true 2 (.t 0)), none⟩,
  ⟨(some 4), (.alloc 146 [(.d (.int .i64 0)), (.d (.int .i64 0))]), none⟩]
def a142_r1 : List AOper := [
  ⟨(some 5), (.fld 0 (.t 2)), none⟩,
  ⟨(some 6), (.load false 1 (.t 5)), none⟩,
  ⟨(some 7), (.mv (.t 1)), none⟩,
  ⟨(some 8), (.mn [(.t 6), (.t 7)]), none⟩,
  ⟨(some 9), (.fld 1 (.t 2)), none⟩,
  ⟨(some 10), (.load false 1 (.t 9)), none⟩,
  ⟨(some 11), (.mv (.t 1)), none⟩,
  ⟨(some 12), (.mx [(.t 10), (.t 11)]), none⟩,
  ⟨(some 13), (.build [(.d (.int .i64 0)), (.d (.int .i64 0))] [(0, (1, (.t 8))), (1, (1, (.t 12)))]), none⟩,
  ⟨none, (.store 2 (.t 4) (.t 13)), none⟩]
def e142 : EFunc := ⟨14, [(.cell 4 true 2)],
  .seq (.region false a142_r0) (.seq (.region false a142_r1) (.ret))⟩

def a146_r0 : List AOper := [
  ⟨(some 2), (.box 27 false 1 (.t 0)), none⟩,
  ⟨(some 3), (.box 27 false 1 (.t 1)), none⟩,
  ⟨(some 4), (.mv (.k .nilf)), none⟩]
def a146_r1 : List AOper := [
  ⟨(some 5), (.mkfn 231 [] [(.t 2), (.t 3)]), none⟩,
  ⟨(some 4), (.mv (.t 5)), none⟩]
def e146 : EFunc := ⟨6, [(.tmp 4)],
  .seq (.region false a146_r0) (.seq (.region false a146_r1) (.ret))⟩

def a147_r0 : List AOper := [
  ⟨(some 0), (.alloc 146 [(.d (.int .i64 0)), (.d (.int .i64 0))]), none⟩]
def a147_r1 : List AOper := [
  ⟨(some 1), (.build [(.d (.int .i64 0)), (.d (.int .i64 0))] [(0, (1, (.k (.d (.int .i64 0))))), (1, (1, (.k (.d (.int .i64 134217728)))))]), none⟩,
  ⟨none, (.store 2 (.t 0) (.t 1)), none⟩]
def e147 : EFunc := ⟨2, [(.cell 0 true 2)],
  .seq (.region false a147_r0) (.seq (.region false a147_r1) (.ret))⟩

def a149_r0 : List AOper := [
  ⟨(some 4), (.mv (.k (.d (.int .i64 0)))), none⟩]
def a149_r1 : List AOper := [
  ⟨(some 6), (.mv (.t 0)), none⟩,
  ⟨(some 7), (.len false (.t 6)), none⟩,
  ⟨(some 8), (.mv (.k (.d (.int .i64 0)))), none⟩]
def a149_r2 : List AOper := [
  ⟨(some 9), (.bin .lss (.t 8) (.t 7)), none⟩]
def a149_r3 : List AOper := [
  ⟨(some 10), (.mv (.t 8)), none⟩,
  ⟨(some 5), (.mv (.t 10)), none⟩]
def a149_r4 : List AOper := [
  ⟨(some 11), (.mv (.t 1)), none⟩,
  ⟨(some 12), (.mv (.t 0)), none⟩,
  ⟨(some 13), (.mv (.t 5)), none⟩,
  ⟨(some 14), (.ixa 1 (.t 12) (.t 13)), none⟩,
  ⟨(some 15), (.load false 1 (.t 14)), none⟩,
  ⟨(some 16), (.bin .eql (.t 11) (.t 15)), none⟩]
def a149_r5 : List AOper := [
  ⟨(some 17), (.mv (.t 5)), none⟩,
  ⟨(some 4), (.mv (.t 17)), none⟩]
def a149_r6 : List AOper := [
  ⟨(some 18), (.bin .add (.t 8) (.k (.d (.int .i64 1)))), none⟩,
  ⟨(some 8), (.mv (.t 18)), none⟩]
def a149_r7 : List AOper := [
  ⟨(some 4), (.mv (.k (.d (.int .i64 (-1))))), none⟩]
def l149_0 : ECode :=
  .seq (.region false a149_r2) (.seq (.cond (.t 9) (.skip) (.exit 0)) (.seq (.block 1 (.seq (.region false a149_r3) (.seq (.region false a149_r4) (.cond (.t 16) (.seq (.region false a149_r5) (.ret)) (.skip))))) (.region false a149_r6)))
def e149 : EFunc := ⟨19, [(.tmp 4)],
  .seq (.region false a149_r0) (.seq (.seq (.region false a149_r1) (.block 0 (.loop [true, true, false, false, false, false, false, true, true] [false, false, false, false, true] l149_0))) (.seq (.region false a149_r7) (.ret)))⟩

def a150_r0 : List AOper := [
  ⟨(some 5), (.box 29 true 2 (.t 1)), none⟩,
  ⟨(some 6), (.box 27 false 1 (.t 2)), none⟩,
  ⟨(some 7), (.box 206 false 1 (.t 3)), none⟩,
  ⟨(some 8), (.mv (.k (.d (.int .i64 0)))), none⟩,
  ⟨(some 9), (.mv (.k (.d (.int .i64 0)))), none⟩]
def a150_r1 : List AOper := [
  ⟨(some 12), (.load true 2 (.t 5)), none⟩,
  ⟨(some 13), (.call (.k (.cl 65 [] [])) [(.t 12)]), none⟩,
  ⟨(some 14), (.un .not (.t 13)), none⟩,
  ⟨(some 15), (.mv (.t 14)), none⟩,
  ⟨(some 16), (.load false 1 (.t 6)), (some (15, false))⟩,
  ⟨(some 17), (.call (.k (.cl 136 [] [])) [(.t 16)]), (some (15, false))⟩,
  ⟨(some 18), (.un .not (.t 17)), (some (15, false))⟩,
  ⟨(some 19), (.pick (.t 15) (.k (.d (.bool true))) (.t 18)), none⟩,
  ⟨(some 20), (.mv (.t 19)), none⟩,
  ⟨(some 21), (.load false 1 (.t 6)), (some (20, false))⟩,
  ⟨(some 22), (.len false (.t 21)), (some (20, false))⟩,
  ⟨(some 23), (.fld 0 (.t 5)), (some (20, false))⟩,
  ⟨(some 24), (.load false 1 (.t 23)), (some (20, false))⟩,
  ⟨(some 25), (.len false (.t 24)), (some (20, false))⟩,
  ⟨(some 26), (.bin .neq (.t 22) (.t 25)), (some (20, false))⟩,
  ⟨(some 27), (.pick (.t 20) (.k (.d (.bool true))) (.t 26)), none⟩]
def a150_r2 : List AOper := [
  ⟨(some 8), (.mv (.k (.d (.int .i64 0)))), none⟩,
  ⟨(some 9), (.mv (.k (.d (.int .i64 1)))), none⟩]
def a150_r3 : List AOper := [
  ⟨(some 29), (.mv (.t 0)), none⟩,
  ⟨(some 30), (.mkfn 233 [] [(.t 6), (.t 7), (.t 5)]), none⟩,
  ⟨(some 31), (.call (.k (.cl 232 [] [])) [(.t 29), (.t 30)]), none⟩,
  ⟨(some 28), (.mv (.t 31)), none⟩,
  ⟨(some 32), (.ext (.t 28) 0), none⟩,
  ⟨(some 33), (.ext (.t 28) 1), none⟩,
  ⟨(some 10), (.mv (.t 32)), none⟩,
  ⟨(some 11), (.mv (.t 33)), none⟩]
def a150_r4 : List AOper := [
  ⟨(some 34), (.mv (.t 11)), none⟩,
  ⟨(some 35), (.un .not (.t 34)), none⟩]
def a150_r5 : List AOper := [
  ⟨(some 8), (.mv (.k (.d (.int .i64 0)))), none⟩,
  ⟨(some 9), (.mv (.k (.d (.int .i64 1)))), none⟩]
def a150_r6 : List AOper := [
  ⟨(some 36), (.mv (.t 10)), none⟩,
  ⟨(some 8), (.mv (.t 36)), none⟩,
  ⟨(some 9), (.mv (.k (.d (.int .i64 0)))), none⟩]
def e150 : EFunc := ⟨37, [(.tmp 8), (.tmp 9)],
  .seq (.region false a150_r0) (.seq (.seq (.region false a150_r1) (.cond (.t 27) (.seq (.region false a150_r2) (.ret)) (.skip))) (.seq (.region false a150_r3) (.seq (.seq (.region false a150_r4) (.cond (.t 35) (.seq (.region false a150_r5) (.ret)) (.skip))) (.seq (.region false a150_r6) (.ret)))))⟩

def a151_r0 : List AOper := [
  ⟨(some 6), (.mv (.k (.d (.int .i64 0)))), none⟩]
def a151_r1 : List AOper := [
  ⟨(some 7), (.mv (.t 0)), none⟩,
  ⟨(some 8), (.mv (.t 2)), none⟩,
  ⟨(some 9), (.bin .sub (.t 7) (.t 8)), none⟩,
  ⟨(some 10), (.mv (.t 2)), none⟩,
  ⟨(some 11), (.mv (.t 1)), none⟩,
  ⟨(some 12), (.bin .sub (.t 10) (.t 11)), none⟩,
  ⟨(some 13), (.mx [(.k (.d (.int .i64 0))), (.t 9), (.t 12)]), none⟩,
  ⟨(some 6), (.mv (.t 13)), none⟩]
def e151 : EFunc := ⟨14, [(.tmp 6)],
  .seq (.region false a151_r0) (.seq (.region false a151_r1) (.ret))⟩

def a152_r0 : List AOper := [
  ⟨(some 10), (.mv (.k (.d (.int .i64 0)))), none⟩,
  ⟨(some 11), (.mv (.k (.d (.int .i64 0)))), none⟩]
def a152_r1 : List AOper := [
  ⟨(some 15), (.mv (.t 0)), none⟩,
  ⟨(some 16), (.call (.k (.cl 234 [] [])) [(.t 15)]), none⟩,
  ⟨(some 17), (.un .not (.t 16)), none⟩,
  ⟨(some 18), (.mv (.t 17)), none⟩,
  ⟨(some 19), (.mv (.t 1)), (some (18, false))⟩,
  ⟨(some 20), (.call (.k (.cl 66 [] [])) [(.t 19)]), (some (18, false))⟩,
  ⟨(some 21), (.un .not (.t 20)), (some (18, false))⟩,
  ⟨(some 22), (.pick (.t 18) (.k (.d (.bool true))) (.t 21)), none⟩,
  ⟨(some 23), (.mv (.t 22)), none⟩,
  ⟨(some 24), (.mv (.t 2)), (some (23, false))⟩,
  ⟨(some 25), (.len false (.t 24)), (some (23, false))⟩,
  ⟨(some 26), (.mv (.t 1)), (some (23, false))⟩,
  ⟨(some 27), (.len false (.t 26)), (some (23, false))⟩,
  ⟨(some 28), (.bin .neq (.t 25) (.t 27)), (some (23, false))⟩,
  ⟨(some 29), (.pick (.t 23) (.k (.d (.bool true))) (.t 28)), none⟩]
def a152_r2 : List AOper := [
  ⟨(some 10), (.mv (.k (.d (.int .i64 0)))), none⟩,
  ⟨(some 11), (.mv (.k (.d (.int .i64 1)))), none⟩]
def a152_r3 : List AOper := [
  ⟨(some 30), (.mv (.t 3)), none⟩,
  ⟨(some 12), (.mv (.t 30)), none⟩]
def a152_r4 : List AOper := [
  ⟨(some 31), (.mv (.t 1)), none⟩,
  ⟨(some 32), (.len false (.t 31)), none⟩,
  ⟨(some 33), (.mv (.k (.d (.int .i64 0)))), none⟩]
def a152_r5 : List AOper := [
  ⟨(some 34), (.bin .lss (.t 33) (.t 32)), none⟩]
def a152_r6 : List AOper := [
  ⟨(some 35), (.mv (.t 33)), none⟩,
  ⟨(some 36), (.ixa 2 (.t 31) (.t 33)), none⟩,
  ⟨(some 37), (.load true 2 (.t 36)), none⟩,
  ⟨(some 14), (.alloc 119 [(.d (.int .i64 0)), (.d (.int .i64 0))]), none⟩,
  ⟨(some 13), (.mv (.t 35)), none⟩,
  ⟨none, (.store 2 (.t 14) (.t 37)), none⟩]
def a152_d7 : List DOp := [
  ⟨⟨(some 38), (.call (.k (.cl 147 [] [])) []), none⟩, [], 0⟩,
  ⟨⟨(some 39), (.mv (.t 2)), none⟩, [false], 0⟩,
  ⟨⟨(some 40), (.mv (.t 13)), none⟩, [false, false], 0⟩,
  ⟨⟨(some 41), (.ixa 1 (.t 39) (.t 40)), none⟩, [false, true, true], 0⟩,
  ⟨⟨(some 42), (.load false 1 (.t 41)), none⟩, [false, true, true, true], 0⟩,
  ⟨⟨(some 43), (.call (.k (.cl 95 [] [])) [(.t 38), (.t 42)]), none⟩, [true, true, true, true, true], 1⟩,
  ⟨⟨(some 44), (.un .not (.t 43)), none⟩, [true, true, true, true, true, true], 0⟩]
def a152_r8 : List AOper := [
  ⟨(some 10), (.mv (.k (.d (.int .i64 0)))), none⟩,
  ⟨(some 11), (.mv (.k (.d (.int .i64 1)))), none⟩]
def a152_r9 : List AOper := [
  ⟨(some 45), (.mv (.t 4)), none⟩,
  ⟨(some 46), (.mv (.t 12)), none⟩,
  ⟨(some 47), (.load true 2 (.t 14)), none⟩,
  ⟨(some 48), (.mv (.t 2)), none⟩,
  ⟨(some 49), (.mv (.t 13)), none⟩,
  ⟨(some 50), (.ixa 1 (.t 48) (.t 49)), none⟩,
  ⟨(some 51), (.load false 1 (.t 50)), none⟩,
  ⟨(some 52), (.call (.t 45) [(.t 46), (.t 47), (.t 51)]), none⟩,
  ⟨(some 12), (.mv (.t 52)), none⟩]
def a152_r10 : List AOper := [
  ⟨(some 53), (.bin .add (.t 33) (.k (.d (.int .i64 1)))), none⟩,
  ⟨(some 33), (.mv (.t 53)), none⟩]
def a152_r11 : List AOper := [
  ⟨(some 54), (.mv (.t 12)), none⟩,
  ⟨(some 10), (.mv (.t 54)), none⟩,
  ⟨(some 11), (.mv (.k (.d (.int .i64 0)))), none⟩]
def l152_0 : ECode :=
  .seq (.region false a152_r5) (.seq (.cond (.t 34) (.skip) (.exit 0)) (.seq (.block 1 (.seq (.region false a152_r6) (.seq (.seq (.regw a152_d7) (.cond (.t 44) (.seq (.region false a152_r8) (.ret)) (.skip))) (.region true a152_r9)))) (.region false a152_r10)))
def e152 : EFunc := ⟨55, [(.tmp 10), (.tmp 11)],
  .seq (.region false a152_r0) (.seq (.seq (.region false a152_r1) (.cond (.t 29) (.seq (.region false a152_r2) (.ret)) (.skip))) (.seq (.region false a152_r3) (.seq (.seq (.region false a152_r4) (.block 0 (.loop [false, false, true, false, true, false, false, false, false, false, false, false, true, false, false, false, false, false, false, false, false, false, false, false, false, false, false, false, false, false, false, true, true, true] [false, false, false, false, false, false, false, false, false, false, true, true, true] l152_0))) (.seq (.region false a152_r11) (.ret)))))⟩

def a153_r0 : List AOper := [
  ⟨(some 5), (.box 119 true 2 (.t 1)), none⟩,
  ⟨(some 7), (.mv (.k (.d (.int .i64 0)))), none⟩]
def a153_r1 : List AOper := [
  ⟨(some 8), (.mv (.t 0)), none⟩,
  ⟨(some 9), (.load false 1 (.t 3)), none⟩,
  ⟨(some 10), (.fld 0 (.t 5)), none⟩,
  ⟨(some 11), (.load false 1 (.t 10)), none⟩,
  ⟨(some 12), (.fld 1 (.t 5)), none⟩,
  ⟨(some 13), (.load false 1 (.t 12)), none⟩,
  ⟨(some 14), (.mv (.t 2)), none⟩,
  ⟨(some 15), (.call (.k (.cl 154 [] [])) [(.t 9), (.t 11), (.t 13), (.t 14)]), none⟩,
  ⟨(some 16), (.mx [(.t 8), (.t 15)]), none⟩,
  ⟨(some 7), (.mv (.t 16)), none⟩]
def e153 : EFunc := ⟨17, [(.tmp 7)],
  .seq (.region false a153_r0) (.seq (.region false a153_r1) (.ret))⟩

def a154_r0 : List AOper := [
  ⟨(some 8), (.mv (.k (.d (.int .i64 0)))), none⟩]
def a154_r1 : List AOper := [
  ⟨(some 9), (.mv (.t 0)), none⟩,
  ⟨(some 10), (.mv (.t 3)), none⟩,
  ⟨(some 11), (.mv (.t 3)), none⟩,
  ⟨(some 12), (.mv (.t 1)), none⟩,
  ⟨(some 13), (.mv (.t 2)), none⟩,
  ⟨(some 14), (.call (.k (.cl 236 [] [])) [(.t 11), (.t 12), (.t 13)]), none⟩,
  ⟨(some 15), (.call (.k (.cl 235 [] [])) [(.t 9), (.t 10), (.t 14)]), none⟩,
  ⟨(some 8), (.mv (.t 15)), none⟩]
def e154 : EFunc := ⟨16, [(.tmp 8)],
  .seq (.region false a154_r0) (.seq (.region false a154_r1) (.ret))⟩

def a160_r0 : List AOper := [
  ⟨(some 1), (.box 134 true 2 (.t 0)), none⟩,
  ⟨(some 2), (.mv (.k (.d (.bool false)))), none⟩]
def a160_r1 : List AOper := [
  ⟨(some 3), (.fld 0 (.t 1)), none⟩,
  ⟨(some 4), (.load false 1 (.t 3)), none⟩,
  ⟨(some 2), (.mv (.t 4)), none⟩]
def e160 : EFunc := ⟨5, [(.tmp 2)],
  .seq (.region false a160_r0) (.seq (.region false a160_r1) (.ret))⟩

def a161_r0 : List AOper := [
  ⟨(some 1), (.box 134 true 2 (.t 0)), none⟩,
  ⟨(some 2), (.mv (.k (.d (.bool false)))), none⟩]
def a161_r1 : List AOper := [
  ⟨(some 3), (.fld 1 (.t 1)), none⟩,
  ⟨(some 4), (.load false 1 (.t 3)), none⟩,
  ⟨(some 2), (.mv (.t 4)), none⟩]
def e161 : EFunc := ⟨5, [(.tmp 2)],
  .seq (.region false a161_r0) (.seq (.region false a161_r1) (.ret))⟩

def a162_r0 : List AOper := [
  ⟨(some 1), (.box 134 true 2 (.t 0)), none⟩,
  ⟨(some 2), (.mv (.k (.d (.bool false)))), none⟩]
def a162_r1 : List AOper := [
  ⟨(some 3), (.fld 0 (.t 1)), none⟩,
  ⟨(some 4), (.load false 1 (.t 3)), none⟩,
  ⟨(some 5), (.un .not (.t 4)), none⟩,
  ⟨(some 2), (.mv (.t 5)), none⟩]
def e162 : EFunc := ⟨6, [(.tmp 2)],
  .seq (.region false a162_r0) (.seq (.region false a162_r1) (.ret))⟩

def a163_r0 : List AOper := [
  ⟨(some 1), (.box 134 true 2 (.t 0)), none⟩,
  ⟨(some 2), (.mv (.k (.d (.bool false)))), none⟩]
def a163_r1 : List AOper := [
  ⟨(some 3), (.fld 1 (.t 1)), none⟩,
  ⟨(some 4), (.load false 1 (.t 3)), none⟩,
  ⟨(some 5), (.un .not (.t 4)), none⟩,
  ⟨(some 2), (.mv (.t 5)), none⟩]
def e163 : EFunc := ⟨6, [(.tmp 2)],
  .seq (.region false a163_r0) (.seq (.region false a163_r1) (.ret))⟩

def a164_r0 : List AOper := [
  ⟨(some 3), (.box 54 true 6 (.t 1)), none⟩,
  ⟨(some 4), (.alloc 134 [(.d (.bool false)), (.d (.bool false))]), none⟩]
def a164_r1 : List AOper := [
  ⟨(some 5), (.build [(.d (.bool false)), (.d (.bool false))] [(0, (1, (.k (.d (.bool true)))))]), none⟩,
  ⟨none, (.store 2 (.t 4) (.t 5)), none⟩]
def e164 : EFunc := ⟨6, [(.cell 4 true 2)],
  .seq (.region false a164_r0) (.seq (.region false a164_r1) (.ret))⟩

def a165_r0 : List AOper := [
  ⟨(some 5), (.box 54 true 6 (.t 1)), none⟩,
  ⟨(some 6), (.alloc 134 [(.d (.bool false)), (.d (.bool false))]), none⟩]
def a165_r1 : List AOper := [
  ⟨(some 8), (.mv (.t 0)), none⟩,
  ⟨(some 9), (.load true 6 (.t 5)), none⟩,
  ⟨(some 10), (.call (.k (.cl 166 [] [])) [(.t 8), (.t 9)]), none⟩,
  ⟨(some 7), (.mv (.t 10)), none⟩]
def a165_d2 : List DOp := [
  ⟨⟨(some 11), (.mv (.t 7)), none⟩, [], 0⟩,
  ⟨⟨(some 12), (.load false 1 (.t 2)), none⟩, [false], 0⟩,
  ⟨⟨(some 13), (.call (.k (.cl 167 [] [])) [(.t 11), (.t 12)]), none⟩, [true, true], 0⟩,
  ⟨⟨(some 14), (.un .not (.t 13)), none⟩, [true, true, true], 0⟩,
  ⟨⟨(some 15), (.mv (.t 7)), none⟩, [false, false, false, false], 0⟩,
  ⟨⟨(some 16), (.load false 1 (.t 3)), none⟩, [false, false, false, false, false], 0⟩,
  ⟨⟨(some 17), (.call (.k (.cl 167 [] [])) [(.t 15), (.t 16)]), none⟩, [true, true, true, false, true, true], 1⟩,
  ⟨⟨(some 18), (.build [(.d (.bool false)), (.d (.bool false))] [(0, (1, (.t 14))), (1, (1, (.t 17)))]), none⟩, [true, true, true, true, true, true, true], 0⟩,
  ⟨⟨none, (.store 2 (.t 6) (.t 18)), none⟩, [true, true, true, true, true, true, true, true], 0⟩]
def e165 : EFunc := ⟨19, [(.cell 6 true 2)],
  .seq (.region false a165_r0) (.seq (.region false a165_r1) (.seq (.regw a165_d2) (.ret)))⟩

def a166_r0 : List AOper := [
  ⟨(some 3), (.box 54 true 6 (.t 1)), none⟩,
  ⟨(some 4), (.nilsl 134 2), none⟩]
def a166_r1 : List AOper := [
  ⟨(some 5), (.nilsl 134 2), none⟩]
def a166_r2 : List AOper := [
  ⟨(some 8), (.fld 5 (.t 3)), none⟩,
  ⟨(some 9), (.load false 1 (.t 8)), none⟩,
  ⟨(some 10), (.len false (.t 9)), none⟩,
  ⟨(some 11), (.mv (.k (.d (.int .i64 0)))), none⟩]
def a166_r3 : List AOper := [
  ⟨(some 12), (.bin .lss (.t 11) (.t 10)), none⟩]
def a166_r4 : List AOper := [
  ⟨(some 13), (.ixa 6 (.t 9) (.t 11)), none⟩,
  ⟨(some 14), (.load true 6 (.t 13)), none⟩,
  ⟨(some 7), (.alloc 54 [(.d (.int .i64 0)), (.d (.str ⟨#[]⟩)), (.d (.int .i64 0)), (.d (.int .i64 0)), (.d (.str ⟨#[]⟩)), (.nils 54 6)]), none⟩,
  ⟨none, (.store 6 (.t 7) (.t 14)), none⟩]
def a166_r5 : List AOper := [
  ⟨(some 15), (.mv (.t 5)), none⟩,
  ⟨(some 16), (.mv (.t 0)), none⟩,
  ⟨(some 17), (.load true 6 (.t 7)), none⟩,
  ⟨(some 18), (.call (.k (.cl 85 [] [])) [(.t 16), (.t 17)]), none⟩,
  ⟨(some 19), (.bsl 134 2 [(.t 18)]), none⟩,
  ⟨(some 20), (.app false 134 2 2 (.t 15) (.t 19)), none⟩,
  ⟨(some 5), (.mv (.t 20)), none⟩]
def a166_r6 : List AOper := [
  ⟨(some 21), (.bin .add (.t 11) (.k (.d (.int .i64 1)))), none⟩,
  ⟨(some 11), (.mv (.t 21)), none⟩]
def a166_r7 : List AOper := [
  ⟨(some 22), (.mv (.t 5)), none⟩,
  ⟨(some 4), (.mv (.t 22)), none⟩]
def l166_0 : ECode :=
  .seq (.region false a166_r3) (.seq (.cond (.t 12) (.skip) (.exit 0)) (.seq (.block 1 (.seq (.region false a166_r4) (.region false a166_r5))) (.region false a166_r6)))
def e166 : EFunc := ⟨23, [(.tmp 4)],
  .seq (.region false a166_r0) (.seq (.region false a166_r1) (.seq (.seq (.region false a166_r2) (.block 0 (.loop [true, false, false, false, false, true, false, false, false, true, true, true] [false, false, false, false, false, true] l166_0))) (.seq (.region false a166_r7) (.ret))))⟩

def a167_r0 : List AOper := [
  ⟨(some 4), (.mv (.k (.d (.bool false)))), none⟩]
def a167_r1 : List AOper := [
  ⟨(some 5), (.mv (.t 0)), none⟩,
  ⟨(some 6), (.mv (.t 1)), none⟩,
  ⟨(some 7), (.call (.k (.cl 240 [] [])) [(.t 5), (.t 6)]), none⟩,
  ⟨(some 4), (.mv (.t 7)), none⟩]
def e167 : EFunc := ⟨8, [(.tmp 4)],
  .seq (.region false a167_r0) (.seq (.region false a167_r1) (.ret))⟩

def a168_r0 : List AOper := [
  ⟨(some 5), (.box 54 true 6 (.t 1)), none⟩,
  ⟨(some 6), (.alloc 134 [(.d (.bool false)), (.d (.bool false))]), none⟩]
def a168_r1 : List AOper := [
  ⟨(some 8), (.mv (.t 0)), none⟩,
  ⟨(some 9), (.load true 6 (.t 5)), none⟩,
  ⟨(some 10), (.call (.k (.cl 166 [] [])) [(.t 8), (.t 9)]), none⟩,
  ⟨(some 7), (.mv (.t 10)), none⟩]
def a168_d2 : List DOp := [
  ⟨⟨(some 11), (.mv (.t 7)), none⟩, [], 0⟩,
  ⟨⟨(some 12), (.load false 1 (.t 2)), none⟩, [false], 0⟩,
  ⟨⟨(some 13), (.call (.k (.cl 167 [] [])) [(.t 11), (.t 12)]), none⟩, [true, true], 0⟩,
  ⟨⟨(some 14), (.mv (.t 7)), none⟩, [false, false, false], 0⟩,
  ⟨⟨(some 15), (.load false 1 (.t 3)), none⟩, [false, false, false, false], 0⟩,
  ⟨⟨(some 16), (.call (.k (.cl 167 [] [])) [(.t 14), (.t 15)]), none⟩, [true, true, true, true, true], 1⟩,
  ⟨⟨(some 17), (.un .not (.t 16)), none⟩, [true, true, true, true, true, true], 0⟩,
  ⟨⟨(some 18), (.build [(.d (.bool false)), (.d (.bool false))] [(0, (1, (.t 13))), (1, (1, (.t 17)))]), none⟩, [true, true, true, true, true, true, true], 0⟩,
  ⟨⟨none, (.store 2 (.t 6) (.t 18)), none⟩, [true, true, true, true, true, true, true, true], 0⟩]
def e168 : EFunc := ⟨19, [(.cell 6 true 2)],
  .seq (.region false a168_r0) (.seq (.region false a168_r1) (.seq (.regw a168_d2) (.ret)))⟩

def a169_r0 : List AOper := [
  ⟨(some 3), (.box 54 true 6 (.t 1)), none⟩,
  ⟨(some 4), (.alloc 134 [(.d (.bool false)), (.d (.bool false))]), none⟩]
def a169_r1 : List AOper := [
  ⟨(some 6), (.mv (.t 0)), none⟩,
  ⟨(some 7), (.fld 5 (.t 3)), none⟩,
  ⟨(some 8), (.load false 1 (.t 7)), none⟩,
  ⟨(some 9), (.ixa 6 (.t 8) (.k (.d (.int .i64 0)))), none⟩,
  ⟨(some 10), (.load true 6 (.t 9)), none⟩,
  ⟨(some 11), (.call (.k (.cl 85 [] [])) [(.t 6), (.t 10)]), none⟩,
  ⟨(some 5), (.alloc 134 [(.d (.bool false)), (.d (.bool false))]), none⟩,
  ⟨none, (.store 2 (.t 5) (.t 11)), none⟩]
def a169_r2 : List AOper := [
  ⟨(some 12), (.fld 1 (.t 5)), none⟩,
  ⟨(some 13), (.load false 1 (.t 12)), none⟩,
  ⟨(some 14), (.fld 0 (.t 5)), none⟩,
  ⟨(some 15), (.load false 1 (.t 14)), none⟩,
  ⟨(some 16), (.build [(.d (.bool false)), (.d (.bool false))] [(0, (1, (.t 13))), (1, (1, (.t 15)))]), none⟩,
  ⟨none, (.store 2 (.t 4) (.t 16)), none⟩]
def e169 : EFunc := ⟨17, [(.cell 4 true 2)],
  .seq (.region false a169_r0) (.seq (.region false a169_r1) (.seq (.region false a169_r2) (.ret)))⟩

def a170_r0 : List AOper := [
  ⟨(some 3), (.box 54 true 6 (.t 1)), none⟩,
  ⟨(some 4), (.alloc 134 [(.d (.bool false)), (.d (.bool false))]), none⟩]
def a170_r1 : List AOper := [
  ⟨(some 6), (.mv (.t 0)), none⟩,
  ⟨(some 7), (.fld 1 (.t 3)), none⟩,
  ⟨(some 8), (.load false 1 (.t 7)), none⟩,
  ⟨(some 9), (.call (.k (.cl 171 [] [])) [(.t 6), (.t 8)]), none⟩,
  ⟨(some 5), (.alloc 100 [(.d (.int .i64 0)), (.d (.int .i64 0)), (.d (.int .i64 0)), (.nils 9 1)]), none⟩,
  ⟨none, (.store 4 (.t 5) (.t 9)), none⟩]
def a170_r2 : List AOper := [
  ⟨(some 10), (.fld 0 (.t 5)), none⟩,
  ⟨(some 11), (.load false 1 (.t 10)), none⟩,
  ⟨(some 12), (.bin .gtr (.t 11) (.k (.d (.int .i64 0)))), none⟩,
  ⟨(some 13), (.fld 0 (.t 5)), none⟩,
  ⟨(some 14), (.load false 1 (.t 13)), none⟩,
  ⟨(some 15), (.mv (.t 0)), none⟩,
  ⟨(some 16), (.nilck (.t 15)), none⟩,
  ⟨(some 17), (.fld 3 (.t 16)), none⟩,
  ⟨(some 18), (.fld 0 (.t 17)), none⟩,
  ⟨(some 19), (.load false 1 (.t 18)), none⟩,
  ⟨(some 20), (.bin .lss (.t 14) (.t 19)), none⟩,
  ⟨(some 21), (.build [(.d (.bool false)), (.d (.bool false))] [(0, (1, (.t 12))), (1, (1, (.t 20)))]), none⟩,
  ⟨none, (.store 2 (.t 4) (.t 21)), none⟩]
def e170 : EFunc := ⟨22, [(.cell 4 true 2)],
  .seq (.region false a170_r0) (.seq (.region false a170_r1) (.seq (.region true a170_r2) (.ret)))⟩

def a171_r0 : List AOper := [
  ⟨(some 3), (.box 9 false 1 (.t 1)), none⟩,
  ⟨(some 4), (.alloc 100 [(.d (.int .i64 0)), (.d (.int .i64 0)), (.d (.int .i64 0)), (.nils 9 1)]), none⟩]
def a171_d1 : List DOp := [
  ⟨⟨(some 5), (.mv (.t 0)), none⟩, [], 0⟩,
  ⟨⟨(some 6), (.nilck (.t 5)), none⟩, [true], 0⟩,
  ⟨⟨(some 7), (.fld 3 (.t 6)), none⟩, [true, true], 0⟩,
  ⟨⟨(some 8), (.fld 9 (.t 7)), none⟩, [true, true, true], 0⟩,
  ⟨⟨(some 9), (.load false 1 (.t 8)), none⟩, [true, true, true, true], 0⟩,
  ⟨⟨(some 10), (.mv (.t 0)), none⟩, [false, false, false, false, false], 0⟩,
  ⟨⟨(some 11), (.nilck (.t 10)), none⟩, [false, false, false, false, false, true], 0⟩,
  ⟨⟨(some 12), (.fld 0 (.t 11)), none⟩, [false, false, false, false, false, true, true], 0⟩,
  ⟨⟨(some 13), (.fld 2 (.t 12)), none⟩, [false, false, false, false, false, true, true, true], 0⟩,
  ⟨⟨(some 14), (.load false 1 (.t 13)), none⟩, [false, false, false, false, false, true, true, true, true], 0⟩,
  ⟨⟨(some 15), (.mkfn 241 [] [(.t 3)]), none⟩, [false, false, false, false, false, false, false, false, false, false], 0⟩,
  ⟨⟨(some 16), (.call (.k (.cl 175 [] [])) [(.t 14), (.t 15)]), none⟩, [false, false, false, false, false, true, true, true, true, true, true], 0⟩,
  ⟨⟨(some 17), (.ixa 4 (.t 9) (.t 16)), none⟩, [true, true, true, true, true, true, true, true, true, true, true, true], 0⟩,
  ⟨⟨(some 18), (.load true 4 (.t 17)), none⟩, [true, true, true, true, true, true, true, true, true, true, true, true, true], 0⟩,
  ⟨⟨none, (.store 4 (.t 4) (.t 18)), none⟩, [true, true, true, true, true, true, true, true, true, true, true, true, true, true], 0⟩]
def e171 : EFunc := ⟨19, [(.cell 4 true 4)],
  .seq (.region false a171_r0) (.seq (.regw a171_d1) (.ret))⟩

def a172_r0 : List AOper := [
  ⟨(some 3), (.box 54 true 6 (.t 1)), none⟩,
  ⟨(some 4), (.alloc 134 [(.d (.bool false)), (.d (.bool false))]), none⟩]
def a172_r1 : List AOper := [
  ⟨(some 6), (.mv (.t 0)), none⟩,
  ⟨(some 7), (.fld 1 (.t 3)), none⟩,
  ⟨(some 8), (.load false 1 (.t 7)), none⟩,
  ⟨(some 9), (.call (.k (.cl 171 [] [])) [(.t 6), (.t 8)]), none⟩,
  ⟨(some 5), (.alloc 100 [(.d (.int .i64 0)), (.d (.int .i64 0)), (.d (.int .i64 0)), (.nils 9 1)]), none⟩,
  ⟨none, (.store 4 (.t 5) (.t 9)), none⟩]
def a172_r2 : List AOper := [
  ⟨(some 10), (.fld 0 (.t 5)), none⟩,
  ⟨(some 11), (.load false 1 (.t 10)), none⟩,
  ⟨(some 12), (.bin .eql (.t 11) (.k (.d (.int .i64 0)))), none⟩]
def a172_r3 : List AOper := [
  ⟨(some 13), (.build [(.d (.bool false)), (.d (.bool false))] [(1, (1, (.k (.d (.bool true)))))]), none⟩,
  ⟨none, (.store 2 (.t 4) (.t 13)), none⟩]
def a172_r4 : List AOper := [
  ⟨(some 14), (.fld 1 (.t 5)), none⟩,
  ⟨(some 15), (.load false 1 (.t 14)), none⟩,
  ⟨(some 16), (.fld 2 (.t 3)), none⟩,
  ⟨(some 17), (.load false 1 (.t 16)), none⟩,
  ⟨(some 18), (.mx [(.t 15), (.t 17)]), none⟩,
  ⟨(some 19), (.fld 2 (.t 5)), none⟩,
  ⟨(some 20), (.load false 1 (.t 19)), none⟩,
  ⟨(some 21), (.fld 3 (.t 3)), none⟩,
  ⟨(some 22), (.load false 1 (.t 21)), none⟩,
  ⟨(some 23), (.mn [(.t 20), (.t 22)]), none⟩,
  ⟨(some 24), (.bin .leq (.t 18) (.t 23)), none⟩,
  ⟨(some 25), (.fld 0 (.t 5)), none⟩,
  ⟨(some 26), (.load false 1 (.t 25)), none⟩,
  ⟨(some 27), (.mv (.t 0)), none⟩,
  ⟨(some 28), (.nilck (.t 27)), none⟩,
  ⟨(some 29), (.fld 3 (.t 28)), none⟩,
  ⟨(some 30), (.fld 0 (.t 29)), none⟩,
  ⟨(some 31), (.load false 1 (.t 30)), none⟩,
  ⟨(some 32), (.bin .lss (.t 26) (.t 31)), none⟩,
  ⟨(some 33), (.mv (.t 32)), none⟩,
  ⟨(some 34), (.fld 1 (.t 5)), (some (33, false))⟩,
  ⟨(some 35), (.load false 1 (.t 34)), (some (33, false))⟩,
  ⟨(some 36), (.fld 2 (.t 3)), (some (33, false))⟩,
  ⟨(some 37), (.load false 1 (.t 36)), (some (33, false))⟩,
  ⟨(some 38), (.bin .lss (.t 35) (.t 37)), (some (33, false))⟩,
  ⟨(some 39), (.pick (.t 33) (.k (.d (.bool true))) (.t 38)), none⟩,
  ⟨(some 40), (.mv (.t 39)), none⟩,
  ⟨(some 41), (.fld 2 (.t 5)), (some (40, false))⟩,
  ⟨(some 42), (.load false 1 (.t 41)), (some (40, false))⟩,
  ⟨(some 43), (.fld 3 (.t 3)), (some (40, false))⟩,
  ⟨(some 44), (.load false 1 (.t 43)), (some (40, false))⟩,
  ⟨(some 45), (.bin .gtr (.t 42) (.t 44)), (some (40, false))⟩,
  ⟨(some 46), (.pick (.t 40) (.k (.d (.bool true))) (.t 45)), none⟩,
  ⟨(some 47), (.build [(.d (.bool false)), (.d (.bool false))] [(0, (1, (.t 24))), (1, (1, (.t 46)))]), none⟩,
  ⟨none, (.store 2 (.t 4) (.t 47)), none⟩]
def e172 : EFunc := ⟨48, [(.cell 4 true 2)],
  .seq (.region false a172_r0) (.seq (.region false a172_r1) (.seq (.seq (.region false a172_r2) (.cond (.t 12) (.seq (.region false a172_r3) (.ret)) (.skip))) (.seq (.region true a172_r4) (.ret))))⟩

def a173_r0 : List AOper := [
  ⟨(some 3), (.box 54 true 6 (.t 1)), none⟩,
  ⟨(some 4), (.alloc 134 [(.d (.bool false)), (.d (.bool false))]), none⟩]
def a173_r1 : List AOper := [
  ⟨(some 7), (.mv (.t 0)), none⟩,
  ⟨(some 8), (.fld 1 (.t 3)), none⟩,
  ⟨(some 9), (.load false 1 (.t 8)), none⟩,
  ⟨(some 10), (.call (.k (.cl 171 [] [])) [(.t 7), (.t 9)]), none⟩,
  ⟨(some 5), (.alloc 100 [(.d (.int .i64 0)), (.d (.int .i64 0)), (.d (.int .i64 0)), (.nils 9 1)]), none⟩,
  ⟨none, (.store 4 (.t 5) (.t 10)), none⟩]
def a173_r2 : List AOper := [
  ⟨(some 11), (.mkfn 174 [] [(.t 3)]), none⟩,
  ⟨(some 6), (.mv (.t 11)), none⟩]
def a173_d3 : List DOp := [
  ⟨⟨(some 12), (.fld 3 (.t 5)), none⟩, [], 0⟩,
  ⟨⟨(some 13), (.load false 1 (.t 12)), none⟩, [true], 0⟩,
  ⟨⟨(some 14), (.fld 4 (.t 3)), none⟩, [false, false], 0⟩,
  ⟨⟨(some 15), (.load false 1 (.t 14)), none⟩, [false, false, true], 0⟩,
  ⟨⟨(some 16), (.call (.k (.cl 73 [] [])) [(.t 13), (.t 15)]), none⟩, [true, true, true, true], 0⟩,
  ⟨⟨(some 17), (.fld 0 (.t 5)), none⟩, [false, false, false, false, false], 0⟩,
  ⟨⟨(some 18), (.load false 1 (.t 17)), none⟩, [false, false, false, false, false, true], 0⟩,
  ⟨⟨(some 19), (.mv (.t 0)), none⟩, [false, false, false, false, false, false, false], 0⟩,
  ⟨⟨(some 20), (.nilck (.t 19)), none⟩, [false, false, false, false, false, false, false, true], 0⟩,
  ⟨⟨(some 21), (.fld 3 (.t 20)), none⟩, [false, false, false, false, false, false, false, true, true], 0⟩,
  ⟨⟨(some 22), (.fld 0 (.t 21)), none⟩, [false, false, false, false, false, false, false, true, true, true], 0⟩,
  ⟨⟨(some 23), (.load false 1 (.t 22)), none⟩, [false, false, false, false, false, false, false, true, true, true, true], 0⟩,
  ⟨⟨(some 24), (.bin .lss (.t 18) (.t 23)), none⟩, [false, false, false, false, false, true, true, true, true, true, true, true], 0⟩,
  ⟨⟨(some 25), (.mv (.t 24)), none⟩, [true, true, true, true, true, true, true, true, true, true, true, true, true], 0⟩,
  ⟨⟨(some 26), (.fld 3 (.t 5)), (some (25, false))⟩, [true, true, true, true, true, true, true, true, true, true, true, true, true, true], 0⟩,
  ⟨⟨(some 27), (.load false 1 (.t 26)), (some (25, false))⟩, [true, true, true, true, true, true, true, true, true, true, true, true, true, true, true], 0⟩,
  ⟨⟨(some 28), (.mv (.t 6)), (some (25, false))⟩, [true, true, true, true, true, true, true, true, true, true, true, true, true, true, false, false], 0⟩,
  ⟨⟨(some 29), (.call (.k (.cl 104 [] [])) [(.t 27), (.t 28)]), (some (25, false))⟩, [true, true, true, true, true, true, true, true, true, true, true, true, true, true, true, true, true], 1⟩,
  ⟨⟨(some 30), (.pick (.t 25) (.k (.d (.bool true))) (.t 29)), none⟩, [true, true, true, true, true, true, true, true, true, true, true, true, true, true, true, true, true, true], 0⟩,
  ⟨⟨(some 31), (.build [(.d (.bool false)), (.d (.bool false))] [(0, (1, (.t 16))), (1, (1, (.t 30)))]), none⟩, [true, true, true, true, true, true, true, true, true, true, true, true, true, true, true, true, true, true, true], 0⟩,
  ⟨⟨none, (.store 2 (.t 4) (.t 31)), none⟩, [true, true, true, true, true, true, true, true, true, true, true, true, true, true, true, true, true, true, true, true], 0⟩]
def e173 : EFunc := ⟨32, [(.cell 4 true 2)],
  .seq (.region false a173_r0) (.seq (.region false a173_r1) (.seq (.region false a173_r2) (.seq (.regw a173_d3) (.ret))))⟩

def a174_r0 : List AOper := [
  ⟨(some 3), (.mv (.k (.d (.bool false)))), none⟩]
def a174_r1 : List AOper := [
  ⟨(some 4), (.mv (.t 0)), none⟩,
  ⟨(some 5), (.fld 4 (.t 1)), none⟩,
  ⟨(some 6), (.load false 1 (.t 5)), none⟩,
  ⟨(some 7), (.bin .neq (.t 4) (.t 6)), none⟩,
  ⟨(some 3), (.mv (.t 7)), none⟩]
def e174 : EFunc := ⟨8, [(.tmp 3)],
  .seq (.region false a174_r0) (.seq (.region false a174_r1) (.ret))⟩

def a175_r0 : List AOper := [
  ⟨(some 4), (.mv (.k (.d (.int .i64 0)))), none⟩]
def a175_r1 : List AOper := [
  ⟨(some 6), (.mv (.t 0)), none⟩,
  ⟨(some 7), (.len false (.t 6)), none⟩,
  ⟨(some 8), (.mv (.k (.d (.int .i64 0)))), none⟩]
def a175_r2 : List AOper := [
  ⟨(some 9), (.bin .lss (.t 8) (.t 7)), none⟩]
def a175_r3 : List AOper := [
  ⟨(some 10), (.mv (.t 8)), none⟩,
  ⟨(some 5), (.mv (.t 10)), none⟩]
def a175_r4 : List AOper := [
  ⟨(some 11), (.mv (.t 1)), none⟩,
  ⟨(some 12), (.mv (.t 0)), none⟩,
  ⟨(some 13), (.mv (.t 5)), none⟩,
  ⟨(some 14), (.ixa 5 (.t 12) (.t 13)), none⟩,
  ⟨(some 15), (.load true 5 (.t 14)), none⟩,
  ⟨(some 16), (.call (.t 11) [(.t 15)]), none⟩]
def a175_r5 : List AOper := [
  ⟨(some 17), (.mv (.t 5)), none⟩,
  ⟨(some 4), (.mv (.t 17)), none⟩]
def a175_r6 : List AOper := [
  ⟨(some 18), (.bin .add (.t 8) (.k (.d (.int .i64 1)))), none⟩,
  ⟨(some 8), (.mv (.t 18)), none⟩]
def a175_r7 : List AOper := [
  ⟨(some 4), (.mv (.k (.d (.int .i64 (-1))))), none⟩]
def l175_0 : ECode :=
  .seq (.region false a175_r2) (.seq (.cond (.t 9) (.skip) (.exit 0)) (.seq (.block 1 (.seq (.region false a175_r3) (.seq (.region false a175_r4) (.cond (.t 16) (.seq (.region false a175_r5) (.ret)) (.skip))))) (.region false a175_r6)))
def e175 : EFunc := ⟨19, [(.tmp 4)],
  .seq (.region false a175_r0) (.seq (.seq (.region false a175_r1) (.block 0 (.loop [true, true, false, false, false, false, false, true, true] [false, false, false, false, true] l175_0))) (.seq (.region false a175_r7) (.ret)))⟩

def a176_r0 : List AOper := [
  ⟨(some 2), (.box 77 true 5 (.t 0)), none⟩,
  ⟨(some 3), (.mv (.k (.d (.bool false)))), none⟩]
def a176_r1 : List AOper := [
  ⟨(some 4), (.fld 0 (.t 2)), none⟩,
  ⟨(some 5), (.load false 1 (.t 4)), none⟩,
  ⟨(some 6), (.fld 0 (.t 1)), none⟩,
  ⟨(some 7), (.load false 1 (.t 6)), none⟩,
  ⟨(some 8), (.bin .eql (.t 5) (.t 7)), none⟩,
  ⟨(some 3), (.mv (.t 8)), none⟩]
def e176 : EFunc := ⟨9, [(.tmp 3)],
  .seq (.region false a176_r0) (.seq (.region false a176_r1) (.ret))⟩

def a177_r0 : List AOper := [
  ⟨(some 2), (.mv (.k (.d (.bool false)))), none⟩]
def a177_r1 : List AOper := [
  ⟨(some 3), (.fld 0 (.t 0)), none⟩,
  ⟨(some 4), (.load false 1 (.t 3)), none⟩,
  ⟨(some 5), (.load false 1 (.t 1)), none⟩,
  ⟨(some 6), (.bin .leq (.t 4) (.t 5)), none⟩,
  ⟨(some 2), (.mv (.t 6)), none⟩]
def e177 : EFunc := ⟨7, [(.tmp 2)],
  .seq (.region false a177_r0) (.seq (.region false a177_r1) (.ret))⟩

def a178_r0 : List AOper := [
  ⟨(some 2), (.mv (.k (.d (.bool false)))), none⟩]
def a178_r1 : List AOper := [
  ⟨(some 3), (.fld 1 (.t 0)), none⟩,
  ⟨(some 4), (.load false 1 (.t 3)), none⟩,
  ⟨(some 5), (.fld 1 (.t 1)), none⟩,
  ⟨(some 6), (.load false 1 (.t 5)), none⟩,
  ⟨(some 7), (.bin .neq (.t 4) (.t 6)), none⟩,
  ⟨(some 2), (.mv (.t 7)), none⟩]
def e178 : EFunc := ⟨8, [(.tmp 2)],
  .seq (.region false a178_r0) (.seq (.region false a178_r1) (.ret))⟩

def a179_r0 : List AOper := [
  ⟨(some 2), (.mv (.k (.d (.bool false)))), none⟩]
def a179_r1 : List AOper := [
  ⟨(some 3), (.load false 1 (.t 0)), none⟩,
  ⟨(some 4), (.mv (.t 3)), none⟩,
  ⟨(some 5), (.fld 3 (.t 1)), (some (4, true))⟩,
  ⟨(some 6), (.load false 1 (.t 5)), (some (4, true))⟩,
  ⟨(some 7), (.bin .neq (.t 6) (.k (.d (.str ⟨#[]⟩)))), (some (4, true))⟩,
  ⟨(some 8), (.pick (.t 4) (.t 7) (.k (.d (.bool false)))), none⟩,
  ⟨(some 9), (.mv (.t 8)), none⟩,
  ⟨(some 10), (.load false 1 (.t 0)), (some (9, false))⟩,
  ⟨(some 11), (.un .not (.t 10)), (some (9, false))⟩,
  ⟨(some 12), (.mv (.t 11)), (some (9, false))⟩,
  ⟨(some 13), (.fld 2 (.t 1)), (some (12, true))⟩,
  ⟨(some 14), (.load false 1 (.t 13)), (some (12, true))⟩,
  ⟨(some 15), (.bin .neq (.t 14) (.k (.d (.int .i64 0)))), (some (12, true))⟩,
  ⟨(some 16), (.pick (.t 12) (.t 15) (.k (.d (.bool false)))), (some (9, false))⟩,
  ⟨(some 17), (.pick (.t 9) (.k (.d (.bool true))) (.t 16)), none⟩,
  ⟨(some 2), (.mv (.t 17)), none⟩]
def e179 : EFunc := ⟨18, [(.tmp 2)],
  .seq (.region false a179_r0) (.seq (.region false a179_r1) (.ret))⟩

def a180_r0 : List AOper := [
  ⟨(some 3), (.mv (.k (.d (.bool false)))), none⟩]
def a180_r1 : List AOper := [
  ⟨(some 4), (.load false 1 (.t 0)), none⟩,
  ⟨(some 5), (.mv (.t 4)), none⟩,
  ⟨(some 6), (.fld 2 (.t 1)), (some (5, true))⟩,
  ⟨(some 7), (.load false 1 (.t 6)), (some (5, true))⟩,
  ⟨(some 8), (.fld 2 (.t 2)), (some (5, true))⟩,
  ⟨(some 9), (.load false 1 (.t 8)), (some (5, true))⟩,
  ⟨(some 10), (.bin .lss (.t 7) (.t 9)), (some (5, true))⟩,
  ⟨(some 11), (.mv (.t 10)), (some (5, true))⟩,
  ⟨(some 12), (.fld 2 (.t 1)), (some (11, false))⟩,
  ⟨(some 13), (.load false 1 (.t 12)), (some (11, false))⟩,
  ⟨(some 14), (.fld 3 (.t 2)), (some (11, false))⟩,
  ⟨(some 15), (.load false 1 (.t 14)), (some (11, false))⟩,
  ⟨(some 16), (.bin .gtr (.t 13) (.t 15)), (some (11, false))⟩,
  ⟨(some 17), (.pick (.t 11) (.k (.d (.bool true))) (.t 16)), (some (5, true))⟩,
  ⟨(some 18), (.pick (.t 5) (.t 17) (.k (.d (.bool false)))), none⟩,
  ⟨(some 3), (.mv (.t 18)), none⟩]
def e180 : EFunc := ⟨19, [(.tmp 3)],
  .seq (.region false a180_r0) (.seq (.region false a180_r1) (.ret))⟩

def a181_r0 : List AOper := [
  ⟨(some 3), (.mv (.k (.d (.bool false)))), none⟩]
def a181_r1 : List AOper := [
  ⟨(some 4), (.load false 1 (.t 0)), none⟩,
  ⟨(some 5), (.un .not (.t 4)), none⟩,
  ⟨(some 6), (.mv (.t 5)), none⟩,
  ⟨(some 7), (.fld 4 (.t 1)), (some (6, true))⟩,
  ⟨(some 8), (.load false 1 (.t 7)), (some (6, true))⟩,
  ⟨(some 9), (.fld 3 (.t 2)), (some (6, true))⟩,
  ⟨(some 10), (.load false 1 (.t 9)), (some (6, true))⟩,
  ⟨(some 11), (.call (.k (.cl 73 [] [])) [(.t 8), (.t 10)]), (some (6, true))⟩,
  ⟨(some 12), (.un .not (.t 11)), (some (6, true))⟩,
  ⟨(some 13), (.pick (.t 6) (.t 12) (.k (.d (.bool false)))), none⟩,
  ⟨(some 3), (.mv (.t 13)), none⟩]
def e181 : EFunc := ⟨14, [(.tmp 3)],
  .seq (.region false a181_r0) (.seq (.region false a181_r1) (.ret))⟩

def a185_r0 : List AOper := [
  ⟨(some 4), (.mv (.k (.d (.int .i64 0)))), none⟩]
def a185_r1 : List AOper := [
  ⟨(some 6), (.mv (.t 0)), none⟩,
  ⟨(some 7), (.len false (.t 6)), none⟩,
  ⟨(some 8), (.mv (.k (.d (.int .i64 0)))), none⟩]
def a185_r2 : List AOper := [
  ⟨(some 9), (.bin .lss (.t 8) (.t 7)), none⟩]
def a185_r3 : List AOper := [
  ⟨(some 10), (.mv (.t 8)), none⟩,
  ⟨(some 5), (.mv (.t 10)), none⟩]
def a185_r4 : List AOper := [
  ⟨(some 11), (.mv (.t 1)), none⟩,
  ⟨(some 12), (.mv (.t 0)), none⟩,
  ⟨(some 13), (.mv (.t 5)), none⟩,
  ⟨(some 14), (.ixa 1 (.t 12) (.t 13)), none⟩,
  ⟨(some 15), (.load false 1 (.t 14)), none⟩,
  ⟨(some 16), (.call (.t 11) [(.t 15)]), none⟩]
def a185_r5 : List AOper := [
  ⟨(some 17), (.mv (.t 5)), none⟩,
  ⟨(some 4), (.mv (.t 17)), none⟩]
def a185_r6 : List AOper := [
  ⟨(some 18), (.bin .add (.t 8) (.k (.d (.int .i64 1)))), none⟩,
  ⟨(some 8), (.mv (.t 18)), none⟩]
def a185_r7 : List AOper := [
  ⟨(some 4), (.mv (.k (.d (.int .i64 (-1))))), none⟩]
def l185_0 : ECode :=
  .seq (.region false a185_r2) (.seq (.cond (.t 9) (.skip) (.exit 0)) (.seq (.block 1 (.seq (.region false a185_r3) (.seq (.region false a185_r4) (.cond (.t 16) (.seq (.region false a185_r5) (.ret)) (.skip))))) (.region false a185_r6)))
def e185 : EFunc := ⟨19, [(.tmp 4)],
  .seq (.region false a185_r0) (.seq (.seq (.region false a185_r1) (.block 0 (.loop [true, true, false, false, false, false, false, true, true] [false, false, false, false, true] l185_0))) (.seq (.region false a185_r7) (.ret)))⟩

def a187_r0 : List AOper := [
  ⟨(some 4), (.mv (.k (.d (.int .i64 0)))), none⟩]
def a187_r1 : List AOper := [
  ⟨(some 5), (.mv (.t 0)), none⟩,
  ⟨(some 6), (.mv (.t 1)), none⟩,
  ⟨(some 7), (.mv (.t 1)), none⟩,
  ⟨(some 8), (.un .neg (.t 7)), none⟩,
  ⟨(some 9), (.mx [(.t 6), (.t 8)]), none⟩,
  ⟨(some 10), (.bin .add (.t 5) (.t 9)), none⟩,
  ⟨(some 4), (.mv (.t 10)), none⟩]
def e187 : EFunc := ⟨11, [(.tmp 4)],
  .seq (.region false a187_r0) (.seq (.region false a187_r1) (.ret))⟩

def a188_r0 : List AOper := [
  ⟨(some 4), (.mv (.k (.d (.int .i64 0)))), none⟩]
def a188_r1 : List AOper := [
  ⟨(some 5), (.mv (.t 0)), none⟩,
  ⟨(some 6), (.mv (.t 1)), none⟩,
  ⟨(some 7), (.mv (.t 1)), none⟩,
  ⟨(some 8), (.bin .mul (.t 6) (.t 7)), none⟩,
  ⟨(some 9), (.bin .add (.t 5) (.t 8)), none⟩,
  ⟨(some 4), (.mv (.t 9)), none⟩]
def e188 : EFunc := ⟨10, [(.tmp 4)],
  .seq (.region false a188_r0) (.seq (.region false a188_r1) (.ret))⟩

def a189_r0 : List AOper := [
  ⟨(some 4), (.mv (.k (.d (.int .i64 0)))), none⟩]
def a189_r1 : List AOper := [
  ⟨(some 5), (.mv (.t 0)), none⟩,
  ⟨(some 6), (.mv (.t 1)), none⟩,
  ⟨(some 7), (.mv (.t 1)), none⟩,
  ⟨(some 8), (.un .neg (.t 7)), none⟩,
  ⟨(some 9), (.mx [(.t 5), (.t 6), (.t 8)]), none⟩,
  ⟨(some 4), (.mv (.t 9)), none⟩]
def e189 : EFunc := ⟨10, [(.tmp 4)],
  .seq (.region false a189_r0) (.seq (.region false a189_r1) (.ret))⟩

def a190_r0 : List AOper := [
  ⟨(some 6), (.mv (.k (.d (.int .i64 0)))), none⟩]
def a190_r1 : List AOper := [
  ⟨(some 9), (.mv (.t 0)), none⟩,
  ⟨(some 10), (.len false (.t 9)), none⟩,
  ⟨(some 11), (.mv (.k (.d (.int .i64 0)))), none⟩]
def a190_r2 : List AOper := [
  ⟨(some 12), (.bin .lss (.t 11) (.t 10)), none⟩]
def a190_r3 : List AOper := [
  ⟨(some 13), (.ixa 1 (.t 9) (.t 11)), none⟩,
  ⟨(some 14), (.load false 1 (.t 13)), none⟩,
  ⟨(some 8), (.mv (.t 14)), none⟩]
def a190_r4 : List AOper := [
  ⟨(some 15), (.mv (.t 2)), none⟩,
  ⟨(some 16), (.mv (.t 1)), none⟩,
  ⟨(some 17), (.mv (.t 8)), none⟩,
  ⟨(some 18), (.call (.t 15) [(.t 16), (.t 17)]), none⟩,
  ⟨(some 1), (.mv (.t 18)), none⟩]
def a190_r5 : List AOper := [
  ⟨(some 19), (.bin .add (.t 11) (.k (.d (.int .i64 1)))), none⟩,
  ⟨(some 11), (.mv (.t 19)), none⟩]
def a190_r6 : List AOper := [
  ⟨(some 20), (.mv (.t 1)), none⟩,
  ⟨(some 6), (.mv (.t 20)), none⟩]
def l190_0 : ECode :=
  .seq (.region false a190_r2) (.seq (.cond (.t 12) (.skip) (.exit 0)) (.seq (.block 1 (.seq (.region false a190_r3) (.region false a190_r4))) (.region false a190_r5)))
def e190 : EFunc := ⟨21, [(.tmp 6)],
  .seq (.region false a190_r0) (.seq (.seq (.region false a190_r1) (.block 0 (.loop [false, true, true, false, false, false, false, false, false, true, true, true] [false, true] l190_0))) (.seq (.region false a190_r6) (.ret)))⟩

def a199_r0 : List AOper := [
  ⟨(some 4), (.nilsl 5 1), none⟩]
def a199_r1 : List AOper := [
  ⟨(some 8), (.mv (.t 0)), none⟩,
  ⟨(some 9), (.len false (.t 8)), none⟩,
  ⟨(some 10), (.call (.k (.cl 200 [] [])) [(.t 9)]), none⟩,
  ⟨(some 5), (.mv (.t 10)), none⟩]
def a199_r2 : List AOper := [
  ⟨(some 11), (.mv (.t 0)), none⟩,
  ⟨(some 12), (.len false (.t 11)), none⟩,
  ⟨(some 13), (.mv (.k (.d (.int .i64 0)))), none⟩]
def a199_r3 : List AOper := [
  ⟨(some 14), (.bin .lss (.t 13) (.t 12)), none⟩]
def a199_r4 : List AOper := [
  ⟨(some 15), (.ixa 1 (.t 11) (.t 13)), none⟩,
  ⟨(some 16), (.load false 1 (.t 15)), none⟩,
  ⟨(some 7), (.mv (.t 16)), none⟩]
def a199_r5 : List AOper := [
  ⟨(some 17), (.mv (.t 5)), none⟩,
  ⟨(some 18), (.mv (.t 1)), none⟩,
  ⟨(some 19), (.mv (.t 7)), none⟩,
  ⟨(some 20), (.call (.t 18) [(.t 19)]), none⟩,
  ⟨(some 21), (.app false 5 1 1 (.t 17) (.t 20)), none⟩,
  ⟨(some 5), (.mv (.t 21)), none⟩]
def a199_r6 : List AOper := [
  ⟨(some 22), (.bin .add (.t 13) (.k (.d (.int .i64 1)))), none⟩,
  ⟨(some 13), (.mv (.t 22)), none⟩]
def a199_r7 : List AOper := [
  ⟨(some 23), (.mv (.t 5)), none⟩,
  ⟨(some 4), (.mv (.t 23)), none⟩]
def l199_0 : ECode :=
  .seq (.region false a199_r3) (.seq (.cond (.t 14) (.skip) (.exit 0)) (.seq (.block 1 (.seq (.region false a199_r4) (.region false a199_r5))) (.region false a199_r6)))
def e199 : EFunc := ⟨24, [(.tmp 4)],
  .seq (.region false a199_r0) (.seq (.region false a199_r1) (.seq (.seq (.region false a199_r2) (.block 0 (.loop [false, true, false, false, false, true, false, false, false, false, false, true, true, true] [false, false, false, false, false, true] l199_0))) (.seq (.region false a199_r7) (.ret))))⟩

def a200_r0 : List AOper := [
  ⟨(some 2), (.nilsl 5 1), none⟩]
def a200_r1 : List AOper := [
  ⟨(some 5), (.mv (.t 0)), none⟩,
  ⟨(some 6), (.cvi .u64 (.t 5)), none⟩,
  ⟨(some 7), (.bin .shl (.t 6) (.k (.d (.int .u64 1)))), none⟩,
  ⟨(some 8), (.mv (.t 0)), none⟩,
  ⟨(some 9), (.bin .shr (.t 8) (.k (.d (.int .u64 63)))), none⟩,
  ⟨(some 10), (.cvi .u64 (.t 9)), none⟩,
  ⟨(some 11), (.bin .xor (.t 7) (.t 10)), none⟩,
  ⟨(some 3), (.mv (.t 11)), none⟩]
def a200_r2 : List AOper := [
  ⟨(some 4), (.nilsl 5 1), none⟩]
def a200_r3 : List AOper := [
  ⟨(some 12), (.mv (.t 3)), none⟩,
  ⟨(some 13), (.bin .gtr (.t 12) (.k (.d (.int .u64 127)))), none⟩]
def a200_r4 : List AOper := [
  ⟨(some 16), (.mv (.t 4)), none⟩,
  ⟨(some 17), (.mv (.t 3)), none⟩,
  ⟨(some 18), (.cvi .u8 (.t 17)), none⟩,
  ⟨(some 19), (.bin .or (.t 18) (.k (.d (.int .u8 128)))), none⟩,
  ⟨(some 20), (.bsl 5 1 [(.t 19)]), none⟩,
  ⟨(some 21), (.app false 5 1 1 (.t 16) (.t 20)), none⟩,
  ⟨(some 4), (.mv (.t 21)), none⟩]
def a200_r5 : List AOper := [
  ⟨(some 14), (.mv (.t 3)), none⟩,
  ⟨(some 15), (.bin .shr (.t 14) (.k (.d (.int .u64 7)))), none⟩,
  ⟨(some 3), (.mv (.t 15)), none⟩]
def a200_r6 : List AOper := [
  ⟨(some 22), (.mv (.t 4)), none⟩,
  ⟨(some 23), (.mv (.t 3)), none⟩,
  ⟨(some 24), (.cvi .u8 (.t 23)), none⟩,
  ⟨(some 25), (.bsl 5 1 [(.t 24)]), none⟩,
  ⟨(some 26), (.app false 5 1 1 (.t 22) (.t 25)), none⟩,
  ⟨(some 2), (.mv (.t 26)), none⟩]
def l200_0 : ECode :=
  .seq (.seq (.region false a200_r3) (.cond (.t 13) (.skip) (.exit 0))) (.seq (.block 1 (.region false a200_r4)) (.region false a200_r5))
def e200 : EFunc := ⟨27, [(.tmp 2)],
  .seq (.region false a200_r0) (.seq (.region false a200_r1) (.seq (.region false a200_r2) (.seq (.block 0 (.loop [false, false, false, true, true] [false, false, false, true, true] l200_0)) (.seq (.region false a200_r6) (.ret)))))⟩

def a201_r0 : List AOper := [
  ⟨(some 4), (.nilsl 5 1), none⟩]
def a201_r1 : List AOper := [
  ⟨(some 8), (.mv (.t 0)), none⟩,
  ⟨(some 9), (.len false (.t 8)), none⟩,
  ⟨(some 10), (.call (.k (.cl 200 [] [])) [(.t 9)]), none⟩,
  ⟨(some 5), (.mv (.t 10)), none⟩]
def a201_r2 : List AOper := [
  ⟨(some 11), (.mv (.t 0)), none⟩,
  ⟨(some 12), (.len false (.t 11)), none⟩,
  ⟨(some 13), (.mv (.k (.d (.int .i64 0)))), none⟩]
def a201_r3 : List AOper := [
  ⟨(some 14), (.bin .lss (.t 13) (.t 12)), none⟩]
def a201_r4 : List AOper := [
  ⟨(some 15), (.ixa 1 (.t 11) (.t 13)), none⟩,
  ⟨(some 16), (.load false 1 (.t 15)), none⟩,
  ⟨(some 7), (.mv (.t 16)), none⟩]
def a201_r5 : List AOper := [
  ⟨(some 17), (.mv (.t 5)), none⟩,
  ⟨(some 18), (.mv (.t 1)), none⟩,
  ⟨(some 19), (.mv (.t 7)), none⟩,
  ⟨(some 20), (.call (.t 18) [(.t 19)]), none⟩,
  ⟨(some 21), (.app false 5 1 1 (.t 17) (.t 20)), none⟩,
  ⟨(some 5), (.mv (.t 21)), none⟩]
def a201_r6 : List AOper := [
  ⟨(some 22), (.bin .add (.t 13) (.k (.d (.int .i64 1)))), none⟩,
  ⟨(some 13), (.mv (.t 22)), none⟩]
def a201_r7 : List AOper := [
  ⟨(some 23), (.mv (.t 5)), none⟩,
  ⟨(some 4), (.mv (.t 23)), none⟩]
def l201_0 : ECode :=
  .seq (.region false a201_r3) (.seq (.cond (.t 14) (.skip) (.exit 0)) (.seq (.block 1 (.seq (.region false a201_r4) (.region false a201_r5))) (.region false a201_r6)))
def e201 : EFunc := ⟨24, [(.tmp 4)],
  .seq (.region false a201_r0) (.seq (.region false a201_r1) (.seq (.seq (.region false a201_r2) (.block 0 (.loop [false, true, false, false, false, true, false, false, false, false, false, true, true, true] [false, false, false, false, false, true] l201_0))) (.seq (.region false a201_r7) (.ret))))⟩

def a202_r0 : List AOper := [
  ⟨(some 2), (.nilsl 5 1), none⟩]
def a202_r1 : List AOper := [
  ⟨(some 3), (.mv (.t 0)), none⟩,
  ⟨(some 4), (.len true (.t 3)), none⟩,
  ⟨(some 5), (.call (.k (.cl 200 [] [])) [(.t 4)]), none⟩,
  ⟨(some 6), (.mv (.t 0)), none⟩,
  ⟨(some 7), (.app true 5 1 1 (.t 5) (.t 6)), none⟩,
  ⟨(some 2), (.mv (.t 7)), none⟩]
def e202 : EFunc := ⟨8, [(.tmp 2)],
  .seq (.region false a202_r0) (.seq (.region false a202_r1) (.ret))⟩

def a203_r0 : List AOper := [
  ⟨(some 6), (.nilsl 3 1), none⟩,
  ⟨(some 7), (.mv (.k (.d (.int .i64 0)))), none⟩,
  ⟨(some 8), (.mv (.k (.d (.int .i64 0)))), none⟩]
def a203_r1 : List AOper := [
  ⟨(some 17), (.mv (.t 0)), none⟩,
  ⟨(some 18), (.mv (.t 1)), none⟩,
  ⟨(some 19), (.call (.k (.cl 253 [] [])) [(.t 17), (.t 18)]), none⟩,
  ⟨(some 16), (.mv (.t 19)), none⟩,
  ⟨(some 20), (.ext (.t 16) 0), none⟩,
  ⟨(some 21), (.ext (.t 16) 1), none⟩,
  ⟨(some 22), (.ext (.t 16) 2), none⟩,
  ⟨(some 9), (.mv (.t 20)), none⟩,
  ⟨(some 10), (.mv (.t 21)), none⟩,
  ⟨(some 11), (.mv (.t 22)), none⟩]
def a203_r2 : List AOper := [
  ⟨(some 23), (.mv (.t 11)), none⟩,
  ⟨(some 24), (.bin .neq (.t 23) (.k (.d (.int .i64 0)))), none⟩]
def a203_r3 : List AOper := [
  ⟨(some 25), (.mv (.t 11)), none⟩,
  ⟨(some 6), (.nilsl 3 1), none⟩,
  ⟨(some 7), (.mv (.k (.d (.int .i64 0)))), none⟩,
  ⟨(some 8), (.mv (.t 25)), none⟩]
def a203_r4 : List AOper := [
  ⟨(some 12), (.nilsl 3 1), none⟩]
def a203_r5 : List AOper := [
  ⟨(some 26), (.mv (.t 9)), none⟩,
  ⟨(some 27), (.mv (.k (.d (.int .i64 0)))), none⟩]
def a203_r6 : List AOper := [
  ⟨(some 28), (.bin .lss (.t 27) (.t 26)), none⟩]
def a203_r7 : List AOper := [
  ⟨(some 30), (.mv (.t 2)), none⟩,
  ⟨(some 31), (.mv (.t 0)), none⟩,
  ⟨(some 32), (.mv (.t 10)), none⟩,
  ⟨(some 33), (.slc 1 (.t 31) (some (.t 32)) none), none⟩,
  ⟨(some 34), (.call (.t 30) [(.t 33)]), none⟩,
  ⟨(some 29), (.mv (.t 34)), none⟩,
  ⟨(some 35), (.ext (.t 29) 0), none⟩,
  ⟨(some 36), (.ext (.t 29) 1), none⟩,
  ⟨(some 37), (.ext (.t 29) 2), none⟩,
  ⟨(some 13), (.mv (.t 35)), none⟩,
  ⟨(some 14), (.mv (.t 36)), none⟩,
  ⟨(some 15), (.mv (.t 37)), none⟩]
def a203_r8 : List AOper := [
  ⟨(some 38), (.mv (.t 15)), none⟩,
  ⟨(some 39), (.bin .neq (.t 38) (.k (.d (.int .i64 0)))), none⟩]
def a203_r9 : List AOper := [
  ⟨(some 40), (.mv (.t 15)), none⟩,
  ⟨(some 6), (.nilsl 3 1), none⟩,
  ⟨(some 7), (.mv (.k (.d (.int .i64 0)))), none⟩,
  ⟨(some 8), (.mv (.t 40)), none⟩]
def a203_r10 : List AOper := [
  ⟨(some 41), (.mv (.t 12)), none⟩,
  ⟨(some 42), (.mv (.t 13)), none⟩,
  ⟨(some 43), (.bsl 3 1 [(.t 42)]), none⟩,
  ⟨(some 44), (.app false 3 1 8 (.t 41) (.t 43)), none⟩,
  ⟨(some 45), (.mv (.t 10)), none⟩,
  ⟨(some 46), (.mv (.t 14)), none⟩,
  ⟨(some 47), (.bin .add (.t 45) (.t 46)), none⟩,
  ⟨(some 12), (.mv (.t 44)), none⟩,
  ⟨(some 10), (.mv (.t 47)), none⟩]
def a203_r11 : List AOper := [
  ⟨(some 48), (.bin .add (.t 27) (.k (.d (.int .i64 1)))), none⟩,
  ⟨(some 27), (.mv (.t 48)), none⟩]
def a203_r12 : List AOper := [
  ⟨(some 49), (.mv (.t 12)), none⟩,
  ⟨(some 50), (.mv (.t 10)), none⟩,
  ⟨(some 6), (.mv (.t 49)), none⟩,
  ⟨(some 7), (.mv (.t 50)), none⟩,
  ⟨(some 8), (.mv (.k (.d (.int .i64 0)))), none⟩]
def l203_0 : ECode :=
  .seq (.region false a203_r6) (.seq (.cond (.t 28) (.skip) (.exit 0)) (.seq (.block 1 (.seq (.region false a203_r7) (.seq (.seq (.region false a203_r8) (.cond (.t 39) (.seq (.region false a203_r9) (.ret)) (.skip))) (.region false a203_r10)))) (.region false a203_r11)))
def e203 : EFunc := ⟨51, [(.tmp 6), (.tmp 7), (.tmp 8)],
  .seq (.region false a203_r0) (.seq (.region false a203_r1) (.seq (.seq (.region false a203_r2) (.cond (.t 24) (.seq (.region false a203_r3) (.ret)) (.skip))) (.seq (.region false a203_r4) (.seq (.seq (.region false a203_r5) (.block 0 (.loop [true, false, true, false, false, false, false, false, false, false, true, false, true, false, false, false, false, false, false, false, false, false, false, false, false, false, true, true] [false, false, false, false, false, false, true, true, true, false, true, false, true] l203_0))) (.seq (.region false a203_r12) (.ret))))))⟩

def a204_r0 : List AOper := [
  ⟨(some 2), (.mv (.k (.d (.int .i64 0)))), none⟩,
  ⟨(some 3), (.mv (.k (.d (.int .i64 0)))), none⟩,
  ⟨(some 4), (.mv (.k (.d (.int .i64 0)))), none⟩]
def a204_r1 : List AOper := [
  ⟨(some 5), (.mv (.k (.d (.int .u64 0)))), none⟩]
def a204_r2 : List AOper := [
  ⟨(some 6), (.mv (.k (.d (.int .i64 0)))), none⟩]
def a204_r3 : List AOper := [
  ⟨(some 9), (.mv (.t 0)), none⟩,
  ⟨(some 10), (.len false (.t 9)), none⟩,
  ⟨(some 11), (.mv (.k (.d (.int .i64 0)))), none⟩]
def a204_r4 : List AOper := [
  ⟨(some 12), (.bin .lss (.t 11) (.t 10)), none⟩]
def a204_r5 : List AOper := [
  ⟨(some 13), (.mv (.t 11)), none⟩,
  ⟨(some 14), (.ixa 1 (.t 9) (.t 11)), none⟩,
  ⟨(some 15), (.load false 1 (.t 14)), none⟩,
  ⟨(some 7), (.mv (.t 13)), none⟩,
  ⟨(some 8), (.mv (.t 15)), none⟩]
def a204_r6 : List AOper := [
  ⟨(some 25), (.mv (.t 7)), none⟩,
  ⟨(some 26), (.bin .eql (.t 25) (.k (.d (.int .i64 9)))), none⟩,
  ⟨(some 27), (.mv (.t 26)), none⟩,
  ⟨(some 28), (.mv (.t 8)), (some (27, true))⟩,
  ⟨(some 29), (.bin .gtr (.t 28) (.k (.d (.int .u8 1)))), (some (27, true))⟩,
  ⟨(some 30), (.pick (.t 27) (.t 29) (.k (.d (.bool false)))), none⟩,
  ⟨(some 24), (.mv (.t 30)), none⟩]
def a204_r7 : List AOper := [
  ⟨(some 31), (.mv (.t 7)), none⟩,
  ⟨(some 32), (.bin .gtr (.t 31) (.k (.d (.int .i64 0)))), none⟩,
  ⟨(some 33), (.mv (.t 32)), none⟩,
  ⟨(some 34), (.mv (.t 8)), (some (33, true))⟩,
  ⟨(some 35), (.bin .eql (.t 34) (.k (.d (.int .u8 0)))), (some (33, true))⟩,
  ⟨(some 36), (.pick (.t 33) (.t 35) (.k (.d (.bool false)))), none⟩,
  ⟨(some 24), (.mv (.t 36)), none⟩]
def a204_r8 : List AOper := [
  ⟨(some 2), (.mv (.k (.d (.int .i64 0)))), none⟩,
  ⟨(some 3), (.mv (.k (.d (.int .i64 0)))), none⟩,
  ⟨(some 4), (.mv (.k (.d (.int .i64 11)))), none⟩]
def a204_r9 : List AOper := [
  ⟨(some 16), (.mv (.t 5)), none⟩,
  ⟨(some 17), (.mv (.t 8)), none⟩,
  ⟨(some 18), (.bin .and (.t 17) (.k (.d (.int .u8 127)))), none⟩,
  ⟨(some 19), (.cvi .u64 (.t 18)), none⟩,
  ⟨(some 20), (.mv (.t 7)), none⟩,
  ⟨(some 21), (.bin .mul (.k (.d (.int .i64 7))) (.t 20)), none⟩,
  ⟨(some 22), (.bin .shl (.t 19) (.t 21)), none⟩,
  ⟨(some 23), (.bin .or (.t 16) (.t 22)), none⟩,
  ⟨(some 5), (.mv (.t 23)), none⟩]
def a204_r10 : List AOper := [
  ⟨(some 37), (.mv (.t 8)), none⟩,
  ⟨(some 38), (.bin .lss (.t 37) (.k (.d (.int .u8 128)))), none⟩]
def a204_r11 : List AOper := [
  ⟨(some 39), (.mv (.t 7)), none⟩,
  ⟨(some 40), (.bin .add (.t 39) (.k (.d (.int .i64 1)))), none⟩,
  ⟨(some 6), (.mv (.t 40)), none⟩]
def a204_r12 : List AOper := [
  ⟨(some 41), (.bin .add (.t 11) (.k (.d (.int .i64 1)))), none⟩,
  ⟨(some 11), (.mv (.t 41)), none⟩]
def a204_r13 : List AOper := [
  ⟨(some 42), (.mv (.t 6)), none⟩,
  ⟨(some 43), (.bin .eql (.t 42) (.k (.d (.int .i64 0)))), none⟩]
def a204_r14 : List AOper := [
  ⟨(some 2), (.mv (.k (.d (.int .i64 0)))), none⟩,
  ⟨(some 3), (.mv (.k (.d (.int .i64 0)))), none⟩,
  ⟨(some 4), (.mv (.k (.d (.int .i64 10)))), none⟩]
def a204_r15 : List AOper := [
  ⟨(some 44), (.mv (.t 5)), none⟩,
  ⟨(some 45), (.bin .shr (.t 44) (.k (.d (.int .u64 1)))), none⟩,
  ⟨(some 46), (.cvi .i64 (.t 45)), none⟩,
  ⟨(some 47), (.mv (.t 5)), none⟩,
  ⟨(some 48), (.bin .and (.t 47) (.k (.d (.int .u64 1)))), none⟩,
  ⟨(some 49), (.cvi .i64 (.t 48)), none⟩,
  ⟨(some 50), (.un .neg (.t 49)), none⟩,
  ⟨(some 51), (.bin .xor (.t 46) (.t 50)), none⟩,
  ⟨(some 52), (.mv (.t 6)), none⟩,
  ⟨(some 2), (.mv (.t 51)), none⟩,
  ⟨(some 3), (.mv (.t 52)), none⟩,
  ⟨(some 4), (.mv (.k (.d (.int .i64 0)))), none⟩]
def l204_0 : ECode :=
  .seq (.region false a204_r4) (.seq (.cond (.t 12) (.skip) (.exit 0)) (.seq (.block 1 (.seq (.region false a204_r5) (.seq (.block 2 (.seq (.seq (.region false a204_r6) (.cond (.t 24) (.skip) (.region false a204_r7))) (.cond (.t 24) (.seq (.region false a204_r8) (.ret)) (.region false a204_r9)))) (.seq (.region false a204_r10) (.cond (.t 38) (.seq (.region false a204_r11) (.exit 0)) (.skip)))))) (.region false a204_r12)))
def e204 : EFunc := ⟨53, [(.tmp 2), (.tmp 3), (.tmp 4)],
  .seq (.region false a204_r0) (.scope (.seq (.region false a204_r1) (.seq (.region false a204_r2) (.seq (.skip) (.seq (.seq (.region false a204_r3) (.block 0 (.loop [false, false, false, false, false, true, true, false, false, true, true, true] [false, false, true, true, true, true, true] l204_0))) (.seq (.seq (.region false a204_r13) (.cond (.t 43) (.seq (.region false a204_r14) (.ret)) (.skip))) (.seq (.region false a204_r15) (.ret))))))))⟩

def a205_r0 : List AOper := [
  ⟨(some 6), (.nilsl 9 1), none⟩,
  ⟨(some 7), (.mv (.k (.d (.int .i64 0)))), none⟩,
  ⟨(some 8), (.mv (.k (.d (.int .i64 0)))), none⟩]
def a205_r1 : List AOper := [
  ⟨(some 17), (.mv (.t 0)), none⟩,
  ⟨(some 18), (.mv (.t 1)), none⟩,
  ⟨(some 19), (.call (.k (.cl 253 [] [])) [(.t 17), (.t 18)]), none⟩,
  ⟨(some 16), (.mv (.t 19)), none⟩,
  ⟨(some 20), (.ext (.t 16) 0), none⟩,
  ⟨(some 21), (.ext (.t 16) 1), none⟩,
  ⟨(some 22), (.ext (.t 16) 2), none⟩,
  ⟨(some 9), (.mv (.t 20)), none⟩,
  ⟨(some 10), (.mv (.t 21)), none⟩,
  ⟨(some 11), (.mv (.t 22)), none⟩]
def a205_r2 : List AOper := [
  ⟨(some 23), (.mv (.t 11)), none⟩,
  ⟨(some 24), (.bin .neq (.t 23) (.k (.d (.int .i64 0)))), none⟩]
def a205_r3 : List AOper := [
  ⟨(some 25), (.mv (.t 11)), none⟩,
  ⟨(some 6), (.nilsl 9 1), none⟩,
  ⟨(some 7), (.mv (.k (.d (.int .i64 0)))), none⟩,
  ⟨(some 8), (.mv (.t 25)), none⟩]
def a205_r4 : List AOper := [
  ⟨(some 12), (.nilsl 9 1), none⟩]
def a205_r5 : List AOper := [
  ⟨(some 26), (.mv (.t 9)), none⟩,
  ⟨(some 27), (.mv (.k (.d (.int .i64 0)))), none⟩]
def a205_r6 : List AOper := [
  ⟨(some 28), (.bin .lss (.t 27) (.t 26)), none⟩]
def a205_r7 : List AOper := [
  ⟨(some 30), (.mv (.t 2)), none⟩,
  ⟨(some 31), (.mv (.t 0)), none⟩,
  ⟨(some 32), (.mv (.t 10)), none⟩,
  ⟨(some 33), (.slc 1 (.t 31) (some (.t 32)) none), none⟩,
  ⟨(some 34), (.call (.t 30) [(.t 33)]), none⟩,
  ⟨(some 29), (.mv (.t 34)), none⟩,
  ⟨(some 35), (.ext (.t 29) 0), none⟩,
  ⟨(some 36), (.ext (.t 29) 1), none⟩,
  ⟨(some 37), (.ext (.t 29) 2), none⟩,
  ⟨(some 13), (.mv (.t 35)), none⟩,
  ⟨(some 14), (.mv (.t 36)), none⟩,
  ⟨(some 15), (.mv (.t 37)), none⟩]
def a205_r8 : List AOper := [
  ⟨(some 38), (.mv (.t 15)), none⟩,
  ⟨(some 39), (.bin .neq (.t 38) (.k (.d (.int .i64 0)))), none⟩]
def a205_r9 : List AOper := [
  ⟨(some 40), (.mv (.t 15)), none⟩,
  ⟨(some 6), (.nilsl 9 1), none⟩,
  ⟨(some 7), (.mv (.k (.d (.int .i64 0)))), none⟩,
  ⟨(some 8), (.mv (.t 40)), none⟩]
def a205_r10 : List AOper := [
  ⟨(some 41), (.mv (.t 12)), none⟩,
  ⟨(some 42), (.mv (.t 13)), none⟩,
  ⟨(some 43), (.bsl 9 1 [(.t 42)]), none⟩,
  ⟨(some 44), (.app false 9 1 16 (.t 41) (.t 43)), none⟩,
  ⟨(some 45), (.mv (.t 10)), none⟩,
  ⟨(some 46), (.mv (.t 14)), none⟩,
  ⟨(some 47), (.bin .add (.t 45) (.t 46)), none⟩,
  ⟨(some 12), (.mv (.t 44)), none⟩,
  ⟨(some 10), (.mv (.t 47)), none⟩]
def a205_r11 : List AOper := [
  ⟨(some 48), (.bin .add (.t 27) (.k (.d (.int .i64 1)))), none⟩,
  ⟨(some 27), (.mv (.t 48)), none⟩]
def a205_r12 : List AOper := [
  ⟨(some 49), (.mv (.t 12)), none⟩,
  ⟨(some 50), (.mv (.t 10)), none⟩,
  ⟨(some 6), (.mv (.t 49)), none⟩,
  ⟨(some 7), (.mv (.t 50)), none⟩,
  ⟨(some 8), (.mv (.k (.d (.int .i64 0)))), none⟩]
def l205_0 : ECode :=
  .seq (.region false a205_r6) (.seq (.cond (.t 28) (.skip) (.exit 0)) (.seq (.block 1 (.seq (.region false a205_r7) (.seq (.seq (.region false a205_r8) (.cond (.t 39) (.seq (.region false a205_r9) (.ret)) (.skip))) (.region false a205_r10)))) (.region false a205_r11)))
def e205 : EFunc := ⟨51, [(.tmp 6), (.tmp 7), (.tmp 8)],
  .seq (.region false a205_r0) (.seq (.region false a205_r1) (.seq (.seq (.region false a205_r2) (.cond (.t 24) (.seq (.region false a205_r3) (.ret)) (.skip))) (.seq (.region false a205_r4) (.seq (.seq (.region false a205_r5) (.block 0 (.loop [true, false, true, false, false, false, false, false, false, false, true, false, true, false, false, false, false, false, false, false, false, false, false, false, false, false, true, true] [false, false, false, false, false, false, true, true, true, false, true, false, true] l205_0))) (.seq (.region false a205_r12) (.ret))))))⟩

def a206_r0 : List AOper := [
  ⟨(some 2), (.mv (.k (.d (.str ⟨#[]⟩)))), none⟩,
  ⟨(some 3), (.mv (.k (.d (.int .i64 0)))), none⟩,
  ⟨(some 4), (.mv (.k (.d (.int .i64 0)))), none⟩]
def a206_r1 : List AOper := [
  ⟨(some 9), (.mv (.t 0)), none⟩,
  ⟨(some 10), (.call (.k (.cl 253 [] [])) [(.t 9), (.k (.d (.int .i64 1)))]), none⟩,
  ⟨(some 8), (.mv (.t 10)), none⟩,
  ⟨(some 11), (.ext (.t 8) 0), none⟩,
  ⟨(some 12), (.ext (.t 8) 1), none⟩,
  ⟨(some 13), (.ext (.t 8) 2), none⟩,
  ⟨(some 5), (.mv (.t 11)), none⟩,
  ⟨(some 6), (.mv (.t 12)), none⟩,
  ⟨(some 7), (.mv (.t 13)), none⟩]
def a206_r2 : List AOper := [
  ⟨(some 14), (.mv (.t 7)), none⟩,
  ⟨(some 15), (.bin .neq (.t 14) (.k (.d (.int .i64 0)))), none⟩]
def a206_r3 : List AOper := [
  ⟨(some 16), (.mv (.t 7)), none⟩,
  ⟨(some 2), (.mv (.k (.d (.str ⟨#[]⟩)))), none⟩,
  ⟨(some 3), (.mv (.k (.d (.int .i64 0)))), none⟩,
  ⟨(some 4), (.mv (.t 16)), none⟩]
def a206_r4 : List AOper := [
  ⟨(some 17), (.mv (.t 0)), none⟩,
  ⟨(some 18), (.mv (.t 6)), none⟩,
  ⟨(some 19), (.mv (.t 6)), none⟩,
  ⟨(some 20), (.mv (.t 5)), none⟩,
  ⟨(some 21), (.bin .add (.t 19) (.t 20)), none⟩,
  ⟨(some 22), (.slc 1 (.t 17) (some (.t 18)) (some (.t 21))), none⟩,
  ⟨(some 23), (.cvs (.t 22)), none⟩,
  ⟨(some 24), (.mv (.t 6)), none⟩,
  ⟨(some 25), (.mv (.t 5)), none⟩,
  ⟨(some 26), (.bin .add (.t 24) (.t 25)), none⟩,
  ⟨(some 2), (.mv (.t 23)), none⟩,
  ⟨(some 3), (.mv (.t 26)), none⟩,
  ⟨(some 4), (.mv (.k (.d (.int .i64 0)))), none⟩]
def e206 : EFunc := ⟨27, [(.tmp 2), (.tmp 3), (.tmp 4)],
  .seq (.region false a206_r0) (.seq (.region false a206_r1) (.seq (.seq (.region false a206_r2) (.cond (.t 15) (.seq (.region false a206_r3) (.ret)) (.skip))) (.seq (.region false a206_r4) (.ret))))⟩

def a207_r0 : List AOper := [
  ⟨(some 4), (.mv (.k (.d (.int .i64 0)))), none⟩,
  ⟨(some 5), (.mv (.k (.d (.int .i64 0)))), none⟩,
  ⟨(some 6), (.mv (.k (.d (.int .i64 0)))), none⟩]
def a207_r1 : List AOper := [
  ⟨(some 11), (.mv (.t 0)), none⟩,
  ⟨(some 12), (.call (.k (.cl 208 [] [])) [(.t 11)]), none⟩,
  ⟨(some 10), (.mv (.t 12)), none⟩,
  ⟨(some 13), (.ext (.t 10) 0), none⟩,
  ⟨(some 14), (.ext (.t 10) 1), none⟩,
  ⟨(some 15), (.ext (.t 10) 2), none⟩,
  ⟨(some 7), (.mv (.t 13)), none⟩,
  ⟨(some 8), (.mv (.t 14)), none⟩,
  ⟨(some 9), (.mv (.t 15)), none⟩]
def a207_r2 : List AOper := [
  ⟨(some 16), (.mv (.t 9)), none⟩,
  ⟨(some 17), (.bin .neq (.t 16) (.k (.d (.int .i64 0)))), none⟩]
def a207_r3 : List AOper := [
  ⟨(some 18), (.mv (.t 9)), none⟩,
  ⟨(some 4), (.mv (.k (.d (.int .i64 0)))), none⟩,
  ⟨(some 5), (.mv (.k (.d (.int .i64 0)))), none⟩,
  ⟨(some 6), (.mv (.t 18)), none⟩]
def a207_r4 : List AOper := [
  ⟨(some 19), (.mv (.t 7)), none⟩,
  ⟨(some 20), (.bin .lss (.t 19) (.k (.d (.int .i64 0)))), none⟩]
def a207_r5 : List AOper := [
  ⟨(some 4), (.mv (.k (.d (.int .i64 0)))), none⟩,
  ⟨(some 5), (.mv (.k (.d (.int .i64 0)))), none⟩,
  ⟨(some 6), (.mv (.k (.d (.int .i64 11)))), none⟩]
def a207_r6 : List AOper := [
  ⟨(some 21), (.mv (.t 7)), none⟩,
  ⟨(some 22), (.mv (.t 0)), none⟩,
  ⟨(some 23), (.len false (.t 22)), none⟩,
  ⟨(some 24), (.mv (.t 8)), none⟩,
  ⟨(some 25), (.bin .sub (.t 23) (.t 24)), none⟩,
  ⟨(some 26), (.mv (.t 1)), none⟩,
  ⟨(some 27), (.bin .quo (.t 25) (.t 26)), none⟩,
  ⟨(some 28), (.bin .gtr (.t 21) (.t 27)), none⟩]
def a207_r7 : List AOper := [
  ⟨(some 4), (.mv (.k (.d (.int .i64 0)))), none⟩,
  ⟨(some 5), (.mv (.k (.d (.int .i64 0)))), none⟩,
  ⟨(some 6), (.mv (.k (.d (.int .i64 10)))), none⟩]
def a207_r8 : List AOper := [
  ⟨(some 29), (.mv (.t 7)), none⟩,
  ⟨(some 30), (.mv (.t 8)), none⟩,
  ⟨(some 4), (.mv (.t 29)), none⟩,
  ⟨(some 5), (.mv (.t 30)), none⟩,
  ⟨(some 6), (.mv (.k (.d (.int .i64 0)))), none⟩]
def e207 : EFunc := ⟨31, [(.tmp 4), (.tmp 5), (.tmp 6)],
  .seq (.region false a207_r0) (.seq (.region false a207_r1) (.seq (.seq (.region false a207_r2) (.cond (.t 17) (.seq (.region false a207_r3) (.ret)) (.skip))) (.seq (.seq (.region false a207_r4) (.cond (.t 20) (.seq (.region false a207_r5) (.ret)) (.skip))) (.seq (.seq (.region false a207_r6) (.cond (.t 28) (.seq (.region false a207_r7) (.ret)) (.skip))) (.seq (.region false a207_r8) (.ret))))))⟩

def a208_r0 : List AOper := [
  ⟨(some 2), (.mv (.k (.d (.int .i64 0)))), none⟩,
  ⟨(some 3), (.mv (.k (.d (.int .i64 0)))), none⟩,
  ⟨(some 4), (.mv (.k (.d (.int .i64 0)))), none⟩]
def a208_r1 : List AOper := [
  ⟨(some 5), (.mv (.k (.d (.int .i64 0)))), none⟩]
def a208_r2 : List AOper := [
  ⟨(some 8), (.mv (.t 5)), none⟩,
  ⟨(some 9), (.mv (.t 0)), none⟩,
  ⟨(some 10), (.len false (.t 9)), none⟩,
  ⟨(some 11), (.bin .lss (.t 8) (.t 10)), none⟩,
  ⟨(some 12), (.mv (.t 11)), none⟩,
  ⟨(some 13), (.mv (.t 5)), (some (12, true))⟩,
  ⟨(some 14), (.bin .lss (.t 13) (.k (.d (.int .i64 10)))), (some (12, true))⟩,
  ⟨(some 15), (.pick (.t 12) (.t 14) (.k (.d (.bool false)))), none⟩,
  ⟨(some 16), (.mv (.t 15)), none⟩,
  ⟨(some 17), (.mv (.t 0)), (some (16, true))⟩,
  ⟨(some 18), (.mv (.t 5)), (some (16, true))⟩,
  ⟨(some 19), (.ixa 1 (.t 17) (.t 18)), (some (16, true))⟩,
  ⟨(some 20), (.load false 1 (.t 19)), (some (16, true))⟩,
  ⟨(some 21), (.bin .geq (.t 20) (.k (.d (.int .u8 128)))), (some (16, true))⟩,
  ⟨(some 22), (.pick (.t 16) (.t 21) (.k (.d (.bool false)))), none⟩]
def a208_r3 : List AOper := [
  ⟨(some 23), (.mv (.t 5)), none⟩,
  ⟨(some 24), (.bin .add (.t 23) (.k (.d (.int .i64 1)))), none⟩,
  ⟨(some 5), (.mv (.t 24)), none⟩]
def a208_r4 : List AOper := [
  ⟨(some 25), (.mv (.t 5)), none⟩,
  ⟨(some 26), (.bin .eql (.t 25) (.k (.d (.int .i64 10)))), none⟩]
def a208_r5 : List AOper := [
  ⟨(some 2), (.mv (.k (.d (.int .i64 0)))), none⟩,
  ⟨(some 3), (.mv (.k (.d (.int .i64 0)))), none⟩,
  ⟨(some 4), (.mv (.k (.d (.int .i64 11)))), none⟩]
def a208_r6 : List AOper := [
  ⟨(some 27), (.mv (.t 5)), none⟩,
  ⟨(some 28), (.mv (.t 0)), none⟩,
  ⟨(some 29), (.len false (.t 28)), none⟩,
  ⟨(some 30), (.bin .eql (.t 27) (.t 29)), none⟩]
def a208_r7 : List AOper := [
  ⟨(some 2), (.mv (.k (.d (.int .i64 0)))), none⟩,
  ⟨(some 3), (.mv (.k (.d (.int .i64 0)))), none⟩,
  ⟨(some 4), (.mv (.k (.d (.int .i64 10)))), none⟩]
def a208_r8 : List AOper := [
  ⟨(some 31), (.mv (.t 5)), none⟩,
  ⟨(some 32), (.bin .eql (.t 31) (.k (.d (.int .i64 9)))), none⟩,
  ⟨(some 33), (.mv (.t 32)), none⟩,
  ⟨(some 34), (.mv (.t 0)), (some (33, true))⟩,
  ⟨(some 35), (.mv (.t 5)), (some (33, true))⟩,
  ⟨(some 36), (.ixa 1 (.t 34) (.t 35)), (some (33, true))⟩,
  ⟨(some 37), (.load false 1 (.t 36)), (some (33, true))⟩,
  ⟨(some 38), (.bin .gtr (.t 37) (.k (.d (.int .u8 1)))), (some (33, true))⟩,
  ⟨(some 39), (.pick (.t 33) (.t 38) (.k (.d (.bool false)))), none⟩,
  ⟨(some 40), (.mv (.t 39)), none⟩,
  ⟨(some 41), (.mv (.t 5)), (some (40, false))⟩,
  ⟨(some 42), (.bin .gtr (.t 41) (.k (.d (.int .i64 0)))), (some (40, false))⟩,
  ⟨(some 43), (.mv (.t 42)), (some (40, false))⟩,
  ⟨(some 44), (.mv (.t 0)), (some (43, true))⟩,
  ⟨(some 45), (.mv (.t 5)), (some (43, true))⟩,
  ⟨(some 46), (.ixa 1 (.t 44) (.t 45)), (some (43, true))⟩,
  ⟨(some 47), (.load false 1 (.t 46)), (some (43, true))⟩,
  ⟨(some 48), (.bin .eql (.t 47) (.k (.d (.int .u8 0)))), (some (43, true))⟩,
  ⟨(some 49), (.pick (.t 43) (.t 48) (.k (.d (.bool false)))), (some (40, false))⟩,
  ⟨(some 50), (.pick (.t 40) (.k (.d (.bool true))) (.t 49)), none⟩]
def a208_r9 : List AOper := [
  ⟨(some 2), (.mv (.k (.d (.int .i64 0)))), none⟩,
  ⟨(some 3), (.mv (.k (.d (.int .i64 0)))), none⟩,
  ⟨(some 4), (.mv (.k (.d (.int .i64 11)))), none⟩]
def a208_r10 : List AOper := [
  ⟨(some 6), (.mv (.k (.d (.int .u64 0)))), none⟩]
def a208_r11 : List AOper := [
  ⟨(some 51), (.mv (.t 5)), none⟩,
  ⟨(some 7), (.mv (.t 51)), none⟩]
def a208_r12 : List AOper := [
  ⟨(some 52), (.mv (.t 7)), none⟩,
  ⟨(some 53), (.bin .geq (.t 52) (.k (.d (.int .i64 0)))), none⟩]
def a208_r13 : List AOper := [
  ⟨(some 56), (.mv (.t 6)), none⟩,
  ⟨(some 57), (.bin .mul (.t 56) (.k (.d (.int .u64 128)))), none⟩,
  ⟨(some 58), (.mv (.t 0)), none⟩,
  ⟨(some 59), (.mv (.t 7)), none⟩,
  ⟨(some 60), (.ixa 1 (.t 58) (.t 59)), none⟩,
  ⟨(some 61), (.load false 1 (.t 60)), none⟩,
  ⟨(some 62), (.bin .rem (.t 61) (.k (.d (.int .u8 128)))), none⟩,
  ⟨(some 63), (.cvi .u64 (.t 62)), none⟩,
  ⟨(some 64), (.bin .add (.t 57) (.t 63)), none⟩,
  ⟨(some 6), (.mv (.t 64)), none⟩]
def a208_r14 : List AOper := [
  ⟨(some 54), (.mv (.t 7)), none⟩,
  ⟨(some 55), (.bin .sub (.t 54) (.k (.d (.int .i64 1)))), none⟩,
  ⟨(some 7), (.mv (.t 55)), none⟩]
def a208_r15 : List AOper := [
  ⟨(some 65), (.mv (.t 6)), none⟩,
  ⟨(some 66), (.bin .rem (.t 65) (.k (.d (.int .u64 2)))), none⟩,
  ⟨(some 67), (.bin .eql (.t 66) (.k (.d (.int .u64 1)))), none⟩]
def a208_r16 : List AOper := [
  ⟨(some 68), (.mv (.t 6)), none⟩,
  ⟨(some 69), (.bin .quo (.t 68) (.k (.d (.int .u64 2)))), none⟩,
  ⟨(some 70), (.cvi .i64 (.t 69)), none⟩,
  ⟨(some 71), (.bin .sub (.k (.d (.int .i64 (-1)))) (.t 70)), none⟩,
  ⟨(some 72), (.mv (.t 5)), none⟩,
  ⟨(some 73), (.bin .add (.t 72) (.k (.d (.int .i64 1)))), none⟩,
  ⟨(some 2), (.mv (.t 71)), none⟩,
  ⟨(some 3), (.mv (.t 73)), none⟩,
  ⟨(some 4), (.mv (.k (.d (.int .i64 0)))), none⟩]
def a208_r17 : List AOper := [
  ⟨(some 74), (.mv (.t 6)), none⟩,
  ⟨(some 75), (.bin .quo (.t 74) (.k (.d (.int .u64 2)))), none⟩,
  ⟨(some 76), (.cvi .i64 (.t 75)), none⟩,
  ⟨(some 77), (.mv (.t 5)), none⟩,
  ⟨(some 78), (.bin .add (.t 77) (.k (.d (.int .i64 1)))), none⟩,
  ⟨(some 2), (.mv (.t 76)), none⟩,
  ⟨(some 3), (.mv (.t 78)), none⟩,
  ⟨(some 4), (.mv (.k (.d (.int .i64 0)))), none⟩]
def l208_0 : ECode :=
  .seq (.seq (.region false a208_r12) (.cond (.t 53) (.skip) (.exit 2))) (.seq (.block 3 (.region false a208_r13)) (.region false a208_r14))
def l208_1 : ECode :=
  .seq (.seq (.region false a208_r2) (.cond (.t 22) (.skip) (.exit 0))) (.block 1 (.region false a208_r3))
def e208 : EFunc := ⟨79, [(.tmp 2), (.tmp 3), (.tmp 4)],
  .seq (.region false a208_r0) (.seq (.region false a208_r1) (.seq (.block 0 (.loop [true, false, false, false, false, true] [true, false, false, false, false, true] l208_1)) (.seq (.seq (.region false a208_r4) (.cond (.t 26) (.seq (.region false a208_r5) (.ret)) (.skip))) (.seq (.seq (.region false a208_r6) (.cond (.t 30) (.seq (.region false a208_r7) (.ret)) (.skip))) (.seq (.seq (.region false a208_r8) (.cond (.t 50) (.seq (.region false a208_r9) (.ret)) (.skip))) (.seq (.region false a208_r10) (.seq (.seq (.region false a208_r11) (.block 2 (.loop [true, false, false, false, false, true, true, true] [false, false, false, false, false, true, true] l208_0))) (.seq (.seq (.region false a208_r15) (.cond (.t 67) (.seq (.region false a208_r16) (.ret)) (.skip))) (.seq (.region false a208_r17) (.ret))))))))))⟩

def a209_r0 : List AOper := [
  ⟨(some 2), (.mv (.k (.d (.str ⟨#[]⟩)))), none⟩,
  ⟨(some 3), (.mv (.k (.d (.int .i64 0)))), none⟩,
  ⟨(some 4), (.mv (.k (.d (.int .i64 0)))), none⟩]
def a209_r1 : List AOper := [
  ⟨(some 9), (.mv (.t 0)), none⟩,
  ⟨(some 10), (.call (.k (.cl 208 [] [])) [(.t 9)]), none⟩,
  ⟨(some 8), (.mv (.t 10)), none⟩,
  ⟨(some 11), (.ext (.t 8) 0), none⟩,
  ⟨(some 12), (.ext (.t 8) 1), none⟩,
  ⟨(some 13), (.ext (.t 8) 2), none⟩,
  ⟨(some 5), (.mv (.t 11)), none⟩,
  ⟨(some 6), (.mv (.t 12)), none⟩,
  ⟨(some 7), (.mv (.t 13)), none⟩]
def a209_r2 : List AOper := [
  ⟨(some 14), (.mv (.t 7)), none⟩,
  ⟨(some 15), (.bin .neq (.t 14) (.k (.d (.int .i64 0)))), none⟩]
def a209_r3 : List AOper := [
  ⟨(some 16), (.mv (.t 7)), none⟩,
  ⟨(some 2), (.mv (.k (.d (.str ⟨#[]⟩)))), none⟩,
  ⟨(some 3), (.mv (.k (.d (.int .i64 0)))), none⟩,
  ⟨(some 4), (.mv (.t 16)), none⟩]
def a209_r4 : List AOper := [
  ⟨(some 17), (.mv (.t 5)), none⟩,
  ⟨(some 18), (.bin .lss (.t 17) (.k (.d (.int .i64 0)))), none⟩]
def a209_r5 : List AOper := [
  ⟨(some 2), (.mv (.k (.d (.str ⟨#[]⟩)))), none⟩,
  ⟨(some 3), (.mv (.k (.d (.int .i64 0)))), none⟩,
  ⟨(some 4), (.mv (.k (.d (.int .i64 11)))), none⟩]
def a209_r6 : List AOper := [
  ⟨(some 19), (.mv (.t 5)), none⟩,
  ⟨(some 20), (.mv (.t 0)), none⟩,
  ⟨(some 21), (.len false (.t 20)), none⟩,
  ⟨(some 22), (.mv (.t 6)), none⟩,
  ⟨(some 23), (.bin .sub (.t 21) (.t 22)), none⟩,
  ⟨(some 24), (.bin .gtr (.t 19) (.t 23)), none⟩]
def a209_r7 : List AOper := [
  ⟨(some 2), (.mv (.k (.d (.str ⟨#[]⟩)))), none⟩,
  ⟨(some 3), (.mv (.k (.d (.int .i64 0)))), none⟩,
  ⟨(some 4), (.mv (.k (.d (.int .i64 10)))), none⟩]
def a209_r8 : List AOper := [
  ⟨(some 25), (.mv (.t 0)), none⟩,
  ⟨(some 26), (.mv (.t 6)), none⟩,
  ⟨(some 27), (.mv (.t 6)), none⟩,
  ⟨(some 28), (.mv (.t 5)), none⟩,
  ⟨(some 29), (.bin .add (.t 27) (.t 28)), none⟩,
  ⟨(some 30), (.slc 1 (.t 25) (some (.t 26)) (some (.t 29))), none⟩,
  ⟨(some 31), (.cvs (.t 30)), none⟩,
  ⟨(some 32), (.mv (.t 6)), none⟩,
  ⟨(some 33), (.mv (.t 5)), none⟩,
  ⟨(some 34), (.bin .add (.t 32) (.t 33)), none⟩,
  ⟨(some 2), (.mv (.t 31)), none⟩,
  ⟨(some 3), (.mv (.t 34)), none⟩,
  ⟨(some 4), (.mv (.k (.d (.int .i64 0)))), none⟩]
def e209 : EFunc := ⟨35, [(.tmp 2), (.tmp 3), (.tmp 4)],
  .seq (.region false a209_r0) (.seq (.region false a209_r1) (.seq (.seq (.region false a209_r2) (.cond (.t 15) (.seq (.region false a209_r3) (.ret)) (.skip))) (.seq (.seq (.region false a209_r4) (.cond (.t 18) (.seq (.region false a209_r5) (.ret)) (.skip))) (.seq (.seq (.region false a209_r6) (.cond (.t 24) (.seq (.region false a209_r7) (.ret)) (.skip))) (.seq (.region false a209_r8) (.ret))))))⟩

def a210_r0 : List AOper := [
  ⟨(some 4), (.nilsl 3 1), none⟩,
  ⟨(some 5), (.nilsl 3 1), none⟩,
  ⟨(some 6), (.mv (.k (.d (.bool false)))), none⟩]
def a210_r1 : List AOper := [
  ⟨(some 7), (.mv (.t 0)), none⟩,
  ⟨(some 8), (.len false (.t 7)), none⟩,
  ⟨(some 9), (.bin .eql (.t 8) (.k (.d (.int .i64 0)))), none⟩,
  ⟨(some 10), (.mv (.t 9)), none⟩,
  ⟨(some 11), (.mv (.t 0)), (some (10, false))⟩,
  ⟨(some 12), (.ixa 1 (.t 11) (.k (.d (.int .i64 0)))), (some (10, false))⟩,
  ⟨(some 13), (.load false 1 (.t 12)), (some (10, false))⟩,
  ⟨(some 14), (.bin .lss (.t 13) (.k (.d (.int .i64 0)))), (some (10, false))⟩,
  ⟨(some 15), (.pick (.t 10) (.k (.d (.bool true))) (.t 14)), none⟩,
  ⟨(some 16), (.mv (.t 15)), none⟩,
  ⟨(some 17), (.mv (.t 0)), (some (16, false))⟩,
  ⟨(some 18), (.ixa 1 (.t 17) (.k (.d (.int .i64 0)))), (some (16, false))⟩,
  ⟨(some 19), (.load false 1 (.t 18)), (some (16, false))⟩,
  ⟨(some 20), (.mv (.t 0)), (some (16, false))⟩,
  ⟨(some 21), (.len false (.t 20)), (some (16, false))⟩,
  ⟨(some 22), (.bin .gtr (.t 19) (.t 21)), (some (16, false))⟩,
  ⟨(some 23), (.pick (.t 16) (.k (.d (.bool true))) (.t 22)), none⟩]
def a210_r2 : List AOper := [
  ⟨(some 4), (.nilsl 3 1), none⟩,
  ⟨(some 5), (.nilsl 3 1), none⟩,
  ⟨(some 6), (.mv (.k (.d (.bool false)))), none⟩]
def a210_r3 : List AOper := [
  ⟨(some 24), (.mv (.t 0)), none⟩,
  ⟨(some 25), (.slc 1 (.t 24) (some (.k (.d (.int .i64 1)))) none), none⟩,
  ⟨(some 26), (.mv (.t 0)), none⟩,
  ⟨(some 27), (.ixa 1 (.t 26) (.k (.d (.int .i64 0)))), none⟩,
  ⟨(some 28), (.load false 1 (.t 27)), none⟩,
  ⟨(some 29), (.mv (.t 1)), none⟩,
  ⟨(some 30), (.bin .mul (.t 28) (.t 29)), none⟩,
  ⟨(some 31), (.call (.k (.cl 254 [] [])) [(.t 25), (.t 30)]), none⟩,
  ⟨(some 32), (.ext (.t 31) 0), none⟩,
  ⟨(some 33), (.ext (.t 31) 1), none⟩,
  ⟨(some 34), (.ext (.t 31) 2), none⟩,
  ⟨(some 4), (.mv (.t 32)), none⟩,
  ⟨(some 5), (.mv (.t 33)), none⟩,
  ⟨(some 6), (.mv (.t 34)), none⟩]
def e210 : EFunc := ⟨35, [(.tmp 4), (.tmp 5), (.tmp 6)],
  .seq (.region false a210_r0) (.seq (.seq (.region false a210_r1) (.cond (.t 23) (.seq (.region false a210_r2) (.ret)) (.skip))) (.seq (.region true a210_r3) (.ret)))⟩

def a211_r0 : List AOper := [
  ⟨(some 2), (.nilsl 5 1), none⟩]
def a211_r1 : List AOper := [
  ⟨(some 5), (.mv (.t 0)), none⟩,
  ⟨(some 6), (.cvi .u64 (.t 5)), none⟩,
  ⟨(some 7), (.bin .mul (.t 6) (.k (.d (.int .u64 2)))), none⟩,
  ⟨(some 3), (.mv (.t 7)), none⟩]
def a211_r2 : List AOper := [
  ⟨(some 8), (.mv (.t 0)), none⟩,
  ⟨(some 9), (.bin .lss (.t 8) (.k (.d (.int .i64 0)))), none⟩]
def a211_r3 : List AOper := [
  ⟨(some 10), (.mv (.t 0)), none⟩,
  ⟨(some 11), (.bin .sub (.k (.d (.int .i64 (-1)))) (.t 10)), none⟩,
  ⟨(some 12), (.cvi .u64 (.t 11)), none⟩,
  ⟨(some 13), (.bin .mul (.t 12) (.k (.d (.int .u64 2)))), none⟩,
  ⟨(some 14), (.bin .add (.t 13) (.k (.d (.int .u64 1)))), none⟩,
  ⟨(some 3), (.mv (.t 14)), none⟩]
def a211_r4 : List AOper := [
  ⟨(some 4), (.nilsl 5 1), none⟩]
def a211_r5 : List AOper := [
  ⟨(some 15), (.mv (.t 3)), none⟩,
  ⟨(some 16), (.bin .geq (.t 15) (.k (.d (.int .u64 128)))), none⟩]
def a211_r6 : List AOper := [
  ⟨(some 17), (.mv (.t 4)), none⟩,
  ⟨(some 18), (.mv (.t 3)), none⟩,
  ⟨(some 19), (.bin .rem (.t 18) (.k (.d (.int .u64 128)))), none⟩,
  ⟨(some 20), (.cvi .u8 (.t 19)), none⟩,
  ⟨(some 21), (.bin .add (.t 20) (.k (.d (.int .u8 128)))), none⟩,
  ⟨(some 22), (.bsl 5 1 [(.t 21)]), none⟩,
  ⟨(some 23), (.app false 5 1 1 (.t 17) (.t 22)), none⟩,
  ⟨(some 4), (.mv (.t 23)), none⟩]
def a211_r7 : List AOper := [
  ⟨(some 24), (.mv (.t 3)), none⟩,
  ⟨(some 25), (.bin .quo (.t 24) (.k (.d (.int .u64 128)))), none⟩,
  ⟨(some 3), (.mv (.t 25)), none⟩]
def a211_r8 : List AOper := [
  ⟨(some 26), (.mv (.t 4)), none⟩,
  ⟨(some 27), (.mv (.t 3)), none⟩,
  ⟨(some 28), (.cvi .u8 (.t 27)), none⟩,
  ⟨(some 29), (.bsl 5 1 [(.t 28)]), none⟩,
  ⟨(some 30), (.app false 5 1 1 (.t 26) (.t 29)), none⟩,
  ⟨(some 2), (.mv (.t 30)), none⟩]
def l211_0 : ECode :=
  .seq (.seq (.region false a211_r5) (.cond (.t 16) (.skip) (.exit 0))) (.block 1 (.seq (.region false a211_r6) (.region false a211_r7)))
def e211 : EFunc := ⟨31, [(.tmp 2)],
  .seq (.region false a211_r0) (.seq (.region false a211_r1) (.seq (.seq (.region false a211_r2) (.cond (.t 9) (.region false a211_r3) (.skip))) (.seq (.region false a211_r4) (.seq (.block 0 (.loop [false, false, false, true, true] [false, false, false, true, true] l211_0)) (.seq (.region false a211_r8) (.ret))))))⟩

def a212_r0 : List AOper := [
  ⟨(some 2), (.nilsl 5 1), none⟩]
def a212_r1 : List AOper := [
  ⟨(some 3), (.mv (.t 0)), none⟩,
  ⟨(some 4), (.len true (.t 3)), none⟩,
  ⟨(some 5), (.call (.k (.cl 211 [] [])) [(.t 4)]), none⟩,
  ⟨(some 6), (.mv (.t 0)), none⟩,
  ⟨(some 7), (.app true 5 1 1 (.t 5) (.t 6)), none⟩,
  ⟨(some 2), (.mv (.t 7)), none⟩]
def e212 : EFunc := ⟨8, [(.tmp 2)],
  .seq (.region false a212_r0) (.seq (.region false a212_r1) (.ret))⟩

def a213_r0 : List AOper := [
  ⟨(some 1), (.mv (.k (.d (.bool false)))), none⟩]
def a213_r1 : List AOper := [
  ⟨(some 2), (.fld 0 (.t 0)), none⟩,
  ⟨(some 3), (.load false 1 (.t 2)), none⟩,
  ⟨(some 4), (.call (.k (.cl 214 [] [])) [(.t 3)]), none⟩,
  ⟨(some 5), (.un .not (.t 4)), none⟩,
  ⟨(some 1), (.mv (.t 5)), none⟩]
def e213 : EFunc := ⟨6, [(.tmp 1)],
  .seq (.region false a213_r0) (.seq (.region false a213_r1) (.ret))⟩

def a214_r0 : List AOper := [
  ⟨(some 2), (.mv (.k (.d (.bool false)))), none⟩]
def a214_r1 : List AOper := [
  ⟨(some 5), (.mv (.t 0)), none⟩,
  ⟨(some 6), (.rng (.t 5)), none⟩]
def a214_r2 : List AOper := [
  ⟨(some 7), (.nxt (.t 6)), none⟩,
  ⟨(some 8), (.ext (.t 7) 0), none⟩]
def a214_r3 : List AOper := [
  ⟨(some 9), (.ext (.t 7) 1), none⟩,
  ⟨(some 10), (.ext (.t 7) 2), none⟩,
  ⟨(some 3), (.mv (.t 9)), none⟩,
  ⟨(some 4), (.mv (.t 10)), none⟩]
def a214_r4 : List AOper := [
  ⟨(some 11), (.mv (.t 4)), none⟩,
  ⟨(some 12), (.bin .lss (.t 11) (.k (.d (.int .i32 97)))), none⟩,
  ⟨(some 13), (.mv (.t 12)), none⟩,
  ⟨(some 14), (.mv (.t 4)), (some (13, false))⟩,
  ⟨(some 15), (.bin .gtr (.t 14) (.k (.d (.int .i32 122)))), (some (13, false))⟩,
  ⟨(some 16), (.pick (.t 13) (.k (.d (.bool true))) (.t 15)), none⟩,
  ⟨(some 17), (.mv (.t 16)), none⟩,
  ⟨(some 18), (.mv (.t 3)), (some (17, true))⟩,
  ⟨(some 19), (.bin .eql (.t 18) (.k (.d (.int .i64 0)))), (some (17, true))⟩,
  ⟨(some 20), (.mv (.t 19)), (some (17, true))⟩,
  ⟨(some 21), (.mv (.t 4)), (some (20, false))⟩,
  ⟨(some 22), (.bin .lss (.t 21) (.k (.d (.int .i32 48)))), (some (20, false))⟩,
  ⟨(some 23), (.mv (.t 22)), (some (20, false))⟩,
  ⟨(some 24), (.mv (.t 4)), (some (23, false))⟩,
  ⟨(some 25), (.bin .gtr (.t 24) (.k (.d (.int .i32 57)))), (some (23, false))⟩,
  ⟨(some 26), (.pick (.t 23) (.k (.d (.bool true))) (.t 25)), (some (20, false))⟩,
  ⟨(some 27), (.mv (.t 26)), (some (20, false))⟩,
  ⟨(some 28), (.mv (.t 4)), (some (27, true))⟩,
  ⟨(some 29), (.bin .neq (.t 28) (.k (.d (.int .i32 95)))), (some (27, true))⟩,
  ⟨(some 30), (.pick (.t 27) (.t 29) (.k (.d (.bool false)))), (some (20, false))⟩,
  ⟨(some 31), (.pick (.t 20) (.k (.d (.bool true))) (.t 30)), (some (17, true))⟩,
  ⟨(some 32), (.pick (.t 17) (.t 31) (.k (.d (.bool false)))), none⟩]
def a214_r5 : List AOper := [
  ⟨(some 2), (.mv (.k (.d (.bool false)))), none⟩]
def a214_r6 : List AOper := [
  ⟨(some 33), (.mv (.t 0)), none⟩,
  ⟨(some 34), (.len true (.t 33)), none⟩,
  ⟨(some 35), (.bin .geq (.t 34) (.k (.d (.int .i64 1)))), none⟩,
  ⟨(some 36), (.mv (.t 35)), none⟩,
  ⟨(some 37), (.mv (.t 0)), (some (36, true))⟩,
  ⟨(some 38), (.len true (.t 37)), (some (36, true))⟩,
  ⟨(some 39), (.bin .leq (.t 38) (.k (.d (.int .i64 40)))), (some (36, true))⟩,
  ⟨(some 40), (.pick (.t 36) (.t 39) (.k (.d (.bool false)))), none⟩,
  ⟨(some 41), (.mv (.t 40)), none⟩,
  ⟨(some 42), (.bsl 9 1 [(.k (.d (.str ⟨#[97, 108, 108]⟩))), (.k (.d (.str ⟨#[97, 110, 100]⟩))), (.k (.d (.str ⟨#[104, 97, 115]⟩))), (.k (.d (.str ⟨#[105, 110]⟩))), (.k (.d (.str ⟨#[110, 111, 116]⟩))), (.k (.d (.str ⟨#[111, 114]⟩)))]), (some (41, true))⟩,
  ⟨(some 43), (.mv (.t 0)), (some (41, true))⟩,
  ⟨(some 44), (.call (.k (.cl 73 [] [])) [(.t 42), (.t 43)]), (some (41, true))⟩,
  ⟨(some 45), (.un .not (.t 44)), (some (41, true))⟩,
  ⟨(some 46), (.pick (.t 41) (.t 45) (.k (.d (.bool false)))), none⟩,
  ⟨(some 2), (.mv (.t 46)), none⟩]
def l214_0 : ECode :=
  .seq (.region false a214_r2) (.seq (.cond (.t 8) (.skip) (.exit 0)) (.block 1 (.seq (.region false a214_r3) (.seq (.region false a214_r4) (.cond (.t 32) (.seq (.region false a214_r5) (.ret)) (.skip))))))
def e214 : EFunc := ⟨47, [(.tmp 2)],
  .seq (.region false a214_r0) (.seq (.seq (.region false a214_r1) (.block 0 (.loop [true, false, false, false, false, false, true] [true, false, true] l214_0))) (.seq (.region false a214_r6) (.ret)))⟩

def a215_r0 : List AOper := [
  ⟨(some 2), (.mv (.k (.d (.bool false)))), none⟩]
def a215_r1 : List AOper := [
  ⟨(some 3), (.fld 0 (.t 0)), none⟩,
  ⟨(some 4), (.load false 1 (.t 3)), none⟩,
  ⟨(some 5), (.load false 1 (.t 1)), none⟩,
  ⟨(some 6), (.bin .leq (.t 4) (.t 5)), none⟩,
  ⟨(some 2), (.mv (.t 6)), none⟩]
def e215 : EFunc := ⟨7, [(.tmp 2)],
  .seq (.region false a215_r0) (.seq (.region false a215_r1) (.ret))⟩

def a216_r0 : List AOper := [
  ⟨(some 1), (.mv (.k (.d (.bool false)))), none⟩]
def a216_r1 : List AOper := [
  ⟨(some 2), (.fld 1 (.t 0)), none⟩,
  ⟨(some 3), (.load false 1 (.t 2)), none⟩,
  ⟨(some 4), (.bin .neq (.t 3) (.k (.d (.int .i64 1)))), none⟩,
  ⟨(some 5), (.mv (.t 4)), none⟩,
  ⟨(some 6), (.fld 1 (.t 0)), (some (5, true))⟩,
  ⟨(some 7), (.load false 1 (.t 6)), (some (5, true))⟩,
  ⟨(some 8), (.bin .neq (.t 7) (.k (.d (.int .i64 2)))), (some (5, true))⟩,
  ⟨(some 9), (.pick (.t 5) (.t 8) (.k (.d (.bool false)))), none⟩,
  ⟨(some 1), (.mv (.t 9)), none⟩]
def e216 : EFunc := ⟨10, [(.tmp 1)],
  .seq (.region false a216_r0) (.seq (.region false a216_r1) (.ret))⟩

def a217_r0 : List AOper := [
  ⟨(some 1), (.mv (.k (.d (.bool false)))), none⟩]
def a217_r1 : List AOper := [
  ⟨(some 2), (.fld 2 (.t 0)), none⟩,
  ⟨(some 3), (.load false 1 (.t 2)), none⟩,
  ⟨(some 4), (.bin .lss (.t 3) (.k (.d (.int .i64 (-1099511627776))))), none⟩,
  ⟨(some 5), (.mv (.t 4)), none⟩,
  ⟨(some 6), (.fld 3 (.t 0)), (some (5, false))⟩,
  ⟨(some 7), (.load false 1 (.t 6)), (some (5, false))⟩,
  ⟨(some 8), (.bin .gtr (.t 7) (.k (.d (.int .i64 1099511627776)))), (some (5, false))⟩,
  ⟨(some 9), (.pick (.t 5) (.k (.d (.bool true))) (.t 8)), none⟩,
  ⟨(some 10), (.mv (.t 9)), none⟩,
  ⟨(some 11), (.fld 2 (.t 0)), (some (10, false))⟩,
  ⟨(some 12), (.load false 1 (.t 11)), (some (10, false))⟩,
  ⟨(some 13), (.fld 3 (.t 0)), (some (10, false))⟩,
  ⟨(some 14), (.load false 1 (.t 13)), (some (10, false))⟩,
  ⟨(some 15), (.bin .gtr (.t 12) (.t 14)), (some (10, false))⟩,
  ⟨(some 16), (.pick (.t 10) (.k (.d (.bool true))) (.t 15)), none⟩,
  ⟨(some 1), (.mv (.t 16)), none⟩]
def e217 : EFunc := ⟨17, [(.tmp 1)],
  .seq (.region false a217_r0) (.seq (.region false a217_r1) (.ret))⟩
end Go.Proofs.YtbecgpajbcafiaaGreat
