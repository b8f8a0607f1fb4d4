/-
  Functions of the program, in the small language (written by program).
  The table of functions.
-/
import Derived.Test.YtbecgpajbcafiaaGreatKD
import Derived.Test.YtbecgpajbcafiaaGreatKE
import Derived.Test.YtbecgpajbcafiaaGreatKT0
import Derived.Test.YtbecgpajbcafiaaGreatKT1
set_option linter.unusedVariables false
set_option maxRecDepth 100000
namespace Go.Proofs.YtbecgpajbcafiaaGreat
open Go.Av Go.RowKit

def a218_r0 : List AOper := [
  ⟨(some 1), (.mv (.k (.d (.bool false)))), none⟩]
def a218_r1 : List AOper := [
  ⟨(some 2), (.fld 4 (.t 0)), none⟩,
  ⟨(some 3), (.load false 1 (.t 2)), none⟩,
  ⟨(some 4), (.len false (.t 3)), none⟩,
  ⟨(some 5), (.bin .gtr (.t 4) (.k (.d (.int .i64 0)))), none⟩,
  ⟨(some 1), (.mv (.t 5)), none⟩]
def e218 : EFunc := ⟨6, [(.tmp 1)],
  .seq (.region false a218_r0) (.seq (.region false a218_r1) (.ret))⟩

def a219_r0 : List AOper := [
  ⟨(some 1), (.mv (.k (.d (.bool false)))), none⟩]
def a219_r1 : List AOper := [
  ⟨(some 2), (.fld 2 (.t 0)), none⟩,
  ⟨(some 3), (.load false 1 (.t 2)), none⟩,
  ⟨(some 4), (.bin .neq (.t 3) (.k (.d (.int .i64 0)))), none⟩,
  ⟨(some 5), (.mv (.t 4)), none⟩,
  ⟨(some 6), (.fld 3 (.t 0)), (some (5, false))⟩,
  ⟨(some 7), (.load false 1 (.t 6)), (some (5, false))⟩,
  ⟨(some 8), (.bin .neq (.t 7) (.k (.d (.int .i64 0)))), (some (5, false))⟩,
  ⟨(some 9), (.pick (.t 5) (.k (.d (.bool true))) (.t 8)), none⟩,
  ⟨(some 1), (.mv (.t 9)), none⟩]
def e219 : EFunc := ⟨10, [(.tmp 1)],
  .seq (.region false a219_r0) (.seq (.region false a219_r1) (.ret))⟩

def a220_r0 : List AOper := [
  ⟨(some 1), (.mv (.k (.d (.bool false)))), none⟩]
def a220_r1 : List AOper := [
  ⟨(some 2), (.fld 4 (.t 0)), none⟩,
  ⟨(some 3), (.load false 1 (.t 2)), none⟩,
  ⟨(some 4), (.len false (.t 3)), none⟩,
  ⟨(some 5), (.bin .lss (.t 4) (.k (.d (.int .i64 1)))), none⟩,
  ⟨(some 6), (.mv (.t 5)), none⟩,
  ⟨(some 7), (.fld 4 (.t 0)), (some (6, false))⟩,
  ⟨(some 8), (.load false 1 (.t 7)), (some (6, false))⟩,
  ⟨(some 9), (.len false (.t 8)), (some (6, false))⟩,
  ⟨(some 10), (.bin .gtr (.t 9) (.k (.d (.int .i64 50)))), (some (6, false))⟩,
  ⟨(some 11), (.pick (.t 6) (.k (.d (.bool true))) (.t 10)), none⟩,
  ⟨(some 1), (.mv (.t 11)), none⟩]
def e220 : EFunc := ⟨12, [(.tmp 1)],
  .seq (.region false a220_r0) (.seq (.region false a220_r1) (.ret))⟩

def a221_r0 : List AOper := [
  ⟨(some 1), (.mv (.k (.d (.bool false)))), none⟩]
def a221_r1 : List AOper := [
  ⟨(some 2), (.fld 4 (.t 0)), none⟩,
  ⟨(some 3), (.load false 1 (.t 2)), none⟩,
  ⟨(some 4), (.call (.k (.cl 104 [] [])) [(.t 3), (.k (.cl 222 [] []))]), none⟩,
  ⟨(some 1), (.mv (.t 4)), none⟩]
def e221 : EFunc := ⟨5, [(.tmp 1)],
  .seq (.region false a221_r0) (.seq (.region false a221_r1) (.ret))⟩

def a222_r0 : List AOper := [
  ⟨(some 2), (.mv (.k (.d (.bool false)))), none⟩]
def a222_r1 : List AOper := [
  ⟨(some 3), (.mv (.t 0)), none⟩,
  ⟨(some 4), (.call (.k (.cl 214 [] [])) [(.t 3)]), none⟩,
  ⟨(some 5), (.un .not (.t 4)), none⟩,
  ⟨(some 2), (.mv (.t 5)), none⟩]
def e222 : EFunc := ⟨6, [(.tmp 2)],
  .seq (.region false a222_r0) (.seq (.region false a222_r1) (.ret))⟩

def a223_r0 : List AOper := [
  ⟨(some 1), (.mv (.k (.d (.bool false)))), none⟩]
def a223_r1 : List AOper := [
  ⟨(some 2), (.fld 4 (.t 0)), none⟩,
  ⟨(some 3), (.load false 1 (.t 2)), none⟩,
  ⟨(some 4), (.call (.k (.cl 224 [] [])) [(.t 3)]), none⟩,
  ⟨(some 5), (.un .not (.t 4)), none⟩,
  ⟨(some 1), (.mv (.t 5)), none⟩]
def e223 : EFunc := ⟨6, [(.tmp 1)],
  .seq (.region false a223_r0) (.seq (.region false a223_r1) (.ret))⟩

def a224_r0 : List AOper := [
  ⟨(some 2), (.mv (.k (.d (.bool false)))), none⟩]
def a224_r1 : List AOper := [
  ⟨(some 3), (.mv (.k (.d (.int .i64 1)))), none⟩]
def a224_r2 : List AOper := [
  ⟨(some 4), (.mv (.t 3)), none⟩,
  ⟨(some 5), (.mv (.t 0)), none⟩,
  ⟨(some 6), (.len false (.t 5)), none⟩,
  ⟨(some 7), (.bin .lss (.t 4) (.t 6)), none⟩]
def a224_r3 : List AOper := [
  ⟨(some 10), (.mv (.t 0)), none⟩,
  ⟨(some 11), (.mv (.t 3)), none⟩,
  ⟨(some 12), (.ixa 1 (.t 10) (.t 11)), none⟩,
  ⟨(some 13), (.load false 1 (.t 12)), none⟩,
  ⟨(some 14), (.mv (.t 0)), none⟩,
  ⟨(some 15), (.mv (.t 3)), none⟩,
  ⟨(some 16), (.bin .sub (.t 15) (.k (.d (.int .i64 1)))), none⟩,
  ⟨(some 17), (.ixa 1 (.t 14) (.t 16)), none⟩,
  ⟨(some 18), (.load false 1 (.t 17)), none⟩,
  ⟨(some 19), (.bin .leq (.t 13) (.t 18)), none⟩]
def a224_r4 : List AOper := [
  ⟨(some 2), (.mv (.k (.d (.bool false)))), none⟩]
def a224_r5 : List AOper := [
  ⟨(some 8), (.mv (.t 3)), none⟩,
  ⟨(some 9), (.bin .add (.t 8) (.k (.d (.int .i64 1)))), none⟩,
  ⟨(some 3), (.mv (.t 9)), none⟩]
def a224_r6 : List AOper := [
  ⟨(some 2), (.mv (.k (.d (.bool true)))), none⟩]
def l224_0 : ECode :=
  .seq (.seq (.region false a224_r2) (.cond (.t 7) (.skip) (.exit 0))) (.seq (.block 1 (.seq (.region true a224_r3) (.cond (.t 19) (.seq (.region false a224_r4) (.ret)) (.skip)))) (.region false a224_r5))
def e224 : EFunc := ⟨20, [(.tmp 2)],
  .seq (.region false a224_r0) (.seq (.seq (.region false a224_r1) (.block 0 (.loop [true, false, false, true] [false, false, true] l224_0))) (.seq (.region false a224_r6) (.ret)))⟩

def a225_r0 : List AOper := [
  ⟨(some 2), (.mv (.k (.d (.bool false)))), none⟩]
def a225_r1 : List AOper := [
  ⟨(some 3), (.mv (.t 0)), none⟩,
  ⟨(some 4), (.bin .lss (.t 3) (.k (.d (.int .i64 (-1000))))), none⟩,
  ⟨(some 5), (.mv (.t 4)), none⟩,
  ⟨(some 6), (.mv (.t 0)), (some (5, false))⟩,
  ⟨(some 7), (.bin .gtr (.t 6) (.k (.d (.int .i64 1000)))), (some (5, false))⟩,
  ⟨(some 8), (.pick (.t 5) (.k (.d (.bool true))) (.t 7)), none⟩,
  ⟨(some 2), (.mv (.t 8)), none⟩]
def e225 : EFunc := ⟨9, [(.tmp 2)],
  .seq (.region false a225_r0) (.seq (.region false a225_r1) (.ret))⟩

def a226_r0 : List AOper := [
  ⟨(some 4), (.mv (.k (.d (.bool false)))), none⟩]
def a226_r1 : List AOper := [
  ⟨(some 5), (.mv (.t 0)), none⟩,
  ⟨(some 6), (.mv (.t 1)), none⟩,
  ⟨(some 7), (.call (.k (.cl 255 [] [])) [(.t 5), (.t 6)]), none⟩,
  ⟨(some 8), (.bin .geq (.t 7) (.k (.d (.int .i64 0)))), none⟩,
  ⟨(some 4), (.mv (.t 8)), none⟩]
def e226 : EFunc := ⟨9, [(.tmp 4)],
  .seq (.region false a226_r0) (.seq (.region false a226_r1) (.ret))⟩

def a227_r0 : List AOper := [
  ⟨(some 4), (.mv (.k (.d (.bool false)))), none⟩]
def a227_r1 : List AOper := [
  ⟨(some 5), (.mv (.t 0)), none⟩,
  ⟨(some 6), (.call (.k (.cl 234 [] [])) [(.t 5)]), none⟩,
  ⟨(some 7), (.mv (.t 6)), none⟩,
  ⟨(some 8), (.mv (.t 1)), (some (7, true))⟩,
  ⟨(some 9), (.call (.k (.cl 228 [] [])) [(.t 8)]), (some (7, true))⟩,
  ⟨(some 10), (.pick (.t 7) (.t 9) (.k (.d (.bool false)))), none⟩,
  ⟨(some 11), (.mv (.t 10)), none⟩,
  ⟨(some 12), (.mv (.t 1)), (some (11, true))⟩,
  ⟨(some 13), (.len false (.t 12)), (some (11, true))⟩,
  ⟨(some 14), (.bin .leq (.t 13) (.k (.d (.int .i64 8)))), (some (11, true))⟩,
  ⟨(some 15), (.pick (.t 11) (.t 14) (.k (.d (.bool false)))), none⟩,
  ⟨(some 4), (.mv (.t 15)), none⟩]
def e227 : EFunc := ⟨16, [(.tmp 4)],
  .seq (.region false a227_r0) (.seq (.region false a227_r1) (.ret))⟩

def a228_r0 : List AOper := [
  ⟨(some 1), (.box 25 false 1 (.t 0)), none⟩,
  ⟨(some 2), (.mv (.k (.d (.bool false)))), none⟩]
def a228_r1 : List AOper := [
  ⟨(some 3), (.load false 1 (.t 1)), none⟩,
  ⟨(some 4), (.len false (.t 3)), none⟩,
  ⟨(some 5), (.bin .geq (.t 4) (.k (.d (.int .i64 1)))), none⟩,
  ⟨(some 6), (.mv (.t 5)), none⟩,
  ⟨(some 7), (.load false 1 (.t 1)), (some (6, true))⟩,
  ⟨(some 8), (.len false (.t 7)), (some (6, true))⟩,
  ⟨(some 9), (.bin .leq (.t 8) (.k (.d (.int .i64 4096)))), (some (6, true))⟩,
  ⟨(some 10), (.pick (.t 6) (.t 9) (.k (.d (.bool false)))), none⟩,
  ⟨(some 11), (.mv (.t 10)), none⟩,
  ⟨(some 12), (.load false 1 (.t 1)), (some (11, true))⟩,
  ⟨(some 13), (.mkfn 256 [] [(.t 1)]), (some (11, true))⟩,
  ⟨(some 14), (.call (.k (.cl 55 [] [])) [(.t 12), (.t 13)]), (some (11, true))⟩,
  ⟨(some 15), (.un .not (.t 14)), (some (11, true))⟩,
  ⟨(some 16), (.pick (.t 11) (.t 15) (.k (.d (.bool false)))), none⟩,
  ⟨(some 2), (.mv (.t 16)), none⟩]
def e228 : EFunc := ⟨17, [(.tmp 2)],
  .seq (.region false a228_r0) (.seq (.region false a228_r1) (.ret))⟩

def a229_r0 : List AOper := [
  ⟨(some 4), (.mv (.k (.d (.bool false)))), none⟩]
def a229_r1 : List AOper := [
  ⟨(some 5), (.mv (.t 0)), none⟩,
  ⟨(some 6), (.len false (.t 5)), none⟩,
  ⟨(some 7), (.mv (.t 1)), none⟩,
  ⟨(some 8), (.len false (.t 7)), none⟩,
  ⟨(some 9), (.bin .eql (.t 6) (.t 8)), none⟩,
  ⟨(some 10), (.mv (.t 9)), none⟩,
  ⟨(some 11), (.mv (.t 0)), (some (10, true))⟩,
  ⟨(some 12), (.call (.k (.cl 38 [] [])) [(.t 11)]), (some (10, true))⟩,
  ⟨(some 13), (.pick (.t 10) (.t 12) (.k (.d (.bool false)))), none⟩,
  ⟨(some 14), (.mv (.t 13)), none⟩,
  ⟨(some 15), (.mv (.t 1)), (some (14, true))⟩,
  ⟨(some 16), (.call (.k (.cl 38 [] [])) [(.t 15)]), (some (14, true))⟩,
  ⟨(some 17), (.pick (.t 14) (.t 16) (.k (.d (.bool false)))), none⟩,
  ⟨(some 4), (.mv (.t 17)), none⟩]
def e229 : EFunc := ⟨18, [(.tmp 4)],
  .seq (.region false a229_r0) (.seq (.region false a229_r1) (.ret))⟩

def a230_r0 : List AOper := [
  ⟨(some 6), (.nilsl 3 1), none⟩]
def a230_r1 : List AOper := [
  ⟨(some 7), (.nilsl 3 1), none⟩]
def a230_r2 : List AOper := [
  ⟨(some 10), (.mv (.t 1)), none⟩,
  ⟨(some 11), (.len false (.t 10)), none⟩,
  ⟨(some 12), (.mv (.k (.d (.int .i64 0)))), none⟩]
def a230_r3 : List AOper := [
  ⟨(some 13), (.bin .lss (.t 12) (.t 11)), none⟩]
def a230_r4 : List AOper := [
  ⟨(some 14), (.ixa 1 (.t 10) (.t 12)), none⟩,
  ⟨(some 15), (.load false 1 (.t 14)), none⟩,
  ⟨(some 9), (.mv (.t 15)), none⟩]
def a230_r5 : List AOper := [
  ⟨(some 16), (.mv (.t 7)), none⟩,
  ⟨(some 17), (.mv (.t 0)), none⟩,
  ⟨(some 18), (.mv (.t 9)), none⟩,
  ⟨(some 19), (.mv (.t 2)), none⟩,
  ⟨(some 20), (.call (.k (.cl 41 [] [])) [(.t 17), (.t 18), (.t 19)]), none⟩,
  ⟨(some 21), (.bsl 3 1 [(.t 20)]), none⟩,
  ⟨(some 22), (.app false 3 1 8 (.t 16) (.t 21)), none⟩,
  ⟨(some 7), (.mv (.t 22)), none⟩]
def a230_r6 : List AOper := [
  ⟨(some 23), (.bin .add (.t 12) (.k (.d (.int .i64 1)))), none⟩,
  ⟨(some 12), (.mv (.t 23)), none⟩]
def a230_r7 : List AOper := [
  ⟨(some 24), (.mv (.t 7)), none⟩,
  ⟨(some 6), (.mv (.t 24)), none⟩]
def l230_0 : ECode :=
  .seq (.region false a230_r3) (.seq (.cond (.t 13) (.skip) (.exit 0)) (.seq (.block 1 (.seq (.region false a230_r4) (.region false a230_r5))) (.region false a230_r6)))
def e230 : EFunc := ⟨25, [(.tmp 6)],
  .seq (.region false a230_r0) (.seq (.region false a230_r1) (.seq (.seq (.region false a230_r2) (.block 0 (.loop [true, false, true, false, false, false, false, true, false, false, true, true, true] [false, false, false, false, false, false, false, true] l230_0))) (.seq (.region false a230_r7) (.ret))))⟩

def a231_r0 : List AOper := [
  ⟨(some 5), (.load false 1 (.t 1)), none⟩,
  ⟨(some 6), (.len false (.t 5)), none⟩,
  ⟨(some 7), (.load false 1 (.t 2)), none⟩,
  ⟨(some 8), (.len false (.t 7)), none⟩,
  ⟨(some 9), (.mn [(.t 6), (.t 8)]), none⟩,
  ⟨(some 10), (.mv (.k (.d (.int .i64 0)))), none⟩]
def a231_r1 : List AOper := [
  ⟨(some 11), (.bin .lss (.t 10) (.t 9)), none⟩]
def a231_r2 : List AOper := [
  ⟨(some 12), (.mv (.t 10)), none⟩,
  ⟨(some 4), (.mv (.t 12)), none⟩]
def a231_r3 : List AOper := [
  ⟨(some 13), (.mv (.t 0)), none⟩,
  ⟨(some 14), (.load false 1 (.t 1)), none⟩,
  ⟨(some 15), (.mv (.t 4)), none⟩,
  ⟨(some 16), (.ixa 1 (.t 14) (.t 15)), none⟩,
  ⟨(some 17), (.load false 1 (.t 16)), none⟩,
  ⟨(some 18), (.load false 1 (.t 2)), none⟩,
  ⟨(some 19), (.mv (.t 4)), none⟩,
  ⟨(some 20), (.ixa 1 (.t 18) (.t 19)), none⟩,
  ⟨(some 21), (.load false 1 (.t 20)), none⟩,
  ⟨(some 22), (.call (.t 13) [(.t 17), (.t 21)]), none⟩,
  ⟨(some 23), (.un .not (.t 22)), none⟩]
def a231_r4 : List AOper := [
  ⟨(some 24), (.bin .add (.t 10) (.k (.d (.int .i64 1)))), none⟩,
  ⟨(some 10), (.mv (.t 24)), none⟩]
def l231_0 : ECode :=
  .seq (.region false a231_r1) (.seq (.cond (.t 11) (.skip) (.exit 0)) (.seq (.block 1 (.seq (.region false a231_r2) (.seq (.region true a231_r3) (.cond (.t 23) (.ret) (.skip))))) (.region false a231_r4)))
def e231 : EFunc := ⟨25, [],
  .seq (.region false a231_r0) (.block 0 (.loop [true, true, true, false, false, false, false, false, false, true, true] [] l231_0))⟩

def a232_r0 : List AOper := [
  ⟨(some 4), (.mv (.k (.d (.int .i64 0)))), none⟩,
  ⟨(some 5), (.mv (.k (.d (.bool false)))), none⟩]
def a232_r1 : List AOper := [
  ⟨(some 6), (.alloc 3 [(.d (.int .i64 0))]), none⟩,
  ⟨none, (.store 1 (.t 6) (.k (.d (.int .i64 0)))), none⟩]
def a232_r2 : List AOper := [
  ⟨(some 9), (.mkfn 257 [] [(.t 6)]), none⟩,
  ⟨(some 7), (.alloc 265 [.nilf]), none⟩,
  ⟨none, (.store 1 (.t 7) (.t 9)), none⟩]
def a232_r3 : List AOper := [
  ⟨(some 10), (.mv (.t 0)), none⟩]
def a232_r4 : List AOper := [
  ⟨(some 12), (.bin .eql (.t 10) (.k (.d (.int .i64 1)))), none⟩,
  ⟨(some 11), (.mv (.t 12)), none⟩]
def a232_r5 : List AOper := [
  ⟨(some 14), (.bin .eql (.t 10) (.k (.d (.int .i64 2)))), none⟩,
  ⟨(some 13), (.mv (.t 14)), none⟩]
def a232_r6 : List AOper := [
  ⟨(some 15), (.mkfn 258 [] [(.t 6)]), none⟩,
  ⟨none, (.store 1 (.t 7) (.t 15)), none⟩]
def a232_r7 : List AOper := [
  ⟨(some 17), (.bin .eql (.t 10) (.k (.d (.int .i64 3)))), none⟩,
  ⟨(some 16), (.mv (.t 17)), none⟩]
def a232_r8 : List AOper := [
  ⟨(some 18), (.mkfn 259 [] [(.t 6)]), none⟩,
  ⟨none, (.store 1 (.t 7) (.t 18)), none⟩]
def a232_r9 : List AOper := [
  ⟨(some 4), (.mv (.k (.d (.int .i64 0)))), none⟩,
  ⟨(some 5), (.mv (.k (.d (.bool false)))), none⟩]
def a232_r10 : List AOper := [
  ⟨(some 19), (.mv (.t 1)), none⟩]
def a232_r11 : List AOper := [
  ⟨(some 8), (.mv (.t 20)), none⟩]
def a232_r12 : List AOper := [
  ⟨(some 21), (.load false 1 (.t 7)), none⟩,
  ⟨(some 22), (.mv (.t 8)), none⟩,
  ⟨(some 23), (.call (.t 21) [(.t 22)]), none⟩]
def a232_r13 : List AOper := [
  ⟨(some 24), (.load false 1 (.t 6)), none⟩,
  ⟨(some 4), (.mv (.t 24)), none⟩,
  ⟨(some 5), (.mv (.k (.d (.bool true)))), none⟩]
def e232 : EFunc := ⟨25, [(.tmp 4), (.tmp 5)],
  .seq (.region false a232_r0) (.seq (.region false a232_r1) (.seq (.region false a232_r2) (.seq (.seq (.region false a232_r3) (.block 0 (.seq (.region false a232_r4) (.cond (.t 11) (.skip) (.seq (.region false a232_r5) (.cond (.t 13) (.region false a232_r6) (.seq (.region false a232_r7) (.cond (.t 16) (.region false a232_r8) (.seq (.region false a232_r9) (.ret)))))))))) (.seq (.seq (.region false a232_r10) (.block 1 (.rfunc [false, false, false, false, false, false, true, true, false, false, false, false, false, false, false, false, false, false, false, false, true] (.t 19) [20] (.region false a232_r11) (.block 2 (.region false a232_r12))))) (.seq (.region false a232_r13) (.ret))))))⟩

def a233_r0 : List AOper := [
  ⟨(some 7), (.load false 1 (.t 1)), none⟩,
  ⟨(some 8), (.len false (.t 7)), none⟩,
  ⟨(some 9), (.mv (.k (.d (.int .i64 0)))), none⟩]
def a233_r1 : List AOper := [
  ⟨(some 10), (.bin .lss (.t 9) (.t 8)), none⟩]
def a233_r2 : List AOper := [
  ⟨(some 11), (.mv (.t 9)), none⟩,
  ⟨(some 12), (.ixa 1 (.t 7) (.t 9)), none⟩,
  ⟨(some 13), (.load false 1 (.t 12)), none⟩,
  ⟨(some 5), (.mv (.t 11)), none⟩,
  ⟨(some 6), (.mv (.t 13)), none⟩]
def a233_r3 : List AOper := [
  ⟨(some 14), (.mv (.t 0)), none⟩,
  ⟨(some 15), (.load false 1 (.t 2)), none⟩,
  ⟨(some 16), (.fld 0 (.t 3)), none⟩,
  ⟨(some 17), (.load false 1 (.t 16)), none⟩,
  ⟨(some 18), (.mv (.t 5)), none⟩,
  ⟨(some 19), (.ixa 1 (.t 17) (.t 18)), none⟩,
  ⟨(some 20), (.load false 1 (.t 19)), none⟩,
  ⟨(some 21), (.fld 1 (.t 3)), none⟩,
  ⟨(some 22), (.load false 1 (.t 21)), none⟩,
  ⟨(some 23), (.mv (.t 5)), none⟩,
  ⟨(some 24), (.ixa 1 (.t 22) (.t 23)), none⟩,
  ⟨(some 25), (.load false 1 (.t 24)), none⟩,
  ⟨(some 26), (.mv (.t 6)), none⟩,
  ⟨(some 27), (.call (.t 15) [(.t 20), (.t 25), (.t 26)]), none⟩,
  ⟨(some 28), (.call (.t 14) [(.t 27)]), none⟩,
  ⟨(some 29), (.un .not (.t 28)), none⟩]
def a233_r4 : List AOper := [
  ⟨(some 30), (.bin .add (.t 9) (.k (.d (.int .i64 1)))), none⟩,
  ⟨(some 9), (.mv (.t 30)), none⟩]
def l233_0 : ECode :=
  .seq (.region false a233_r1) (.seq (.cond (.t 10) (.skip) (.exit 0)) (.seq (.block 1 (.seq (.region false a233_r2) (.seq (.region true a233_r3) (.cond (.t 29) (.ret) (.skip))))) (.region false a233_r4)))
def e233 : EFunc := ⟨31, [],
  .seq (.region false a233_r0) (.block 0 (.loop [true, false, true, true, false, false, false, true, true, true] [] l233_0))⟩

def a234_r0 : List AOper := [
  ⟨(some 2), (.mv (.k (.d (.bool false)))), none⟩]
def a234_r1 : List AOper := [
  ⟨(some 3), (.mv (.t 0)), none⟩,
  ⟨(some 4), (.call (.k (.cl 260 [] [])) [(.t 3), (.k (.d (.int .i64 0)))]), none⟩,
  ⟨(some 2), (.mv (.t 4)), none⟩]
def e234 : EFunc := ⟨5, [(.tmp 2)],
  .seq (.region false a234_r0) (.seq (.region false a234_r1) (.ret))⟩

def a235_r0 : List AOper := [
  ⟨(some 6), (.mv (.k (.d (.int .i64 0)))), none⟩]
def a235_r1 : List AOper := [
  ⟨(some 7), (.mv (.t 0)), none⟩,
  ⟨(some 8), (.call (.k (.cl 261 [] [])) [(.t 7)]), none⟩,
  ⟨(some 9), (.fldv false 0 1 (.t 8)), none⟩,
  ⟨(some 10), (.mv (.t 1)), none⟩,
  ⟨(some 11), (.mv (.t 2)), none⟩,
  ⟨(some 12), (.call (.t 9) [(.t 10), (.t 11)]), none⟩,
  ⟨(some 6), (.mv (.t 12)), none⟩]
def e235 : EFunc := ⟨13, [(.tmp 6)],
  .seq (.region false a235_r0) (.seq (.region false a235_r1) (.ret))⟩

def a236_r0 : List AOper := [
  ⟨(some 6), (.mv (.k (.d (.int .i64 0)))), none⟩]
def a236_r1 : List AOper := [
  ⟨(some 7), (.mv (.t 1)), none⟩,
  ⟨(some 8), (.mv (.t 0)), none⟩,
  ⟨(some 9), (.mv (.t 2)), none⟩,
  ⟨(some 10), (.mn [(.t 8), (.t 9)]), none⟩,
  ⟨(some 11), (.mx [(.t 7), (.t 10)]), none⟩,
  ⟨(some 6), (.mv (.t 11)), none⟩]
def e236 : EFunc := ⟨12, [(.tmp 6)],
  .seq (.region false a236_r0) (.seq (.region false a236_r1) (.ret))⟩

def a240_r0 : List AOper := [
  ⟨(some 4), (.mv (.k (.d (.bool false)))), none⟩]
def a240_r1 : List AOper := [
  ⟨(some 5), (.mv (.t 0)), none⟩,
  ⟨(some 6), (.mv (.t 1)), none⟩,
  ⟨(some 7), (.call (.k (.cl 263 [] [])) [(.t 5), (.t 6)]), none⟩,
  ⟨(some 8), (.bin .geq (.t 7) (.k (.d (.int .i64 0)))), none⟩,
  ⟨(some 4), (.mv (.t 8)), none⟩]
def e240 : EFunc := ⟨9, [(.tmp 4)],
  .seq (.region false a240_r0) (.seq (.region false a240_r1) (.ret))⟩

def a241_r0 : List AOper := [
  ⟨(some 2), (.box 77 true 5 (.t 0)), none⟩,
  ⟨(some 3), (.mv (.k (.d (.bool false)))), none⟩]
def a241_r1 : List AOper := [
  ⟨(some 4), (.fld 0 (.t 2)), none⟩,
  ⟨(some 5), (.load false 1 (.t 4)), none⟩,
  ⟨(some 6), (.load false 1 (.t 1)), none⟩,
  ⟨(some 7), (.bin .eql (.t 5) (.t 6)), none⟩,
  ⟨(some 3), (.mv (.t 7)), none⟩]
def e241 : EFunc := ⟨8, [(.tmp 3)],
  .seq (.region false a241_r0) (.seq (.region false a241_r1) (.ret))⟩

def a253_r0 : List AOper := [
  ⟨(some 4), (.mv (.k (.d (.int .i64 0)))), none⟩,
  ⟨(some 5), (.mv (.k (.d (.int .i64 0)))), none⟩,
  ⟨(some 6), (.mv (.k (.d (.int .i64 0)))), none⟩]
def a253_r1 : List AOper := [
  ⟨(some 11), (.mv (.t 0)), none⟩,
  ⟨(some 12), (.call (.k (.cl 204 [] [])) [(.t 11)]), none⟩,
  ⟨(some 10), (.mv (.t 12)), none⟩,
  ⟨(some 13), (.ext (.t 10) 0), none⟩,
  ⟨(some 14), (.ext (.t 10) 1), none⟩,
  ⟨(some 15), (.ext (.t 10) 2), none⟩,
  ⟨(some 7), (.mv (.t 13)), none⟩,
  ⟨(some 8), (.mv (.t 14)), none⟩,
  ⟨(some 9), (.mv (.t 15)), none⟩]
def a253_r2 : List AOper := [
  ⟨(some 17), (.mv (.t 9)), none⟩,
  ⟨(some 18), (.bin .neq (.t 17) (.k (.d (.int .i64 0)))), none⟩,
  ⟨(some 16), (.mv (.t 18)), none⟩]
def a253_r3 : List AOper := [
  ⟨(some 19), (.mv (.t 9)), none⟩,
  ⟨(some 4), (.mv (.k (.d (.int .i64 0)))), none⟩,
  ⟨(some 5), (.mv (.k (.d (.int .i64 0)))), none⟩,
  ⟨(some 6), (.mv (.t 19)), none⟩]
def a253_r4 : List AOper := [
  ⟨(some 21), (.mv (.t 7)), none⟩,
  ⟨(some 22), (.bin .lss (.t 21) (.k (.d (.int .i64 0)))), none⟩,
  ⟨(some 20), (.mv (.t 22)), none⟩]
def a253_r5 : List AOper := [
  ⟨(some 4), (.mv (.k (.d (.int .i64 0)))), none⟩,
  ⟨(some 5), (.mv (.k (.d (.int .i64 0)))), none⟩,
  ⟨(some 6), (.mv (.k (.d (.int .i64 11)))), none⟩]
def a253_r6 : List AOper := [
  ⟨(some 24), (.mv (.t 7)), none⟩,
  ⟨(some 25), (.mv (.t 0)), none⟩,
  ⟨(some 26), (.len false (.t 25)), none⟩,
  ⟨(some 27), (.mv (.t 8)), none⟩,
  ⟨(some 28), (.bin .sub (.t 26) (.t 27)), none⟩,
  ⟨(some 29), (.mv (.t 1)), none⟩,
  ⟨(some 30), (.bin .quo (.t 28) (.t 29)), none⟩,
  ⟨(some 31), (.bin .gtr (.t 24) (.t 30)), none⟩,
  ⟨(some 23), (.mv (.t 31)), none⟩]
def a253_r7 : List AOper := [
  ⟨(some 4), (.mv (.k (.d (.int .i64 0)))), none⟩,
  ⟨(some 5), (.mv (.k (.d (.int .i64 0)))), none⟩,
  ⟨(some 6), (.mv (.k (.d (.int .i64 10)))), none⟩]
def a253_r8 : List AOper := [
  ⟨(some 32), (.mv (.t 7)), none⟩,
  ⟨(some 33), (.mv (.t 8)), none⟩,
  ⟨(some 4), (.mv (.t 32)), none⟩,
  ⟨(some 5), (.mv (.t 33)), none⟩,
  ⟨(some 6), (.mv (.k (.d (.int .i64 0)))), none⟩]
def e253 : EFunc := ⟨34, [(.tmp 4), (.tmp 5), (.tmp 6)],
  .seq (.region false a253_r0) (.seq (.region false a253_r1) (.seq (.block 0 (.seq (.region false a253_r2) (.cond (.t 16) (.seq (.region false a253_r3) (.ret)) (.seq (.region false a253_r4) (.cond (.t 20) (.seq (.region false a253_r5) (.ret)) (.seq (.region false a253_r6) (.cond (.t 23) (.seq (.region false a253_r7) (.ret)) (.skip)))))))) (.seq (.region false a253_r8) (.ret))))⟩

def a254_r0 : List AOper := [
  ⟨(some 4), (.nilsl 3 1), none⟩,
  ⟨(some 5), (.nilsl 3 1), none⟩,
  ⟨(some 6), (.mv (.k (.d (.bool false)))), none⟩]
def a254_r1 : List AOper := [
  ⟨(some 7), (.mv (.t 1)), none⟩,
  ⟨(some 8), (.bin .lss (.t 7) (.k (.d (.int .i64 0)))), none⟩,
  ⟨(some 9), (.mv (.t 8)), none⟩,
  ⟨(some 10), (.mv (.t 1)), (some (9, false))⟩,
  ⟨(some 11), (.mv (.t 0)), (some (9, false))⟩,
  ⟨(some 12), (.len false (.t 11)), (some (9, false))⟩,
  ⟨(some 13), (.bin .gtr (.t 10) (.t 12)), (some (9, false))⟩,
  ⟨(some 14), (.pick (.t 9) (.k (.d (.bool true))) (.t 13)), none⟩]
def a254_r2 : List AOper := [
  ⟨(some 4), (.nilsl 3 1), none⟩,
  ⟨(some 5), (.nilsl 3 1), none⟩,
  ⟨(some 6), (.mv (.k (.d (.bool false)))), none⟩]
def a254_r3 : List AOper := [
  ⟨(some 15), (.mv (.t 0)), none⟩,
  ⟨(some 16), (.mv (.t 1)), none⟩,
  ⟨(some 17), (.slc 1 (.t 15) none (some (.t 16))), none⟩,
  ⟨(some 18), (.mv (.t 0)), none⟩,
  ⟨(some 19), (.mv (.t 1)), none⟩,
  ⟨(some 20), (.slc 1 (.t 18) (some (.t 19)) none), none⟩,
  ⟨(some 4), (.mv (.t 17)), none⟩,
  ⟨(some 5), (.mv (.t 20)), none⟩,
  ⟨(some 6), (.mv (.k (.d (.bool true)))), none⟩]
def e254 : EFunc := ⟨21, [(.tmp 4), (.tmp 5), (.tmp 6)],
  .seq (.region false a254_r0) (.seq (.seq (.region false a254_r1) (.cond (.t 14) (.seq (.region false a254_r2) (.ret)) (.skip))) (.seq (.region true a254_r3) (.ret)))⟩

def a255_r0 : List AOper := [
  ⟨(some 4), (.mv (.k (.d (.int .i64 0)))), none⟩]
def a255_r1 : List AOper := [
  ⟨(some 6), (.mv (.t 0)), none⟩,
  ⟨(some 7), (.len false (.t 6)), none⟩,
  ⟨(some 8), (.mv (.k (.d (.int .i64 0)))), none⟩]
def a255_r2 : List AOper := [
  ⟨(some 9), (.bin .lss (.t 8) (.t 7)), none⟩]
def a255_r3 : List AOper := [
  ⟨(some 10), (.mv (.t 8)), none⟩,
  ⟨(some 5), (.mv (.t 10)), none⟩]
def a255_r4 : List AOper := [
  ⟨(some 11), (.mv (.t 1)), none⟩,
  ⟨(some 12), (.mv (.t 0)), none⟩,
  ⟨(some 13), (.mv (.t 5)), none⟩,
  ⟨(some 14), (.ixa 1 (.t 12) (.t 13)), none⟩,
  ⟨(some 15), (.load false 1 (.t 14)), none⟩,
  ⟨(some 16), (.call (.t 11) [(.t 15)]), none⟩]
def a255_r5 : List AOper := [
  ⟨(some 17), (.mv (.t 5)), none⟩,
  ⟨(some 4), (.mv (.t 17)), none⟩]
def a255_r6 : List AOper := [
  ⟨(some 18), (.bin .add (.t 8) (.k (.d (.int .i64 1)))), none⟩,
  ⟨(some 8), (.mv (.t 18)), none⟩]
def a255_r7 : List AOper := [
  ⟨(some 4), (.mv (.k (.d (.int .i64 (-1))))), none⟩]
def l255_0 : ECode :=
  .seq (.region false a255_r2) (.seq (.cond (.t 9) (.skip) (.exit 0)) (.seq (.block 1 (.seq (.region false a255_r3) (.seq (.region false a255_r4) (.cond (.t 16) (.seq (.region false a255_r5) (.ret)) (.skip))))) (.region false a255_r6)))
def e255 : EFunc := ⟨19, [(.tmp 4)],
  .seq (.region false a255_r0) (.seq (.seq (.region false a255_r1) (.block 0 (.loop [true, true, false, false, false, false, false, true, true] [false, false, false, false, true] l255_0))) (.seq (.region false a255_r7) (.ret)))⟩

def a256_r0 : List AOper := [
  ⟨(some 3), (.mv (.k (.d (.bool false)))), none⟩]
def a256_r1 : List AOper := [
  ⟨(some 4), (.load false 1 (.t 1)), none⟩,
  ⟨(some 5), (.ixa 1 (.t 4) (.k (.d (.int .i64 0)))), none⟩,
  ⟨(some 6), (.load false 1 (.t 5)), none⟩,
  ⟨(some 7), (.mv (.t 0)), none⟩,
  ⟨(some 8), (.call (.k (.cl 229 [] [])) [(.t 6), (.t 7)]), none⟩,
  ⟨(some 9), (.un .not (.t 8)), none⟩,
  ⟨(some 3), (.mv (.t 9)), none⟩]
def e256 : EFunc := ⟨10, [(.tmp 3)],
  .seq (.region false a256_r0) (.seq (.region false a256_r1) (.ret))⟩

def a257_r0 : List AOper := [
  ⟨(some 3), (.load false 1 (.t 1)), none⟩,
  ⟨(some 4), (.mv (.t 0)), none⟩,
  ⟨(some 5), (.bin .add (.t 3) (.t 4)), none⟩,
  ⟨none, (.store 1 (.t 1) (.t 5)), none⟩]
def e257 : EFunc := ⟨6, [],
  .region false a257_r0⟩

def a258_r0 : List AOper := [
  ⟨(some 3), (.load false 1 (.t 1)), none⟩,
  ⟨(some 4), (.mv (.t 0)), none⟩,
  ⟨(some 5), (.mv (.t 0)), none⟩,
  ⟨(some 6), (.bin .mul (.t 4) (.t 5)), none⟩,
  ⟨(some 7), (.bin .add (.t 3) (.t 6)), none⟩,
  ⟨none, (.store 1 (.t 1) (.t 7)), none⟩]
def e258 : EFunc := ⟨8, [],
  .region false a258_r0⟩

def a259_r0 : List AOper := [
  ⟨(some 3), (.load false 1 (.t 1)), none⟩,
  ⟨(some 4), (.mv (.t 0)), none⟩,
  ⟨(some 5), (.mx [(.t 3), (.t 4)]), none⟩,
  ⟨none, (.store 1 (.t 1) (.t 5)), none⟩]
def e259 : EFunc := ⟨6, [],
  .region false a259_r0⟩

def a260_r0 : List AOper := [
  ⟨(some 4), (.mv (.k (.d (.bool false)))), none⟩]
def a260_r1 : List AOper := [
  ⟨(some 5), (.mv (.t 0)), none⟩,
  ⟨(some 6), (.bin .geq (.t 5) (.k (.d (.int .i64 1)))), none⟩,
  ⟨(some 7), (.mv (.t 6)), none⟩,
  ⟨(some 8), (.mv (.t 0)), (some (7, true))⟩,
  ⟨(some 9), (.bin .leq (.t 8) (.k (.d (.int .i64 3)))), (some (7, true))⟩,
  ⟨(some 10), (.pick (.t 7) (.t 9) (.k (.d (.bool false)))), none⟩,
  ⟨(some 11), (.mv (.t 10)), none⟩,
  ⟨(some 12), (.mv (.t 1)), (some (11, true))⟩,
  ⟨(some 13), (.call (.k (.cl 236 [] [])) [(.t 12), (.k (.d (.int .i64 0))), (.k (.d (.int .i64 134217728)))]), (some (11, true))⟩,
  ⟨(some 14), (.mv (.t 1)), (some (11, true))⟩,
  ⟨(some 15), (.bin .eql (.t 13) (.t 14)), (some (11, true))⟩,
  ⟨(some 16), (.pick (.t 11) (.t 15) (.k (.d (.bool false)))), none⟩,
  ⟨(some 4), (.mv (.t 16)), none⟩]
def e260 : EFunc := ⟨17, [(.tmp 4)],
  .seq (.region false a260_r0) (.seq (.region false a260_r1) (.ret))⟩

def a261_r0 : List AOper := [
  ⟨(some 2), (.alloc 267 [.nilf, .nilf]), none⟩]
def a261_r1 : List AOper := [
  ⟨(some 3), (.mv (.t 0)), none⟩,
  ⟨(some 4), (.bin .eql (.t 3) (.k (.d (.int .i64 2)))), none⟩]
def a261_r2 : List AOper := [
  ⟨(some 5), (.call (.k (.cl 268 [] [])) []), none⟩,
  ⟨none, (.store 2 (.t 2) (.t 5)), none⟩]
def a261_r3 : List AOper := [
  ⟨(some 6), (.call (.k (.cl 269 [] [])) []), none⟩,
  ⟨none, (.store 2 (.t 2) (.t 6)), none⟩]
def e261 : EFunc := ⟨7, [(.cell 2 true 2)],
  .seq (.region false a261_r0) (.seq (.seq (.region false a261_r1) (.cond (.t 4) (.seq (.region false a261_r2) (.ret)) (.skip))) (.seq (.region false a261_r3) (.ret)))⟩

def a263_r0 : List AOper := [
  ⟨(some 4), (.mv (.k (.d (.int .i64 0)))), none⟩]
def a263_r1 : List AOper := [
  ⟨(some 6), (.mv (.t 0)), none⟩,
  ⟨(some 7), (.len false (.t 6)), none⟩,
  ⟨(some 8), (.mv (.k (.d (.int .i64 0)))), none⟩]
def a263_r2 : List AOper := [
  ⟨(some 9), (.bin .lss (.t 8) (.t 7)), none⟩]
def a263_r3 : List AOper := [
  ⟨(some 10), (.mv (.t 8)), none⟩,
  ⟨(some 5), (.mv (.t 10)), none⟩]
def a263_r4 : List AOper := [
  ⟨(some 11), (.mv (.t 1)), none⟩,
  ⟨(some 12), (.mv (.t 0)), none⟩,
  ⟨(some 13), (.mv (.t 5)), none⟩,
  ⟨(some 14), (.ixa 2 (.t 12) (.t 13)), none⟩,
  ⟨(some 15), (.load true 2 (.t 14)), none⟩,
  ⟨(some 16), (.call (.t 11) [(.t 15)]), none⟩]
def a263_r5 : List AOper := [
  ⟨(some 17), (.mv (.t 5)), none⟩,
  ⟨(some 4), (.mv (.t 17)), none⟩]
def a263_r6 : List AOper := [
  ⟨(some 18), (.bin .add (.t 8) (.k (.d (.int .i64 1)))), none⟩,
  ⟨(some 8), (.mv (.t 18)), none⟩]
def a263_r7 : List AOper := [
  ⟨(some 4), (.mv (.k (.d (.int .i64 (-1))))), none⟩]
def l263_0 : ECode :=
  .seq (.region false a263_r2) (.seq (.cond (.t 9) (.skip) (.exit 0)) (.seq (.block 1 (.seq (.region false a263_r3) (.seq (.region false a263_r4) (.cond (.t 16) (.seq (.region false a263_r5) (.ret)) (.skip))))) (.region false a263_r6)))
def e263 : EFunc := ⟨19, [(.tmp 4)],
  .seq (.region false a263_r0) (.seq (.seq (.region false a263_r1) (.block 0 (.loop [true, true, false, false, false, false, false, true, true] [false, false, false, false, true] l263_0))) (.seq (.region false a263_r7) (.ret)))⟩

def a267_r0 : List AOper := [
  ⟨(some 2), (.mv (.k (.d (.int .i64 0)))), none⟩]
def a267_r1 : List AOper := [
  ⟨(some 3), (.mv (.t 0)), none⟩,
  ⟨(some 4), (.cvi .u32 (.t 3)), none⟩,
  ⟨(some 5), (.call (.k (.cl 280 [] [])) [(.t 4)]), none⟩,
  ⟨(some 2), (.mv (.t 5)), none⟩]
def a267_r2 : List AOper := [
  ⟨(some 6), (.mv (.t 0)), none⟩,
  ⟨(some 7), (.call (.k (.cl 281 [] [])) [(.t 6)]), none⟩,
  ⟨(some 2), (.mv (.t 7)), none⟩]
def e267 : EFunc := ⟨8, [(.tmp 2)],
  .seq (.region false a267_r0) (.seq (.cond (.k (.d (.bool false))) (.seq (.region false a267_r1) (.ret)) (.skip)) (.seq (.region false a267_r2) (.ret)))⟩

def a268_r0 : List AOper := [
  ⟨(some 0), (.alloc 267 [.nilf, .nilf]), none⟩]
def a268_r1 : List AOper := [
  ⟨(some 1), (.mv (.k (.cl 282 [] []))), none⟩]
def a268_r2 : List AOper := [
  ⟨(some 2), (.mv (.t 1)), none⟩,
  ⟨(some 3), (.call (.t 2) [(.k (.d (.int .i64 (-1))))]), none⟩,
  ⟨(some 4), (.mv (.t 1)), none⟩,
  ⟨(some 5), (.call (.t 4) [(.k (.d (.int .i64 1)))]), none⟩,
  ⟨(some 6), (.build [.nilf, .nilf] [(0, (1, (.t 3))), (1, (1, (.t 5)))]), none⟩,
  ⟨none, (.store 2 (.t 0) (.t 6)), none⟩]
def e268 : EFunc := ⟨7, [(.cell 0 true 2)],
  .seq (.region false a268_r0) (.seq (.region false a268_r1) (.seq (.region false a268_r2) (.ret)))⟩

def a269_r0 : List AOper := [
  ⟨(some 0), (.alloc 267 [.nilf, .nilf]), none⟩]
def a269_r1 : List AOper := [
  ⟨(some 1), (.build [.nilf, .nilf] [(0, (1, (.k (.cl 285 [] [])))), (1, (1, (.k (.cl 286 [] []))))]), none⟩,
  ⟨none, (.store 2 (.t 0) (.t 1)), none⟩]
def e269 : EFunc := ⟨2, [(.cell 0 true 2)],
  .seq (.region false a269_r0) (.seq (.region false a269_r1) (.ret))⟩

def a280_r0 : List AOper := [
  ⟨(some 2), (.mv (.k (.d (.int .i64 0)))), none⟩]
def a280_r1 : List AOper := [
  ⟨(some 3), (.mv (.t 0)), none⟩,
  ⟨(some 4), (.bin .geq (.t 3) (.k (.d (.int .u32 65536)))), none⟩]
def a280_r2 : List AOper := [
  ⟨(some 5), (.mv (.t 0)), none⟩,
  ⟨(some 6), (.bin .shr (.t 5) (.k (.d (.int .u64 16)))), none⟩,
  ⟨(some 0), (.mv (.t 6)), none⟩]
def a280_r3 : List AOper := [
  ⟨(some 2), (.mv (.k (.d (.int .i64 16)))), none⟩]
def a280_r4 : List AOper := [
  ⟨(some 7), (.mv (.t 0)), none⟩,
  ⟨(some 8), (.bin .geq (.t 7) (.k (.d (.int .u32 256)))), none⟩]
def a280_r5 : List AOper := [
  ⟨(some 9), (.mv (.t 0)), none⟩,
  ⟨(some 10), (.bin .shr (.t 9) (.k (.d (.int .u64 8)))), none⟩,
  ⟨(some 0), (.mv (.t 10)), none⟩]
def a280_r6 : List AOper := [
  ⟨(some 11), (.mv (.t 2)), none⟩,
  ⟨(some 12), (.bin .add (.t 11) (.k (.d (.int .i64 8)))), none⟩,
  ⟨(some 2), (.mv (.t 12)), none⟩]
def a280_r7 : List AOper := [
  ⟨(some 13), (.mv (.t 2)), none⟩,
  ⟨(some 14), (.mv (.t 0)), none⟩,
  ⟨(some 15), (.cvi .u8 (.t 14)), none⟩,
  ⟨(some 16), (.ixs (.k (.d (.str ⟨#[0, 1, 2, 2, 3, 3, 3, 3, 4, 4, 4, 4, 4, 4, 4, 4, 5, 5, 5, 5, 5, 5, 5, 5, 5, 5, 5, 5, 5, 5, 5, 5, 6, 6, 6, 6, 6, 6, 6, 6, 6, 6, 6, 6, 6, 6, 6, 6, 6, 6, 6, 6, 6, 6, 6, 6, 6, 6, 6, 6, 6, 6, 6, 6, 7, 7, 7, 7, 7, 7, 7, 7, 7, 7, 7, 7, 7, 7, 7, 7, 7, 7, 7, 7, 7, 7, 7, 7, 7, 7, 7, 7, 7, 7, 7, 7, 7, 7, 7, 7, 7, 7, 7, 7, 7, 7, 7, 7, 7, 7, 7, 7, 7, 7, 7, 7, 7, 7, 7, 7, 7, 7, 7, 7, 7, 7, 7, 7, 8, 8, 8, 8, 8, 8, 8, 8, 8, 8, 8, 8, 8, 8, 8, 8, 8, 8, 8, 8, 8, 8, 8, 8, 8, 8, 8, 8, 8, 8, 8, 8, 8, 8, 8, 8, 8, 8, 8, 8, 8, 8, 8, 8, 8, 8, 8, 8, 8, 8, 8, 8, 8, 8, 8, 8, 8, 8, 8, 8, 8, 8, 8, 8, 8, 8, 8, 8, 8, 8, 8, 8, 8, 8, 8, 8, 8, 8, 8, 8, 8, 8, 8, 8, 8, 8, 8, 8, 8, 8, 8, 8, 8, 8, 8, 8, 8, 8, 8, 8, 8, 8, 8, 8, 8, 8, 8, 8, 8, 8, 8, 8, 8, 8, 8, 8, 8, 8, 8, 8, 8, 8, 8, 8, 8, 8, 8, 8]⟩))) (.t 15)), none⟩,
  ⟨(some 17), (.cvi .i64 (.t 16)), none⟩,
  ⟨(some 18), (.bin .add (.t 13) (.t 17)), none⟩,
  ⟨(some 2), (.mv (.t 18)), none⟩]
def e280 : EFunc := ⟨19, [(.tmp 2)],
  .seq (.region false a280_r0) (.seq (.seq (.region false a280_r1) (.cond (.t 4) (.seq (.region false a280_r2) (.region false a280_r3)) (.skip))) (.seq (.seq (.region false a280_r4) (.cond (.t 8) (.seq (.region false a280_r5) (.region false a280_r6)) (.skip))) (.seq (.region false a280_r7) (.ret))))⟩

def a281_r0 : List AOper := [
  ⟨(some 2), (.mv (.k (.d (.int .i64 0)))), none⟩]
def a281_r1 : List AOper := [
  ⟨(some 3), (.mv (.t 0)), none⟩,
  ⟨(some 4), (.bin .geq (.t 3) (.k (.d (.int .u64 4294967296)))), none⟩]
def a281_r2 : List AOper := [
  ⟨(some 5), (.mv (.t 0)), none⟩,
  ⟨(some 6), (.bin .shr (.t 5) (.k (.d (.int .u64 32)))), none⟩,
  ⟨(some 0), (.mv (.t 6)), none⟩]
def a281_r3 : List AOper := [
  ⟨(some 2), (.mv (.k (.d (.int .i64 32)))), none⟩]
def a281_r4 : List AOper := [
  ⟨(some 7), (.mv (.t 0)), none⟩,
  ⟨(some 8), (.bin .geq (.t 7) (.k (.d (.int .u64 65536)))), none⟩]
def a281_r5 : List AOper := [
  ⟨(some 9), (.mv (.t 0)), none⟩,
  ⟨(some 10), (.bin .shr (.t 9) (.k (.d (.int .u64 16)))), none⟩,
  ⟨(some 0), (.mv (.t 10)), none⟩]
def a281_r6 : List AOper := [
  ⟨(some 11), (.mv (.t 2)), none⟩,
  ⟨(some 12), (.bin .add (.t 11) (.k (.d (.int .i64 16)))), none⟩,
  ⟨(some 2), (.mv (.t 12)), none⟩]
def a281_r7 : List AOper := [
  ⟨(some 13), (.mv (.t 0)), none⟩,
  ⟨(some 14), (.bin .geq (.t 13) (.k (.d (.int .u64 256)))), none⟩]
def a281_r8 : List AOper := [
  ⟨(some 15), (.mv (.t 0)), none⟩,
  ⟨(some 16), (.bin .shr (.t 15) (.k (.d (.int .u64 8)))), none⟩,
  ⟨(some 0), (.mv (.t 16)), none⟩]
def a281_r9 : List AOper := [
  ⟨(some 17), (.mv (.t 2)), none⟩,
  ⟨(some 18), (.bin .add (.t 17) (.k (.d (.int .i64 8)))), none⟩,
  ⟨(some 2), (.mv (.t 18)), none⟩]
def a281_r10 : List AOper := [
  ⟨(some 19), (.mv (.t 2)), none⟩,
  ⟨(some 20), (.mv (.t 0)), none⟩,
  ⟨(some 21), (.cvi .u8 (.t 20)), none⟩,
  ⟨(some 22), (.ixs (.k (.d (.str ⟨#[0, 1, 2, 2, 3, 3, 3, 3, 4, 4, 4, 4, 4, 4, 4, 4, 5, 5, 5, 5, 5, 5, 5, 5, 5, 5, 5, 5, 5, 5, 5, 5, 6, 6, 6, 6, 6, 6, 6, 6, 6, 6, 6, 6, 6, 6, 6, 6, 6, 6, 6, 6, 6, 6, 6, 6, 6, 6, 6, 6, 6, 6, 6, 6, 7, 7, 7, 7, 7, 7, 7, 7, 7, 7, 7, 7, 7, 7, 7, 7, 7, 7, 7, 7, 7, 7, 7, 7, 7, 7, 7, 7, 7, 7, 7, 7, 7, 7, 7, 7, 7, 7, 7, 7, 7, 7, 7, 7, 7, 7, 7, 7, 7, 7, 7, 7, 7, 7, 7, 7, 7, 7, 7, 7, 7, 7, 7, 7, 8, 8, 8, 8, 8, 8, 8, 8, 8, 8, 8, 8, 8, 8, 8, 8, 8, 8, 8, 8, 8, 8, 8, 8, 8, 8, 8, 8, 8, 8, 8, 8, 8, 8, 8, 8, 8, 8, 8, 8, 8, 8, 8, 8, 8, 8, 8, 8, 8, 8, 8, 8, 8, 8, 8, 8, 8, 8, 8, 8, 8, 8, 8, 8, 8, 8, 8, 8, 8, 8, 8, 8, 8, 8, 8, 8, 8, 8, 8, 8, 8, 8, 8, 8, 8, 8, 8, 8, 8, 8, 8, 8, 8, 8, 8, 8, 8, 8, 8, 8, 8, 8, 8, 8, 8, 8, 8, 8, 8, 8, 8, 8, 8, 8, 8, 8, 8, 8, 8, 8, 8, 8, 8, 8, 8, 8, 8, 8]⟩))) (.t 21)), none⟩,
  ⟨(some 23), (.cvi .i64 (.t 22)), none⟩,
  ⟨(some 24), (.bin .add (.t 19) (.t 23)), none⟩,
  ⟨(some 2), (.mv (.t 24)), none⟩]
def e281 : EFunc := ⟨25, [(.tmp 2)],
  .seq (.region false a281_r0) (.seq (.seq (.region false a281_r1) (.cond (.t 4) (.seq (.region false a281_r2) (.region false a281_r3)) (.skip))) (.seq (.seq (.region false a281_r4) (.cond (.t 8) (.seq (.region false a281_r5) (.region false a281_r6)) (.skip))) (.seq (.seq (.region false a281_r7) (.cond (.t 14) (.seq (.region false a281_r8) (.region false a281_r9)) (.skip))) (.seq (.region false a281_r10) (.ret)))))⟩

def a282_r0 : List AOper := [
  ⟨(some 1), (.box 3 false 1 (.t 0)), none⟩,
  ⟨(some 2), (.mv (.k .nilf)), none⟩]
def a282_r1 : List AOper := [
  ⟨(some 3), (.mkfn 283 [] [(.t 1)]), none⟩,
  ⟨(some 2), (.mv (.t 3)), none⟩]
def e282 : EFunc := ⟨4, [(.tmp 2)],
  .seq (.region false a282_r0) (.seq (.region false a282_r1) (.ret))⟩

def a283_r0 : List AOper := [
  ⟨(some 5), (.mv (.k (.d (.int .i64 0)))), none⟩]
def a283_d1 : List DOp := [
  ⟨⟨(some 6), (.mv (.t 0)), none⟩, [], 0⟩,
  ⟨⟨(some 7), (.mv (.t 1)), none⟩, [false], 0⟩,
  ⟨⟨(some 8), (.bin .add (.t 6) (.t 7)), none⟩, [true, true], 0⟩,
  ⟨⟨(some 9), (.load false 1 (.t 2)), none⟩, [false, false, false], 0⟩,
  ⟨⟨(some 10), (.mv (.t 0)), none⟩, [false, false, false, false], 0⟩,
  ⟨⟨(some 11), (.bin .mul (.k (.d (.int .i64 4))) (.t 10)), none⟩, [false, false, false, false, true], 0⟩,
  ⟨⟨(some 12), (.mv (.t 1)), none⟩, [false, false, false, false, false, false], 0⟩,
  ⟨⟨(some 13), (.bin .mul (.t 11) (.t 12)), none⟩, [false, false, false, false, true, true, true], 0⟩,
  ⟨⟨(some 14), (.call (.k (.cl 284 [] [])) [(.t 13)]), none⟩, [false, false, false, false, true, true, true, true], 0⟩,
  ⟨⟨(some 15), (.bin .mul (.t 9) (.t 14)), none⟩, [false, false, false, true, true, true, true, true, true], 0⟩,
  ⟨⟨(some 16), (.bin .add (.t 8) (.t 15)), none⟩, [true, true, true, true, true, true, true, true, true, true], 0⟩,
  ⟨⟨(some 5), (.mv (.t 16)), none⟩, [true, true, true, true, true, true, true, true, true, true, true], 0⟩]
def e283 : EFunc := ⟨17, [(.tmp 5)],
  .seq (.region false a283_r0) (.seq (.regw a283_d1) (.ret))⟩

def a284_r0 : List AOper := [
  ⟨(some 2), (.mv (.k (.d (.int .i64 0)))), none⟩]
def a284_r1 : List AOper := [
  ⟨(some 5), (.mv (.t 0)), none⟩,
  ⟨(some 6), (.call (.k (.cl 236 [] [])) [(.t 5), (.k (.d (.int .i64 0))), (.k (.d (.int .i64 1152921504606846976)))]), none⟩,
  ⟨(some 0), (.mv (.t 6)), none⟩]
def a284_r2 : List AOper := [
  ⟨(some 7), (.mv (.t 0)), none⟩,
  ⟨(some 8), (.bin .eql (.t 7) (.k (.d (.int .i64 0)))), none⟩]
def a284_r3 : List AOper := [
  ⟨(some 2), (.mv (.k (.d (.int .i64 0)))), none⟩]
def a284_r4 : List AOper := [
  ⟨(some 9), (.mv (.t 0)), none⟩,
  ⟨(some 10), (.cvi .u64 (.t 9)), none⟩,
  ⟨(some 11), (.call (.k (.cl 267 [] [])) [(.t 10)]), none⟩,
  ⟨(some 12), (.bin .add (.t 11) (.k (.d (.int .i64 1)))), none⟩,
  ⟨(some 13), (.bin .quo (.t 12) (.k (.d (.int .i64 2)))), none⟩,
  ⟨(some 14), (.bin .shl (.k (.d (.int .i64 1))) (.t 13)), none⟩,
  ⟨(some 3), (.mv (.t 14)), none⟩]
def a284_r5 : List AOper := [
  ⟨(some 15), (.mv (.t 3)), none⟩,
  ⟨(some 16), (.mv (.t 0)), none⟩,
  ⟨(some 17), (.mv (.t 3)), none⟩,
  ⟨(some 18), (.bin .quo (.t 16) (.t 17)), none⟩,
  ⟨(some 19), (.bin .add (.t 15) (.t 18)), none⟩,
  ⟨(some 20), (.bin .quo (.t 19) (.k (.d (.int .i64 2)))), none⟩,
  ⟨(some 4), (.mv (.t 20)), none⟩]
def a284_r6 : List AOper := [
  ⟨(some 21), (.mv (.t 4)), none⟩,
  ⟨(some 22), (.mv (.t 3)), none⟩,
  ⟨(some 23), (.bin .geq (.t 21) (.t 22)), none⟩]
def a284_r7 : List AOper := [
  ⟨(some 24), (.mv (.t 3)), none⟩,
  ⟨(some 2), (.mv (.t 24)), none⟩]
def a284_r8 : List AOper := [
  ⟨(some 25), (.mv (.t 4)), none⟩,
  ⟨(some 3), (.mv (.t 25)), none⟩]
def l284_0 : ECode :=
  .block 1 (.seq (.region false a284_r5) (.seq (.seq (.region false a284_r6) (.cond (.t 23) (.seq (.region false a284_r7) (.ret)) (.skip))) (.region false a284_r8)))
def e284 : EFunc := ⟨26, [(.tmp 2)],
  .seq (.region false a284_r0) (.seq (.region false a284_r1) (.seq (.seq (.region false a284_r2) (.cond (.t 8) (.seq (.region false a284_r3) (.ret)) (.skip))) (.seq (.region false a284_r4) (.block 0 (.loop [true, false, false, true] [false, false, true] l284_0)))))⟩

def a285_r0 : List AOper := [
  ⟨(some 4), (.mv (.k (.d (.int .i64 0)))), none⟩]
def a285_r1 : List AOper := [
  ⟨(some 5), (.mv (.t 0)), none⟩,
  ⟨(some 6), (.mv (.t 1)), none⟩,
  ⟨(some 7), (.mx [(.t 5), (.t 6)]), none⟩,
  ⟨(some 8), (.mv (.t 0)), none⟩,
  ⟨(some 9), (.mv (.t 1)), none⟩,
  ⟨(some 10), (.mn [(.t 8), (.t 9)]), none⟩,
  ⟨(some 11), (.bin .sub (.t 7) (.t 10)), none⟩,
  ⟨(some 4), (.mv (.t 11)), none⟩]
def e285 : EFunc := ⟨12, [(.tmp 4)],
  .seq (.region false a285_r0) (.seq (.region false a285_r1) (.ret))⟩

def a286_r0 : List AOper := [
  ⟨(some 4), (.mv (.k (.d (.int .i64 0)))), none⟩]
def a286_r1 : List AOper := [
  ⟨(some 5), (.mv (.t 0)), none⟩,
  ⟨(some 6), (.mv (.t 1)), none⟩,
  ⟨(some 7), (.bin .add (.t 5) (.t 6)), none⟩,
  ⟨(some 4), (.mv (.t 7)), none⟩]
def e286 : EFunc := ⟨8, [(.tmp 4)],
  .seq (.region false a286_r0) (.seq (.region false a286_r1) (.ret))⟩
end Go.Proofs.YtbecgpajbcafiaaGreat

set_option linter.unusedVariables false
set_option maxRecDepth 100000
namespace Go.Proofs.YtbecgpajbcafiaaGreat
open Go.Av Go.RowKit

def tblL : List (Nat × EFunc) := [(10, e10), (13, e13), (14, e14), (15, e15), (17, e17), (19, e19), (22, e22), (25, e25), (27, e27), (31, e31), (34, e34), (37, e37), (38, e38), (41, e41), (46, e46), (47, e47), (48, e48), (49, e49), (52, e52), (53, e53), (54, e54), (55, e55), (56, e56), (57, e57), (58, e58), (59, e59), (60, e60), (64, e64), (65, e65), (66, e66), (67, e67), (72, e72), (73, e73), (76, e76), (77, e77), (84, e84), (85, e85), (87, e87), (88, e88), (89, e89), (90, e90), (91, e91), (92, e92), (93, e93), (95, e95), (97, e97), (98, e98), (99, e99), (100, e100), (104, e104), (106, e106), (107, e107), (117, e117), (118, e118), (119, e119), (120, e120), (121, e121), (122, e122), (123, e123), (124, e124), (125, e125), (126, e126), (127, e127), (128, e128), (129, e129), (130, e130), (131, e131), (132, e132), (133, e133), (134, e134), (135, e135), (136, e136), (137, e137), (138, e138), (139, e139), (140, e140), (141, e141), (142, e142), (146, e146), (147, e147), (149, e149), (150, e150), (151, e151), (152, e152), (153, e153), (154, e154), (160, e160), (161, e161), (162, e162), (163, e163), (164, e164), (165, e165), (166, e166), (167, e167), (168, e168), (169, e169), (170, e170), (171, e171), (172, e172), (173, e173), (174, e174), (175, e175), (176, e176), (177, e177), (178, e178), (179, e179), (180, e180), (181, e181), (185, e185), (187, e187), (188, e188), (189, e189), (190, e190), (199, e199), (200, e200), (201, e201), (202, e202), (203, e203), (204, e204), (205, e205), (206, e206), (207, e207), (208, e208), (209, e209), (210, e210), (211, e211), (212, e212), (213, e213), (214, e214), (215, e215), (216, e216), (217, e217), (218, e218), (219, e219), (220, e220), (221, e221), (222, e222), (223, e223), (224, e224), (225, e225), (226, e226), (227, e227), (228, e228), (229, e229), (230, e230), (231, e231), (232, e232), (233, e233), (234, e234), (235, e235), (236, e236), (240, e240), (241, e241), (253, e253), (254, e254), (255, e255), (256, e256), (257, e257), (258, e258), (259, e259), (260, e260), (261, e261), (263, e263), (267, e267), (268, e268), (269, e269), (280, e280), (281, e281), (282, e282), (283, e283), (284, e284), (285, e285), (286, e286)]

def tblOf (f : FuncId) : Option EFunc := tblL.lookup f

def env : Env := ⟨tblOf, primOf⟩

end Go.Proofs.YtbecgpajbcafiaaGreat
