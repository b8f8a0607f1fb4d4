/-
  Functions of the program, in the small language (written by program).
-/
import Derived.Test.YtbecgpajbcafiaaGreatKD
set_option linter.unusedVariables false
set_option maxRecDepth 100000
namespace Go.Proofs.YtbecgpajbcafiaaGreat
open Go.Av Go.RowKit

def a10_r0 : List AOper := [
  ⟨(some 2), (.box 33 true 10 (.t 0)), none⟩,
  ⟨(some 4), (.mv (.k (.d (.bool false)))), none⟩]
def a10_r1 : List AOper := [
  ⟨(some 11), (.load true 10 (.t 2)), none⟩,
  ⟨(some 12), (.call (.k (.cl 13 [] [])) [(.t 11)]), none⟩,
  ⟨(some 13), (.un .not (.t 12)), none⟩,
  ⟨(some 14), (.mv (.t 13)), none⟩,
  ⟨(some 15), (.mv (.t 1)), (some (14, false))⟩,
  ⟨(some 16), (.len false (.t 15)), (some (14, false))⟩,
  ⟨(some 17), (.bin .gtr (.t 16) (.k (.d (.int .i64 5000)))), (some (14, false))⟩,
  ⟨(some 18), (.pick (.t 14) (.k (.d (.bool true))) (.t 17)), none⟩]
def a10_r2 : List AOper := [
  ⟨(some 19), (.call (.k (.cl 14 [] [])) []), none⟩,
  ⟨(some 4), (.mv (.t 19)), none⟩]
def a10_r3 : List AOper := [
  ⟨(some 20), (.load true 10 (.t 2)), none⟩,
  ⟨(some 21), (.call (.k (.cl 46 [] [])) [(.t 20)]), none⟩,
  ⟨(some 5), (.mv (.t 21)), none⟩]
def a10_r4 : List AOper := [
  ⟨(some 23), (.mv (.t 5)), none⟩,
  ⟨(some 24), (.call (.k (.cl 47 [] [])) [(.t 23)]), none⟩,
  ⟨(some 22), (.mv (.t 24)), none⟩,
  ⟨(some 25), (.ext (.t 22) 0), none⟩,
  ⟨(some 26), (.ext (.t 22) 1), none⟩,
  ⟨(some 6), (.alloc 33 [(.d (.int .i64 0)), (.nils 3 1), (.nils 3 1), (.nils 119 2), (.d (.int .i64 0)), (.d (.int .i64 0)), (.d (.int .i64 0)), (.d (.int .i64 0)), (.d (.int .i64 0)), (.nils 100 4)]), none⟩,
  ⟨none, (.store 10 (.t 6) (.t 25)), none⟩,
  ⟨(some 7), (.mv (.t 26)), none⟩]
def a10_r5 : List AOper := [
  ⟨(some 28), (.mv (.t 1)), none⟩,
  ⟨(some 29), (.call (.k (.cl 47 [] [])) [(.t 28)]), none⟩,
  ⟨(some 27), (.mv (.t 29)), none⟩,
  ⟨(some 30), (.ext (.t 27) 0), none⟩,
  ⟨(some 31), (.ext (.t 27) 1), none⟩,
  ⟨(some 8), (.alloc 33 [(.d (.int .i64 0)), (.nils 3 1), (.nils 3 1), (.nils 119 2), (.d (.int .i64 0)), (.d (.int .i64 0)), (.d (.int .i64 0)), (.d (.int .i64 0)), (.d (.int .i64 0)), (.nils 100 4)]), none⟩,
  ⟨none, (.store 10 (.t 8) (.t 30)), none⟩,
  ⟨(some 9), (.mv (.t 31)), none⟩]
def a10_r6 : List AOper := [
  ⟨(some 32), (.mv (.t 1)), none⟩,
  ⟨(some 33), (.call (.k (.cl 48 [] [])) [(.t 32)]), none⟩,
  ⟨(some 10), (.alloc 42 [(.d (.int .i64 0)), (.nils 3 1), (.nils 3 1), (.nils 119 2), (.d (.int .i64 0)), (.d (.int .i64 0)), (.d (.int .i64 0)), (.d (.int .i64 0)), (.d (.int .i64 0)), (.nils 100 4), (.d (.int .i64 0))]), none⟩,
  ⟨none, (.store 11 (.t 10) (.t 33)), none⟩]
def a10_r7 : List AOper := [
  ⟨(some 34), (.mv (.t 5)), none⟩,
  ⟨(some 35), (.cvs (.t 34)), none⟩,
  ⟨(some 36), (.load true 10 (.t 2)), none⟩,
  ⟨(some 37), (.call (.k (.cl 49 [] [])) [(.t 36)]), none⟩,
  ⟨(some 38), (.cvs (.t 37)), none⟩,
  ⟨(some 39), (.bin .neq (.t 35) (.t 38)), none⟩,
  ⟨(some 40), (.mv (.t 39)), none⟩,
  ⟨(some 41), (.mv (.t 7)), (some (40, false))⟩,
  ⟨(some 42), (.bin .neq (.t 41) (.k (.d (.int .i64 0)))), (some (40, false))⟩,
  ⟨(some 43), (.pick (.t 40) (.k (.d (.bool true))) (.t 42)), none⟩,
  ⟨(some 44), (.mv (.t 43)), none⟩,
  ⟨(some 45), (.load true 10 (.t 6)), (some (44, false))⟩,
  ⟨(some 46), (.load true 10 (.t 2)), (some (44, false))⟩,
  ⟨(some 47), (.call (.k (.cl 17 [] [])) [(.t 45), (.t 46)]), (some (44, false))⟩,
  ⟨(some 48), (.un .not (.t 47)), (some (44, false))⟩,
  ⟨(some 49), (.pick (.t 44) (.k (.d (.bool true))) (.t 48)), none⟩,
  ⟨(some 50), (.mv (.t 49)), none⟩,
  ⟨(some 51), (.load true 10 (.t 8)), (some (50, false))⟩,
  ⟨(some 52), (.fld 0 (.t 10)), (some (50, false))⟩,
  ⟨(some 53), (.load true 10 (.t 52)), (some (50, false))⟩,
  ⟨(some 54), (.call (.k (.cl 17 [] [])) [(.t 51), (.t 53)]), (some (50, false))⟩,
  ⟨(some 55), (.un .not (.t 54)), (some (50, false))⟩,
  ⟨(some 56), (.pick (.t 50) (.k (.d (.bool true))) (.t 55)), none⟩,
  ⟨(some 57), (.mv (.t 56)), none⟩,
  ⟨(some 58), (.mv (.t 9)), (some (57, false))⟩,
  ⟨(some 59), (.fld 10 (.t 10)), (some (57, false))⟩,
  ⟨(some 60), (.load false 1 (.t 59)), (some (57, false))⟩,
  ⟨(some 61), (.bin .neq (.t 58) (.t 60)), (some (57, false))⟩,
  ⟨(some 62), (.pick (.t 57) (.k (.d (.bool true))) (.t 61)), none⟩]
def a10_r8 : List AOper := [
  ⟨(some 4), (.mv (.k (.d (.bool false)))), none⟩]
def a10_r9 : List AOper := [
  ⟨(some 63), (.call (.k (.cl 14 [] [])) []), none⟩,
  ⟨(some 64), (.mv (.t 63)), none⟩,
  ⟨(some 65), (.mv (.t 9)), (some (64, true))⟩,
  ⟨(some 66), (.bin .neq (.t 65) (.k (.d (.int .i64 0)))), (some (64, true))⟩,
  ⟨(some 67), (.mv (.t 66)), (some (64, true))⟩,
  ⟨(some 68), (.load true 10 (.t 8)), (some (67, false))⟩,
  ⟨(some 69), (.call (.k (.cl 46 [] [])) [(.t 68)]), (some (67, false))⟩,
  ⟨(some 70), (.cvs (.t 69)), (some (67, false))⟩,
  ⟨(some 71), (.mv (.t 1)), (some (67, false))⟩,
  ⟨(some 72), (.cvs (.t 71)), (some (67, false))⟩,
  ⟨(some 73), (.bin .eql (.t 70) (.t 72)), (some (67, false))⟩,
  ⟨(some 74), (.pick (.t 67) (.k (.d (.bool true))) (.t 73)), (some (64, true))⟩,
  ⟨(some 75), (.pick (.t 64) (.t 74) (.k (.d (.bool false)))), none⟩,
  ⟨(some 4), (.mv (.t 75)), none⟩]
def e10 : EFunc := ⟨76, [(.tmp 4)],
  .seq (.region false a10_r0) (.seq (.seq (.region false a10_r1) (.cond (.t 18) (.seq (.region false a10_r2) (.ret)) (.skip))) (.seq (.region false a10_r3) (.seq (.region false a10_r4) (.seq (.region false a10_r5) (.seq (.region false a10_r6) (.seq (.seq (.region true a10_r7) (.cond (.t 62) (.seq (.region false a10_r8) (.ret)) (.skip))) (.seq (.region true a10_r9) (.ret))))))))⟩

def a13_r0 : List AOper := [
  ⟨(some 1), (.box 33 true 10 (.t 0)), none⟩,
  ⟨(some 2), (.mv (.k (.d (.bool false)))), none⟩]
def a13_r1 : List AOper := [
  ⟨(some 5), (.fld 1 (.t 1)), none⟩,
  ⟨(some 6), (.fld 0 (.t 5)), none⟩,
  ⟨(some 7), (.load false 1 (.t 6)), none⟩,
  ⟨(some 8), (.len false (.t 7)), none⟩,
  ⟨(some 9), (.bin .gtr (.t 8) (.k (.d (.int .i64 40)))), none⟩,
  ⟨(some 10), (.mv (.t 9)), none⟩,
  ⟨(some 11), (.fld 1 (.t 1)), (some (10, false))⟩,
  ⟨(some 12), (.fld 1 (.t 11)), (some (10, false))⟩,
  ⟨(some 13), (.load false 1 (.t 12)), (some (10, false))⟩,
  ⟨(some 14), (.len false (.t 13)), (some (10, false))⟩,
  ⟨(some 15), (.bin .gtr (.t 14) (.k (.d (.int .i64 40)))), (some (10, false))⟩,
  ⟨(some 16), (.pick (.t 10) (.k (.d (.bool true))) (.t 15)), none⟩,
  ⟨(some 17), (.mv (.t 16)), none⟩,
  ⟨(some 18), (.fld 3 (.t 1)), (some (17, false))⟩,
  ⟨(some 19), (.load false 1 (.t 18)), (some (17, false))⟩,
  ⟨(some 20), (.len false (.t 19)), (some (17, false))⟩,
  ⟨(some 21), (.bin .gtr (.t 20) (.k (.d (.int .i64 20)))), (some (17, false))⟩,
  ⟨(some 22), (.pick (.t 17) (.k (.d (.bool true))) (.t 21)), none⟩,
  ⟨(some 23), (.mv (.t 22)), none⟩,
  ⟨(some 24), (.fld 9 (.t 1)), (some (23, false))⟩,
  ⟨(some 25), (.load false 1 (.t 24)), (some (23, false))⟩,
  ⟨(some 26), (.len false (.t 25)), (some (23, false))⟩,
  ⟨(some 27), (.bin .gtr (.t 26) (.k (.d (.int .i64 20)))), (some (23, false))⟩,
  ⟨(some 28), (.pick (.t 23) (.k (.d (.bool true))) (.t 27)), none⟩]
def a13_r2 : List AOper := [
  ⟨(some 2), (.mv (.k (.d (.bool false)))), none⟩]
def a13_r3 : List AOper := [
  ⟨(some 3), (.mv (.k (.d (.int .i64 0)))), none⟩]
def a13_r4 : List AOper := [
  ⟨(some 29), (.mv (.t 3)), none⟩,
  ⟨(some 30), (.fld 9 (.t 1)), none⟩,
  ⟨(some 31), (.load false 1 (.t 30)), none⟩,
  ⟨(some 32), (.len false (.t 31)), none⟩,
  ⟨(some 33), (.bin .lss (.t 29) (.t 32)), none⟩]
def a13_r5 : List AOper := [
  ⟨(some 36), (.fld 9 (.t 1)), none⟩,
  ⟨(some 37), (.load false 1 (.t 36)), none⟩,
  ⟨(some 38), (.mv (.t 3)), none⟩,
  ⟨(some 39), (.ixa 4 (.t 37) (.t 38)), none⟩,
  ⟨(some 40), (.fld 3 (.t 39)), none⟩,
  ⟨(some 41), (.load false 1 (.t 40)), none⟩,
  ⟨(some 42), (.len false (.t 41)), none⟩,
  ⟨(some 43), (.bin .gtr (.t 42) (.k (.d (.int .i64 60)))), none⟩]
def a13_r6 : List AOper := [
  ⟨(some 2), (.mv (.k (.d (.bool false)))), none⟩]
def a13_r7 : List AOper := [
  ⟨(some 4), (.mv (.k (.d (.int .i64 0)))), none⟩]
def a13_r8 : List AOper := [
  ⟨(some 44), (.mv (.t 4)), none⟩,
  ⟨(some 45), (.fld 9 (.t 1)), none⟩,
  ⟨(some 46), (.load false 1 (.t 45)), none⟩,
  ⟨(some 47), (.mv (.t 3)), none⟩,
  ⟨(some 48), (.ixa 4 (.t 46) (.t 47)), none⟩,
  ⟨(some 49), (.fld 3 (.t 48)), none⟩,
  ⟨(some 50), (.load false 1 (.t 49)), none⟩,
  ⟨(some 51), (.len false (.t 50)), none⟩,
  ⟨(some 52), (.bin .lss (.t 44) (.t 51)), none⟩]
def a13_r9 : List AOper := [
  ⟨(some 55), (.fld 9 (.t 1)), none⟩,
  ⟨(some 56), (.load false 1 (.t 55)), none⟩,
  ⟨(some 57), (.mv (.t 3)), none⟩,
  ⟨(some 58), (.ixa 4 (.t 56) (.t 57)), none⟩,
  ⟨(some 59), (.fld 3 (.t 58)), none⟩,
  ⟨(some 60), (.load false 1 (.t 59)), none⟩,
  ⟨(some 61), (.mv (.t 4)), none⟩,
  ⟨(some 62), (.ixa 1 (.t 60) (.t 61)), none⟩,
  ⟨(some 63), (.load false 1 (.t 62)), none⟩,
  ⟨(some 64), (.len true (.t 63)), none⟩,
  ⟨(some 65), (.bin .gtr (.t 64) (.k (.d (.int .i64 100)))), none⟩]
def a13_r10 : List AOper := [
  ⟨(some 2), (.mv (.k (.d (.bool false)))), none⟩]
def a13_r11 : List AOper := [
  ⟨(some 53), (.mv (.t 4)), none⟩,
  ⟨(some 54), (.bin .add (.t 53) (.k (.d (.int .i64 1)))), none⟩,
  ⟨(some 4), (.mv (.t 54)), none⟩]
def a13_r12 : List AOper := [
  ⟨(some 34), (.mv (.t 3)), none⟩,
  ⟨(some 35), (.bin .add (.t 34) (.k (.d (.int .i64 1)))), none⟩,
  ⟨(some 3), (.mv (.t 35)), none⟩]
def a13_r13 : List AOper := [
  ⟨(some 2), (.mv (.k (.d (.bool true)))), none⟩]
def l13_0 : ECode :=
  .seq (.seq (.region false a13_r8) (.cond (.t 52) (.skip) (.exit 2))) (.seq (.block 3 (.seq (.region false a13_r9) (.cond (.t 65) (.seq (.region false a13_r10) (.ret)) (.skip)))) (.region false a13_r11))
def l13_1 : ECode :=
  .seq (.seq (.region false a13_r4) (.cond (.t 33) (.skip) (.exit 0))) (.seq (.block 1 (.seq (.seq (.region false a13_r5) (.cond (.t 43) (.seq (.region false a13_r6) (.ret)) (.skip))) (.seq (.region false a13_r7) (.block 2 (.loop [false, true, false, true, true] [false, true, true, true] l13_0))))) (.region false a13_r12))
def e13 : EFunc := ⟨66, [(.tmp 2)],
  .seq (.region false a13_r0) (.seq (.seq (.region false a13_r1) (.cond (.t 28) (.seq (.region false a13_r2) (.ret)) (.skip))) (.seq (.seq (.region false a13_r3) (.block 0 (.loop [false, true, false, true] [false, false, true] l13_1))) (.seq (.region false a13_r13) (.ret))))⟩

def a14_r0 : List AOper := [
  ⟨(some 0), (.mv (.k (.d (.bool false)))), none⟩]
def a14_r1 : List AOper := [
  ⟨(some 18), (.call (.k (.cl 52 [] [])) []), none⟩,
  ⟨(some 17), (.mv (.t 18)), none⟩,
  ⟨(some 19), (.ext (.t 17) 0), none⟩,
  ⟨(some 20), (.ext (.t 17) 1), none⟩,
  ⟨(some 1), (.alloc 24 [(.d (.int .i64 0)), (.d (.int .i64 0)), (.nils 77 5)]), none⟩,
  ⟨none, (.store 3 (.t 1) (.t 19)), none⟩,
  ⟨(some 2), (.mv (.t 20)), none⟩]
def a14_r2 : List AOper := [
  ⟨(some 22), (.load true 3 (.t 1)), none⟩,
  ⟨(some 23), (.mv (.t 2)), none⟩,
  ⟨(some 24), (.call (.k (.cl 15 [] [])) [(.t 22), (.k (.nils 27 1)), (.t 23)]), none⟩,
  ⟨(some 21), (.mv (.t 24)), none⟩,
  ⟨(some 25), (.ext (.t 21) 0), none⟩,
  ⟨(some 26), (.ext (.t 21) 1), none⟩,
  ⟨(some 3), (.alloc 33 [(.d (.int .i64 0)), (.nils 3 1), (.nils 3 1), (.nils 119 2), (.d (.int .i64 0)), (.d (.int .i64 0)), (.d (.int .i64 0)), (.d (.int .i64 0)), (.d (.int .i64 0)), (.nils 100 4)]), none⟩,
  ⟨none, (.store 10 (.t 3) (.t 25)), none⟩,
  ⟨(some 4), (.mv (.t 26)), none⟩]
def a14_r3 : List AOper := [
  ⟨(some 27), (.bsl 9 1 [(.k (.d (.str ⟨#[98, 108, 117, 101]⟩))), (.k (.d (.str ⟨#[114, 101, 100]⟩)))]), none⟩,
  ⟨(some 28), (.build [(.d (.int .i64 0)), (.d (.int .i64 0)), (.d (.int .i64 0)), (.nils 9 1)] [(0, (1, (.k (.d (.int .i64 2))))), (3, (1, (.t 27)))]), none⟩,
  ⟨(some 29), (.build [(.d (.int .i64 0)), (.d (.int .i64 0)), (.d (.int .i64 0)), (.nils 9 1)] [(0, (1, (.k (.d (.int .i64 1))))), (1, (1, (.k (.d (.int .i64 2))))), (2, (1, (.k (.d (.int .i64 2)))))]), none⟩,
  ⟨(some 30), (.bsl 100 4 [(.t 28), (.t 29)]), none⟩,
  ⟨(some 5), (.mv (.t 30)), none⟩]
def a14_r4 : List AOper := [
  ⟨(some 31), (.bsl 3 1 [(.k (.d (.int .i64 3)))]), none⟩,
  ⟨(some 32), (.bsl 3 1 [(.k (.d (.int .i64 7)))]), none⟩,
  ⟨(some 33), (.build [(.nils 3 1), (.nils 3 1)] [(0, (1, (.t 31))), (1, (1, (.t 32)))]), none⟩,
  ⟨(some 34), (.mv (.t 5)), none⟩,
  ⟨(some 35), (.build [(.d (.int .i64 0)), (.nils 3 1), (.nils 3 1), (.nils 119 2), (.d (.int .i64 0)), (.d (.int .i64 0)), (.d (.int .i64 0)), (.d (.int .i64 0)), (.d (.int .i64 0)), (.nils 100 4)] [(0, (1, (.k (.d (.int .i64 2))))), (1, (2, (.t 33))), (4, (1, (.k (.d (.int .i64 1))))), (5, (1, (.k (.d (.int .i64 5))))), (6, (1, (.k (.d (.int .i64 1048577))))), (7, (1, (.k (.d (.int .i64 1))))), (8, (1, (.k (.d (.int .i64 4))))), (9, (1, (.t 34)))]), none⟩,
  ⟨(some 6), (.alloc 33 [(.d (.int .i64 0)), (.nils 3 1), (.nils 3 1), (.nils 119 2), (.d (.int .i64 0)), (.d (.int .i64 0)), (.d (.int .i64 0)), (.d (.int .i64 0)), (.d (.int .i64 0)), (.nils 100 4)]), none⟩,
  ⟨none, (.store 10 (.t 6) (.t 35)), none⟩]
def a14_r5 : List AOper := [
  ⟨(some 36), (.mv (.t 4)), none⟩,
  ⟨(some 37), (.bin .neq (.t 36) (.k (.d (.int .i64 0)))), none⟩,
  ⟨(some 38), (.mv (.t 37)), none⟩,
  ⟨(some 39), (.load true 10 (.t 3)), (some (38, false))⟩,
  ⟨(some 40), (.load true 10 (.t 6)), (some (38, false))⟩,
  ⟨(some 41), (.call (.k (.cl 17 [] [])) [(.t 39), (.t 40)]), (some (38, false))⟩,
  ⟨(some 42), (.un .not (.t 41)), (some (38, false))⟩,
  ⟨(some 43), (.pick (.t 38) (.k (.d (.bool true))) (.t 42)), none⟩,
  ⟨(some 44), (.mv (.t 43)), none⟩,
  ⟨(some 45), (.load true 3 (.t 1)), (some (44, false))⟩,
  ⟨(some 46), (.load true 10 (.t 3)), (some (44, false))⟩,
  ⟨(some 47), (.call (.k (.cl 19 [] [])) [(.t 45), (.k (.d (.int .i64 0))), (.t 46)]), (some (44, false))⟩,
  ⟨(some 48), (.un .not (.t 47)), (some (44, false))⟩,
  ⟨(some 49), (.pick (.t 44) (.k (.d (.bool true))) (.t 48)), none⟩]
def a14_r6 : List AOper := [
  ⟨(some 0), (.mv (.k (.d (.bool false)))), none⟩]
def a14_r7 : List AOper := [
  ⟨(some 51), (.load true 3 (.t 1)), none⟩,
  ⟨(some 52), (.load true 10 (.t 3)), none⟩,
  ⟨(some 53), (.bsl 3 1 [(.k (.d (.int .i64 0)))]), none⟩,
  ⟨(some 54), (.call (.k (.cl 25 [] [])) [(.t 51), (.t 52), (.t 53), (.k (.nils 3 1))]), none⟩,
  ⟨(some 50), (.mv (.t 54)), none⟩,
  ⟨(some 55), (.ext (.t 50) 0), none⟩,
  ⟨(some 56), (.ext (.t 50) 1), none⟩,
  ⟨(some 7), (.mv (.t 55)), none⟩,
  ⟨(some 8), (.mv (.t 56)), none⟩]
def a14_r8 : List AOper := [
  ⟨(some 58), (.load true 3 (.t 1)), none⟩,
  ⟨(some 59), (.load true 10 (.t 3)), none⟩,
  ⟨(some 60), (.build [(.d (.int .i64 0)), (.d (.str ⟨#[]⟩)), (.d (.int .i64 0)), (.d (.int .i64 0)), (.d (.str ⟨#[]⟩)), (.nils 54 6)] [(0, (1, (.k (.d (.int .i64 6))))), (1, (1, (.k (.d (.str ⟨#[119, 101, 105, 103, 104, 116]⟩))))), (3, (1, (.k (.d (.int .i64 1)))))]), none⟩,
  ⟨(some 61), (.call (.k (.cl 31 [] [])) [(.t 58), (.t 59), (.t 60)]), none⟩,
  ⟨(some 57), (.mv (.t 61)), none⟩,
  ⟨(some 62), (.ext (.t 57) 0), none⟩,
  ⟨(some 63), (.ext (.t 57) 1), none⟩,
  ⟨(some 9), (.mv (.t 62)), none⟩,
  ⟨(some 10), (.mv (.t 63)), none⟩]
def a14_r9 : List AOper := [
  ⟨(some 65), (.load true 3 (.t 1)), none⟩,
  ⟨(some 66), (.load true 10 (.t 3)), none⟩,
  ⟨(some 67), (.build [(.d (.int .i64 0)), (.d (.str ⟨#[]⟩)), (.d (.int .i64 0)), (.d (.int .i64 0)), (.d (.str ⟨#[]⟩)), (.nils 54 6)] [(0, (1, (.k (.d (.int .i64 7))))), (1, (1, (.k (.d (.str ⟨#[99, 111, 108, 111, 117, 114]⟩))))), (4, (1, (.k (.d (.str ⟨#[114, 101, 100]⟩)))))]), none⟩,
  ⟨(some 68), (.call (.k (.cl 31 [] [])) [(.t 65), (.t 66), (.t 67)]), none⟩,
  ⟨(some 64), (.mv (.t 68)), none⟩,
  ⟨(some 69), (.ext (.t 64) 0), none⟩,
  ⟨(some 70), (.ext (.t 64) 1), none⟩,
  ⟨(some 11), (.mv (.t 69)), none⟩,
  ⟨(some 12), (.mv (.t 70)), none⟩]
def a14_r10 : List AOper := [
  ⟨(some 72), (.load true 3 (.t 1)), none⟩,
  ⟨(some 73), (.load true 10 (.t 3)), none⟩,
  ⟨(some 74), (.build [(.d (.int .i64 0)), (.d (.str ⟨#[]⟩)), (.d (.int .i64 0)), (.d (.int .i64 0)), (.d (.str ⟨#[]⟩)), (.nils 54 6)] [(0, (1, (.k (.d (.int .i64 5))))), (1, (1, (.k (.d (.str ⟨#[119, 101, 105, 103, 104, 116]⟩)))))]), none⟩,
  ⟨(some 75), (.call (.k (.cl 31 [] [])) [(.t 72), (.t 73), (.t 74)]), none⟩,
  ⟨(some 71), (.mv (.t 75)), none⟩,
  ⟨(some 76), (.ext (.t 71) 0), none⟩,
  ⟨(some 77), (.ext (.t 71) 1), none⟩,
  ⟨(some 13), (.mv (.t 76)), none⟩,
  ⟨(some 14), (.mv (.t 77)), none⟩]
def a14_r11 : List AOper := [
  ⟨(some 78), (.load true 10 (.t 3)), none⟩,
  ⟨(some 79), (.build [(.d (.int .i64 0)), (.d (.int .i64 0))] [(1, (1, (.k (.d (.int .i64 9)))))]), none⟩,
  ⟨(some 80), (.call (.k (.cl 27 [] [])) [(.t 78), (.t 79)]), none⟩,
  ⟨(some 81), (.un .not (.t 80)), none⟩,
  ⟨(some 82), (.mv (.t 81)), none⟩,
  ⟨(some 83), (.load true 10 (.t 3)), (some (82, true))⟩,
  ⟨(some 84), (.build [(.d (.int .i64 0)), (.d (.int .i64 0))] [(0, (1, (.k (.d (.int .i64 1)))))]), (some (82, true))⟩,
  ⟨(some 85), (.call (.k (.cl 27 [] [])) [(.t 83), (.t 84)]), (some (82, true))⟩,
  ⟨(some 86), (.un .not (.t 85)), (some (82, true))⟩,
  ⟨(some 87), (.pick (.t 82) (.t 86) (.k (.d (.bool false)))), none⟩,
  ⟨(some 88), (.mv (.t 87)), none⟩,
  ⟨(some 89), (.load true 10 (.t 3)), (some (88, true))⟩,
  ⟨(some 90), (.build [(.d (.int .i64 0)), (.d (.int .i64 0))] [(0, (1, (.k (.d (.int .i64 3))))), (1, (1, (.k (.d (.int .i64 2)))))]), (some (88, true))⟩,
  ⟨(some 91), (.call (.k (.cl 27 [] [])) [(.t 89), (.t 90)]), (some (88, true))⟩,
  ⟨(some 92), (.pick (.t 88) (.t 91) (.k (.d (.bool false)))), none⟩,
  ⟨(some 15), (.mv (.t 92)), none⟩]
def a14_r12 : List AOper := [
  ⟨(some 93), (.mv (.t 2)), none⟩,
  ⟨(some 94), (.ixa 9 (.t 93) (.k (.d (.int .i64 0)))), none⟩,
  ⟨(some 95), (.load true 9 (.t 94)), none⟩,
  ⟨(some 16), (.alloc 50 [(.d (.int .i64 0)), (.d (.int .i64 0)), (.d (.int .i64 0)), (.d (.int .i64 0)), (.d (.int .i64 0)), (.d (.int .i64 0)), (.d (.int .i64 0)), (.nils 3 1), (.nils 79 4)]), none⟩,
  ⟨none, (.store 9 (.t 16) (.t 95)), none⟩]
def a14_r13 : List AOper := [
  ⟨(some 96), (.bsl 79 4 []), none⟩,
  ⟨(some 97), (.mv (.t 2)), none⟩,
  ⟨(some 98), (.ixa 9 (.t 97) (.k (.d (.int .i64 0)))), none⟩,
  ⟨(some 99), (.fld 8 (.t 98)), none⟩,
  ⟨(some 100), (.load false 1 (.t 99)), none⟩,
  ⟨(some 101), (.app false 79 4 48 (.t 96) (.t 100)), none⟩,
  ⟨(some 102), (.build [(.d (.str ⟨#[]⟩)), (.d (.int .i64 0)), (.d (.int .i64 0)), (.d (.str ⟨#[]⟩))] [(0, (1, (.k (.d (.str ⟨#[119, 101, 105, 103, 104, 116]⟩))))), (1, (1, (.k (.d (.int .i64 1))))), (2, (1, (.k (.d (.int .i64 3)))))]), none⟩,
  ⟨(some 103), (.bsl 79 4 [(.t 102)]), none⟩,
  ⟨(some 104), (.app false 79 4 48 (.t 101) (.t 103)), none⟩,
  ⟨(some 105), (.fld 8 (.t 16)), none⟩,
  ⟨none, (.store 1 (.t 105) (.t 104)), none⟩]
def a14_r14 : List AOper := [
  ⟨(some 106), (.mv (.t 8)), none⟩,
  ⟨(some 107), (.bin .eql (.t 106) (.k (.d (.int .i64 0)))), none⟩,
  ⟨(some 108), (.mv (.t 107)), none⟩,
  ⟨(some 109), (.mv (.t 7)), (some (108, true))⟩,
  ⟨(some 110), (.bin .eql (.t 109) (.k (.d (.int .i64 3)))), (some (108, true))⟩,
  ⟨(some 111), (.pick (.t 108) (.t 110) (.k (.d (.bool false)))), none⟩,
  ⟨(some 112), (.mv (.t 111)), none⟩,
  ⟨(some 113), (.mv (.t 9)), (some (112, true))⟩,
  ⟨(some 114), (.un .not (.t 113)), (some (112, true))⟩,
  ⟨(some 115), (.pick (.t 112) (.t 114) (.k (.d (.bool false)))), none⟩,
  ⟨(some 116), (.mv (.t 115)), none⟩,
  ⟨(some 117), (.mv (.t 10)), (some (116, true))⟩,
  ⟨(some 118), (.pick (.t 116) (.t 117) (.k (.d (.bool false)))), none⟩,
  ⟨(some 119), (.mv (.t 118)), none⟩,
  ⟨(some 120), (.mv (.t 11)), (some (119, true))⟩,
  ⟨(some 121), (.pick (.t 119) (.t 120) (.k (.d (.bool false)))), none⟩,
  ⟨(some 122), (.mv (.t 121)), none⟩,
  ⟨(some 123), (.mv (.t 12)), (some (122, true))⟩,
  ⟨(some 124), (.pick (.t 122) (.t 123) (.k (.d (.bool false)))), none⟩,
  ⟨(some 125), (.mv (.t 124)), none⟩,
  ⟨(some 126), (.mv (.t 13)), (some (125, true))⟩,
  ⟨(some 127), (.pick (.t 125) (.t 126) (.k (.d (.bool false)))), none⟩,
  ⟨(some 128), (.mv (.t 127)), none⟩,
  ⟨(some 129), (.mv (.t 14)), (some (128, true))⟩,
  ⟨(some 130), (.pick (.t 128) (.t 129) (.k (.d (.bool false)))), none⟩,
  ⟨(some 131), (.mv (.t 130)), none⟩,
  ⟨(some 132), (.mv (.t 15)), (some (131, true))⟩,
  ⟨(some 133), (.pick (.t 131) (.t 132) (.k (.d (.bool false)))), none⟩,
  ⟨(some 134), (.mv (.t 133)), none⟩,
  ⟨(some 135), (.load true 3 (.t 1)), (some (134, true))⟩,
  ⟨(some 136), (.load true 10 (.t 3)), (some (134, true))⟩,
  ⟨(some 137), (.mv (.t 2)), (some (134, true))⟩,
  ⟨(some 138), (.ixa 9 (.t 137) (.k (.d (.int .i64 0)))), (some (134, true))⟩,
  ⟨(some 139), (.load true 9 (.t 138)), (some (134, true))⟩,
  ⟨(some 140), (.call (.k (.cl 22 [] [])) [(.t 135), (.k (.nils 27 1)), (.t 136), (.t 139)]), (some (134, true))⟩,
  ⟨(some 141), (.pick (.t 134) (.t 140) (.k (.d (.bool false)))), none⟩,
  ⟨(some 142), (.mv (.t 141)), none⟩,
  ⟨(some 143), (.load true 3 (.t 1)), (some (142, true))⟩,
  ⟨(some 144), (.load true 10 (.t 3)), (some (142, true))⟩,
  ⟨(some 145), (.load true 9 (.t 16)), (some (142, true))⟩,
  ⟨(some 146), (.call (.k (.cl 22 [] [])) [(.t 143), (.k (.nils 27 1)), (.t 144), (.t 145)]), (some (142, true))⟩,
  ⟨(some 147), (.un .not (.t 146)), (some (142, true))⟩,
  ⟨(some 148), (.pick (.t 142) (.t 147) (.k (.d (.bool false)))), none⟩,
  ⟨(some 0), (.mv (.t 148)), none⟩]
def e14 : EFunc := ⟨149, [(.tmp 0)],
  .seq (.region false a14_r0) (.seq (.region false a14_r1) (.seq (.region false a14_r2) (.seq (.region false a14_r3) (.seq (.region false a14_r4) (.seq (.seq (.region false a14_r5) (.cond (.t 49) (.seq (.region false a14_r6) (.ret)) (.skip))) (.seq (.region false a14_r7) (.seq (.region false a14_r8) (.seq (.region false a14_r9) (.seq (.region false a14_r10) (.seq (.region false a14_r11) (.seq (.region false a14_r12) (.seq (.region false a14_r13) (.seq (.region true a14_r14) (.ret))))))))))))))⟩

def a15_r0 : List AOper := [
  ⟨(some 3), (.box 24 true 3 (.t 0)), none⟩,
  ⟨(some 6), (.alloc 33 [(.d (.int .i64 0)), (.nils 3 1), (.nils 3 1), (.nils 119 2), (.d (.int .i64 0)), (.d (.int .i64 0)), (.d (.int .i64 0)), (.d (.int .i64 0)), (.d (.int .i64 0)), (.nils 100 4)]), none⟩,
  ⟨(some 7), (.mv (.k (.d (.int .i64 0)))), none⟩]
def a15_r1 : List AOper := [
  ⟨(some 16), (.mkfn 53 [] [(.t 3)]), none⟩,
  ⟨(some 8), (.mv (.t 16)), none⟩]
def a15_r2 : List AOper := [
  ⟨(some 17), (.load true 3 (.t 3)), none⟩,
  ⟨(some 18), (.call (.k (.cl 54 [] [])) [(.t 17)]), none⟩,
  ⟨(some 19), (.bin .neq (.t 18) (.k (.d (.int .i64 0)))), none⟩,
  ⟨(some 20), (.mv (.t 19)), none⟩,
  ⟨(some 21), (.mv (.t 1)), (some (20, false))⟩,
  ⟨(some 22), (.len false (.t 21)), (some (20, false))⟩,
  ⟨(some 23), (.bin .gtr (.t 22) (.k (.d (.int .i64 8)))), (some (20, false))⟩,
  ⟨(some 24), (.pick (.t 20) (.k (.d (.bool true))) (.t 23)), none⟩,
  ⟨(some 25), (.mv (.t 24)), none⟩,
  ⟨(some 26), (.mv (.t 1)), (some (25, false))⟩,
  ⟨(some 27), (.mv (.t 8)), (some (25, false))⟩,
  ⟨(some 28), (.call (.k (.cl 55 [] [])) [(.t 26), (.t 27)]), (some (25, false))⟩,
  ⟨(some 29), (.pick (.t 25) (.k (.d (.bool true))) (.t 28)), none⟩]
def a15_r3 : List AOper := [
  ⟨(some 30), (.build [(.d (.int .i64 0)), (.nils 3 1), (.nils 3 1), (.nils 119 2), (.d (.int .i64 0)), (.d (.int .i64 0)), (.d (.int .i64 0)), (.d (.int .i64 0)), (.d (.int .i64 0)), (.nils 100 4)] []), none⟩,
  ⟨none, (.store 10 (.t 6) (.t 30)), none⟩,
  ⟨(some 7), (.mv (.k (.d (.int .i64 1)))), none⟩]
def a15_r4 : List AOper := [
  ⟨(some 31), (.mv (.t 2)), none⟩,
  ⟨(some 32), (.len false (.t 31)), none⟩,
  ⟨(some 33), (.bin .eql (.t 32) (.k (.d (.int .i64 0)))), none⟩,
  ⟨(some 34), (.mv (.t 33)), none⟩,
  ⟨(some 35), (.mv (.t 2)), (some (34, false))⟩,
  ⟨(some 36), (.mkfn 57 [] [(.t 3)]), (some (34, false))⟩,
  ⟨(some 37), (.call (.k (.cl 56 [] [])) [(.t 35), (.t 36)]), (some (34, false))⟩,
  ⟨(some 38), (.pick (.t 34) (.k (.d (.bool true))) (.t 37)), none⟩]
def a15_r5 : List AOper := [
  ⟨(some 39), (.build [(.d (.int .i64 0)), (.nils 3 1), (.nils 3 1), (.nils 119 2), (.d (.int .i64 0)), (.d (.int .i64 0)), (.d (.int .i64 0)), (.d (.int .i64 0)), (.d (.int .i64 0)), (.nils 100 4)] []), none⟩,
  ⟨none, (.store 10 (.t 6) (.t 39)), none⟩,
  ⟨(some 7), (.mv (.k (.d (.int .i64 3)))), none⟩]
def a15_r6 : List AOper := [
  ⟨(some 40), (.mv (.t 2)), none⟩,
  ⟨(some 41), (.len false (.t 40)), none⟩,
  ⟨(some 42), (.bin .gtr (.t 41) (.k (.d (.int .i64 4096)))), none⟩]
def a15_r7 : List AOper := [
  ⟨(some 43), (.build [(.d (.int .i64 0)), (.nils 3 1), (.nils 3 1), (.nils 119 2), (.d (.int .i64 0)), (.d (.int .i64 0)), (.d (.int .i64 0)), (.d (.int .i64 0)), (.d (.int .i64 0)), (.nils 100 4)] []), none⟩,
  ⟨none, (.store 10 (.t 6) (.t 43)), none⟩,
  ⟨(some 7), (.mv (.k (.d (.int .i64 2)))), none⟩]
def a15_r8 : List AOper := [
  ⟨(some 44), (.mv (.t 2)), none⟩,
  ⟨(some 45), (.ixa 9 (.t 44) (.k (.d (.int .i64 0)))), none⟩,
  ⟨(some 46), (.load true 9 (.t 45)), none⟩,
  ⟨(some 9), (.alloc 50 [(.d (.int .i64 0)), (.d (.int .i64 0)), (.d (.int .i64 0)), (.d (.int .i64 0)), (.d (.int .i64 0)), (.d (.int .i64 0)), (.d (.int .i64 0)), (.nils 3 1), (.nils 79 4)]), none⟩,
  ⟨none, (.store 9 (.t 9) (.t 46)), none⟩]
def a15_r9 : List AOper := [
  ⟨(some 47), (.mv (.t 2)), none⟩,
  ⟨(some 48), (.len false (.t 47)), none⟩,
  ⟨(some 49), (.fld 4 (.t 9)), none⟩,
  ⟨(some 50), (.load false 1 (.t 49)), none⟩,
  ⟨(some 51), (.fld 4 (.t 9)), none⟩,
  ⟨(some 52), (.load false 1 (.t 51)), none⟩,
  ⟨(some 53), (.fld 5 (.t 9)), none⟩,
  ⟨(some 54), (.load false 1 (.t 53)), none⟩,
  ⟨(some 55), (.fld 6 (.t 9)), none⟩,
  ⟨(some 56), (.load false 1 (.t 55)), none⟩,
  ⟨(some 57), (.fld 6 (.t 9)), none⟩,
  ⟨(some 58), (.load false 1 (.t 57)), none⟩,
  ⟨(some 59), (.build [(.d (.int .i64 0)), (.nils 3 1), (.nils 3 1), (.nils 119 2), (.d (.int .i64 0)), (.d (.int .i64 0)), (.d (.int .i64 0)), (.d (.int .i64 0)), (.d (.int .i64 0)), (.nils 100 4)] [(0, (1, (.t 48))), (4, (1, (.t 50))), (5, (1, (.t 52))), (6, (1, (.t 54))), (7, (1, (.t 56))), (8, (1, (.t 58)))]), none⟩,
  ⟨(some 10), (.alloc 33 [(.d (.int .i64 0)), (.nils 3 1), (.nils 3 1), (.nils 119 2), (.d (.int .i64 0)), (.d (.int .i64 0)), (.d (.int .i64 0)), (.d (.int .i64 0)), (.d (.int .i64 0)), (.nils 100 4)]), none⟩,
  ⟨none, (.store 10 (.t 10) (.t 59)), none⟩]
def a15_r10 : List AOper := [
  ⟨(some 11), (.nilsl 27 1), none⟩]
def a15_r11 : List AOper := [
  ⟨(some 60), (.mv (.t 2)), none⟩,
  ⟨(some 61), (.len false (.t 60)), none⟩,
  ⟨(some 62), (.mv (.k (.d (.int .i64 0)))), none⟩]
def a15_r12 : List AOper := [
  ⟨(some 63), (.bin .lss (.t 62) (.t 61)), none⟩]
def a15_r13 : List AOper := [
  ⟨(some 64), (.ixa 9 (.t 60) (.t 62)), none⟩,
  ⟨(some 65), (.load true 9 (.t 64)), none⟩,
  ⟨(some 13), (.alloc 50 [(.d (.int .i64 0)), (.d (.int .i64 0)), (.d (.int .i64 0)), (.d (.int .i64 0)), (.d (.int .i64 0)), (.d (.int .i64 0)), (.d (.int .i64 0)), (.nils 3 1), (.nils 79 4)]), none⟩,
  ⟨none, (.store 9 (.t 13) (.t 65)), none⟩]
def a15_r14 : List AOper := [
  ⟨(some 66), (.mv (.t 11)), none⟩,
  ⟨(some 67), (.fld 7 (.t 13)), none⟩,
  ⟨(some 68), (.load false 1 (.t 67)), none⟩,
  ⟨(some 69), (.bsl 27 1 [(.t 68)]), none⟩,
  ⟨(some 70), (.app false 27 1 24 (.t 66) (.t 69)), none⟩,
  ⟨(some 11), (.mv (.t 70)), none⟩]
def a15_d15 : List DOp := [
  ⟨⟨(some 71), (.fld 4 (.t 10)), none⟩, [], 0⟩,
  ⟨⟨(some 72), (.load false 1 (.t 71)), none⟩, [true], 0⟩,
  ⟨⟨(some 73), (.fld 4 (.t 13)), none⟩, [false, false], 0⟩,
  ⟨⟨(some 74), (.load false 1 (.t 73)), none⟩, [false, false, true], 0⟩,
  ⟨⟨(some 75), (.mn [(.t 72), (.t 74)]), none⟩, [true, true, true, true], 0⟩,
  ⟨⟨(some 76), (.fld 5 (.t 10)), none⟩, [false, false, false, false, false], 0⟩,
  ⟨⟨(some 77), (.load false 1 (.t 76)), none⟩, [false, false, false, false, false, true], 0⟩,
  ⟨⟨(some 78), (.fld 4 (.t 13)), none⟩, [false, false, false, false, false, false, false], 0⟩,
  ⟨⟨(some 79), (.load false 1 (.t 78)), none⟩, [false, false, false, false, false, false, false, true], 0⟩,
  ⟨⟨(some 80), (.mx [(.t 77), (.t 79)]), none⟩, [false, false, false, false, false, true, true, true, true], 0⟩,
  ⟨⟨(some 81), (.fld 6 (.t 10)), none⟩, [false, false, false, false, false, false, false, false, false, false], 0⟩,
  ⟨⟨(some 82), (.load false 1 (.t 81)), none⟩, [false, false, false, false, false, false, false, false, false, false, true], 0⟩,
  ⟨⟨(some 83), (.fld 5 (.t 13)), none⟩, [false, false, false, false, false, false, false, false, false, false, false, false], 0⟩,
  ⟨⟨(some 84), (.load false 1 (.t 83)), none⟩, [false, false, false, false, false, false, false, false, false, false, false, false, true], 0⟩,
  ⟨⟨(some 85), (.mx [(.t 82), (.t 84)]), none⟩, [false, false, false, false, false, false, false, false, false, false, true, true, true, true], 0⟩,
  ⟨⟨(some 86), (.fld 4 (.t 10)), none⟩, [true, true, true, true, true, true, true, false, false, false, true, true, false, false, false], 0⟩,
  ⟨⟨none, (.store 1 (.t 86) (.t 75)), none⟩, [true, true, true, true, true, true, true, false, false, false, true, true, false, false, false, true], 0⟩,
  ⟨⟨(some 87), (.fld 5 (.t 10)), none⟩, [true, true, true, true, true, true, true, true, true, true, true, true, false, false, false, true, true], 0⟩,
  ⟨⟨none, (.store 1 (.t 87) (.t 80)), none⟩, [true, true, true, true, true, true, true, true, true, true, true, true, false, false, false, true, true, true], 0⟩,
  ⟨⟨(some 88), (.fld 6 (.t 10)), none⟩, [true, true, true, true, true, true, true, true, true, true, true, true, true, true, true, true, true, true, true], 0⟩,
  ⟨⟨none, (.store 1 (.t 88) (.t 85)), none⟩, [true, true, true, true, true, true, true, true, true, true, true, true, true, true, true, true, true, true, true, true], 0⟩]
def a15_d16 : List DOp := [
  ⟨⟨(some 89), (.fld 7 (.t 10)), none⟩, [], 0⟩,
  ⟨⟨(some 90), (.load false 1 (.t 89)), none⟩, [true], 0⟩,
  ⟨⟨(some 91), (.fld 6 (.t 13)), none⟩, [false, false], 0⟩,
  ⟨⟨(some 92), (.load false 1 (.t 91)), none⟩, [false, false, true], 0⟩,
  ⟨⟨(some 93), (.mn [(.t 90), (.t 92)]), none⟩, [true, true, true, true], 0⟩,
  ⟨⟨(some 94), (.fld 8 (.t 10)), none⟩, [false, false, false, false, false], 0⟩,
  ⟨⟨(some 95), (.load false 1 (.t 94)), none⟩, [false, false, false, false, false, true], 0⟩,
  ⟨⟨(some 96), (.fld 6 (.t 13)), none⟩, [false, false, false, false, false, false, false], 0⟩,
  ⟨⟨(some 97), (.load false 1 (.t 96)), none⟩, [false, false, false, false, false, false, false, true], 0⟩,
  ⟨⟨(some 98), (.mx [(.t 95), (.t 97)]), none⟩, [false, false, false, false, false, true, true, true, true], 0⟩,
  ⟨⟨(some 99), (.fld 7 (.t 10)), none⟩, [true, true, true, true, true, true, true, false, false, false], 0⟩,
  ⟨⟨none, (.store 1 (.t 99) (.t 93)), none⟩, [true, true, true, true, true, true, true, false, false, false, true], 0⟩,
  ⟨⟨(some 100), (.fld 8 (.t 10)), none⟩, [true, true, true, true, true, true, true, true, true, true, true, true], 0⟩,
  ⟨⟨none, (.store 1 (.t 100) (.t 98)), none⟩, [true, true, true, true, true, true, true, true, true, true, true, true, true], 0⟩]
def a15_r17 : List AOper := [
  ⟨(some 101), (.bin .add (.t 62) (.k (.d (.int .i64 1)))), none⟩,
  ⟨(some 62), (.mv (.t 101)), none⟩]
def a15_r18 : List AOper := [
  ⟨(some 103), (.mv (.t 11)), none⟩,
  ⟨(some 104), (.call (.k (.cl 58 [] [])) [(.t 103)]), none⟩,
  ⟨(some 102), (.mv (.t 104)), none⟩,
  ⟨(some 105), (.ext (.t 102) 0), none⟩,
  ⟨(some 106), (.ext (.t 102) 1), none⟩,
  ⟨(some 107), (.fld 1 (.t 10)), none⟩,
  ⟨none, (.store 2 (.t 107) (.t 105)), none⟩]
def a15_r19 : List AOper := [
  ⟨(some 108), (.mv (.t 1)), none⟩,
  ⟨(some 109), (.len false (.t 108)), none⟩,
  ⟨(some 110), (.bin .gtr (.t 109) (.k (.d (.int .i64 0)))), none⟩]
def a15_r20 : List AOper := [
  ⟨(some 112), (.fld 1 (.t 3)), none⟩,
  ⟨(some 113), (.load false 1 (.t 112)), none⟩,
  ⟨(some 114), (.mv (.t 1)), none⟩,
  ⟨(some 115), (.mv (.t 11)), none⟩,
  ⟨(some 116), (.call (.k (.cl 59 [] [])) [(.t 113), (.t 114), (.t 115)]), none⟩,
  ⟨(some 111), (.mv (.t 116)), none⟩,
  ⟨(some 117), (.ext (.t 111) 0), none⟩,
  ⟨(some 118), (.ext (.t 111) 1), none⟩,
  ⟨(some 119), (.fld 3 (.t 10)), none⟩,
  ⟨none, (.store 1 (.t 119) (.t 117)), none⟩]
def a15_r21 : List AOper := [
  ⟨(some 120), (.fld 2 (.t 3)), none⟩,
  ⟨(some 121), (.load false 1 (.t 120)), none⟩,
  ⟨(some 122), (.len false (.t 121)), none⟩,
  ⟨(some 123), (.mv (.k (.d (.int .i64 0)))), none⟩]
def a15_r22 : List AOper := [
  ⟨(some 124), (.bin .lss (.t 123) (.t 122)), none⟩]
def a15_r23 : List AOper := [
  ⟨(some 125), (.ixa 5 (.t 121) (.t 123)), none⟩,
  ⟨(some 126), (.load true 5 (.t 125)), none⟩,
  ⟨(some 15), (.alloc 77 [(.d (.str ⟨#[]⟩)), (.d (.int .i64 0)), (.d (.int .i64 0)), (.d (.int .i64 0)), (.nils 9 1)]), none⟩,
  ⟨none, (.store 5 (.t 15) (.t 126)), none⟩]
def a15_d24 : List DOp := [
  ⟨⟨(some 127), (.fld 9 (.t 10)), none⟩, [], 0⟩,
  ⟨⟨(some 128), (.load false 1 (.t 127)), none⟩, [true], 0⟩,
  ⟨⟨(some 129), (.load true 5 (.t 15)), none⟩, [false, false], 0⟩,
  ⟨⟨(some 130), (.mv (.t 2)), none⟩, [false, false, false], 0⟩,
  ⟨⟨(some 131), (.call (.k (.cl 60 [] [])) [(.t 129), (.t 130)]), none⟩, [false, false, true, true], 0⟩,
  ⟨⟨(some 132), (.bsl 100 4 [(.t 131)]), none⟩, [false, false, true, true, true], 1⟩,
  ⟨⟨(some 133), (.app false 100 4 48 (.t 128) (.t 132)), none⟩, [true, true, true, true, true, true], 2⟩,
  ⟨⟨(some 134), (.fld 9 (.t 10)), none⟩, [true, true, true, true, true, true, true], 0⟩,
  ⟨⟨none, (.store 1 (.t 134) (.t 133)), none⟩, [true, true, true, true, true, true, true, true], 0⟩]
def a15_r25 : List AOper := [
  ⟨(some 135), (.bin .add (.t 123) (.k (.d (.int .i64 1)))), none⟩,
  ⟨(some 123), (.mv (.t 135)), none⟩]
def a15_r26 : List AOper := [
  ⟨(some 136), (.load true 10 (.t 10)), none⟩,
  ⟨none, (.store 10 (.t 6) (.t 136)), none⟩,
  ⟨(some 7), (.mv (.k (.d (.int .i64 0)))), none⟩]
def l15_0 : ECode :=
  .seq (.region false a15_r22) (.seq (.cond (.t 124) (.skip) (.exit 2)) (.seq (.block 3 (.seq (.region false a15_r23) (.regw a15_d24))) (.region false a15_r25)))
def l15_1 : ECode :=
  .seq (.region false a15_r12) (.seq (.cond (.t 63) (.skip) (.exit 0)) (.seq (.block 1 (.seq (.region false a15_r13) (.seq (.region false a15_r14) (.seq (.regw a15_d15) (.regw a15_d16))))) (.region false a15_r17)))
def e15 : EFunc := ⟨137, [(.cell 6 true 10), (.tmp 7)],
  .seq (.region false a15_r0) (.seq (.region false a15_r1) (.seq (.seq (.region false a15_r2) (.cond (.t 29) (.seq (.region false a15_r3) (.ret)) (.skip))) (.seq (.seq (.region false a15_r4) (.cond (.t 38) (.seq (.region false a15_r5) (.ret)) (.skip))) (.seq (.seq (.region false a15_r6) (.cond (.t 42) (.seq (.region false a15_r7) (.ret)) (.skip))) (.seq (.region false a15_r8) (.seq (.region false a15_r9) (.seq (.region false a15_r10) (.seq (.seq (.region false a15_r11) (.block 0 (.loop [false, true, true, true, false, false, true, false, false, false, true, true, false, false, false, false, false, false, false, false, false, false, false, false, false, false, false, false, false, false, false, false, false, false, false, false, false, false, false, false, false, false, false, false, false, false, false, false, false, false, false, false, false, false, false, false, false, false, false, false, true, true, true] [false, true, true, true, false, false, true, false, false, false, true, true] l15_1))) (.seq (.region false a15_r18) (.seq (.seq (.region false a15_r19) (.cond (.t 110) (.region false a15_r20) (.skip))) (.seq (.seq (.region false a15_r21) (.block 2 (.loop [false, false, true, false, false, false, true, false, false, false, true, false, false, false, false, false, false, false, false, false, false, false, false, false, false, false, false, false, false, false, false, false, false, false, false, false, false, false, false, false, false, false, false, false, false, false, false, false, false, false, false, false, false, false, false, false, false, false, false, false, false, false, false, false, false, false, false, false, false, false, false, false, false, false, false, false, false, false, false, false, false, false, false, false, false, false, false, false, false, false, false, false, false, false, false, false, false, false, false, false, false, false, false, false, false, false, false, false, false, false, false, false, false, false, false, false, false, false, false, false, false, true, true, true] [false, false, false, false, false, false, true, false, false, false, true] l15_0))) (.seq (.region false a15_r26) (.ret)))))))))))))⟩

def a17_r0 : List AOper := [
  ⟨(some 2), (.box 33 true 10 (.t 0)), none⟩,
  ⟨(some 3), (.box 33 true 10 (.t 1)), none⟩,
  ⟨(some 4), (.mv (.k (.d (.bool false)))), none⟩]
def a17_d1 : List DOp := [
  ⟨⟨(some 5), (.load true 10 (.t 2)), none⟩, [], 0⟩,
  ⟨⟨(some 6), (.call (.k (.cl 49 [] [])) [(.t 5)]), none⟩, [true], 0⟩,
  ⟨⟨(some 7), (.cvs (.t 6)), none⟩, [true, true], 0⟩,
  ⟨⟨(some 8), (.load true 10 (.t 3)), none⟩, [false, false, false], 0⟩,
  ⟨⟨(some 9), (.call (.k (.cl 49 [] [])) [(.t 8)]), none⟩, [true, true, false, true], 1⟩,
  ⟨⟨(some 10), (.cvs (.t 9)), none⟩, [true, true, false, true, true], 0⟩,
  ⟨⟨(some 11), (.bin .eql (.t 7) (.t 10)), none⟩, [true, true, true, true, true, true], 0⟩,
  ⟨⟨(some 4), (.mv (.t 11)), none⟩, [true, true, true, true, true, true, true], 0⟩]
def e17 : EFunc := ⟨12, [(.tmp 4)],
  .seq (.region false a17_r0) (.seq (.regw a17_d1) (.ret))⟩

def a19_r0 : List AOper := [
  ⟨(some 3), (.box 24 true 3 (.t 0)), none⟩,
  ⟨(some 5), (.box 33 true 10 (.t 2)), none⟩,
  ⟨(some 6), (.mv (.k (.d (.bool false)))), none⟩]
def a19_r1 : List AOper := [
  ⟨(some 9), (.fld 0 (.t 5)), none⟩,
  ⟨(some 10), (.load false 1 (.t 9)), none⟩,
  ⟨(some 11), (.call (.k (.cl 64 [] [])) [(.t 10), (.k (.d (.int .i64 1))), (.k (.d (.int .i64 4096)))]), none⟩,
  ⟨(some 12), (.un .not (.t 11)), none⟩,
  ⟨(some 13), (.mv (.t 12)), none⟩,
  ⟨(some 14), (.fld 1 (.t 5)), (some (13, false))⟩,
  ⟨(some 15), (.load true 2 (.t 14)), (some (13, false))⟩,
  ⟨(some 16), (.call (.k (.cl 65 [] [])) [(.t 15)]), (some (13, false))⟩,
  ⟨(some 17), (.un .not (.t 16)), (some (13, false))⟩,
  ⟨(some 18), (.pick (.t 13) (.k (.d (.bool true))) (.t 17)), none⟩,
  ⟨(some 19), (.mv (.t 18)), none⟩,
  ⟨(some 20), (.fld 1 (.t 5)), (some (19, false))⟩,
  ⟨(some 21), (.fld 0 (.t 20)), (some (19, false))⟩,
  ⟨(some 22), (.load false 1 (.t 21)), (some (19, false))⟩,
  ⟨(some 23), (.len false (.t 22)), (some (19, false))⟩,
  ⟨(some 24), (.fld 0 (.t 3)), (some (19, false))⟩,
  ⟨(some 25), (.load false 1 (.t 24)), (some (19, false))⟩,
  ⟨(some 26), (.bin .neq (.t 23) (.t 25)), (some (19, false))⟩,
  ⟨(some 27), (.pick (.t 19) (.k (.d (.bool true))) (.t 26)), none⟩,
  ⟨(some 28), (.mv (.t 27)), none⟩,
  ⟨(some 29), (.fld 3 (.t 5)), (some (28, false))⟩,
  ⟨(some 30), (.load false 1 (.t 29)), (some (28, false))⟩,
  ⟨(some 31), (.len false (.t 30)), (some (28, false))⟩,
  ⟨(some 32), (.mv (.t 1)), (some (28, false))⟩,
  ⟨(some 33), (.bin .neq (.t 31) (.t 32)), (some (28, false))⟩,
  ⟨(some 34), (.pick (.t 28) (.k (.d (.bool true))) (.t 33)), none⟩,
  ⟨(some 35), (.mv (.t 34)), none⟩,
  ⟨(some 36), (.fld 3 (.t 5)), (some (35, false))⟩,
  ⟨(some 37), (.load false 1 (.t 36)), (some (35, false))⟩,
  ⟨(some 38), (.call (.k (.cl 66 [] [])) [(.t 37)]), (some (35, false))⟩,
  ⟨(some 39), (.un .not (.t 38)), (some (35, false))⟩,
  ⟨(some 40), (.pick (.t 35) (.k (.d (.bool true))) (.t 39)), none⟩,
  ⟨(some 41), (.mv (.t 40)), none⟩,
  ⟨(some 42), (.fld 9 (.t 5)), (some (41, false))⟩,
  ⟨(some 43), (.load false 1 (.t 42)), (some (41, false))⟩,
  ⟨(some 44), (.len false (.t 43)), (some (41, false))⟩,
  ⟨(some 45), (.fld 2 (.t 3)), (some (41, false))⟩,
  ⟨(some 46), (.load false 1 (.t 45)), (some (41, false))⟩,
  ⟨(some 47), (.len false (.t 46)), (some (41, false))⟩,
  ⟨(some 48), (.bin .neq (.t 44) (.t 47)), (some (41, false))⟩,
  ⟨(some 49), (.pick (.t 41) (.k (.d (.bool true))) (.t 48)), none⟩]
def a19_r2 : List AOper := [
  ⟨(some 6), (.mv (.k (.d (.bool false)))), none⟩]
def a19_r3 : List AOper := [
  ⟨(some 50), (.fld 4 (.t 5)), none⟩,
  ⟨(some 51), (.load false 1 (.t 50)), none⟩,
  ⟨(some 52), (.fld 5 (.t 5)), none⟩,
  ⟨(some 53), (.load false 1 (.t 52)), none⟩,
  ⟨(some 54), (.call (.k (.cl 64 [] [])) [(.t 51), (.k (.d (.int .i64 0))), (.t 53)]), none⟩,
  ⟨(some 55), (.un .not (.t 54)), none⟩,
  ⟨(some 56), (.mv (.t 55)), none⟩,
  ⟨(some 57), (.fld 5 (.t 5)), (some (56, false))⟩,
  ⟨(some 58), (.load false 1 (.t 57)), (some (56, false))⟩,
  ⟨(some 59), (.bin .gtr (.t 58) (.k (.d (.int .i64 1048576)))), (some (56, false))⟩,
  ⟨(some 60), (.pick (.t 56) (.k (.d (.bool true))) (.t 59)), none⟩,
  ⟨(some 61), (.mv (.t 60)), none⟩,
  ⟨(some 62), (.fld 6 (.t 5)), (some (61, false))⟩,
  ⟨(some 63), (.load false 1 (.t 62)), (some (61, false))⟩,
  ⟨(some 64), (.fld 4 (.t 5)), (some (61, false))⟩,
  ⟨(some 65), (.load false 1 (.t 64)), (some (61, false))⟩,
  ⟨(some 66), (.bin .add (.t 65) (.k (.d (.int .i64 1)))), (some (61, false))⟩,
  ⟨(some 67), (.call (.k (.cl 64 [] [])) [(.t 63), (.t 66), (.k (.d (.int .i64 1048577)))]), (some (61, false))⟩,
  ⟨(some 68), (.un .not (.t 67)), (some (61, false))⟩,
  ⟨(some 69), (.pick (.t 61) (.k (.d (.bool true))) (.t 68)), none⟩,
  ⟨(some 70), (.mv (.t 69)), none⟩,
  ⟨(some 71), (.fld 7 (.t 5)), (some (70, false))⟩,
  ⟨(some 72), (.load false 1 (.t 71)), (some (70, false))⟩,
  ⟨(some 73), (.fld 8 (.t 5)), (some (70, false))⟩,
  ⟨(some 74), (.load false 1 (.t 73)), (some (70, false))⟩,
  ⟨(some 75), (.call (.k (.cl 64 [] [])) [(.t 72), (.k (.d (.int .i64 1))), (.t 74)]), (some (70, false))⟩,
  ⟨(some 76), (.un .not (.t 75)), (some (70, false))⟩,
  ⟨(some 77), (.pick (.t 70) (.k (.d (.bool true))) (.t 76)), none⟩,
  ⟨(some 78), (.mv (.t 77)), none⟩,
  ⟨(some 79), (.fld 8 (.t 5)), (some (78, false))⟩,
  ⟨(some 80), (.load false 1 (.t 79)), (some (78, false))⟩,
  ⟨(some 81), (.bin .gtr (.t 80) (.k (.d (.int .i64 1073741824)))), (some (78, false))⟩,
  ⟨(some 82), (.pick (.t 78) (.k (.d (.bool true))) (.t 81)), none⟩]
def a19_r4 : List AOper := [
  ⟨(some 6), (.mv (.k (.d (.bool false)))), none⟩]
def a19_r5 : List AOper := [
  ⟨(some 83), (.fld 2 (.t 3)), none⟩,
  ⟨(some 84), (.load false 1 (.t 83)), none⟩,
  ⟨(some 85), (.len false (.t 84)), none⟩,
  ⟨(some 86), (.mv (.k (.d (.int .i64 0)))), none⟩]
def a19_r6 : List AOper := [
  ⟨(some 87), (.bin .lss (.t 86) (.t 85)), none⟩]
def a19_r7 : List AOper := [
  ⟨(some 88), (.mv (.t 86)), none⟩,
  ⟨(some 89), (.ixa 5 (.t 84) (.t 86)), none⟩,
  ⟨(some 90), (.load true 5 (.t 89)), none⟩,
  ⟨(some 8), (.alloc 77 [(.d (.str ⟨#[]⟩)), (.d (.int .i64 0)), (.d (.int .i64 0)), (.d (.int .i64 0)), (.nils 9 1)]), none⟩,
  ⟨(some 7), (.mv (.t 88)), none⟩,
  ⟨none, (.store 5 (.t 8) (.t 90)), none⟩]
def a19_r8 : List AOper := [
  ⟨(some 91), (.load true 5 (.t 8)), none⟩,
  ⟨(some 92), (.fld 9 (.t 5)), none⟩,
  ⟨(some 93), (.load false 1 (.t 92)), none⟩,
  ⟨(some 94), (.mv (.t 7)), none⟩,
  ⟨(some 95), (.ixa 4 (.t 93) (.t 94)), none⟩,
  ⟨(some 96), (.load true 4 (.t 95)), none⟩,
  ⟨(some 97), (.fld 0 (.t 5)), none⟩,
  ⟨(some 98), (.load false 1 (.t 97)), none⟩,
  ⟨(some 99), (.call (.k (.cl 67 [] [])) [(.t 91), (.t 96), (.t 98)]), none⟩,
  ⟨(some 100), (.un .not (.t 99)), none⟩]
def a19_r9 : List AOper := [
  ⟨(some 6), (.mv (.k (.d (.bool false)))), none⟩]
def a19_r10 : List AOper := [
  ⟨(some 101), (.bin .add (.t 86) (.k (.d (.int .i64 1)))), none⟩,
  ⟨(some 86), (.mv (.t 101)), none⟩]
def a19_r11 : List AOper := [
  ⟨(some 6), (.mv (.k (.d (.bool true)))), none⟩]
def l19_0 : ECode :=
  .seq (.region false a19_r6) (.seq (.cond (.t 87) (.skip) (.exit 0)) (.seq (.block 1 (.seq (.region false a19_r7) (.seq (.region true a19_r8) (.cond (.t 100) (.seq (.region false a19_r9) (.ret)) (.skip))))) (.region false a19_r10)))
def e19 : EFunc := ⟨102, [(.tmp 6)],
  .seq (.region false a19_r0) (.seq (.seq (.region false a19_r1) (.cond (.t 49) (.seq (.region false a19_r2) (.ret)) (.skip))) (.seq (.seq (.region false a19_r3) (.cond (.t 82) (.seq (.region false a19_r4) (.ret)) (.skip))) (.seq (.seq (.region false a19_r5) (.block 0 (.loop [false, false, false, false, false, true, false, false, false, false, false, false, false, false, false, false, false, false, false, false, false, false, false, false, false, false, false, false, false, false, false, false, false, false, false, false, false, false, false, false, false, false, false, false, false, false, false, false, false, false, false, false, false, false, false, false, false, false, false, false, false, false, false, false, false, false, false, false, false, false, false, false, false, false, false, false, false, false, false, false, false, false, false, false, true, true, true] [false, false, false, false, false, false, true] l19_0))) (.seq (.region false a19_r11) (.ret)))))⟩

def a22_r0 : List AOper := [
  ⟨(some 4), (.box 24 true 3 (.t 0)), none⟩,
  ⟨(some 6), (.box 33 true 10 (.t 2)), none⟩,
  ⟨(some 7), (.box 50 true 9 (.t 3)), none⟩,
  ⟨(some 8), (.mv (.k (.d (.bool false)))), none⟩]
def a22_r1 : List AOper := [
  ⟨(some 18), (.load true 3 (.t 4)), none⟩,
  ⟨(some 19), (.load true 9 (.t 7)), none⟩,
  ⟨(some 20), (.call (.k (.cl 34 [] [])) [(.t 18), (.t 19)]), none⟩,
  ⟨(some 21), (.bin .neq (.t 20) (.k (.d (.int .i64 0)))), none⟩,
  ⟨(some 22), (.mv (.t 21)), none⟩,
  ⟨(some 23), (.fld 1 (.t 6)), (some (22, false))⟩,
  ⟨(some 24), (.load true 2 (.t 23)), (some (22, false))⟩,
  ⟨(some 25), (.fld 7 (.t 7)), (some (22, false))⟩,
  ⟨(some 26), (.load false 1 (.t 25)), (some (22, false))⟩,
  ⟨(some 27), (.call (.k (.cl 72 [] [])) [(.t 24), (.t 26)]), (some (22, false))⟩,
  ⟨(some 28), (.un .not (.t 27)), (some (22, false))⟩,
  ⟨(some 29), (.pick (.t 22) (.k (.d (.bool true))) (.t 28)), none⟩,
  ⟨(some 30), (.mv (.t 29)), none⟩,
  ⟨(some 31), (.fld 3 (.t 6)), (some (30, false))⟩,
  ⟨(some 32), (.load false 1 (.t 31)), (some (30, false))⟩,
  ⟨(some 33), (.len false (.t 32)), (some (30, false))⟩,
  ⟨(some 34), (.mv (.t 1)), (some (30, false))⟩,
  ⟨(some 35), (.len false (.t 34)), (some (30, false))⟩,
  ⟨(some 36), (.bin .neq (.t 33) (.t 35)), (some (30, false))⟩,
  ⟨(some 37), (.pick (.t 30) (.k (.d (.bool true))) (.t 36)), none⟩]
def a22_r2 : List AOper := [
  ⟨(some 8), (.mv (.k (.d (.bool false)))), none⟩]
def a22_r3 : List AOper := [
  ⟨(some 9), (.mv (.k (.d (.bool true)))), none⟩]
def a22_r4 : List AOper := [
  ⟨(some 38), (.mv (.t 1)), none⟩,
  ⟨(some 39), (.len false (.t 38)), none⟩,
  ⟨(some 40), (.mv (.k (.d (.int .i64 0)))), none⟩]
def a22_r5 : List AOper := [
  ⟨(some 41), (.bin .lss (.t 40) (.t 39)), none⟩]
def a22_r6 : List AOper := [
  ⟨(some 42), (.mv (.t 40)), none⟩,
  ⟨(some 43), (.ixa 1 (.t 38) (.t 40)), none⟩,
  ⟨(some 44), (.load false 1 (.t 43)), none⟩,
  ⟨(some 10), (.mv (.t 42)), none⟩,
  ⟨(some 11), (.mv (.t 44)), none⟩]
def a22_r7 : List AOper := [
  ⟨(some 45), (.fld 1 (.t 4)), none⟩,
  ⟨(some 46), (.load false 1 (.t 45)), none⟩,
  ⟨(some 47), (.mv (.t 11)), none⟩,
  ⟨(some 48), (.fld 7 (.t 7)), none⟩,
  ⟨(some 49), (.load false 1 (.t 48)), none⟩,
  ⟨(some 50), (.call (.k (.cl 41 [] [])) [(.t 46), (.t 47), (.t 49)]), none⟩,
  ⟨(some 12), (.mv (.t 50)), none⟩]
def a22_r8 : List AOper := [
  ⟨(some 51), (.mv (.t 12)), none⟩,
  ⟨(some 52), (.fld 3 (.t 6)), none⟩,
  ⟨(some 53), (.load false 1 (.t 52)), none⟩,
  ⟨(some 54), (.mv (.t 10)), none⟩,
  ⟨(some 55), (.ixa 2 (.t 53) (.t 54)), none⟩,
  ⟨(some 56), (.fld 0 (.t 55)), none⟩,
  ⟨(some 57), (.load false 1 (.t 56)), none⟩,
  ⟨(some 58), (.fld 3 (.t 6)), none⟩,
  ⟨(some 59), (.load false 1 (.t 58)), none⟩,
  ⟨(some 60), (.mv (.t 10)), none⟩,
  ⟨(some 61), (.ixa 2 (.t 59) (.t 60)), none⟩,
  ⟨(some 62), (.fld 1 (.t 61)), none⟩,
  ⟨(some 63), (.load false 1 (.t 62)), none⟩,
  ⟨(some 64), (.call (.k (.cl 64 [] [])) [(.t 51), (.t 57), (.t 63)]), none⟩,
  ⟨(some 9), (.mv (.t 64)), none⟩]
def a22_r9 : List AOper := [
  ⟨(some 65), (.mv (.t 9)), none⟩,
  ⟨(some 66), (.un .not (.t 65)), none⟩]
def a22_r10 : List AOper := [
  ⟨(some 67), (.bin .add (.t 40) (.k (.d (.int .i64 1)))), none⟩,
  ⟨(some 40), (.mv (.t 67)), none⟩]
def a22_r11 : List AOper := [
  ⟨(some 68), (.mv (.t 9)), none⟩,
  ⟨(some 69), (.un .not (.t 68)), none⟩,
  ⟨(some 70), (.mv (.t 69)), none⟩,
  ⟨(some 71), (.fld 4 (.t 7)), (some (70, false))⟩,
  ⟨(some 72), (.load false 1 (.t 71)), (some (70, false))⟩,
  ⟨(some 73), (.fld 4 (.t 6)), (some (70, false))⟩,
  ⟨(some 74), (.load false 1 (.t 73)), (some (70, false))⟩,
  ⟨(some 75), (.fld 5 (.t 6)), (some (70, false))⟩,
  ⟨(some 76), (.load false 1 (.t 75)), (some (70, false))⟩,
  ⟨(some 77), (.call (.k (.cl 64 [] [])) [(.t 72), (.t 74), (.t 76)]), (some (70, false))⟩,
  ⟨(some 78), (.un .not (.t 77)), (some (70, false))⟩,
  ⟨(some 79), (.pick (.t 70) (.k (.d (.bool true))) (.t 78)), none⟩,
  ⟨(some 80), (.mv (.t 79)), none⟩,
  ⟨(some 81), (.fld 5 (.t 7)), (some (80, false))⟩,
  ⟨(some 82), (.load false 1 (.t 81)), (some (80, false))⟩,
  ⟨(some 83), (.fld 6 (.t 6)), (some (80, false))⟩,
  ⟨(some 84), (.load false 1 (.t 83)), (some (80, false))⟩,
  ⟨(some 85), (.bin .gtr (.t 82) (.t 84)), (some (80, false))⟩,
  ⟨(some 86), (.pick (.t 80) (.k (.d (.bool true))) (.t 85)), none⟩,
  ⟨(some 87), (.mv (.t 86)), none⟩,
  ⟨(some 88), (.fld 6 (.t 7)), (some (87, false))⟩,
  ⟨(some 89), (.load false 1 (.t 88)), (some (87, false))⟩,
  ⟨(some 90), (.fld 7 (.t 6)), (some (87, false))⟩,
  ⟨(some 91), (.load false 1 (.t 90)), (some (87, false))⟩,
  ⟨(some 92), (.fld 8 (.t 6)), (some (87, false))⟩,
  ⟨(some 93), (.load false 1 (.t 92)), (some (87, false))⟩,
  ⟨(some 94), (.call (.k (.cl 64 [] [])) [(.t 89), (.t 91), (.t 93)]), (some (87, false))⟩,
  ⟨(some 95), (.un .not (.t 94)), (some (87, false))⟩,
  ⟨(some 96), (.pick (.t 87) (.k (.d (.bool true))) (.t 95)), none⟩]
def a22_r12 : List AOper := [
  ⟨(some 8), (.mv (.k (.d (.bool false)))), none⟩]
def a22_r13 : List AOper := [
  ⟨(some 97), (.fld 2 (.t 4)), none⟩,
  ⟨(some 98), (.load false 1 (.t 97)), none⟩,
  ⟨(some 99), (.len false (.t 98)), none⟩,
  ⟨(some 100), (.mv (.k (.d (.int .i64 0)))), none⟩]
def a22_r14 : List AOper := [
  ⟨(some 101), (.bin .lss (.t 100) (.t 99)), none⟩]
def a22_r15 : List AOper := [
  ⟨(some 102), (.mv (.t 100)), none⟩,
  ⟨(some 103), (.ixa 5 (.t 98) (.t 100)), none⟩,
  ⟨(some 104), (.load true 5 (.t 103)), none⟩,
  ⟨(some 14), (.alloc 77 [(.d (.str ⟨#[]⟩)), (.d (.int .i64 0)), (.d (.int .i64 0)), (.d (.int .i64 0)), (.nils 9 1)]), none⟩,
  ⟨(some 13), (.mv (.t 102)), none⟩,
  ⟨none, (.store 5 (.t 14) (.t 104)), none⟩]
def a22_r16 : List AOper := [
  ⟨(some 105), (.fld 9 (.t 6)), none⟩,
  ⟨(some 106), (.load false 1 (.t 105)), none⟩,
  ⟨(some 107), (.mv (.t 13)), none⟩,
  ⟨(some 108), (.ixa 4 (.t 106) (.t 107)), none⟩,
  ⟨(some 109), (.load true 4 (.t 108)), none⟩,
  ⟨(some 15), (.alloc 100 [(.d (.int .i64 0)), (.d (.int .i64 0)), (.d (.int .i64 0)), (.nils 9 1)]), none⟩,
  ⟨none, (.store 4 (.t 15) (.t 109)), none⟩]
def a22_r17 : List AOper := [
  ⟨(some 111), (.fld 8 (.t 7)), none⟩,
  ⟨(some 112), (.load false 1 (.t 111)), none⟩,
  ⟨(some 113), (.fld 0 (.t 14)), none⟩,
  ⟨(some 114), (.load false 1 (.t 113)), none⟩,
  ⟨(some 115), (.call (.k (.cl 37 [] [])) [(.t 112), (.t 114)]), none⟩,
  ⟨(some 110), (.mv (.t 115)), none⟩,
  ⟨(some 116), (.ext (.t 110) 0), none⟩,
  ⟨(some 117), (.ext (.t 110) 1), none⟩,
  ⟨(some 16), (.alloc 79 [(.d (.str ⟨#[]⟩)), (.d (.int .i64 0)), (.d (.int .i64 0)), (.d (.str ⟨#[]⟩))]), none⟩,
  ⟨none, (.store 4 (.t 16) (.t 116)), none⟩,
  ⟨(some 17), (.mv (.t 117)), none⟩]
def a22_r18 : List AOper := [
  ⟨(some 119), (.mv (.t 17)), none⟩,
  ⟨(some 120), (.un .not (.t 119)), none⟩,
  ⟨(some 121), (.mv (.t 120)), none⟩,
  ⟨(some 122), (.fld 0 (.t 15)), (some (121, true))⟩,
  ⟨(some 123), (.load false 1 (.t 122)), (some (121, true))⟩,
  ⟨(some 124), (.fld 0 (.t 6)), (some (121, true))⟩,
  ⟨(some 125), (.load false 1 (.t 124)), (some (121, true))⟩,
  ⟨(some 126), (.bin .eql (.t 123) (.t 125)), (some (121, true))⟩,
  ⟨(some 127), (.pick (.t 121) (.t 126) (.k (.d (.bool false)))), none⟩,
  ⟨(some 118), (.mv (.t 127)), none⟩]
def a22_r19 : List AOper := [
  ⟨(some 128), (.mv (.t 17)), none⟩,
  ⟨(some 129), (.mv (.t 128)), none⟩,
  ⟨(some 130), (.fld 0 (.t 15)), (some (129, true))⟩,
  ⟨(some 131), (.load false 1 (.t 130)), (some (129, true))⟩,
  ⟨(some 132), (.bin .eql (.t 131) (.k (.d (.int .i64 0)))), (some (129, true))⟩,
  ⟨(some 133), (.pick (.t 129) (.t 132) (.k (.d (.bool false)))), none⟩,
  ⟨(some 118), (.mv (.t 133)), none⟩]
def a22_r20 : List AOper := [
  ⟨(some 8), (.mv (.k (.d (.bool false)))), none⟩]
def a22_r21 : List AOper := [
  ⟨(some 135), (.mv (.t 17)), none⟩,
  ⟨(some 136), (.mv (.t 135)), none⟩,
  ⟨(some 137), (.fld 1 (.t 14)), (some (136, true))⟩,
  ⟨(some 138), (.load false 1 (.t 137)), (some (136, true))⟩,
  ⟨(some 139), (.bin .eql (.t 138) (.k (.d (.int .i64 1)))), (some (136, true))⟩,
  ⟨(some 140), (.pick (.t 136) (.t 139) (.k (.d (.bool false)))), none⟩,
  ⟨(some 141), (.mv (.t 140)), none⟩,
  ⟨(some 142), (.fld 2 (.t 16)), (some (141, true))⟩,
  ⟨(some 143), (.load false 1 (.t 142)), (some (141, true))⟩,
  ⟨(some 144), (.fld 1 (.t 15)), (some (141, true))⟩,
  ⟨(some 145), (.load false 1 (.t 144)), (some (141, true))⟩,
  ⟨(some 146), (.fld 2 (.t 15)), (some (141, true))⟩,
  ⟨(some 147), (.load false 1 (.t 146)), (some (141, true))⟩,
  ⟨(some 148), (.call (.k (.cl 64 [] [])) [(.t 143), (.t 145), (.t 147)]), (some (141, true))⟩,
  ⟨(some 149), (.un .not (.t 148)), (some (141, true))⟩,
  ⟨(some 150), (.pick (.t 141) (.t 149) (.k (.d (.bool false)))), none⟩,
  ⟨(some 134), (.mv (.t 150)), none⟩]
def a22_r22 : List AOper := [
  ⟨(some 151), (.mv (.t 17)), none⟩,
  ⟨(some 152), (.mv (.t 151)), none⟩,
  ⟨(some 153), (.fld 1 (.t 14)), (some (152, true))⟩,
  ⟨(some 154), (.load false 1 (.t 153)), (some (152, true))⟩,
  ⟨(some 155), (.bin .eql (.t 154) (.k (.d (.int .i64 2)))), (some (152, true))⟩,
  ⟨(some 156), (.pick (.t 152) (.t 155) (.k (.d (.bool false)))), none⟩,
  ⟨(some 157), (.mv (.t 156)), none⟩,
  ⟨(some 158), (.fld 3 (.t 15)), (some (157, true))⟩,
  ⟨(some 159), (.load false 1 (.t 158)), (some (157, true))⟩,
  ⟨(some 160), (.fld 3 (.t 16)), (some (157, true))⟩,
  ⟨(some 161), (.load false 1 (.t 160)), (some (157, true))⟩,
  ⟨(some 162), (.call (.k (.cl 73 [] [])) [(.t 159), (.t 161)]), (some (157, true))⟩,
  ⟨(some 163), (.un .not (.t 162)), (some (157, true))⟩,
  ⟨(some 164), (.pick (.t 157) (.t 163) (.k (.d (.bool false)))), none⟩,
  ⟨(some 134), (.mv (.t 164)), none⟩]
def a22_r23 : List AOper := [
  ⟨(some 8), (.mv (.k (.d (.bool false)))), none⟩]
def a22_r24 : List AOper := [
  ⟨(some 165), (.bin .add (.t 100) (.k (.d (.int .i64 1)))), none⟩,
  ⟨(some 100), (.mv (.t 165)), none⟩]
def a22_r25 : List AOper := [
  ⟨(some 8), (.mv (.k (.d (.bool true)))), none⟩]
def l22_0 : ECode :=
  .seq (.region false a22_r14) (.seq (.cond (.t 101) (.skip) (.exit 2)) (.seq (.block 3 (.seq (.region false a22_r15) (.seq (.region false a22_r16) (.seq (.region false a22_r17) (.block 4 (.seq (.seq (.region false a22_r18) (.cond (.t 118) (.skip) (.region false a22_r19))) (.cond (.t 118) (.seq (.region false a22_r20) (.ret)) (.seq (.seq (.region false a22_r21) (.cond (.t 134) (.skip) (.region false a22_r22))) (.cond (.t 134) (.seq (.region false a22_r23) (.ret)) (.skip)))))))))) (.region false a22_r24)))
def l22_1 : ECode :=
  .seq (.region false a22_r5) (.seq (.cond (.t 41) (.skip) (.exit 0)) (.seq (.block 1 (.seq (.region false a22_r6) (.seq (.region false a22_r7) (.seq (.region true a22_r8) (.seq (.region false a22_r9) (.cond (.t 66) (.exit 0) (.skip))))))) (.region false a22_r10)))
def e22 : EFunc := ⟨166, [(.tmp 8)],
  .seq (.region false a22_r0) (.scope (.seq (.seq (.region false a22_r1) (.cond (.t 37) (.seq (.region false a22_r2) (.ret)) (.skip))) (.seq (.region false a22_r3) (.seq (.skip) (.seq (.seq (.region false a22_r4) (.block 0 (.loop [false, false, false, false, true, false, true, true, false, true, false, false, false, false, false, false, false, false, false, false, false, false, false, false, false, false, false, false, false, false, false, false, false, false, false, false, false, false, true, true, true] [false, false, false, false, true, false, true, true, false, true] l22_1))) (.seq (.seq (.region false a22_r11) (.cond (.t 96) (.seq (.region false a22_r12) (.ret)) (.skip))) (.seq (.seq (.region false a22_r13) (.block 2 (.loop [false, false, false, false, false, false, true, true, false, false, false, false, false, false, false, false, false, false, false, false, false, false, false, false, false, false, false, false, false, false, false, false, false, false, false, false, false, false, false, false, false, false, false, false, false, false, false, false, false, false, false, false, false, false, false, false, false, false, false, false, false, false, false, false, false, false, false, false, false, false, false, false, false, false, false, false, false, false, false, false, false, false, false, false, false, false, false, false, false, false, false, false, false, false, false, false, false, false, true, true, true] [false, false, false, false, false, false, false, false, true] l22_0))) (.seq (.region false a22_r25) (.ret)))))))))⟩

def a25_r0 : List AOper := [
  ⟨(some 4), (.box 24 true 3 (.t 0)), none⟩,
  ⟨(some 5), (.box 33 true 10 (.t 1)), none⟩,
  ⟨(some 8), (.mv (.k (.d (.int .i64 0)))), none⟩,
  ⟨(some 9), (.mv (.k (.d (.int .i64 0)))), none⟩]
def a25_r1 : List AOper := [
  ⟨(some 15), (.fld 1 (.t 4)), none⟩,
  ⟨(some 16), (.load false 1 (.t 15)), none⟩,
  ⟨(some 17), (.fld 1 (.t 5)), none⟩,
  ⟨(some 18), (.load true 2 (.t 17)), none⟩,
  ⟨(some 19), (.mv (.t 2)), none⟩,
  ⟨(some 20), (.call (.k (.cl 76 [] [])) [(.t 16), (.t 18), (.t 19)]), none⟩,
  ⟨(some 14), (.mv (.t 20)), none⟩,
  ⟨(some 21), (.ext (.t 14) 0), none⟩,
  ⟨(some 22), (.ext (.t 14) 1), none⟩,
  ⟨(some 10), (.mv (.t 21)), none⟩,
  ⟨(some 11), (.mv (.t 22)), none⟩]
def a25_r2 : List AOper := [
  ⟨(some 24), (.fld 1 (.t 4)), none⟩,
  ⟨(some 25), (.load false 1 (.t 24)), none⟩,
  ⟨(some 26), (.fld 3 (.t 5)), none⟩,
  ⟨(some 27), (.load false 1 (.t 26)), none⟩,
  ⟨(some 28), (.mv (.t 3)), none⟩,
  ⟨(some 29), (.call (.k (.cl 77 [] [])) [(.t 25), (.t 27), (.t 28)]), none⟩,
  ⟨(some 23), (.mv (.t 29)), none⟩,
  ⟨(some 30), (.ext (.t 23) 0), none⟩,
  ⟨(some 31), (.ext (.t 23) 1), none⟩,
  ⟨(some 12), (.mv (.t 30)), none⟩,
  ⟨(some 13), (.mv (.t 31)), none⟩]
def a25_r3 : List AOper := [
  ⟨(some 32), (.mv (.t 11)), none⟩,
  ⟨(some 33), (.bin .neq (.t 32) (.k (.d (.int .i64 0)))), none⟩,
  ⟨(some 34), (.mv (.t 33)), none⟩,
  ⟨(some 35), (.mv (.t 13)), (some (34, false))⟩,
  ⟨(some 36), (.bin .neq (.t 35) (.k (.d (.int .i64 0)))), (some (34, false))⟩,
  ⟨(some 37), (.pick (.t 34) (.k (.d (.bool true))) (.t 36)), none⟩]
def a25_r4 : List AOper := [
  ⟨(some 8), (.mv (.k (.d (.int .i64 0)))), none⟩,
  ⟨(some 9), (.mv (.k (.d (.int .i64 1)))), none⟩]
def a25_r5 : List AOper := [
  ⟨(some 38), (.mv (.t 10)), none⟩,
  ⟨(some 39), (.mv (.t 12)), none⟩,
  ⟨(some 40), (.mx [(.t 38), (.t 39)]), none⟩,
  ⟨(some 8), (.mv (.t 40)), none⟩,
  ⟨(some 9), (.mv (.k (.d (.int .i64 0)))), none⟩]
def e25 : EFunc := ⟨41, [(.tmp 8), (.tmp 9)],
  .seq (.region false a25_r0) (.seq (.region false a25_r1) (.seq (.region false a25_r2) (.seq (.seq (.region false a25_r3) (.cond (.t 37) (.seq (.region false a25_r4) (.ret)) (.skip))) (.seq (.region false a25_r5) (.ret)))))⟩

def a27_r0 : List AOper := [
  ⟨(some 2), (.box 33 true 10 (.t 0)), none⟩,
  ⟨(some 3), (.box 56 true 2 (.t 1)), none⟩,
  ⟨(some 4), (.mv (.k (.d (.bool false)))), none⟩]
def a27_r1 : List AOper := [
  ⟨(some 5), (.fld 4 (.t 2)), none⟩,
  ⟨(some 6), (.load false 1 (.t 5)), none⟩,
  ⟨(some 7), (.fld 0 (.t 3)), none⟩,
  ⟨(some 8), (.load false 1 (.t 7)), none⟩,
  ⟨(some 9), (.bin .leq (.t 6) (.t 8)), none⟩,
  ⟨(some 10), (.mv (.t 9)), none⟩,
  ⟨(some 11), (.fld 0 (.t 3)), (some (10, true))⟩,
  ⟨(some 12), (.load false 1 (.t 11)), (some (10, true))⟩,
  ⟨(some 13), (.fld 6 (.t 2)), (some (10, true))⟩,
  ⟨(some 14), (.load false 1 (.t 13)), (some (10, true))⟩,
  ⟨(some 15), (.bin .lss (.t 12) (.t 14)), (some (10, true))⟩,
  ⟨(some 16), (.pick (.t 10) (.t 15) (.k (.d (.bool false)))), none⟩,
  ⟨(some 17), (.mv (.t 16)), none⟩,
  ⟨(some 18), (.fld 7 (.t 2)), (some (17, true))⟩,
  ⟨(some 19), (.load false 1 (.t 18)), (some (17, true))⟩,
  ⟨(some 20), (.fld 1 (.t 3)), (some (17, true))⟩,
  ⟨(some 21), (.load false 1 (.t 20)), (some (17, true))⟩,
  ⟨(some 22), (.bin .leq (.t 19) (.t 21)), (some (17, true))⟩,
  ⟨(some 23), (.pick (.t 17) (.t 22) (.k (.d (.bool false)))), none⟩,
  ⟨(some 4), (.mv (.t 23)), none⟩]
def e27 : EFunc := ⟨24, [(.tmp 4)],
  .seq (.region false a27_r0) (.seq (.region false a27_r1) (.ret))⟩

def a31_r0 : List AOper := [
  ⟨(some 3), (.box 24 true 3 (.t 0)), none⟩,
  ⟨(some 4), (.box 33 true 10 (.t 1)), none⟩,
  ⟨(some 5), (.box 54 true 6 (.t 2)), none⟩,
  ⟨(some 6), (.mv (.k (.d (.bool false)))), none⟩,
  ⟨(some 7), (.mv (.k (.d (.bool false)))), none⟩]
def a31_d1 : List DOp := [
  ⟨⟨(some 9), (.load true 3 (.t 3)), none⟩, [], 0⟩,
  ⟨⟨(some 10), (.load true 10 (.t 4)), none⟩, [false], 0⟩,
  ⟨⟨(some 11), (.call (.k (.cl 84 [] [])) []), none⟩, [false, false], 0⟩,
  ⟨⟨(some 12), (.build [(.d (.int .i64 0)), (.d (.int .i64 0)), (.nils 77 5), (.d (.int .i64 0)), (.nils 3 1), (.nils 3 1), (.nils 119 2), (.d (.int .i64 0)), (.d (.int .i64 0)), (.d (.int .i64 0)), (.d (.int .i64 0)), (.d (.int .i64 0)), (.nils 100 4), .undef] [(0, (3, (.t 9))), (3, (10, (.t 10))), (13, (1, (.t 11)))]), none⟩, [true, true, true], 0⟩,
  ⟨⟨(some 13), (.box 139 true 14 (.t 12)), none⟩, [true, true, true, true], 1⟩,
  ⟨⟨(some 14), (.load true 6 (.t 5)), none⟩, [false, false, false, false, false], 0⟩,
  ⟨⟨(some 15), (.call (.k (.cl 85 [] [])) [(.t 13), (.t 14)]), none⟩, [true, true, true, true, true, true], 2⟩,
  ⟨⟨(some 8), (.alloc 134 [(.d (.bool false)), (.d (.bool false))]), none⟩, [false, false, false, false, false, false, false], 3⟩,
  ⟨⟨none, (.store 2 (.t 8) (.t 15)), none⟩, [true, true, true, true, true, true, true, true], 0⟩]
def a31_r2 : List AOper := [
  ⟨(some 16), (.fld 0 (.t 8)), none⟩,
  ⟨(some 17), (.load false 1 (.t 16)), none⟩,
  ⟨(some 18), (.fld 1 (.t 8)), none⟩,
  ⟨(some 19), (.load false 1 (.t 18)), none⟩,
  ⟨(some 6), (.mv (.t 17)), none⟩,
  ⟨(some 7), (.mv (.t 19)), none⟩]
def e31 : EFunc := ⟨20, [(.tmp 6), (.tmp 7)],
  .seq (.region false a31_r0) (.seq (.draw 4 a31_d1) (.seq (.region true a31_r2) (.ret)))⟩

def a34_r0 : List AOper := [
  ⟨(some 2), (.box 24 true 3 (.t 0)), none⟩,
  ⟨(some 3), (.box 50 true 9 (.t 1)), none⟩,
  ⟨(some 4), (.mv (.k (.d (.int .i64 0)))), none⟩]
def a34_r1 : List AOper := [
  ⟨(some 6), (.mkfn 88 [] [(.t 3)]), none⟩,
  ⟨(some 7), (.build [.nilf, (.d (.int .i64 0))] [(0, (1, (.t 6))), (1, (1, (.k (.d (.int .i64 1)))))]), none⟩,
  ⟨(some 8), (.mkfn 89 [] [(.t 3)]), none⟩,
  ⟨(some 9), (.build [.nilf, (.d (.int .i64 0))] [(0, (1, (.t 8))), (1, (1, (.k (.d (.int .i64 9)))))]), none⟩,
  ⟨(some 10), (.mkfn 90 [] [(.t 3)]), none⟩,
  ⟨(some 11), (.build [.nilf, (.d (.int .i64 0))] [(0, (1, (.t 10))), (1, (1, (.k (.d (.int .i64 9)))))]), none⟩,
  ⟨(some 12), (.mkfn 91 [] [(.t 3)]), none⟩,
  ⟨(some 13), (.build [.nilf, (.d (.int .i64 0))] [(0, (1, (.t 12))), (1, (1, (.k (.d (.int .i64 9)))))]), none⟩,
  ⟨(some 14), (.mkfn 92 [] [(.t 3), (.t 2)]), none⟩,
  ⟨(some 15), (.build [.nilf, (.d (.int .i64 0))] [(0, (1, (.t 14))), (1, (1, (.k (.d (.int .i64 40)))))]), none⟩,
  ⟨(some 16), (.bsl 143 2 [(.t 7), (.t 9), (.t 11), (.t 13), (.t 15)]), none⟩,
  ⟨(some 17), (.call (.k (.cl 87 [] [])) [(.t 16)]), none⟩,
  ⟨(some 5), (.mv (.t 17)), none⟩]
def a34_r2 : List AOper := [
  ⟨(some 18), (.mv (.t 5)), none⟩,
  ⟨(some 19), (.bin .neq (.t 18) (.k (.d (.int .i64 0)))), none⟩]
def a34_r3 : List AOper := [
  ⟨(some 20), (.mv (.t 5)), none⟩,
  ⟨(some 4), (.mv (.t 20)), none⟩]
def a34_r4 : List AOper := [
  ⟨(some 21), (.load true 3 (.t 2)), none⟩,
  ⟨(some 22), (.fld 8 (.t 3)), none⟩,
  ⟨(some 23), (.load false 1 (.t 22)), none⟩,
  ⟨(some 24), (.call (.k (.cl 93 [] [])) [(.t 21), (.t 23)]), none⟩,
  ⟨(some 4), (.mv (.t 24)), none⟩]
def e34 : EFunc := ⟨25, [(.tmp 4)],
  .seq (.region false a34_r0) (.seq (.region false a34_r1) (.seq (.seq (.region false a34_r2) (.cond (.t 19) (.seq (.region false a34_r3) (.ret)) (.skip))) (.seq (.region false a34_r4) (.ret))))⟩

def a37_r0 : List AOper := [
  ⟨(some 3), (.box 9 false 1 (.t 1)), none⟩,
  ⟨(some 4), (.alloc 79 [(.d (.str ⟨#[]⟩)), (.d (.int .i64 0)), (.d (.int .i64 0)), (.d (.str ⟨#[]⟩))]), none⟩,
  ⟨(some 5), (.mv (.k (.d (.bool false)))), none⟩]
def a37_r1 : List AOper := [
  ⟨(some 7), (.mv (.t 0)), none⟩,
  ⟨(some 8), (.mkfn 98 [] [(.t 3)]), none⟩,
  ⟨(some 9), (.call (.k (.cl 97 [] [])) [(.t 7), (.t 8)]), none⟩,
  ⟨(some 6), (.mv (.t 9)), none⟩]
def a37_r2 : List AOper := [
  ⟨(some 10), (.mv (.t 6)), none⟩,
  ⟨(some 11), (.bin .lss (.t 10) (.k (.d (.int .i64 0)))), none⟩]
def a37_r3 : List AOper := [
  ⟨(some 12), (.build [(.d (.str ⟨#[]⟩)), (.d (.int .i64 0)), (.d (.int .i64 0)), (.d (.str ⟨#[]⟩))] []), none⟩,
  ⟨none, (.store 4 (.t 4) (.t 12)), none⟩,
  ⟨(some 5), (.mv (.k (.d (.bool false)))), none⟩]
def a37_r4 : List AOper := [
  ⟨(some 13), (.mv (.t 0)), none⟩,
  ⟨(some 14), (.mv (.t 6)), none⟩,
  ⟨(some 15), (.ixa 4 (.t 13) (.t 14)), none⟩,
  ⟨(some 16), (.load true 4 (.t 15)), none⟩,
  ⟨none, (.store 4 (.t 4) (.t 16)), none⟩,
  ⟨(some 5), (.mv (.k (.d (.bool true)))), none⟩]
def e37 : EFunc := ⟨17, [(.cell 4 true 4), (.tmp 5)],
  .seq (.region false a37_r0) (.seq (.region false a37_r1) (.seq (.seq (.region false a37_r2) (.cond (.t 11) (.seq (.region false a37_r3) (.ret)) (.skip))) (.seq (.region false a37_r4) (.ret))))⟩

def a38_r0 : List AOper := [
  ⟨(some 2), (.mv (.k (.d (.bool false)))), none⟩]
def a38_r1 : List AOper := [
  ⟨(some 4), (.mv (.t 0)), none⟩,
  ⟨(some 5), (.call (.k (.cl 99 [] [])) [(.t 4), (.k (.d (.bool true))), (.k (.cl 100 [] []))]), none⟩,
  ⟨(some 3), (.mv (.t 5)), none⟩]
def a38_r2 : List AOper := [
  ⟨(some 6), (.mv (.t 3)), none⟩,
  ⟨(some 7), (.mv (.t 6)), none⟩,
  ⟨(some 8), (.mv (.t 0)), (some (7, true))⟩,
  ⟨(some 9), (.len false (.t 8)), (some (7, true))⟩,
  ⟨(some 10), (.bin .geq (.t 9) (.k (.d (.int .i64 1)))), (some (7, true))⟩,
  ⟨(some 11), (.pick (.t 7) (.t 10) (.k (.d (.bool false)))), none⟩,
  ⟨(some 12), (.mv (.t 11)), none⟩,
  ⟨(some 13), (.mv (.t 0)), (some (12, true))⟩,
  ⟨(some 14), (.len false (.t 13)), (some (12, true))⟩,
  ⟨(some 15), (.bin .leq (.t 14) (.k (.d (.int .i64 32)))), (some (12, true))⟩,
  ⟨(some 16), (.pick (.t 12) (.t 15) (.k (.d (.bool false)))), none⟩,
  ⟨(some 2), (.mv (.t 16)), none⟩]
def e38 : EFunc := ⟨17, [(.tmp 2)],
  .seq (.region false a38_r0) (.seq (.region false a38_r1) (.seq (.region false a38_r2) (.ret)))⟩

def a41_r0 : List AOper := [
  ⟨(some 6), (.mv (.k (.d (.int .i64 0)))), none⟩]
def a41_r1 : List AOper := [
  ⟨(some 7), (.mv (.t 0)), none⟩,
  ⟨(some 8), (.mv (.t 1)), none⟩,
  ⟨(some 9), (.mv (.t 2)), none⟩,
  ⟨(some 10), (.call (.k (.cl 107 [] [])) [(.t 8), (.t 9)]), none⟩,
  ⟨(some 11), (.call (.k (.cl 106 [] [])) [(.t 7), (.t 10)]), none⟩,
  ⟨(some 6), (.mv (.t 11)), none⟩]
def e41 : EFunc := ⟨12, [(.tmp 6)],
  .seq (.region false a41_r0) (.seq (.region false a41_r1) (.ret))⟩

def a46_r0 : List AOper := [
  ⟨(some 1), (.box 33 true 10 (.t 0)), none⟩,
  ⟨(some 2), (.nilsl 5 1), none⟩]
def a46_r1 : List AOper := [
  ⟨(some 11), (.fld 0 (.t 1)), none⟩,
  ⟨(some 12), (.load false 1 (.t 11)), none⟩,
  ⟨(some 13), (.fld 4 (.t 1)), none⟩,
  ⟨(some 14), (.load false 1 (.t 13)), none⟩,
  ⟨(some 15), (.fld 5 (.t 1)), none⟩,
  ⟨(some 16), (.load false 1 (.t 15)), none⟩,
  ⟨(some 17), (.fld 6 (.t 1)), none⟩,
  ⟨(some 18), (.load false 1 (.t 17)), none⟩,
  ⟨(some 19), (.fld 7 (.t 1)), none⟩,
  ⟨(some 20), (.load false 1 (.t 19)), none⟩,
  ⟨(some 21), (.fld 8 (.t 1)), none⟩,
  ⟨(some 22), (.load false 1 (.t 21)), none⟩,
  ⟨(some 23), (.bsl 3 1 [(.t 12), (.t 14), (.t 16), (.t 18), (.t 20), (.t 22)]), none⟩,
  ⟨(some 3), (.mv (.t 23)), none⟩]
def a46_r2 : List AOper := [
  ⟨(some 24), (.fld 1 (.t 1)), none⟩,
  ⟨(some 25), (.fld 0 (.t 24)), none⟩,
  ⟨(some 26), (.load false 1 (.t 25)), none⟩,
  ⟨(some 27), (.fld 1 (.t 1)), none⟩,
  ⟨(some 28), (.fld 1 (.t 27)), none⟩,
  ⟨(some 29), (.load false 1 (.t 28)), none⟩,
  ⟨(some 30), (.bsl 27 1 [(.t 26), (.t 29)]), none⟩,
  ⟨(some 31), (.len false (.t 30)), none⟩,
  ⟨(some 32), (.mv (.k (.d (.int .i64 0)))), none⟩]
def a46_r3 : List AOper := [
  ⟨(some 33), (.bin .lss (.t 32) (.t 31)), none⟩]
def a46_r4 : List AOper := [
  ⟨(some 34), (.ixa 1 (.t 30) (.t 32)), none⟩,
  ⟨(some 35), (.load false 1 (.t 34)), none⟩,
  ⟨(some 5), (.mv (.t 35)), none⟩]
def a46_r5 : List AOper := [
  ⟨(some 36), (.mv (.t 3)), none⟩,
  ⟨(some 37), (.mv (.t 5)), none⟩,
  ⟨(some 38), (.len false (.t 37)), none⟩,
  ⟨(some 39), (.bsl 3 1 [(.t 38)]), none⟩,
  ⟨(some 40), (.app false 3 1 8 (.t 36) (.t 39)), none⟩,
  ⟨(some 41), (.mv (.t 5)), none⟩,
  ⟨(some 42), (.app false 3 1 8 (.t 40) (.t 41)), none⟩,
  ⟨(some 3), (.mv (.t 42)), none⟩]
def a46_r6 : List AOper := [
  ⟨(some 43), (.bin .add (.t 32) (.k (.d (.int .i64 1)))), none⟩,
  ⟨(some 32), (.mv (.t 43)), none⟩]
def a46_r7 : List AOper := [
  ⟨(some 44), (.mv (.t 3)), none⟩,
  ⟨(some 45), (.fld 3 (.t 1)), none⟩,
  ⟨(some 46), (.load false 1 (.t 45)), none⟩,
  ⟨(some 47), (.len false (.t 46)), none⟩,
  ⟨(some 48), (.bsl 3 1 [(.t 47)]), none⟩,
  ⟨(some 49), (.app false 3 1 8 (.t 44) (.t 48)), none⟩,
  ⟨(some 3), (.mv (.t 49)), none⟩]
def a46_r8 : List AOper := [
  ⟨(some 50), (.fld 3 (.t 1)), none⟩,
  ⟨(some 51), (.load false 1 (.t 50)), none⟩,
  ⟨(some 52), (.len false (.t 51)), none⟩,
  ⟨(some 53), (.mv (.k (.d (.int .i64 0)))), none⟩]
def a46_r9 : List AOper := [
  ⟨(some 54), (.bin .lss (.t 53) (.t 52)), none⟩]
def a46_r10 : List AOper := [
  ⟨(some 55), (.ixa 2 (.t 51) (.t 53)), none⟩,
  ⟨(some 56), (.load true 2 (.t 55)), none⟩,
  ⟨(some 7), (.alloc 119 [(.d (.int .i64 0)), (.d (.int .i64 0))]), none⟩,
  ⟨none, (.store 2 (.t 7) (.t 56)), none⟩]
def a46_r11 : List AOper := [
  ⟨(some 57), (.mv (.t 3)), none⟩,
  ⟨(some 58), (.fld 0 (.t 7)), none⟩,
  ⟨(some 59), (.load false 1 (.t 58)), none⟩,
  ⟨(some 60), (.fld 1 (.t 7)), none⟩,
  ⟨(some 61), (.load false 1 (.t 60)), none⟩,
  ⟨(some 62), (.bsl 3 1 [(.t 59), (.t 61)]), none⟩,
  ⟨(some 63), (.app false 3 1 8 (.t 57) (.t 62)), none⟩,
  ⟨(some 3), (.mv (.t 63)), none⟩]
def a46_r12 : List AOper := [
  ⟨(some 64), (.bin .add (.t 53) (.k (.d (.int .i64 1)))), none⟩,
  ⟨(some 53), (.mv (.t 64)), none⟩]
def a46_r13 : List AOper := [
  ⟨(some 65), (.mv (.t 3)), none⟩,
  ⟨(some 66), (.fld 9 (.t 1)), none⟩,
  ⟨(some 67), (.load false 1 (.t 66)), none⟩,
  ⟨(some 68), (.len false (.t 67)), none⟩,
  ⟨(some 69), (.bsl 3 1 [(.t 68)]), none⟩,
  ⟨(some 70), (.app false 3 1 8 (.t 65) (.t 69)), none⟩,
  ⟨(some 3), (.mv (.t 70)), none⟩]
def a46_r14 : List AOper := [
  ⟨(some 8), (.nilsl 9 1), none⟩]
def a46_r15 : List AOper := [
  ⟨(some 71), (.fld 9 (.t 1)), none⟩,
  ⟨(some 72), (.load false 1 (.t 71)), none⟩,
  ⟨(some 73), (.len false (.t 72)), none⟩,
  ⟨(some 74), (.mv (.k (.d (.int .i64 0)))), none⟩]
def a46_r16 : List AOper := [
  ⟨(some 75), (.bin .lss (.t 74) (.t 73)), none⟩]
def a46_r17 : List AOper := [
  ⟨(some 76), (.ixa 4 (.t 72) (.t 74)), none⟩,
  ⟨(some 77), (.load true 4 (.t 76)), none⟩,
  ⟨(some 10), (.alloc 100 [(.d (.int .i64 0)), (.d (.int .i64 0)), (.d (.int .i64 0)), (.nils 9 1)]), none⟩,
  ⟨none, (.store 4 (.t 10) (.t 77)), none⟩]
def a46_r18 : List AOper := [
  ⟨(some 78), (.mv (.t 3)), none⟩,
  ⟨(some 79), (.fld 0 (.t 10)), none⟩,
  ⟨(some 80), (.load false 1 (.t 79)), none⟩,
  ⟨(some 81), (.fld 1 (.t 10)), none⟩,
  ⟨(some 82), (.load false 1 (.t 81)), none⟩,
  ⟨(some 83), (.fld 2 (.t 10)), none⟩,
  ⟨(some 84), (.load false 1 (.t 83)), none⟩,
  ⟨(some 85), (.fld 3 (.t 10)), none⟩,
  ⟨(some 86), (.load false 1 (.t 85)), none⟩,
  ⟨(some 87), (.len false (.t 86)), none⟩,
  ⟨(some 88), (.bsl 3 1 [(.t 80), (.t 82), (.t 84), (.t 87)]), none⟩,
  ⟨(some 89), (.app false 3 1 8 (.t 78) (.t 88)), none⟩,
  ⟨(some 3), (.mv (.t 89)), none⟩]
def a46_r19 : List AOper := [
  ⟨(some 90), (.mv (.t 8)), none⟩,
  ⟨(some 91), (.fld 3 (.t 10)), none⟩,
  ⟨(some 92), (.load false 1 (.t 91)), none⟩,
  ⟨(some 93), (.app false 9 1 16 (.t 90) (.t 92)), none⟩,
  ⟨(some 8), (.mv (.t 93)), none⟩]
def a46_r20 : List AOper := [
  ⟨(some 94), (.bin .add (.t 74) (.k (.d (.int .i64 1)))), none⟩,
  ⟨(some 74), (.mv (.t 94)), none⟩]
def a46_r21 : List AOper := [
  ⟨(some 95), (.mv (.t 3)), none⟩,
  ⟨(some 96), (.call (.k (.cl 117 [] [])) [(.t 95)]), none⟩,
  ⟨(some 97), (.mv (.t 8)), none⟩,
  ⟨(some 98), (.call (.k (.cl 118 [] [])) [(.t 97)]), none⟩,
  ⟨(some 99), (.app false 5 1 1 (.t 96) (.t 98)), none⟩,
  ⟨(some 2), (.mv (.t 99)), none⟩]
def l46_0 : ECode :=
  .seq (.region false a46_r16) (.seq (.cond (.t 75) (.skip) (.exit 4)) (.seq (.block 5 (.seq (.region false a46_r17) (.seq (.region false a46_r18) (.region false a46_r19)))) (.region false a46_r20)))
def l46_1 : ECode :=
  .seq (.region false a46_r9) (.seq (.cond (.t 54) (.skip) (.exit 2)) (.seq (.block 3 (.seq (.region false a46_r10) (.region false a46_r11))) (.region false a46_r12)))
def l46_2 : ECode :=
  .seq (.region false a46_r3) (.seq (.cond (.t 33) (.skip) (.exit 0)) (.seq (.block 1 (.seq (.region false a46_r4) (.region false a46_r5))) (.region false a46_r6)))
def e46 : EFunc := ⟨100, [(.tmp 2)],
  .seq (.region false a46_r0) (.seq (.region false a46_r1) (.seq (.seq (.region false a46_r2) (.block 0 (.loop [false, true, false, true, false, false, false, false, false, false, false, false, false, false, false, false, false, false, false, false, false, false, false, false, false, false, false, false, false, false, true, true, true] [false, true, false, true] l46_2))) (.seq (.region false a46_r7) (.seq (.seq (.region false a46_r8) (.block 2 (.loop [false, true, false, true, false, false, false, false, false, false, false, false, false, false, false, false, false, false, false, false, false, false, false, false, false, false, false, false, false, false, false, false, false, false, false, false, false, false, false, false, false, false, false, false, false, false, false, false, false, false, false, true, true, true] [false, true, false, true] l46_1))) (.seq (.region false a46_r13) (.seq (.region false a46_r14) (.seq (.seq (.region false a46_r15) (.block 4 (.loop [false, false, false, true, false, false, false, false, true, false, false, false, false, false, false, false, false, false, false, false, false, false, false, false, false, false, false, false, false, false, false, false, false, false, false, false, false, false, false, false, false, false, false, false, false, false, false, false, false, false, false, false, false, false, false, false, false, false, false, false, false, false, false, false, false, false, false, false, false, false, false, false, true, true, true] [false, false, false, true, false, false, false, false, true] l46_0))) (.seq (.region false a46_r21) (.ret)))))))))⟩

def a47_r0 : List AOper := [
  ⟨(some 2), (.alloc 33 [(.d (.int .i64 0)), (.nils 3 1), (.nils 3 1), (.nils 119 2), (.d (.int .i64 0)), (.d (.int .i64 0)), (.d (.int .i64 0)), (.d (.int .i64 0)), (.d (.int .i64 0)), (.nils 100 4)]), none⟩,
  ⟨(some 3), (.mv (.k (.d (.int .i64 0)))), none⟩]
def a47_r1 : List AOper := [
  ⟨(some 14), (.mv (.t 0)), none⟩,
  ⟨(some 15), (.call (.k (.cl 119 [] [])) [(.t 14)]), none⟩,
  ⟨(some 13), (.mv (.t 15)), none⟩,
  ⟨(some 16), (.ext (.t 13) 0), none⟩,
  ⟨(some 17), (.ext (.t 13) 1), none⟩,
  ⟨(some 18), (.ext (.t 13) 2), none⟩,
  ⟨(some 4), (.mv (.t 16)), none⟩,
  ⟨(some 5), (.mv (.t 17)), none⟩,
  ⟨(some 6), (.mv (.t 18)), none⟩]
def a47_r2 : List AOper := [
  ⟨(some 19), (.mv (.t 6)), none⟩,
  ⟨(some 20), (.bin .neq (.t 19) (.k (.d (.int .i64 0)))), none⟩]
def a47_r3 : List AOper := [
  ⟨(some 21), (.build [(.d (.int .i64 0)), (.nils 3 1), (.nils 3 1), (.nils 119 2), (.d (.int .i64 0)), (.d (.int .i64 0)), (.d (.int .i64 0)), (.d (.int .i64 0)), (.d (.int .i64 0)), (.nils 100 4)] []), none⟩,
  ⟨(some 22), (.mv (.t 6)), none⟩,
  ⟨none, (.store 10 (.t 2) (.t 21)), none⟩,
  ⟨(some 3), (.mv (.t 22)), none⟩]
def a47_r4 : List AOper := [
  ⟨(some 24), (.mv (.t 0)), none⟩,
  ⟨(some 25), (.mv (.t 5)), none⟩,
  ⟨(some 26), (.slc 1 (.t 24) (some (.t 25)) none), none⟩,
  ⟨(some 27), (.call (.k (.cl 120 [] [])) [(.t 26)]), none⟩,
  ⟨(some 23), (.mv (.t 27)), none⟩,
  ⟨(some 28), (.ext (.t 23) 0), none⟩,
  ⟨(some 29), (.ext (.t 23) 1), none⟩,
  ⟨(some 30), (.ext (.t 23) 2), none⟩,
  ⟨(some 7), (.mv (.t 28)), none⟩,
  ⟨(some 8), (.mv (.t 29)), none⟩,
  ⟨(some 6), (.mv (.t 30)), none⟩]
def a47_r5 : List AOper := [
  ⟨(some 31), (.mv (.t 6)), none⟩,
  ⟨(some 32), (.bin .neq (.t 31) (.k (.d (.int .i64 0)))), none⟩]
def a47_r6 : List AOper := [
  ⟨(some 33), (.build [(.d (.int .i64 0)), (.nils 3 1), (.nils 3 1), (.nils 119 2), (.d (.int .i64 0)), (.d (.int .i64 0)), (.d (.int .i64 0)), (.d (.int .i64 0)), (.d (.int .i64 0)), (.nils 100 4)] []), none⟩,
  ⟨(some 34), (.mv (.t 6)), none⟩,
  ⟨none, (.store 10 (.t 2) (.t 33)), none⟩,
  ⟨(some 3), (.mv (.t 34)), none⟩]
def a47_r7 : List AOper := [
  ⟨(some 35), (.mv (.t 4)), none⟩,
  ⟨(some 36), (.mv (.t 7)), none⟩,
  ⟨(some 37), (.mv (.t 5)), none⟩,
  ⟨(some 38), (.mv (.t 8)), none⟩,
  ⟨(some 39), (.bin .add (.t 37) (.t 38)), none⟩,
  ⟨(some 40), (.mv (.t 0)), none⟩,
  ⟨(some 41), (.len false (.t 40)), none⟩,
  ⟨(some 42), (.bin .neq (.t 39) (.t 41)), none⟩,
  ⟨(some 43), (.build [(.nils 3 1), (.nils 9 1), (.d (.bool false))] [(0, (1, (.t 35))), (1, (1, (.t 36))), (2, (1, (.t 42)))]), none⟩,
  ⟨(some 44), (.box 182 true 3 (.t 43)), none⟩,
  ⟨(some 9), (.mv (.t 44)), none⟩]
def a47_r8 : List AOper := [
  ⟨(some 45), (.mv (.t 9)), none⟩,
  ⟨(some 46), (.call (.k (.cl 121 [] [])) [(.t 45)]), none⟩,
  ⟨(some 47), (.mv (.t 9)), none⟩,
  ⟨(some 48), (.call (.k (.cl 121 [] [])) [(.t 47)]), none⟩,
  ⟨(some 49), (.mv (.t 9)), none⟩,
  ⟨(some 50), (.call (.k (.cl 121 [] [])) [(.t 49)]), none⟩,
  ⟨(some 51), (.mv (.t 9)), none⟩,
  ⟨(some 52), (.call (.k (.cl 121 [] [])) [(.t 51)]), none⟩,
  ⟨(some 53), (.mv (.t 9)), none⟩,
  ⟨(some 54), (.call (.k (.cl 121 [] [])) [(.t 53)]), none⟩,
  ⟨(some 55), (.mv (.t 9)), none⟩,
  ⟨(some 56), (.call (.k (.cl 121 [] [])) [(.t 55)]), none⟩,
  ⟨(some 57), (.build [(.d (.int .i64 0)), (.nils 3 1), (.nils 3 1), (.nils 119 2), (.d (.int .i64 0)), (.d (.int .i64 0)), (.d (.int .i64 0)), (.d (.int .i64 0)), (.d (.int .i64 0)), (.nils 100 4)] [(0, (1, (.t 46))), (4, (1, (.t 48))), (5, (1, (.t 50))), (6, (1, (.t 52))), (7, (1, (.t 54))), (8, (1, (.t 56)))]), none⟩,
  ⟨(some 10), (.alloc 33 [(.d (.int .i64 0)), (.nils 3 1), (.nils 3 1), (.nils 119 2), (.d (.int .i64 0)), (.d (.int .i64 0)), (.d (.int .i64 0)), (.d (.int .i64 0)), (.d (.int .i64 0)), (.nils 100 4)]), none⟩,
  ⟨none, (.store 10 (.t 10) (.t 57)), none⟩]
def a47_r9 : List AOper := [
  ⟨(some 58), (.mv (.t 9)), none⟩,
  ⟨(some 59), (.call (.k (.cl 122 [] [])) [(.t 58)]), none⟩,
  ⟨(some 60), (.mv (.t 9)), none⟩,
  ⟨(some 61), (.call (.k (.cl 122 [] [])) [(.t 60)]), none⟩,
  ⟨(some 62), (.build [(.nils 3 1), (.nils 3 1)] [(0, (1, (.t 59))), (1, (1, (.t 61)))]), none⟩,
  ⟨(some 63), (.fld 1 (.t 10)), none⟩,
  ⟨none, (.store 2 (.t 63) (.t 62)), none⟩]
def a47_r10 : List AOper := [
  ⟨(some 64), (.mv (.t 9)), none⟩,
  ⟨(some 65), (.mv (.t 9)), none⟩,
  ⟨(some 66), (.nilck (.t 65)), none⟩,
  ⟨(some 67), (.fld 0 (.t 66)), none⟩,
  ⟨(some 68), (.load false 1 (.t 67)), none⟩,
  ⟨(some 69), (.len false (.t 68)), none⟩,
  ⟨(some 70), (.call (.k (.cl 123 [] [])) [(.t 64), (.t 69)]), none⟩,
  ⟨(some 71), (.mv (.k (.d (.int .i64 0)))), none⟩]
def a47_r11 : List AOper := [
  ⟨(some 72), (.bin .lss (.t 71) (.t 70)), none⟩]
def a47_d12 : List DOp := [
  ⟨⟨(some 73), (.fld 3 (.t 10)), none⟩, [], 0⟩,
  ⟨⟨(some 74), (.load false 1 (.t 73)), none⟩, [true], 0⟩,
  ⟨⟨(some 75), (.mv (.t 9)), none⟩, [false, false], 0⟩,
  ⟨⟨(some 76), (.call (.k (.cl 121 [] [])) [(.t 75)]), none⟩, [false, false, true], 0⟩,
  ⟨⟨(some 77), (.mv (.t 9)), none⟩, [false, false, false, false], 0⟩,
  ⟨⟨(some 78), (.call (.k (.cl 121 [] [])) [(.t 77)]), none⟩, [false, false, true, true, true], 1⟩,
  ⟨⟨(some 79), (.build [(.d (.int .i64 0)), (.d (.int .i64 0))] [(0, (1, (.t 76))), (1, (1, (.t 78)))]), none⟩, [false, false, true, true, true, true], 0⟩,
  ⟨⟨(some 80), (.bsl 119 2 [(.t 79)]), none⟩, [false, false, true, true, true, true, true], 2⟩,
  ⟨⟨(some 81), (.app false 119 2 16 (.t 74) (.t 80)), none⟩, [true, true, true, true, true, true, true, true], 3⟩,
  ⟨⟨(some 82), (.fld 3 (.t 10)), none⟩, [true, true, true, true, true, true, true, true, true], 0⟩,
  ⟨⟨none, (.store 1 (.t 82) (.t 81)), none⟩, [true, true, true, true, true, true, true, true, true, true], 0⟩]
def a47_r13 : List AOper := [
  ⟨(some 83), (.bin .add (.t 71) (.k (.d (.int .i64 1)))), none⟩,
  ⟨(some 71), (.mv (.t 83)), none⟩]
def a47_r14 : List AOper := [
  ⟨(some 84), (.mv (.t 9)), none⟩,
  ⟨(some 85), (.mv (.t 9)), none⟩,
  ⟨(some 86), (.nilck (.t 85)), none⟩,
  ⟨(some 87), (.fld 0 (.t 86)), none⟩,
  ⟨(some 88), (.load false 1 (.t 87)), none⟩,
  ⟨(some 89), (.len false (.t 88)), none⟩,
  ⟨(some 90), (.call (.k (.cl 123 [] [])) [(.t 84), (.t 89)]), none⟩,
  ⟨(some 91), (.mv (.k (.d (.int .i64 0)))), none⟩]
def a47_r15 : List AOper := [
  ⟨(some 92), (.bin .lss (.t 91) (.t 90)), none⟩]
def a47_r16 : List AOper := [
  ⟨(some 93), (.mv (.t 9)), none⟩,
  ⟨(some 94), (.call (.k (.cl 121 [] [])) [(.t 93)]), none⟩,
  ⟨(some 95), (.mv (.t 9)), none⟩,
  ⟨(some 96), (.call (.k (.cl 121 [] [])) [(.t 95)]), none⟩,
  ⟨(some 97), (.mv (.t 9)), none⟩,
  ⟨(some 98), (.call (.k (.cl 121 [] [])) [(.t 97)]), none⟩,
  ⟨(some 99), (.build [(.d (.int .i64 0)), (.d (.int .i64 0)), (.d (.int .i64 0)), (.nils 9 1)] [(0, (1, (.t 94))), (1, (1, (.t 96))), (2, (1, (.t 98)))]), none⟩,
  ⟨(some 11), (.alloc 100 [(.d (.int .i64 0)), (.d (.int .i64 0)), (.d (.int .i64 0)), (.nils 9 1)]), none⟩,
  ⟨none, (.store 4 (.t 11) (.t 99)), none⟩]
def a47_r17 : List AOper := [
  ⟨(some 100), (.mv (.t 9)), none⟩,
  ⟨(some 101), (.mv (.t 9)), none⟩,
  ⟨(some 102), (.nilck (.t 101)), none⟩,
  ⟨(some 103), (.fld 1 (.t 102)), none⟩,
  ⟨(some 104), (.load false 1 (.t 103)), none⟩,
  ⟨(some 105), (.len false (.t 104)), none⟩,
  ⟨(some 106), (.call (.k (.cl 123 [] [])) [(.t 100), (.t 105)]), none⟩,
  ⟨(some 12), (.mv (.t 106)), none⟩]
def a47_d18 : List DOp := [
  ⟨⟨(some 107), (.mv (.t 9)), none⟩, [], 0⟩,
  ⟨⟨(some 108), (.mv (.t 9)), none⟩, [false], 0⟩,
  ⟨⟨(some 109), (.nilck (.t 108)), none⟩, [false, true], 0⟩,
  ⟨⟨(some 110), (.fld 1 (.t 109)), none⟩, [false, true, true], 0⟩,
  ⟨⟨(some 111), (.load false 1 (.t 110)), none⟩, [false, true, true, true], 0⟩,
  ⟨⟨(some 112), (.mv (.t 12)), none⟩, [false, false, false, false, false], 0⟩,
  ⟨⟨(some 113), (.slc 1 (.t 111) none (some (.t 112))), none⟩, [false, true, true, true, true, true], 0⟩,
  ⟨⟨(some 114), (.call (.k (.cl 124 [] [])) [(.t 113)]), none⟩, [false, true, true, true, true, true, true], 0⟩,
  ⟨⟨(some 115), (.mv (.t 9)), none⟩, [false, false, false, false, false, false, false, false], 0⟩,
  ⟨⟨(some 116), (.nilck (.t 115)), none⟩, [false, false, false, false, false, false, false, false, true], 0⟩,
  ⟨⟨(some 117), (.fld 1 (.t 116)), none⟩, [false, false, false, false, false, false, false, false, true, true], 0⟩,
  ⟨⟨(some 118), (.load false 1 (.t 117)), none⟩, [false, false, false, false, false, false, false, false, true, true, true], 0⟩,
  ⟨⟨(some 119), (.mv (.t 12)), none⟩, [false, false, false, false, false, false, false, false, false, false, false, false], 0⟩,
  ⟨⟨(some 120), (.slc 1 (.t 118) (some (.t 119)) none), none⟩, [false, false, false, false, false, false, false, false, true, true, true, true, true], 0⟩,
  ⟨⟨(some 121), (.fld 3 (.t 11)), none⟩, [false, true, true, true, true, true, true, true, false, false, false, false, false, false], 0⟩,
  ⟨⟨none, (.store 1 (.t 121) (.t 114)), none⟩, [false, true, true, true, true, true, true, true, false, false, false, false, false, false, true], 0⟩,
  ⟨⟨(some 122), (.nilck (.t 107)), none⟩, [true, true, true, true, true, true, true, true, true, true, true, true, true, true, true, true], 0⟩,
  ⟨⟨(some 123), (.fld 1 (.t 122)), none⟩, [true, true, true, true, true, true, true, true, true, true, true, true, true, true, true, true, true], 0⟩,
  ⟨⟨none, (.store 1 (.t 123) (.t 120)), none⟩, [true, true, true, true, true, true, true, true, true, true, true, true, true, true, true, true, true, true], 0⟩]
def a47_r19 : List AOper := [
  ⟨(some 124), (.fld 9 (.t 10)), none⟩,
  ⟨(some 125), (.load false 1 (.t 124)), none⟩,
  ⟨(some 126), (.load true 4 (.t 11)), none⟩,
  ⟨(some 127), (.bsl 100 4 [(.t 126)]), none⟩,
  ⟨(some 128), (.app false 100 4 48 (.t 125) (.t 127)), none⟩,
  ⟨(some 129), (.fld 9 (.t 10)), none⟩,
  ⟨none, (.store 1 (.t 129) (.t 128)), none⟩]
def a47_r20 : List AOper := [
  ⟨(some 130), (.bin .add (.t 91) (.k (.d (.int .i64 1)))), none⟩,
  ⟨(some 91), (.mv (.t 130)), none⟩]
def a47_r21 : List AOper := [
  ⟨(some 131), (.mv (.t 9)), none⟩,
  ⟨(some 132), (.nilck (.t 131)), none⟩,
  ⟨(some 133), (.fld 2 (.t 132)), none⟩,
  ⟨(some 134), (.load false 1 (.t 133)), none⟩,
  ⟨(some 135), (.mv (.t 134)), none⟩,
  ⟨(some 136), (.mv (.t 9)), (some (135, false))⟩,
  ⟨(some 137), (.nilck (.t 136)), (some (135, false))⟩,
  ⟨(some 138), (.fld 0 (.t 137)), (some (135, false))⟩,
  ⟨(some 139), (.load false 1 (.t 138)), (some (135, false))⟩,
  ⟨(some 140), (.len false (.t 139)), (some (135, false))⟩,
  ⟨(some 141), (.mv (.t 9)), (some (135, false))⟩,
  ⟨(some 142), (.nilck (.t 141)), (some (135, false))⟩,
  ⟨(some 143), (.fld 1 (.t 142)), (some (135, false))⟩,
  ⟨(some 144), (.load false 1 (.t 143)), (some (135, false))⟩,
  ⟨(some 145), (.len false (.t 144)), (some (135, false))⟩,
  ⟨(some 146), (.bin .add (.t 140) (.t 145)), (some (135, false))⟩,
  ⟨(some 147), (.bin .gtr (.t 146) (.k (.d (.int .i64 0)))), (some (135, false))⟩,
  ⟨(some 148), (.pick (.t 135) (.k (.d (.bool true))) (.t 147)), none⟩]
def a47_r22 : List AOper := [
  ⟨(some 149), (.build [(.d (.int .i64 0)), (.nils 3 1), (.nils 3 1), (.nils 119 2), (.d (.int .i64 0)), (.d (.int .i64 0)), (.d (.int .i64 0)), (.d (.int .i64 0)), (.d (.int .i64 0)), (.nils 100 4)] []), none⟩,
  ⟨none, (.store 10 (.t 2) (.t 149)), none⟩,
  ⟨(some 3), (.mv (.k (.d (.int .i64 11)))), none⟩]
def a47_r23 : List AOper := [
  ⟨(some 150), (.load true 10 (.t 10)), none⟩,
  ⟨none, (.store 10 (.t 2) (.t 150)), none⟩,
  ⟨(some 3), (.mv (.k (.d (.int .i64 0)))), none⟩]
def l47_0 : ECode :=
  .seq (.region false a47_r15) (.seq (.cond (.t 92) (.skip) (.exit 2)) (.seq (.block 3 (.seq (.region false a47_r16) (.seq (.region false a47_r17) (.seq (.regw a47_d18) (.region false a47_r19))))) (.region false a47_r20)))
def l47_1 : ECode :=
  .seq (.region false a47_r11) (.seq (.cond (.t 72) (.skip) (.exit 0)) (.seq (.block 1 (.regw a47_d12)) (.region false a47_r13)))
def e47 : EFunc := ⟨151, [(.cell 2 true 10), (.tmp 3)],
  .seq (.region false a47_r0) (.seq (.region false a47_r1) (.seq (.seq (.region false a47_r2) (.cond (.t 20) (.seq (.region false a47_r3) (.ret)) (.skip))) (.seq (.region false a47_r4) (.seq (.seq (.region false a47_r5) (.cond (.t 32) (.seq (.region false a47_r6) (.ret)) (.skip))) (.seq (.region false a47_r7) (.seq (.region false a47_r8) (.seq (.region false a47_r9) (.seq (.seq (.region false a47_r10) (.block 0 (.loop [false, false, true, false, false, false, false, false, false, true, true, false, false, false, false, false, false, false, false, false, false, false, false, false, false, false, false, false, false, false, false, false, false, false, false, false, false, false, false, false, false, false, false, false, false, false, false, false, false, false, false, false, false, false, false, false, false, false, false, false, false, false, false, false, false, false, false, false, false, false, true, true] [false, false, true, false, false, false, false, false, false, true, true] l47_1))) (.seq (.seq (.region false a47_r14) (.block 2 (.loop [false, false, true, false, false, false, false, false, false, true, true, false, false, false, false, false, false, false, false, false, false, false, false, false, false, false, false, false, false, false, false, false, false, false, false, false, false, false, false, false, false, false, false, false, false, false, false, false, false, false, false, false, false, false, false, false, false, false, false, false, false, false, false, false, false, false, false, false, false, false, false, false, false, false, false, false, false, false, false, false, false, false, false, false, false, false, false, false, false, false, true, true] [false, false, true, false, false, false, false, false, false, true, true] l47_0))) (.seq (.seq (.region true a47_r21) (.cond (.t 148) (.seq (.region false a47_r22) (.ret)) (.skip))) (.seq (.region false a47_r23) (.ret))))))))))))⟩

def a48_r0 : List AOper := [
  ⟨(some 2), (.alloc 42 [(.d (.int .i64 0)), (.nils 3 1), (.nils 3 1), (.nils 119 2), (.d (.int .i64 0)), (.d (.int .i64 0)), (.d (.int .i64 0)), (.d (.int .i64 0)), (.d (.int .i64 0)), (.nils 100 4), (.d (.int .i64 0))]), none⟩]
def a48_r1 : List AOper := [
  ⟨(some 10), (.mv (.t 0)), none⟩,
  ⟨(some 11), (.call (.k (.cl 125 [] [])) [(.t 10)]), none⟩,
  ⟨(some 9), (.mv (.t 11)), none⟩,
  ⟨(some 12), (.ext (.t 9) 0), none⟩,
  ⟨(some 13), (.ext (.t 9) 1), none⟩,
  ⟨(some 14), (.ext (.t 9) 2), none⟩,
  ⟨(some 3), (.mv (.t 12)), none⟩,
  ⟨(some 4), (.mv (.t 13)), none⟩,
  ⟨(some 5), (.mv (.t 14)), none⟩]
def a48_r2 : List AOper := [
  ⟨(some 15), (.mv (.t 5)), none⟩,
  ⟨(some 16), (.bin .neq (.t 15) (.k (.d (.int .i64 0)))), none⟩]
def a48_r3 : List AOper := [
  ⟨(some 17), (.mv (.t 5)), none⟩,
  ⟨(some 18), (.build [(.d (.int .i64 0)), (.nils 3 1), (.nils 3 1), (.nils 119 2), (.d (.int .i64 0)), (.d (.int .i64 0)), (.d (.int .i64 0)), (.d (.int .i64 0)), (.d (.int .i64 0)), (.nils 100 4), (.d (.int .i64 0))] [(10, (1, (.t 17)))]), none⟩,
  ⟨none, (.store 11 (.t 2) (.t 18)), none⟩]
def a48_r4 : List AOper := [
  ⟨(some 20), (.mv (.t 0)), none⟩,
  ⟨(some 21), (.mv (.t 4)), none⟩,
  ⟨(some 22), (.slc 1 (.t 20) (some (.t 21)) none), none⟩,
  ⟨(some 23), (.call (.k (.cl 126 [] [])) [(.t 22)]), none⟩,
  ⟨(some 19), (.mv (.t 23)), none⟩,
  ⟨(some 24), (.ext (.t 19) 0), none⟩,
  ⟨(some 25), (.ext (.t 19) 1), none⟩,
  ⟨(some 26), (.ext (.t 19) 2), none⟩,
  ⟨(some 6), (.mv (.t 24)), none⟩,
  ⟨(some 7), (.mv (.t 25)), none⟩,
  ⟨(some 8), (.mv (.t 26)), none⟩]
def a48_r5 : List AOper := [
  ⟨(some 27), (.mv (.t 8)), none⟩,
  ⟨(some 28), (.bin .neq (.t 27) (.k (.d (.int .i64 0)))), none⟩]
def a48_r6 : List AOper := [
  ⟨(some 29), (.mv (.t 8)), none⟩,
  ⟨(some 30), (.build [(.d (.int .i64 0)), (.nils 3 1), (.nils 3 1), (.nils 119 2), (.d (.int .i64 0)), (.d (.int .i64 0)), (.d (.int .i64 0)), (.d (.int .i64 0)), (.d (.int .i64 0)), (.nils 100 4), (.d (.int .i64 0))] [(10, (1, (.t 29)))]), none⟩,
  ⟨none, (.store 11 (.t 2) (.t 30)), none⟩]
def a48_r7 : List AOper := [
  ⟨(some 31), (.mv (.t 4)), none⟩,
  ⟨(some 32), (.mv (.t 7)), none⟩,
  ⟨(some 33), (.bin .add (.t 31) (.t 32)), none⟩,
  ⟨(some 34), (.mv (.t 0)), none⟩,
  ⟨(some 35), (.len false (.t 34)), none⟩,
  ⟨(some 36), (.bin .neq (.t 33) (.t 35)), none⟩]
def a48_r8 : List AOper := [
  ⟨(some 37), (.build [(.d (.int .i64 0)), (.nils 3 1), (.nils 3 1), (.nils 119 2), (.d (.int .i64 0)), (.d (.int .i64 0)), (.d (.int .i64 0)), (.d (.int .i64 0)), (.d (.int .i64 0)), (.nils 100 4), (.d (.int .i64 0))] [(10, (1, (.k (.d (.int .i64 11)))))]), none⟩,
  ⟨none, (.store 11 (.t 2) (.t 37)), none⟩]
def a48_r9 : List AOper := [
  ⟨(some 38), (.mv (.t 3)), none⟩,
  ⟨(some 39), (.mv (.t 6)), none⟩,
  ⟨(some 40), (.call (.k (.cl 127 [] [])) [(.t 38), (.t 39)]), none⟩,
  ⟨none, (.store 11 (.t 2) (.t 40)), none⟩]
def e48 : EFunc := ⟨41, [(.cell 2 true 11)],
  .seq (.region false a48_r0) (.seq (.region false a48_r1) (.seq (.seq (.region false a48_r2) (.cond (.t 16) (.seq (.region false a48_r3) (.ret)) (.skip))) (.seq (.region false a48_r4) (.seq (.seq (.region false a48_r5) (.cond (.t 28) (.seq (.region false a48_r6) (.ret)) (.skip))) (.seq (.seq (.region false a48_r7) (.cond (.t 36) (.seq (.region false a48_r8) (.ret)) (.skip))) (.seq (.region false a48_r9) (.ret)))))))⟩

def a49_r0 : List AOper := [
  ⟨(some 1), (.box 33 true 10 (.t 0)), none⟩,
  ⟨(some 2), (.nilsl 5 1), none⟩]
def a49_r1 : List AOper := [
  ⟨(some 8), (.fld 0 (.t 1)), none⟩,
  ⟨(some 9), (.load false 1 (.t 8)), none⟩,
  ⟨(some 10), (.fld 4 (.t 1)), none⟩,
  ⟨(some 11), (.load false 1 (.t 10)), none⟩,
  ⟨(some 12), (.fld 5 (.t 1)), none⟩,
  ⟨(some 13), (.load false 1 (.t 12)), none⟩,
  ⟨(some 14), (.fld 6 (.t 1)), none⟩,
  ⟨(some 15), (.load false 1 (.t 14)), none⟩,
  ⟨(some 16), (.fld 7 (.t 1)), none⟩,
  ⟨(some 17), (.load false 1 (.t 16)), none⟩,
  ⟨(some 18), (.fld 8 (.t 1)), none⟩,
  ⟨(some 19), (.load false 1 (.t 18)), none⟩,
  ⟨(some 20), (.fld 1 (.t 1)), none⟩,
  ⟨(some 21), (.fld 0 (.t 20)), none⟩,
  ⟨(some 22), (.load false 1 (.t 21)), none⟩,
  ⟨(some 23), (.len false (.t 22)), none⟩,
  ⟨(some 24), (.bsl 3 1 [(.t 9), (.t 11), (.t 13), (.t 15), (.t 17), (.t 19), (.t 23)]), none⟩,
  ⟨(some 3), (.mv (.t 24)), none⟩]
def a49_r2 : List AOper := [
  ⟨(some 25), (.mv (.t 3)), none⟩,
  ⟨(some 26), (.fld 1 (.t 1)), none⟩,
  ⟨(some 27), (.fld 0 (.t 26)), none⟩,
  ⟨(some 28), (.load false 1 (.t 27)), none⟩,
  ⟨(some 29), (.app false 3 1 8 (.t 25) (.t 28)), none⟩,
  ⟨(some 3), (.mv (.t 29)), none⟩]
def a49_r3 : List AOper := [
  ⟨(some 30), (.mv (.t 3)), none⟩,
  ⟨(some 31), (.fld 1 (.t 1)), none⟩,
  ⟨(some 32), (.fld 1 (.t 31)), none⟩,
  ⟨(some 33), (.load false 1 (.t 32)), none⟩,
  ⟨(some 34), (.len false (.t 33)), none⟩,
  ⟨(some 35), (.bsl 3 1 [(.t 34)]), none⟩,
  ⟨(some 36), (.app false 3 1 8 (.t 30) (.t 35)), none⟩,
  ⟨(some 3), (.mv (.t 36)), none⟩]
def a49_r4 : List AOper := [
  ⟨(some 37), (.mv (.t 3)), none⟩,
  ⟨(some 38), (.fld 1 (.t 1)), none⟩,
  ⟨(some 39), (.fld 1 (.t 38)), none⟩,
  ⟨(some 40), (.load false 1 (.t 39)), none⟩,
  ⟨(some 41), (.app false 3 1 8 (.t 37) (.t 40)), none⟩,
  ⟨(some 3), (.mv (.t 41)), none⟩]
def a49_r5 : List AOper := [
  ⟨(some 42), (.mv (.t 3)), none⟩,
  ⟨(some 43), (.fld 3 (.t 1)), none⟩,
  ⟨(some 44), (.load false 1 (.t 43)), none⟩,
  ⟨(some 45), (.len false (.t 44)), none⟩,
  ⟨(some 46), (.bsl 3 1 [(.t 45)]), none⟩,
  ⟨(some 47), (.app false 3 1 8 (.t 42) (.t 46)), none⟩,
  ⟨(some 3), (.mv (.t 47)), none⟩]
def a49_r6 : List AOper := [
  ⟨(some 4), (.mv (.k (.d (.int .i64 0)))), none⟩]
def a49_r7 : List AOper := [
  ⟨(some 48), (.mv (.t 4)), none⟩,
  ⟨(some 49), (.fld 3 (.t 1)), none⟩,
  ⟨(some 50), (.load false 1 (.t 49)), none⟩,
  ⟨(some 51), (.len false (.t 50)), none⟩,
  ⟨(some 52), (.bin .lss (.t 48) (.t 51)), none⟩]
def a49_r8 : List AOper := [
  ⟨(some 55), (.mv (.t 3)), none⟩,
  ⟨(some 56), (.fld 3 (.t 1)), none⟩,
  ⟨(some 57), (.load false 1 (.t 56)), none⟩,
  ⟨(some 58), (.mv (.t 4)), none⟩,
  ⟨(some 59), (.ixa 2 (.t 57) (.t 58)), none⟩,
  ⟨(some 60), (.fld 0 (.t 59)), none⟩,
  ⟨(some 61), (.load false 1 (.t 60)), none⟩,
  ⟨(some 62), (.fld 3 (.t 1)), none⟩,
  ⟨(some 63), (.load false 1 (.t 62)), none⟩,
  ⟨(some 64), (.mv (.t 4)), none⟩,
  ⟨(some 65), (.ixa 2 (.t 63) (.t 64)), none⟩,
  ⟨(some 66), (.fld 1 (.t 65)), none⟩,
  ⟨(some 67), (.load false 1 (.t 66)), none⟩,
  ⟨(some 68), (.bsl 3 1 [(.t 61), (.t 67)]), none⟩,
  ⟨(some 69), (.app false 3 1 8 (.t 55) (.t 68)), none⟩,
  ⟨(some 3), (.mv (.t 69)), none⟩]
def a49_r9 : List AOper := [
  ⟨(some 53), (.mv (.t 4)), none⟩,
  ⟨(some 54), (.bin .add (.t 53) (.k (.d (.int .i64 1)))), none⟩,
  ⟨(some 4), (.mv (.t 54)), none⟩]
def a49_r10 : List AOper := [
  ⟨(some 70), (.mv (.t 3)), none⟩,
  ⟨(some 71), (.fld 9 (.t 1)), none⟩,
  ⟨(some 72), (.load false 1 (.t 71)), none⟩,
  ⟨(some 73), (.len false (.t 72)), none⟩,
  ⟨(some 74), (.bsl 3 1 [(.t 73)]), none⟩,
  ⟨(some 75), (.app false 3 1 8 (.t 70) (.t 74)), none⟩,
  ⟨(some 3), (.mv (.t 75)), none⟩]
def a49_r11 : List AOper := [
  ⟨(some 5), (.nilsl 9 1), none⟩]
def a49_r12 : List AOper := [
  ⟨(some 6), (.mv (.k (.d (.int .i64 0)))), none⟩]
def a49_r13 : List AOper := [
  ⟨(some 76), (.mv (.t 6)), none⟩,
  ⟨(some 77), (.fld 9 (.t 1)), none⟩,
  ⟨(some 78), (.load false 1 (.t 77)), none⟩,
  ⟨(some 79), (.len false (.t 78)), none⟩,
  ⟨(some 80), (.bin .lss (.t 76) (.t 79)), none⟩]
def a49_r14 : List AOper := [
  ⟨(some 83), (.fld 9 (.t 1)), none⟩,
  ⟨(some 84), (.load false 1 (.t 83)), none⟩,
  ⟨(some 85), (.mv (.t 6)), none⟩,
  ⟨(some 86), (.ixa 4 (.t 84) (.t 85)), none⟩,
  ⟨(some 87), (.load true 4 (.t 86)), none⟩,
  ⟨(some 7), (.alloc 100 [(.d (.int .i64 0)), (.d (.int .i64 0)), (.d (.int .i64 0)), (.nils 9 1)]), none⟩,
  ⟨none, (.store 4 (.t 7) (.t 87)), none⟩]
def a49_r15 : List AOper := [
  ⟨(some 88), (.mv (.t 3)), none⟩,
  ⟨(some 89), (.fld 0 (.t 7)), none⟩,
  ⟨(some 90), (.load false 1 (.t 89)), none⟩,
  ⟨(some 91), (.fld 1 (.t 7)), none⟩,
  ⟨(some 92), (.load false 1 (.t 91)), none⟩,
  ⟨(some 93), (.fld 2 (.t 7)), none⟩,
  ⟨(some 94), (.load false 1 (.t 93)), none⟩,
  ⟨(some 95), (.fld 3 (.t 7)), none⟩,
  ⟨(some 96), (.load false 1 (.t 95)), none⟩,
  ⟨(some 97), (.len false (.t 96)), none⟩,
  ⟨(some 98), (.bsl 3 1 [(.t 90), (.t 92), (.t 94), (.t 97)]), none⟩,
  ⟨(some 99), (.app false 3 1 8 (.t 88) (.t 98)), none⟩,
  ⟨(some 3), (.mv (.t 99)), none⟩]
def a49_r16 : List AOper := [
  ⟨(some 100), (.mv (.t 5)), none⟩,
  ⟨(some 101), (.fld 3 (.t 7)), none⟩,
  ⟨(some 102), (.load false 1 (.t 101)), none⟩,
  ⟨(some 103), (.app false 9 1 16 (.t 100) (.t 102)), none⟩,
  ⟨(some 5), (.mv (.t 103)), none⟩]
def a49_r17 : List AOper := [
  ⟨(some 81), (.mv (.t 6)), none⟩,
  ⟨(some 82), (.bin .add (.t 81) (.k (.d (.int .i64 1)))), none⟩,
  ⟨(some 6), (.mv (.t 82)), none⟩]
def a49_r18 : List AOper := [
  ⟨(some 104), (.mv (.t 3)), none⟩,
  ⟨(some 105), (.call (.k (.cl 128 [] [])) [(.t 104)]), none⟩,
  ⟨(some 106), (.mv (.t 5)), none⟩,
  ⟨(some 107), (.call (.k (.cl 129 [] [])) [(.t 106)]), none⟩,
  ⟨(some 108), (.app false 5 1 1 (.t 105) (.t 107)), none⟩,
  ⟨(some 2), (.mv (.t 108)), none⟩]
def l49_0 : ECode :=
  .seq (.seq (.region false a49_r13) (.cond (.t 80) (.skip) (.exit 2))) (.seq (.block 3 (.seq (.region false a49_r14) (.seq (.region false a49_r15) (.region false a49_r16)))) (.region false a49_r17))
def l49_1 : ECode :=
  .seq (.seq (.region false a49_r7) (.cond (.t 52) (.skip) (.exit 0))) (.seq (.block 1 (.region true a49_r8)) (.region false a49_r9))
def e49 : EFunc := ⟨109, [(.tmp 2)],
  .seq (.region false a49_r0) (.seq (.region false a49_r1) (.seq (.region false a49_r2) (.seq (.region false a49_r3) (.seq (.region false a49_r4) (.seq (.region false a49_r5) (.seq (.seq (.region false a49_r6) (.block 0 (.loop [false, true, false, true, true] [false, true, false, true] l49_1))) (.seq (.region false a49_r10) (.seq (.region false a49_r11) (.seq (.seq (.region false a49_r12) (.block 2 (.loop [false, true, false, true, false, true, true] [false, false, false, true, false, true] l49_0))) (.seq (.region false a49_r18) (.ret)))))))))))⟩

def a52_r0 : List AOper := [
  ⟨(some 0), (.alloc 24 [(.d (.int .i64 0)), (.d (.int .i64 0)), (.nils 77 5)]), none⟩,
  ⟨(some 1), (.nilsl 50 9), none⟩]
def a52_r1 : List AOper := [
  ⟨(some 5), (.bsl 9 1 [(.k (.d (.str ⟨#[98, 108, 117, 101]⟩))), (.k (.d (.str ⟨#[114, 101, 100]⟩)))]), none⟩,
  ⟨(some 6), (.build [(.d (.str ⟨#[]⟩)), (.d (.int .i64 0)), (.d (.int .i64 0)), (.d (.int .i64 0)), (.nils 9 1)] [(0, (1, (.k (.d (.str ⟨#[99, 111, 108, 111, 117, 114]⟩))))), (1, (1, (.k (.d (.int .i64 2))))), (4, (1, (.t 5)))]), none⟩,
  ⟨(some 7), (.build [(.d (.str ⟨#[]⟩)), (.d (.int .i64 0)), (.d (.int .i64 0)), (.d (.int .i64 0)), (.nils 9 1)] [(0, (1, (.k (.d (.str ⟨#[119, 101, 105, 103, 104, 116]⟩))))), (1, (1, (.k (.d (.int .i64 1))))), (3, (1, (.k (.d (.int .i64 9)))))]), none⟩,
  ⟨(some 8), (.bsl 77 5 [(.t 6), (.t 7)]), none⟩,
  ⟨(some 9), (.build [(.d (.int .i64 0)), (.d (.int .i64 0)), (.nils 77 5)] [(0, (1, (.k (.d (.int .i64 1))))), (1, (1, (.k (.d (.int .i64 1))))), (2, (1, (.t 8)))]), none⟩,
  ⟨(some 2), (.alloc 24 [(.d (.int .i64 0)), (.d (.int .i64 0)), (.nils 77 5)]), none⟩,
  ⟨none, (.store 3 (.t 2) (.t 9)), none⟩]
def a52_r2 : List AOper := [
  ⟨(some 10), (.bsl 3 1 [(.k (.d (.int .i64 3)))]), none⟩,
  ⟨(some 11), (.build [(.d (.str ⟨#[]⟩)), (.d (.int .i64 0)), (.d (.int .i64 0)), (.d (.str ⟨#[]⟩))] [(0, (1, (.k (.d (.str ⟨#[99, 111, 108, 111, 117, 114]⟩))))), (1, (1, (.k (.d (.int .i64 2))))), (3, (1, (.k (.d (.str ⟨#[114, 101, 100]⟩)))))]), none⟩,
  ⟨(some 12), (.bsl 79 4 [(.t 11)]), none⟩,
  ⟨(some 13), (.build [(.d (.int .i64 0)), (.d (.int .i64 0)), (.d (.int .i64 0)), (.d (.int .i64 0)), (.d (.int .i64 0)), (.d (.int .i64 0)), (.d (.int .i64 0)), (.nils 3 1), (.nils 79 4)] [(0, (1, (.k (.d (.int .i64 1))))), (1, (1, (.k (.d (.int .i64 1))))), (2, (1, (.k (.d (.int .i64 1))))), (4, (1, (.k (.d (.int .i64 1))))), (5, (1, (.k (.d (.int .i64 9))))), (6, (1, (.k (.d (.int .i64 1))))), (7, (1, (.t 10))), (8, (1, (.t 12)))]), none⟩,
  ⟨(some 3), (.alloc 50 [(.d (.int .i64 0)), (.d (.int .i64 0)), (.d (.int .i64 0)), (.d (.int .i64 0)), (.d (.int .i64 0)), (.d (.int .i64 0)), (.d (.int .i64 0)), (.nils 3 1), (.nils 79 4)]), none⟩,
  ⟨none, (.store 9 (.t 3) (.t 13)), none⟩]
def a52_r3 : List AOper := [
  ⟨(some 14), (.bsl 3 1 [(.k (.d (.int .i64 7)))]), none⟩,
  ⟨(some 15), (.build [(.d (.str ⟨#[]⟩)), (.d (.int .i64 0)), (.d (.int .i64 0)), (.d (.str ⟨#[]⟩))] [(0, (1, (.k (.d (.str ⟨#[99, 111, 108, 111, 117, 114]⟩))))), (1, (1, (.k (.d (.int .i64 2))))), (3, (1, (.k (.d (.str ⟨#[98, 108, 117, 101]⟩)))))]), none⟩,
  ⟨(some 16), (.build [(.d (.str ⟨#[]⟩)), (.d (.int .i64 0)), (.d (.int .i64 0)), (.d (.str ⟨#[]⟩))] [(0, (1, (.k (.d (.str ⟨#[119, 101, 105, 103, 104, 116]⟩))))), (1, (1, (.k (.d (.int .i64 1))))), (2, (1, (.k (.d (.int .i64 2)))))]), none⟩,
  ⟨(some 17), (.bsl 79 4 [(.t 15), (.t 16)]), none⟩,
  ⟨(some 18), (.build [(.d (.int .i64 0)), (.d (.int .i64 0)), (.d (.int .i64 0)), (.d (.int .i64 0)), (.d (.int .i64 0)), (.d (.int .i64 0)), (.d (.int .i64 0)), (.nils 3 1), (.nils 79 4)] [(0, (1, (.k (.d (.int .i64 2))))), (1, (1, (.k (.d (.int .i64 1))))), (2, (1, (.k (.d (.int .i64 1))))), (4, (1, (.k (.d (.int .i64 5))))), (5, (1, (.k (.d (.int .i64 1048577))))), (6, (1, (.k (.d (.int .i64 4))))), (7, (1, (.t 14))), (8, (1, (.t 17)))]), none⟩,
  ⟨(some 4), (.alloc 50 [(.d (.int .i64 0)), (.d (.int .i64 0)), (.d (.int .i64 0)), (.d (.int .i64 0)), (.d (.int .i64 0)), (.d (.int .i64 0)), (.d (.int .i64 0)), (.nils 3 1), (.nils 79 4)]), none⟩,
  ⟨none, (.store 9 (.t 4) (.t 18)), none⟩]
def a52_d4 : List DOp := [
  ⟨⟨(some 19), (.load true 3 (.t 2)), none⟩, [], 0⟩,
  ⟨⟨(some 20), (.load true 9 (.t 3)), none⟩, [false], 0⟩,
  ⟨⟨(some 21), (.load true 9 (.t 4)), none⟩, [false, false], 0⟩,
  ⟨⟨(some 22), (.bsl 50 9 [(.t 20), (.t 21)]), none⟩, [false, true, true], 0⟩,
  ⟨⟨none, (.store 3 (.t 0) (.t 19)), none⟩, [true, false, false, false], 0⟩,
  ⟨⟨(some 1), (.mv (.t 22)), none⟩, [true, true, true, true, true], 0⟩]
def e52 : EFunc := ⟨23, [(.cell 0 true 3), (.tmp 1)],
  .seq (.region false a52_r0) (.seq (.region false a52_r1) (.seq (.region false a52_r2) (.seq (.region false a52_r3) (.seq (.draw 1 a52_d4) (.ret)))))⟩

def a53_r0 : List AOper := [
  ⟨(some 3), (.mv (.k (.d (.bool false)))), none⟩]
def a53_r1 : List AOper := [
  ⟨(some 4), (.mv (.t 0)), none⟩,
  ⟨(some 5), (.call (.k (.cl 38 [] [])) [(.t 4)]), none⟩,
  ⟨(some 6), (.un .not (.t 5)), none⟩,
  ⟨(some 7), (.mv (.t 6)), none⟩,
  ⟨(some 8), (.mv (.t 0)), (some (7, false))⟩,
  ⟨(some 9), (.len false (.t 8)), (some (7, false))⟩,
  ⟨(some 10), (.fld 0 (.t 1)), (some (7, false))⟩,
  ⟨(some 11), (.load false 1 (.t 10)), (some (7, false))⟩,
  ⟨(some 12), (.bin .neq (.t 9) (.t 11)), (some (7, false))⟩,
  ⟨(some 13), (.pick (.t 7) (.k (.d (.bool true))) (.t 12)), none⟩,
  ⟨(some 3), (.mv (.t 13)), none⟩]
def e53 : EFunc := ⟨14, [(.tmp 3)],
  .seq (.region false a53_r0) (.seq (.region false a53_r1) (.ret))⟩

def a54_r0 : List AOper := [
  ⟨(some 1), (.box 24 true 3 (.t 0)), none⟩,
  ⟨(some 2), (.mv (.k (.d (.int .i64 0)))), none⟩]
def a54_r1 : List AOper := [
  ⟨(some 6), (.mkfn 130 [] [(.t 1)]), none⟩,
  ⟨(some 7), (.build [.nilf, (.d (.int .i64 0))] [(0, (1, (.t 6))), (1, (1, (.k (.d (.int .i64 1)))))]), none⟩,
  ⟨(some 8), (.mkfn 131 [] [(.t 1)]), none⟩,
  ⟨(some 9), (.build [.nilf, (.d (.int .i64 0))] [(0, (1, (.t 8))), (1, (1, (.k (.d (.int .i64 2)))))]), none⟩,
  ⟨(some 10), (.bsl 143 2 [(.t 7), (.t 9)]), none⟩,
  ⟨(some 11), (.call (.k (.cl 87 [] [])) [(.t 10)]), none⟩,
  ⟨(some 3), (.mv (.t 11)), none⟩]
def a54_r2 : List AOper := [
  ⟨(some 4), (.mv (.k (.d (.str ⟨#[]⟩)))), none⟩]
def a54_r3 : List AOper := [
  ⟨(some 5), (.mv (.k (.d (.int .i64 0)))), none⟩]
def a54_r4 : List AOper := [
  ⟨(some 12), (.mv (.t 5)), none⟩,
  ⟨(some 13), (.fld 2 (.t 1)), none⟩,
  ⟨(some 14), (.load false 1 (.t 13)), none⟩,
  ⟨(some 15), (.len false (.t 14)), none⟩,
  ⟨(some 16), (.bin .lss (.t 12) (.t 15)), none⟩,
  ⟨(some 17), (.mv (.t 16)), none⟩,
  ⟨(some 18), (.mv (.t 3)), (some (17, true))⟩,
  ⟨(some 19), (.bin .eql (.t 18) (.k (.d (.int .i64 0)))), (some (17, true))⟩,
  ⟨(some 20), (.pick (.t 17) (.t 19) (.k (.d (.bool false)))), none⟩]
def a54_r5 : List AOper := [
  ⟨(some 23), (.fld 2 (.t 1)), none⟩,
  ⟨(some 24), (.load false 1 (.t 23)), none⟩,
  ⟨(some 25), (.mv (.t 5)), none⟩,
  ⟨(some 26), (.ixa 5 (.t 24) (.t 25)), none⟩,
  ⟨(some 27), (.load true 5 (.t 26)), none⟩,
  ⟨(some 28), (.mv (.t 4)), none⟩,
  ⟨(some 29), (.call (.k (.cl 132 [] [])) [(.t 27), (.t 28)]), none⟩,
  ⟨(some 3), (.mv (.t 29)), none⟩]
def a54_r6 : List AOper := [
  ⟨(some 30), (.fld 2 (.t 1)), none⟩,
  ⟨(some 31), (.load false 1 (.t 30)), none⟩,
  ⟨(some 32), (.mv (.t 5)), none⟩,
  ⟨(some 33), (.ixa 5 (.t 31) (.t 32)), none⟩,
  ⟨(some 34), (.fld 0 (.t 33)), none⟩,
  ⟨(some 35), (.load false 1 (.t 34)), none⟩,
  ⟨(some 4), (.mv (.t 35)), none⟩]
def a54_r7 : List AOper := [
  ⟨(some 21), (.mv (.t 5)), none⟩,
  ⟨(some 22), (.bin .add (.t 21) (.k (.d (.int .i64 1)))), none⟩,
  ⟨(some 5), (.mv (.t 22)), none⟩]
def a54_r8 : List AOper := [
  ⟨(some 36), (.mv (.t 3)), none⟩,
  ⟨(some 2), (.mv (.t 36)), none⟩]
def l54_0 : ECode :=
  .seq (.seq (.region false a54_r4) (.cond (.t 20) (.skip) (.exit 0))) (.seq (.block 1 (.seq (.region false a54_r5) (.region false a54_r6))) (.region false a54_r7))
def e54 : EFunc := ⟨37, [(.tmp 2)],
  .seq (.region false a54_r0) (.seq (.region false a54_r1) (.seq (.region false a54_r2) (.seq (.seq (.region false a54_r3) (.block 0 (.loop [false, true, false, true, true, true] [false, false, false, true] l54_0))) (.seq (.region false a54_r8) (.ret)))))⟩

def a55_r0 : List AOper := [
  ⟨(some 4), (.mv (.k (.d (.bool false)))), none⟩]
def a55_r1 : List AOper := [
  ⟨(some 5), (.mv (.t 0)), none⟩,
  ⟨(some 6), (.mv (.t 1)), none⟩,
  ⟨(some 7), (.call (.k (.cl 133 [] [])) [(.t 5), (.t 6)]), none⟩,
  ⟨(some 8), (.bin .geq (.t 7) (.k (.d (.int .i64 0)))), none⟩,
  ⟨(some 4), (.mv (.t 8)), none⟩]
def e55 : EFunc := ⟨9, [(.tmp 4)],
  .seq (.region false a55_r0) (.seq (.region false a55_r1) (.ret))⟩

def a56_r0 : List AOper := [
  ⟨(some 4), (.mv (.k (.d (.bool false)))), none⟩]
def a56_r1 : List AOper := [
  ⟨(some 5), (.mv (.t 0)), none⟩,
  ⟨(some 6), (.mv (.t 1)), none⟩,
  ⟨(some 7), (.call (.k (.cl 134 [] [])) [(.t 5), (.t 6)]), none⟩,
  ⟨(some 8), (.bin .geq (.t 7) (.k (.d (.int .i64 0)))), none⟩,
  ⟨(some 4), (.mv (.t 8)), none⟩]
def e56 : EFunc := ⟨9, [(.tmp 4)],
  .seq (.region false a56_r0) (.seq (.region false a56_r1) (.ret))⟩

def a57_r0 : List AOper := [
  ⟨(some 2), (.box 50 true 9 (.t 0)), none⟩,
  ⟨(some 3), (.mv (.k (.d (.bool false)))), none⟩]
def a57_r1 : List AOper := [
  ⟨(some 4), (.load true 3 (.t 1)), none⟩,
  ⟨(some 5), (.load true 9 (.t 2)), none⟩,
  ⟨(some 6), (.call (.k (.cl 34 [] [])) [(.t 4), (.t 5)]), none⟩,
  ⟨(some 7), (.bin .neq (.t 6) (.k (.d (.int .i64 0)))), none⟩,
  ⟨(some 3), (.mv (.t 7)), none⟩]
def e57 : EFunc := ⟨8, [(.tmp 3)],
  .seq (.region false a57_r0) (.seq (.region false a57_r1) (.ret))⟩

def a58_r0 : List AOper := [
  ⟨(some 1), (.box 25 false 1 (.t 0)), none⟩,
  ⟨(some 2), (.alloc 29 [(.nils 3 1), (.nils 3 1)]), none⟩,
  ⟨(some 3), (.mv (.k (.d (.int .i64 0)))), none⟩]
def a58_r1 : List AOper := [
  ⟨(some 8), (.mkfn 135 [] [(.t 1)]), none⟩,
  ⟨(some 4), (.mv (.t 8)), none⟩]
def a58_r2 : List AOper := [
  ⟨(some 9), (.load false 1 (.t 1)), none⟩,
  ⟨(some 10), (.len false (.t 9)), none⟩,
  ⟨(some 11), (.bin .eql (.t 10) (.k (.d (.int .i64 0)))), none⟩,
  ⟨(some 12), (.mv (.t 11)), none⟩,
  ⟨(some 13), (.load false 1 (.t 1)), (some (12, false))⟩,
  ⟨(some 14), (.mv (.t 4)), (some (12, false))⟩,
  ⟨(some 15), (.call (.k (.cl 55 [] [])) [(.t 13), (.t 14)]), (some (12, false))⟩,
  ⟨(some 16), (.pick (.t 12) (.k (.d (.bool true))) (.t 15)), none⟩]
def a58_r3 : List AOper := [
  ⟨(some 17), (.build [(.nils 3 1), (.nils 3 1)] []), none⟩,
  ⟨none, (.store 2 (.t 2) (.t 17)), none⟩,
  ⟨(some 3), (.mv (.k (.d (.int .i64 1)))), none⟩]
def a58_d4 : List DOp := [
  ⟨⟨(some 18), (.load false 1 (.t 1)), none⟩, [], 0⟩,
  ⟨⟨(some 19), (.ixa 1 (.t 18) (.k (.d (.int .i64 0)))), none⟩, [true], 0⟩,
  ⟨⟨(some 20), (.load false 1 (.t 19)), none⟩, [true, true], 0⟩,
  ⟨⟨(some 21), (.call (.k (.cl 137 [] [])) [(.t 20)]), none⟩, [true, true, true], 0⟩,
  ⟨⟨(some 22), (.load false 1 (.t 1)), none⟩, [false, false, false, false], 0⟩,
  ⟨⟨(some 23), (.ixa 1 (.t 22) (.k (.d (.int .i64 0)))), none⟩, [false, false, false, false, true], 0⟩,
  ⟨⟨(some 24), (.load false 1 (.t 23)), none⟩, [false, false, false, false, true, true], 0⟩,
  ⟨⟨(some 25), (.call (.k (.cl 137 [] [])) [(.t 24)]), none⟩, [true, true, true, true, true, true, true], 1⟩,
  ⟨⟨(some 26), (.build [(.nils 3 1), (.nils 3 1)] [(0, (1, (.t 21))), (1, (1, (.t 25)))]), none⟩, [true, true, true, true, true, true, true, true], 0⟩,
  ⟨⟨(some 5), (.alloc 29 [(.nils 3 1), (.nils 3 1)]), none⟩, [false, false, false, false, false, false, false, false, false], 2⟩,
  ⟨⟨none, (.store 2 (.t 5) (.t 26)), none⟩, [true, true, true, true, true, true, true, true, true, true], 0⟩]
def a58_r5 : List AOper := [
  ⟨(some 27), (.load false 1 (.t 1)), none⟩,
  ⟨(some 28), (.slc 1 (.t 27) (some (.k (.d (.int .i64 1)))) none), none⟩,
  ⟨(some 29), (.len false (.t 28)), none⟩,
  ⟨(some 30), (.mv (.k (.d (.int .i64 0)))), none⟩]
def a58_r6 : List AOper := [
  ⟨(some 31), (.bin .lss (.t 30) (.t 29)), none⟩]
def a58_r7 : List AOper := [
  ⟨(some 32), (.ixa 1 (.t 28) (.t 30)), none⟩,
  ⟨(some 33), (.load false 1 (.t 32)), none⟩,
  ⟨(some 7), (.mv (.t 33)), none⟩]
def a58_d8 : List DOp := [
  ⟨⟨(some 34), (.fld 0 (.t 5)), none⟩, [], 0⟩,
  ⟨⟨(some 35), (.load false 1 (.t 34)), none⟩, [true], 0⟩,
  ⟨⟨(some 36), (.mv (.t 7)), none⟩, [false, false], 0⟩,
  ⟨⟨(some 37), (.call (.k (.cl 138 [] [])) [(.t 35), (.t 36), (.k (.cl 139 [] []))]), none⟩, [true, true, true], 0⟩,
  ⟨⟨(some 38), (.fld 1 (.t 5)), none⟩, [false, false, false, false], 0⟩,
  ⟨⟨(some 39), (.load false 1 (.t 38)), none⟩, [false, false, false, false, true], 0⟩,
  ⟨⟨(some 40), (.mv (.t 7)), none⟩, [false, false, false, false, false, false], 0⟩,
  ⟨⟨(some 41), (.call (.k (.cl 138 [] [])) [(.t 39), (.t 40), (.k (.cl 140 [] []))]), none⟩, [true, true, true, true, true, true, true], 1⟩,
  ⟨⟨(some 42), (.fld 0 (.t 5)), none⟩, [true, true, true, true, true, true, false, false], 0⟩,
  ⟨⟨none, (.store 1 (.t 42) (.t 37)), none⟩, [true, true, true, true, true, true, true, true, true], 0⟩,
  ⟨⟨(some 43), (.fld 1 (.t 5)), none⟩, [true, true, true, true, true, true, true, true, true, true], 0⟩,
  ⟨⟨none, (.store 1 (.t 43) (.t 41)), none⟩, [true, true, true, true, true, true, true, true, true, true, true], 0⟩]
def a58_r9 : List AOper := [
  ⟨(some 44), (.bin .add (.t 30) (.k (.d (.int .i64 1)))), none⟩,
  ⟨(some 30), (.mv (.t 44)), none⟩]
def a58_r10 : List AOper := [
  ⟨(some 45), (.load true 2 (.t 5)), none⟩,
  ⟨none, (.store 2 (.t 2) (.t 45)), none⟩,
  ⟨(some 3), (.mv (.k (.d (.int .i64 0)))), none⟩]
def l58_0 : ECode :=
  .seq (.region false a58_r6) (.seq (.cond (.t 31) (.skip) (.exit 0)) (.seq (.block 1 (.seq (.region false a58_r7) (.regw a58_d8))) (.region false a58_r9)))
def e58 : EFunc := ⟨46, [(.cell 2 true 2), (.tmp 3)],
  .seq (.region false a58_r0) (.seq (.region false a58_r1) (.seq (.seq (.region false a58_r2) (.cond (.t 16) (.seq (.region false a58_r3) (.ret)) (.skip))) (.seq (.draw 3 a58_d4) (.seq (.seq (.region false a58_r5) (.block 0 (.loop [false, false, true, false, false, true, false, false, false, false, false, false, false, false, false, false, false, false, false, false, false, false, false, false, false, false, false, false, true, true, true] [false, false, true, false, false, true] l58_0))) (.seq (.region false a58_r10) (.ret))))))⟩

def a59_r0 : List AOper := [
  ⟨(some 6), (.nilsl 119 2), none⟩,
  ⟨(some 7), (.mv (.k (.d (.int .i64 0)))), none⟩]
def a59_r1 : List AOper := [
  ⟨(some 16), (.mv (.t 0)), none⟩,
  ⟨(some 17), (.mv (.t 1)), none⟩,
  ⟨(some 18), (.mv (.t 2)), none⟩,
  ⟨(some 19), (.call (.k (.cl 141 [] [])) [(.t 16), (.t 17), (.t 18)]), none⟩,
  ⟨(some 15), (.mv (.t 19)), none⟩,
  ⟨(some 20), (.ext (.t 15) 0), none⟩,
  ⟨(some 21), (.ext (.t 15) 1), none⟩,
  ⟨(some 8), (.mv (.t 20)), none⟩,
  ⟨(some 9), (.mv (.t 21)), none⟩]
def a59_r2 : List AOper := [
  ⟨(some 22), (.mv (.t 9)), none⟩,
  ⟨(some 23), (.bin .neq (.t 22) (.k (.d (.int .i64 0)))), none⟩]
def a59_r3 : List AOper := [
  ⟨(some 24), (.mv (.t 9)), none⟩,
  ⟨(some 6), (.nilsl 119 2), none⟩,
  ⟨(some 7), (.mv (.t 24)), none⟩]
def a59_r4 : List AOper := [
  ⟨(some 10), (.nilsl 119 2), none⟩]
def a59_r5 : List AOper := [
  ⟨(some 25), (.mv (.t 1)), none⟩,
  ⟨(some 26), (.len false (.t 25)), none⟩,
  ⟨(some 27), (.mv (.k (.d (.int .i64 0)))), none⟩]
def a59_r6 : List AOper := [
  ⟨(some 28), (.bin .lss (.t 27) (.t 26)), none⟩]
def a59_r7 : List AOper := [
  ⟨(some 29), (.mv (.t 27)), none⟩,
  ⟨(some 11), (.mv (.t 29)), none⟩]
def a59_d8 : List DOp := [
  ⟨⟨(some 30), (.mv (.t 8)), none⟩, [], 0⟩,
  ⟨⟨(some 31), (.ixa 1 (.t 30) (.k (.d (.int .i64 0)))), none⟩, [true], 0⟩,
  ⟨⟨(some 32), (.load false 1 (.t 31)), none⟩, [true, true], 0⟩,
  ⟨⟨(some 33), (.mv (.t 11)), none⟩, [false, false, false], 0⟩,
  ⟨⟨(some 34), (.ixa 1 (.t 32) (.t 33)), none⟩, [true, true, true, true], 0⟩,
  ⟨⟨(some 35), (.load false 1 (.t 34)), none⟩, [true, true, true, true, true], 0⟩,
  ⟨⟨(some 36), (.mv (.t 8)), none⟩, [false, false, false, false, false, false], 0⟩,
  ⟨⟨(some 37), (.ixa 1 (.t 36) (.k (.d (.int .i64 0)))), none⟩, [false, false, false, false, false, false, true], 0⟩,
  ⟨⟨(some 38), (.load false 1 (.t 37)), none⟩, [false, false, false, false, false, false, true, true], 0⟩,
  ⟨⟨(some 39), (.mv (.t 11)), none⟩, [false, false, false, false, false, false, false, false, false], 0⟩,
  ⟨⟨(some 40), (.ixa 1 (.t 38) (.t 39)), none⟩, [false, false, false, false, false, false, true, true, true, true], 0⟩,
  ⟨⟨(some 41), (.load false 1 (.t 40)), none⟩, [false, false, false, false, false, false, true, true, true, true, true], 0⟩,
  ⟨⟨(some 42), (.build [(.d (.int .i64 0)), (.d (.int .i64 0))] [(0, (1, (.t 35))), (1, (1, (.t 41)))]), none⟩, [true, true, true, true, true, true, true, true, true, true, true, true], 0⟩,
  ⟨⟨(some 12), (.alloc 146 [(.d (.int .i64 0)), (.d (.int .i64 0))]), none⟩, [false, false, false, false, false, false, false, false, false, false, false, false, false], 0⟩,
  ⟨⟨none, (.store 2 (.t 12) (.t 42)), none⟩, [true, true, true, true, true, true, true, true, true, true, true, true, true, true], 0⟩]
def a59_r9 : List AOper := [
  ⟨(some 43), (.mv (.t 8)), none⟩,
  ⟨(some 44), (.len false (.t 43)), none⟩,
  ⟨(some 45), (.mv (.k (.d (.int .i64 0)))), none⟩]
def a59_r10 : List AOper := [
  ⟨(some 46), (.bin .lss (.t 45) (.t 44)), none⟩]
def a59_r11 : List AOper := [
  ⟨(some 47), (.ixa 1 (.t 43) (.t 45)), none⟩,
  ⟨(some 48), (.load false 1 (.t 47)), none⟩,
  ⟨(some 14), (.mv (.t 48)), none⟩]
def a59_r12 : List AOper := [
  ⟨(some 49), (.load true 2 (.t 12)), none⟩,
  ⟨(some 50), (.mv (.t 14)), none⟩,
  ⟨(some 51), (.mv (.t 11)), none⟩,
  ⟨(some 52), (.ixa 1 (.t 50) (.t 51)), none⟩,
  ⟨(some 53), (.load false 1 (.t 52)), none⟩,
  ⟨(some 54), (.call (.k (.cl 142 [] [])) [(.t 49), (.t 53)]), none⟩,
  ⟨none, (.store 2 (.t 12) (.t 54)), none⟩]
def a59_r13 : List AOper := [
  ⟨(some 55), (.bin .add (.t 45) (.k (.d (.int .i64 1)))), none⟩,
  ⟨(some 45), (.mv (.t 55)), none⟩]
def a59_r14 : List AOper := [
  ⟨(some 56), (.mv (.t 10)), none⟩,
  ⟨(some 57), (.fld 0 (.t 12)), none⟩,
  ⟨(some 58), (.load false 1 (.t 57)), none⟩,
  ⟨(some 59), (.fld 1 (.t 12)), none⟩,
  ⟨(some 60), (.load false 1 (.t 59)), none⟩,
  ⟨(some 61), (.build [(.d (.int .i64 0)), (.d (.int .i64 0))] [(0, (1, (.t 58))), (1, (1, (.t 60)))]), none⟩,
  ⟨(some 62), (.bsl 119 2 [(.t 61)]), none⟩,
  ⟨(some 63), (.app false 119 2 16 (.t 56) (.t 62)), none⟩,
  ⟨(some 10), (.mv (.t 63)), none⟩]
def a59_r15 : List AOper := [
  ⟨(some 64), (.bin .add (.t 27) (.k (.d (.int .i64 1)))), none⟩,
  ⟨(some 27), (.mv (.t 64)), none⟩]
def a59_r16 : List AOper := [
  ⟨(some 65), (.mv (.t 10)), none⟩,
  ⟨(some 6), (.mv (.t 65)), none⟩,
  ⟨(some 7), (.mv (.k (.d (.int .i64 0)))), none⟩]
def l59_0 : ECode :=
  .seq (.region false a59_r10) (.seq (.cond (.t 46) (.skip) (.exit 2)) (.seq (.block 3 (.seq (.region false a59_r11) (.region true a59_r12))) (.region false a59_r13)))
def l59_1 : ECode :=
  .seq (.region false a59_r6) (.seq (.cond (.t 28) (.skip) (.exit 0)) (.seq (.block 1 (.seq (.region false a59_r7) (.seq (.regw a59_d8) (.seq (.seq (.region false a59_r9) (.block 2 (.loop [false, false, false, false, false, false, false, false, true, false, true, true, true, false, false, false, false, false, false, false, false, false, false, false, false, false, true, true, false, false, false, false, false, false, false, false, false, false, false, false, false, false, false, true, true, true] [false, false, false, false, false, false, false, false, true, false, true, false, true, false, false, false, false, false, false, false, false, false, false, false, false, false, true, true] l59_0))) (.region false a59_r14))))) (.region false a59_r15)))
def e59 : EFunc := ⟨66, [(.tmp 6), (.tmp 7)],
  .seq (.region false a59_r0) (.seq (.region false a59_r1) (.seq (.seq (.region false a59_r2) (.cond (.t 23) (.seq (.region false a59_r3) (.ret)) (.skip))) (.seq (.region false a59_r4) (.seq (.seq (.region false a59_r5) (.block 0 (.loop [false, false, false, false, false, false, false, false, true, false, true, false, false, false, false, false, false, false, false, false, false, false, false, false, false, false, true, true] [false, false, false, false, false, false, false, false, false, false, true] l59_1))) (.seq (.region false a59_r16) (.ret))))))⟩

def a60_r0 : List AOper := [
  ⟨(some 2), (.box 77 true 5 (.t 0)), none⟩,
  ⟨(some 4), (.alloc 100 [(.d (.int .i64 0)), (.d (.int .i64 0)), (.d (.int .i64 0)), (.nils 9 1)]), none⟩]
def a60_r1 : List AOper := [
  ⟨(some 5), (.alloc 100 [(.d (.int .i64 0)), (.d (.int .i64 0)), (.d (.int .i64 0)), (.nils 9 1)]), none⟩]
def a60_r2 : List AOper := [
  ⟨(some 11), .mkmap, none⟩,
  ⟨(some 6), (.mv (.t 11)), none⟩]
def a60_r3 : List AOper := [
  ⟨(some 12), (.mv (.t 1)), none⟩,
  ⟨(some 13), (.len false (.t 12)), none⟩,
  ⟨(some 14), (.mv (.k (.d (.int .i64 0)))), none⟩]
def a60_r4 : List AOper := [
  ⟨(some 15), (.bin .lss (.t 14) (.t 13)), none⟩]
def a60_r5 : List AOper := [
  ⟨(some 16), (.ixa 9 (.t 12) (.t 14)), none⟩,
  ⟨(some 17), (.load true 9 (.t 16)), none⟩,
  ⟨(some 8), (.alloc 50 [(.d (.int .i64 0)), (.d (.int .i64 0)), (.d (.int .i64 0)), (.d (.int .i64 0)), (.d (.int .i64 0)), (.d (.int .i64 0)), (.d (.int .i64 0)), (.nils 3 1), (.nils 79 4)]), none⟩,
  ⟨none, (.store 9 (.t 8) (.t 17)), none⟩]
def a60_r6 : List AOper := [
  ⟨(some 19), (.fld 8 (.t 8)), none⟩,
  ⟨(some 20), (.load false 1 (.t 19)), none⟩,
  ⟨(some 21), (.fld 0 (.t 2)), none⟩,
  ⟨(some 22), (.load false 1 (.t 21)), none⟩,
  ⟨(some 23), (.call (.k (.cl 37 [] [])) [(.t 20), (.t 22)]), none⟩,
  ⟨(some 18), (.mv (.t 23)), none⟩,
  ⟨(some 24), (.ext (.t 18) 0), none⟩,
  ⟨(some 25), (.ext (.t 18) 1), none⟩,
  ⟨(some 9), (.alloc 79 [(.d (.str ⟨#[]⟩)), (.d (.int .i64 0)), (.d (.int .i64 0)), (.d (.str ⟨#[]⟩))]), none⟩,
  ⟨none, (.store 4 (.t 9) (.t 24)), none⟩,
  ⟨(some 10), (.mv (.t 25)), none⟩]
def a60_r7 : List AOper := [
  ⟨(some 26), (.mv (.t 10)), none⟩,
  ⟨(some 27), (.un .not (.t 26)), none⟩]
def a60_r8 : List AOper := [
  ⟨(some 28), (.fld 0 (.t 5)), none⟩,
  ⟨(some 29), (.load false 1 (.t 28)), none⟩,
  ⟨(some 30), (.bin .eql (.t 29) (.k (.d (.int .i64 0)))), none⟩]
def a60_d9 : List DOp := [
  ⟨⟨(some 31), (.fld 2 (.t 9)), none⟩, [], 0⟩,
  ⟨⟨(some 32), (.load false 1 (.t 31)), none⟩, [true], 0⟩,
  ⟨⟨(some 33), (.fld 2 (.t 9)), none⟩, [false, false], 0⟩,
  ⟨⟨(some 34), (.load false 1 (.t 33)), none⟩, [false, false, true], 0⟩,
  ⟨⟨(some 35), (.fld 1 (.t 5)), none⟩, [true, true, false, false], 0⟩,
  ⟨⟨none, (.store 1 (.t 35) (.t 32)), none⟩, [true, true, false, false, true], 0⟩,
  ⟨⟨(some 36), (.fld 2 (.t 5)), none⟩, [true, true, true, true, true, true], 0⟩,
  ⟨⟨none, (.store 1 (.t 36) (.t 34)), none⟩, [true, true, true, true, true, true, true], 0⟩]
def a60_d10 : List DOp := [
  ⟨⟨(some 37), (.fld 0 (.t 5)), none⟩, [], 0⟩,
  ⟨⟨(some 38), (.load false 1 (.t 37)), none⟩, [true], 0⟩,
  ⟨⟨(some 39), (.bin .add (.t 38) (.k (.d (.int .i64 1)))), none⟩, [true, true], 0⟩,
  ⟨⟨(some 40), (.fld 1 (.t 5)), none⟩, [false, false, false], 0⟩,
  ⟨⟨(some 41), (.load false 1 (.t 40)), none⟩, [false, false, false, true], 0⟩,
  ⟨⟨(some 42), (.fld 2 (.t 9)), none⟩, [false, false, false, false, false], 0⟩,
  ⟨⟨(some 43), (.load false 1 (.t 42)), none⟩, [false, false, false, false, false, true], 0⟩,
  ⟨⟨(some 44), (.mn [(.t 41), (.t 43)]), none⟩, [false, false, false, true, true, true, true], 0⟩,
  ⟨⟨(some 45), (.fld 2 (.t 5)), none⟩, [false, false, false, false, false, false, false, false], 0⟩,
  ⟨⟨(some 46), (.load false 1 (.t 45)), none⟩, [false, false, false, false, false, false, false, false, true], 0⟩,
  ⟨⟨(some 47), (.fld 2 (.t 9)), none⟩, [false, false, false, false, false, false, false, false, false, false], 0⟩,
  ⟨⟨(some 48), (.load false 1 (.t 47)), none⟩, [false, false, false, false, false, false, false, false, false, false, true], 0⟩,
  ⟨⟨(some 49), (.mx [(.t 46), (.t 48)]), none⟩, [false, false, false, false, false, false, false, false, true, true, true, true], 0⟩,
  ⟨⟨(some 50), (.fld 0 (.t 5)), none⟩, [true, true, true, true, true, false, false, false, true, true, false, false, false], 0⟩,
  ⟨⟨none, (.store 1 (.t 50) (.t 39)), none⟩, [true, true, true, true, true, false, false, false, true, true, false, false, false, true], 0⟩,
  ⟨⟨(some 51), (.fld 1 (.t 5)), none⟩, [true, true, true, true, true, true, true, true, true, true, false, false, false, true, true], 0⟩,
  ⟨⟨none, (.store 1 (.t 51) (.t 44)), none⟩, [true, true, true, true, true, true, true, true, true, true, false, false, false, true, true, true], 0⟩,
  ⟨⟨(some 52), (.fld 2 (.t 5)), none⟩, [true, true, true, true, true, true, true, true, true, true, true, true, true, true, true, true, true], 0⟩,
  ⟨⟨none, (.store 1 (.t 52) (.t 49)), none⟩, [true, true, true, true, true, true, true, true, true, true, true, true, true, true, true, true, true, true], 0⟩]
def a60_r11 : List AOper := [
  ⟨(some 53), (.fld 1 (.t 2)), none⟩,
  ⟨(some 54), (.load false 1 (.t 53)), none⟩,
  ⟨(some 55), (.bin .eql (.t 54) (.k (.d (.int .i64 2)))), none⟩]
def a60_r12 : List AOper := [
  ⟨(some 56), (.mv (.t 6)), none⟩,
  ⟨(some 57), (.fld 3 (.t 9)), none⟩,
  ⟨(some 58), (.load false 1 (.t 57)), none⟩,
  ⟨none, (.mset false (.t 56) (.t 58) (.k (.d (.bool true)))), none⟩]
def a60_r13 : List AOper := [
  ⟨(some 59), (.bin .add (.t 14) (.k (.d (.int .i64 1)))), none⟩,
  ⟨(some 14), (.mv (.t 59)), none⟩]
def a60_r14 : List AOper := [
  ⟨(some 60), (.mv (.t 6)), none⟩,
  ⟨(some 61), (.call (.k (.cl 112 [] [])) [(.t 60)]), none⟩,
  ⟨(some 62), (.fld 3 (.t 5)), none⟩,
  ⟨none, (.store 1 (.t 62) (.t 61)), none⟩]
def a60_r15 : List AOper := [
  ⟨(some 63), (.load true 4 (.t 5)), none⟩,
  ⟨none, (.store 4 (.t 4) (.t 63)), none⟩]
def l60_0 : ECode :=
  .seq (.region false a60_r4) (.seq (.cond (.t 15) (.skip) (.exit 0)) (.seq (.block 1 (.seq (.region false a60_r5) (.seq (.region false a60_r6) (.seq (.seq (.region false a60_r7) (.cond (.t 27) (.exit 1) (.skip))) (.seq (.seq (.region false a60_r8) (.cond (.t 30) (.regw a60_d9) (.skip))) (.seq (.regw a60_d10) (.seq (.region false a60_r11) (.cond (.t 55) (.region false a60_r12) (.skip))))))))) (.region false a60_r13)))
def e60 : EFunc := ⟨64, [(.cell 4 true 4)],
  .seq (.region false a60_r0) (.seq (.region false a60_r1) (.seq (.region false a60_r2) (.seq (.seq (.region false a60_r3) (.block 0 (.loop [false, false, true, false, true, true, true, false, false, false, false, false, true, true, true] [false, false, false, false, true, true, true] l60_0))) (.seq (.region false a60_r14) (.seq (.region false a60_r15) (.ret))))))⟩

def a64_r0 : List AOper := [
  ⟨(some 6), (.mv (.k (.d (.bool false)))), none⟩]
def a64_r1 : List AOper := [
  ⟨(some 7), (.mv (.t 0)), none⟩,
  ⟨(some 8), (.mv (.t 1)), none⟩,
  ⟨(some 9), (.bin .geq (.t 7) (.t 8)), none⟩,
  ⟨(some 10), (.mv (.t 9)), none⟩,
  ⟨(some 11), (.mv (.t 0)), (some (10, true))⟩,
  ⟨(some 12), (.mv (.t 2)), (some (10, true))⟩,
  ⟨(some 13), (.bin .leq (.t 11) (.t 12)), (some (10, true))⟩,
  ⟨(some 14), (.pick (.t 10) (.t 13) (.k (.d (.bool false)))), none⟩,
  ⟨(some 6), (.mv (.t 14)), none⟩]
def e64 : EFunc := ⟨15, [(.tmp 6)],
  .seq (.region false a64_r0) (.seq (.region false a64_r1) (.ret))⟩

def a65_r0 : List AOper := [
  ⟨(some 1), (.box 29 true 2 (.t 0)), none⟩,
  ⟨(some 2), (.alloc 4 [(.d (.bool false))]), none⟩]
def a65_r1 : List AOper := [
  ⟨(some 5), (.fld 0 (.t 1)), none⟩,
  ⟨(some 6), (.load false 1 (.t 5)), none⟩,
  ⟨(some 7), (.call (.k (.cl 136 [] [])) [(.t 6)]), none⟩,
  ⟨(some 8), (.un .not (.t 7)), none⟩,
  ⟨(some 9), (.mv (.t 8)), none⟩,
  ⟨(some 10), (.fld 1 (.t 1)), (some (9, false))⟩,
  ⟨(some 11), (.load false 1 (.t 10)), (some (9, false))⟩,
  ⟨(some 12), (.call (.k (.cl 136 [] [])) [(.t 11)]), (some (9, false))⟩,
  ⟨(some 13), (.un .not (.t 12)), (some (9, false))⟩,
  ⟨(some 14), (.pick (.t 9) (.k (.d (.bool true))) (.t 13)), none⟩,
  ⟨(some 15), (.mv (.t 14)), none⟩,
  ⟨(some 16), (.fld 0 (.t 1)), (some (15, false))⟩,
  ⟨(some 17), (.load false 1 (.t 16)), (some (15, false))⟩,
  ⟨(some 18), (.len false (.t 17)), (some (15, false))⟩,
  ⟨(some 19), (.fld 1 (.t 1)), (some (15, false))⟩,
  ⟨(some 20), (.load false 1 (.t 19)), (some (15, false))⟩,
  ⟨(some 21), (.len false (.t 20)), (some (15, false))⟩,
  ⟨(some 22), (.bin .neq (.t 18) (.t 21)), (some (15, false))⟩,
  ⟨(some 23), (.pick (.t 15) (.k (.d (.bool true))) (.t 22)), none⟩]
def a65_r2 : List AOper := [
  ⟨none, (.store 1 (.t 2) (.k (.d (.bool false)))), none⟩]
def a65_r3 : List AOper := [
  ⟨(some 24), (.fld 0 (.t 1)), none⟩,
  ⟨(some 25), (.load false 1 (.t 24)), none⟩,
  ⟨(some 26), (.fld 1 (.t 1)), none⟩,
  ⟨(some 27), (.load false 1 (.t 26)), none⟩,
  ⟨(some 28), (.call (.k (.cl 146 [] [])) [(.t 25), (.t 27)]), none⟩]
def a65_r4 : List AOper := [
  ⟨(some 3), (.mv (.t 29)), none⟩]
def a65_r5 : List AOper := [
  ⟨(some 4), (.mv (.t 30)), none⟩]
def a65_r6 : List AOper := [
  ⟨(some 31), (.mv (.t 3)), none⟩,
  ⟨(some 32), (.mv (.t 4)), none⟩,
  ⟨(some 33), (.bin .gtr (.t 31) (.t 32)), none⟩]
def a65_r7 : List AOper := [
  ⟨none, (.store 1 (.t 2) (.k (.d (.bool false)))), none⟩]
def a65_r8 : List AOper := [
  ⟨none, (.store 1 (.t 2) (.k (.d (.bool true)))), none⟩]
def e65 : EFunc := ⟨34, [(.cell 2 false 1)],
  .seq (.region false a65_r0) (.seq (.seq (.region false a65_r1) (.cond (.t 23) (.seq (.region false a65_r2) (.ret)) (.skip))) (.seq (.seq (.region false a65_r3) (.block 0 (.rfunc [false, false, true, false, false, false, false, false, false, false, false, false, false, false, false, false, false, false, false, false, false, false, false, false, false, false, false, false, false, true, true] (.t 28) [29, 30] (.seq (.region false a65_r4) (.region false a65_r5)) (.block 1 (.seq (.region false a65_r6) (.cond (.t 33) (.seq (.region false a65_r7) (.ret)) (.skip))))))) (.seq (.region false a65_r8) (.ret))))⟩

def a66_r0 : List AOper := [
  ⟨(some 2), (.mv (.k (.d (.bool false)))), none⟩]
def a66_r1 : List AOper := [
  ⟨(some 5), (.mv (.t 0)), none⟩,
  ⟨(some 6), (.len false (.t 5)), none⟩,
  ⟨(some 7), (.mv (.k (.d (.int .i64 0)))), none⟩]
def a66_r2 : List AOper := [
  ⟨(some 8), (.bin .lss (.t 7) (.t 6)), none⟩]
def a66_r3 : List AOper := [
  ⟨(some 9), (.ixa 2 (.t 5) (.t 7)), none⟩,
  ⟨(some 10), (.load true 2 (.t 9)), none⟩,
  ⟨(some 4), (.alloc 119 [(.d (.int .i64 0)), (.d (.int .i64 0))]), none⟩,
  ⟨none, (.store 2 (.t 4) (.t 10)), none⟩]
def a66_d4 : List DOp := [
  ⟨⟨(some 11), (.fld 0 (.t 4)), none⟩, [], 0⟩,
  ⟨⟨(some 12), (.load false 1 (.t 11)), none⟩, [true], 0⟩,
  ⟨⟨(some 13), (.fld 1 (.t 4)), none⟩, [false, false], 0⟩,
  ⟨⟨(some 14), (.load false 1 (.t 13)), none⟩, [false, false, true], 0⟩,
  ⟨⟨(some 15), (.bin .gtr (.t 12) (.t 14)), none⟩, [true, true, true, true], 0⟩,
  ⟨⟨(some 16), (.mv (.t 15)), none⟩, [true, true, true, true, true], 0⟩,
  ⟨⟨(some 17), (.call (.k (.cl 147 [] [])) []), (some (16, false))⟩, [true, true, true, true, true, true], 0⟩,
  ⟨⟨(some 18), (.fld 0 (.t 4)), (some (16, false))⟩, [true, true, true, true, true, true, false], 0⟩,
  ⟨⟨(some 19), (.load false 1 (.t 18)), (some (16, false))⟩, [true, true, true, true, true, true, false, true], 0⟩,
  ⟨⟨(some 20), (.call (.k (.cl 95 [] [])) [(.t 17), (.t 19)]), (some (16, false))⟩, [true, true, true, true, true, true, true, true, true], 1⟩,
  ⟨⟨(some 21), (.un .not (.t 20)), (some (16, false))⟩, [true, true, true, true, true, true, true, true, true, true], 0⟩,
  ⟨⟨(some 22), (.pick (.t 16) (.k (.d (.bool true))) (.t 21)), none⟩, [true, true, true, true, true, true, true, true, true, true, true], 0⟩,
  ⟨⟨(some 23), (.mv (.t 22)), none⟩, [true, true, true, true, true, true, true, true, true, true, true, true], 0⟩,
  ⟨⟨(some 24), (.call (.k (.cl 147 [] [])) []), (some (23, false))⟩, [true, true, true, true, true, true, true, true, true, true, true, true, true], 2⟩,
  ⟨⟨(some 25), (.fld 1 (.t 4)), (some (23, false))⟩, [true, true, true, true, true, true, true, true, true, true, true, true, true, false], 0⟩,
  ⟨⟨(some 26), (.load false 1 (.t 25)), (some (23, false))⟩, [true, true, true, true, true, true, true, true, true, true, true, true, true, false, true], 0⟩,
  ⟨⟨(some 27), (.call (.k (.cl 95 [] [])) [(.t 24), (.t 26)]), (some (23, false))⟩, [true, true, true, true, true, true, true, true, true, true, true, true, true, true, true, true], 3⟩,
  ⟨⟨(some 28), (.un .not (.t 27)), (some (23, false))⟩, [true, true, true, true, true, true, true, true, true, true, true, true, true, true, true, true, true], 0⟩,
  ⟨⟨(some 29), (.pick (.t 23) (.k (.d (.bool true))) (.t 28)), none⟩, [true, true, true, true, true, true, true, true, true, true, true, true, true, true, true, true, true, true], 0⟩]
def a66_r5 : List AOper := [
  ⟨(some 2), (.mv (.k (.d (.bool false)))), none⟩]
def a66_r6 : List AOper := [
  ⟨(some 30), (.bin .add (.t 7) (.k (.d (.int .i64 1)))), none⟩,
  ⟨(some 7), (.mv (.t 30)), none⟩]
def a66_r7 : List AOper := [
  ⟨(some 31), (.mv (.t 0)), none⟩,
  ⟨(some 32), (.len false (.t 31)), none⟩,
  ⟨(some 33), (.bin .leq (.t 32) (.k (.d (.int .i64 8)))), none⟩,
  ⟨(some 2), (.mv (.t 33)), none⟩]
def l66_0 : ECode :=
  .seq (.region false a66_r2) (.seq (.cond (.t 8) (.skip) (.exit 0)) (.seq (.block 1 (.seq (.region false a66_r3) (.seq (.regw a66_d4) (.cond (.t 29) (.seq (.region false a66_r5) (.ret)) (.skip))))) (.region false a66_r6)))
def e66 : EFunc := ⟨34, [(.tmp 2)],
  .seq (.region false a66_r0) (.seq (.seq (.region false a66_r1) (.block 0 (.loop [true, false, false, false, false, true, true, true] [true, false, true] l66_0))) (.seq (.region false a66_r7) (.ret)))⟩

def a67_r0 : List AOper := [
  ⟨(some 3), (.box 77 true 5 (.t 0)), none⟩,
  ⟨(some 4), (.box 100 true 4 (.t 1)), none⟩,
  ⟨(some 6), (.mv (.k (.d (.bool false)))), none⟩]
def a67_r1 : List AOper := [
  ⟨(some 10), (.fld 0 (.t 4)), none⟩,
  ⟨(some 11), (.load false 1 (.t 10)), none⟩,
  ⟨(some 12), (.mv (.t 2)), none⟩,
  ⟨(some 13), (.call (.k (.cl 64 [] [])) [(.t 11), (.k (.d (.int .i64 0))), (.t 12)]), none⟩,
  ⟨(some 14), (.un .not (.t 13)), none⟩,
  ⟨(some 9), (.mv (.t 14)), none⟩]
def a67_r2 : List AOper := [
  ⟨(some 6), (.mv (.k (.d (.bool false)))), none⟩]
def a67_r3 : List AOper := [
  ⟨(some 16), (.fld 0 (.t 4)), none⟩,
  ⟨(some 17), (.load false 1 (.t 16)), none⟩,
  ⟨(some 18), (.bin .gtr (.t 17) (.k (.d (.int .i64 0)))), none⟩,
  ⟨(some 19), (.mv (.t 18)), none⟩,
  ⟨(some 20), (.fld 1 (.t 3)), (some (19, true))⟩,
  ⟨(some 21), (.load false 1 (.t 20)), (some (19, true))⟩,
  ⟨(some 22), (.bin .eql (.t 21) (.k (.d (.int .i64 1)))), (some (19, true))⟩,
  ⟨(some 23), (.pick (.t 19) (.t 22) (.k (.d (.bool false)))), none⟩,
  ⟨(some 15), (.mv (.t 23)), none⟩]
def a67_r4 : List AOper := [
  ⟨(some 24), (.fld 1 (.t 4)), none⟩,
  ⟨(some 25), (.load false 1 (.t 24)), none⟩,
  ⟨(some 26), (.fld 2 (.t 3)), none⟩,
  ⟨(some 27), (.load false 1 (.t 26)), none⟩,
  ⟨(some 28), (.fld 2 (.t 4)), none⟩,
  ⟨(some 29), (.load false 1 (.t 28)), none⟩,
  ⟨(some 30), (.call (.k (.cl 64 [] [])) [(.t 25), (.t 27), (.t 29)]), none⟩,
  ⟨(some 31), (.mv (.t 30)), none⟩,
  ⟨(some 32), (.fld 2 (.t 4)), (some (31, true))⟩,
  ⟨(some 33), (.load false 1 (.t 32)), (some (31, true))⟩,
  ⟨(some 34), (.fld 3 (.t 3)), (some (31, true))⟩,
  ⟨(some 35), (.load false 1 (.t 34)), (some (31, true))⟩,
  ⟨(some 36), (.bin .leq (.t 33) (.t 35)), (some (31, true))⟩,
  ⟨(some 37), (.pick (.t 31) (.t 36) (.k (.d (.bool false)))), none⟩,
  ⟨(some 38), (.mv (.t 37)), none⟩,
  ⟨(some 39), (.fld 3 (.t 4)), (some (38, true))⟩,
  ⟨(some 40), (.load false 1 (.t 39)), (some (38, true))⟩,
  ⟨(some 41), (.len false (.t 40)), (some (38, true))⟩,
  ⟨(some 42), (.bin .eql (.t 41) (.k (.d (.int .i64 0)))), (some (38, true))⟩,
  ⟨(some 43), (.pick (.t 38) (.t 42) (.k (.d (.bool false)))), none⟩,
  ⟨(some 6), (.mv (.t 43)), none⟩]
def a67_r5 : List AOper := [
  ⟨(some 45), (.fld 1 (.t 4)), none⟩,
  ⟨(some 46), (.load false 1 (.t 45)), none⟩,
  ⟨(some 47), (.bin .neq (.t 46) (.k (.d (.int .i64 0)))), none⟩,
  ⟨(some 48), (.mv (.t 47)), none⟩,
  ⟨(some 49), (.fld 2 (.t 4)), (some (48, false))⟩,
  ⟨(some 50), (.load false 1 (.t 49)), (some (48, false))⟩,
  ⟨(some 51), (.bin .neq (.t 50) (.k (.d (.int .i64 0)))), (some (48, false))⟩,
  ⟨(some 52), (.pick (.t 48) (.k (.d (.bool true))) (.t 51)), none⟩,
  ⟨(some 53), (.mv (.t 52)), none⟩,
  ⟨(some 54), (.fld 0 (.t 4)), (some (53, false))⟩,
  ⟨(some 55), (.load false 1 (.t 54)), (some (53, false))⟩,
  ⟨(some 56), (.bin .gtr (.t 55) (.k (.d (.int .i64 0)))), (some (53, false))⟩,
  ⟨(some 57), (.fld 3 (.t 4)), (some (53, false))⟩,
  ⟨(some 58), (.load false 1 (.t 57)), (some (53, false))⟩,
  ⟨(some 59), (.len false (.t 58)), (some (53, false))⟩,
  ⟨(some 60), (.bin .gtr (.t 59) (.k (.d (.int .i64 0)))), (some (53, false))⟩,
  ⟨(some 61), (.eqb true (.t 56) (.t 60)), (some (53, false))⟩,
  ⟨(some 62), (.pick (.t 53) (.k (.d (.bool true))) (.t 61)), none⟩,
  ⟨(some 44), (.mv (.t 62)), none⟩]
def a67_r6 : List AOper := [
  ⟨(some 6), (.mv (.k (.d (.bool false)))), none⟩]
def a67_r7 : List AOper := [
  ⟨(some 63), (.fld 3 (.t 4)), none⟩,
  ⟨(some 64), (.load false 1 (.t 63)), none⟩,
  ⟨(some 65), (.len false (.t 64)), none⟩,
  ⟨(some 66), (.mv (.k (.d (.int .i64 0)))), none⟩]
def a67_r8 : List AOper := [
  ⟨(some 67), (.bin .lss (.t 66) (.t 65)), none⟩]
def a67_r9 : List AOper := [
  ⟨(some 68), (.mv (.t 66)), none⟩,
  ⟨(some 69), (.ixa 1 (.t 64) (.t 66)), none⟩,
  ⟨(some 70), (.load false 1 (.t 69)), none⟩,
  ⟨(some 7), (.mv (.t 68)), none⟩,
  ⟨(some 8), (.mv (.t 70)), none⟩]
def a67_r10 : List AOper := [
  ⟨(some 71), (.fld 4 (.t 3)), none⟩,
  ⟨(some 72), (.load false 1 (.t 71)), none⟩,
  ⟨(some 73), (.mv (.t 8)), none⟩,
  ⟨(some 74), (.call (.k (.cl 73 [] [])) [(.t 72), (.t 73)]), none⟩,
  ⟨(some 75), (.un .not (.t 74)), none⟩,
  ⟨(some 76), (.mv (.t 75)), none⟩,
  ⟨(some 77), (.mv (.t 7)), (some (76, false))⟩,
  ⟨(some 78), (.bin .gtr (.t 77) (.k (.d (.int .i64 0)))), (some (76, false))⟩,
  ⟨(some 79), (.mv (.t 78)), (some (76, false))⟩,
  ⟨(some 80), (.mv (.t 8)), (some (79, true))⟩,
  ⟨(some 81), (.fld 3 (.t 4)), (some (79, true))⟩,
  ⟨(some 82), (.load false 1 (.t 81)), (some (79, true))⟩,
  ⟨(some 83), (.mv (.t 7)), (some (79, true))⟩,
  ⟨(some 84), (.bin .sub (.t 83) (.k (.d (.int .i64 1)))), (some (79, true))⟩,
  ⟨(some 85), (.ixa 1 (.t 82) (.t 84)), (some (79, true))⟩,
  ⟨(some 86), (.load false 1 (.t 85)), (some (79, true))⟩,
  ⟨(some 87), (.bin .leq (.t 80) (.t 86)), (some (79, true))⟩,
  ⟨(some 88), (.pick (.t 79) (.t 87) (.k (.d (.bool false)))), (some (76, false))⟩,
  ⟨(some 89), (.pick (.t 76) (.k (.d (.bool true))) (.t 88)), none⟩]
def a67_r11 : List AOper := [
  ⟨(some 6), (.mv (.k (.d (.bool false)))), none⟩]
def a67_r12 : List AOper := [
  ⟨(some 90), (.bin .add (.t 66) (.k (.d (.int .i64 1)))), none⟩,
  ⟨(some 66), (.mv (.t 90)), none⟩]
def a67_r13 : List AOper := [
  ⟨(some 6), (.mv (.k (.d (.bool true)))), none⟩]
def l67_0 : ECode :=
  .seq (.region false a67_r8) (.seq (.cond (.t 67) (.skip) (.exit 1)) (.seq (.block 2 (.seq (.region false a67_r9) (.seq (.region false a67_r10) (.cond (.t 89) (.seq (.region false a67_r11) (.ret)) (.skip))))) (.region false a67_r12)))
def e67 : EFunc := ⟨91, [(.tmp 6)],
  .seq (.region false a67_r0) (.seq (.block 0 (.seq (.region false a67_r1) (.cond (.t 9) (.seq (.region false a67_r2) (.ret)) (.seq (.region false a67_r3) (.cond (.t 15) (.seq (.region false a67_r4) (.ret)) (.seq (.region false a67_r5) (.cond (.t 44) (.seq (.region false a67_r6) (.ret)) (.skip)))))))) (.seq (.seq (.region false a67_r7) (.block 1 (.loop [false, false, false, true, true, false, false, false, false, false, false, false, false, false, false, false, false, false, false, false, false, false, false, false, false, false, false, false, false, false, false, false, false, false, false, false, false, false, false, false, false, false, false, false, false, false, false, false, false, false, false, false, false, false, false, false, false, false, false, false, false, false, false, false, true, true, true] [false, false, false, false, false, false, true] l67_0))) (.seq (.region false a67_r13) (.ret))))⟩

def a72_r0 : List AOper := [
  ⟨(some 2), (.box 29 true 2 (.t 0)), none⟩,
  ⟨(some 4), (.mv (.k (.d (.bool false)))), none⟩]
def a72_r1 : List AOper := [
  ⟨(some 7), (.load true 2 (.t 2)), none⟩,
  ⟨(some 8), (.call (.k (.cl 65 [] [])) [(.t 7)]), none⟩,
  ⟨(some 9), (.un .not (.t 8)), none⟩,
  ⟨(some 10), (.mv (.t 9)), none⟩,
  ⟨(some 11), (.mv (.t 1)), (some (10, false))⟩,
  ⟨(some 12), (.len false (.t 11)), (some (10, false))⟩,
  ⟨(some 13), (.fld 0 (.t 2)), (some (10, false))⟩,
  ⟨(some 14), (.load false 1 (.t 13)), (some (10, false))⟩,
  ⟨(some 15), (.len false (.t 14)), (some (10, false))⟩,
  ⟨(some 16), (.bin .neq (.t 12) (.t 15)), (some (10, false))⟩,
  ⟨(some 17), (.pick (.t 10) (.k (.d (.bool true))) (.t 16)), none⟩]
def a72_r2 : List AOper := [
  ⟨(some 4), (.mv (.k (.d (.bool false)))), none⟩]
def a72_r3 : List AOper := [
  ⟨(some 18), (.mv (.t 1)), none⟩,
  ⟨(some 19), (.len false (.t 18)), none⟩,
  ⟨(some 20), (.mv (.k (.d (.int .i64 0)))), none⟩]
def a72_r4 : List AOper := [
  ⟨(some 21), (.bin .lss (.t 20) (.t 19)), none⟩]
def a72_r5 : List AOper := [
  ⟨(some 22), (.mv (.t 20)), none⟩,
  ⟨(some 23), (.ixa 1 (.t 18) (.t 20)), none⟩,
  ⟨(some 24), (.load false 1 (.t 23)), none⟩,
  ⟨(some 5), (.mv (.t 22)), none⟩,
  ⟨(some 6), (.mv (.t 24)), none⟩]
def a72_r6 : List AOper := [
  ⟨(some 25), (.mv (.t 6)), none⟩,
  ⟨(some 26), (.fld 0 (.t 2)), none⟩,
  ⟨(some 27), (.load false 1 (.t 26)), none⟩,
  ⟨(some 28), (.mv (.t 5)), none⟩,
  ⟨(some 29), (.ixa 1 (.t 27) (.t 28)), none⟩,
  ⟨(some 30), (.load false 1 (.t 29)), none⟩,
  ⟨(some 31), (.bin .lss (.t 25) (.t 30)), none⟩,
  ⟨(some 32), (.mv (.t 31)), none⟩,
  ⟨(some 33), (.mv (.t 6)), (some (32, false))⟩,
  ⟨(some 34), (.fld 1 (.t 2)), (some (32, false))⟩,
  ⟨(some 35), (.load false 1 (.t 34)), (some (32, false))⟩,
  ⟨(some 36), (.mv (.t 5)), (some (32, false))⟩,
  ⟨(some 37), (.ixa 1 (.t 35) (.t 36)), (some (32, false))⟩,
  ⟨(some 38), (.load false 1 (.t 37)), (some (32, false))⟩,
  ⟨(some 39), (.bin .gtr (.t 33) (.t 38)), (some (32, false))⟩,
  ⟨(some 40), (.pick (.t 32) (.k (.d (.bool true))) (.t 39)), none⟩]
def a72_r7 : List AOper := [
  ⟨(some 4), (.mv (.k (.d (.bool false)))), none⟩]
def a72_r8 : List AOper := [
  ⟨(some 41), (.bin .add (.t 20) (.k (.d (.int .i64 1)))), none⟩,
  ⟨(some 20), (.mv (.t 41)), none⟩]
def a72_r9 : List AOper := [
  ⟨(some 4), (.mv (.k (.d (.bool true)))), none⟩]
def l72_0 : ECode :=
  .seq (.region false a72_r4) (.seq (.cond (.t 21) (.skip) (.exit 0)) (.seq (.block 1 (.seq (.region false a72_r5) (.seq (.region false a72_r6) (.cond (.t 40) (.seq (.region false a72_r7) (.ret)) (.skip))))) (.region false a72_r8)))
def e72 : EFunc := ⟨42, [(.tmp 4)],
  .seq (.region false a72_r0) (.seq (.seq (.region false a72_r1) (.cond (.t 17) (.seq (.region false a72_r2) (.ret)) (.skip))) (.seq (.seq (.region false a72_r3) (.block 0 (.loop [false, false, true, false, false, false, false, false, false, false, false, false, false, false, false, false, false, false, true, true, true] [false, false, false, false, true] l72_0))) (.seq (.region false a72_r9) (.ret))))⟩

def a73_r0 : List AOper := [
  ⟨(some 4), (.mv (.k (.d (.bool false)))), none⟩]
def a73_r1 : List AOper := [
  ⟨(some 5), (.mv (.t 0)), none⟩,
  ⟨(some 6), (.mv (.t 1)), none⟩,
  ⟨(some 7), (.call (.k (.cl 149 [] [])) [(.t 5), (.t 6)]), none⟩,
  ⟨(some 8), (.bin .geq (.t 7) (.k (.d (.int .i64 0)))), none⟩,
  ⟨(some 4), (.mv (.t 8)), none⟩]
def e73 : EFunc := ⟨9, [(.tmp 4)],
  .seq (.region false a73_r0) (.seq (.region false a73_r1) (.ret))⟩

def a76_r0 : List AOper := [
  ⟨(some 4), (.box 29 true 2 (.t 1)), none⟩,
  ⟨(some 6), (.mv (.k (.d (.int .i64 0)))), none⟩,
  ⟨(some 7), (.mv (.k (.d (.int .i64 0)))), none⟩]
def a76_r1 : List AOper := [
  ⟨(some 8), (.mv (.t 0)), none⟩,
  ⟨(some 9), (.load true 2 (.t 4)), none⟩,
  ⟨(some 10), (.mv (.t 2)), none⟩,
  ⟨(some 11), (.call (.k (.cl 150 [] [])) [(.t 8), (.t 9), (.t 10), (.k (.cl 151 [] []))]), none⟩,
  ⟨(some 12), (.ext (.t 11) 0), none⟩,
  ⟨(some 13), (.ext (.t 11) 1), none⟩,
  ⟨(some 6), (.mv (.t 12)), none⟩,
  ⟨(some 7), (.mv (.t 13)), none⟩]
def e76 : EFunc := ⟨14, [(.tmp 6), (.tmp 7)],
  .seq (.region false a76_r0) (.seq (.region false a76_r1) (.ret))⟩

def a77_r0 : List AOper := [
  ⟨(some 3), (.box 3 false 1 (.t 0)), none⟩,
  ⟨(some 6), (.mv (.k (.d (.int .i64 0)))), none⟩,
  ⟨(some 7), (.mv (.k (.d (.int .i64 0)))), none⟩]
def a77_r1 : List AOper := [
  ⟨(some 8), (.load false 1 (.t 3)), none⟩,
  ⟨(some 9), (.mv (.t 1)), none⟩,
  ⟨(some 10), (.mv (.t 2)), none⟩,
  ⟨(some 11), (.mkfn 153 [] [(.t 3)]), none⟩,
  ⟨(some 12), (.call (.k (.cl 152 [] [])) [(.t 8), (.t 9), (.t 10), (.k (.d (.int .i64 0))), (.t 11)]), none⟩,
  ⟨(some 13), (.ext (.t 12) 0), none⟩,
  ⟨(some 14), (.ext (.t 12) 1), none⟩,
  ⟨(some 6), (.mv (.t 13)), none⟩,
  ⟨(some 7), (.mv (.t 14)), none⟩]
def e77 : EFunc := ⟨15, [(.tmp 6), (.tmp 7)],
  .seq (.region false a77_r0) (.seq (.region false a77_r1) (.ret))⟩

def a84_r0 : List AOper := [
  ⟨(some 0), (.mv (.k .undef)), none⟩]
def a84_r1 : List AOper := [
  ⟨(some 1), (.alloc 213 [.nilf]), none⟩,
  ⟨none, (.store 1 (.t 1) (.k (.cl 160 [] []))), none⟩]
def a84_r2 : List AOper := [
  ⟨(some 2), (.alloc 213 [.nilf]), none⟩,
  ⟨none, (.store 1 (.t 2) (.k (.cl 161 [] []))), none⟩]
def a84_r3 : List AOper := [
  ⟨(some 3), (.alloc 213 [.nilf]), none⟩,
  ⟨none, (.store 1 (.t 3) (.k (.cl 162 [] []))), none⟩]
def a84_r4 : List AOper := [
  ⟨(some 4), (.alloc 213 [.nilf]), none⟩,
  ⟨none, (.store 1 (.t 4) (.k (.cl 163 [] []))), none⟩]
def a84_r5 : List AOper := [
  ⟨(some 5), .mkmap, none⟩,
  ⟨none, (.mset true (.t 5) (.k (.d (.int .i64 1))) (.k (.cl 164 [] []))), none⟩,
  ⟨(some 6), (.mkfn 165 [] [(.t 3), (.t 2)]), none⟩,
  ⟨none, (.mset true (.t 5) (.k (.d (.int .i64 2))) (.t 6)), none⟩,
  ⟨(some 7), (.mkfn 168 [] [(.t 1), (.t 4)]), none⟩,
  ⟨none, (.mset true (.t 5) (.k (.d (.int .i64 3))) (.t 7)), none⟩,
  ⟨none, (.mset true (.t 5) (.k (.d (.int .i64 4))) (.k (.cl 169 [] []))), none⟩,
  ⟨none, (.mset true (.t 5) (.k (.d (.int .i64 5))) (.k (.cl 170 [] []))), none⟩,
  ⟨none, (.mset true (.t 5) (.k (.d (.int .i64 6))) (.k (.cl 172 [] []))), none⟩,
  ⟨none, (.mset true (.t 5) (.k (.d (.int .i64 7))) (.k (.cl 173 [] []))), none⟩,
  ⟨(some 8), (.mv (.t 5)), none⟩,
  ⟨(some 0), (.mv (.t 8)), none⟩]
def e84 : EFunc := ⟨9, [(.tmp 0)],
  .seq (.region false a84_r0) (.seq (.region false a84_r1) (.seq (.region false a84_r2) (.seq (.region false a84_r3) (.seq (.region false a84_r4) (.seq (.region false a84_r5) (.ret))))))⟩

def a85_r0 : List AOper := [
  ⟨(some 3), (.box 54 true 6 (.t 1)), none⟩,
  ⟨(some 4), (.alloc 134 [(.d (.bool false)), (.d (.bool false))]), none⟩]
def a85_r1 : List AOper := [
  ⟨(some 5), (.mv (.t 0)), none⟩,
  ⟨(some 6), (.nilck (.t 5)), none⟩,
  ⟨(some 7), (.fld 13 (.t 6)), none⟩,
  ⟨(some 8), (.load false 1 (.t 7)), none⟩,
  ⟨(some 9), (.fld 0 (.t 3)), none⟩,
  ⟨(some 10), (.load false 1 (.t 9)), none⟩,
  ⟨(some 11), (.look true false .nilf (.t 8) (.t 10)), none⟩,
  ⟨(some 12), (.mv (.t 0)), none⟩,
  ⟨(some 13), (.load true 6 (.t 3)), none⟩,
  ⟨(some 14), (.call (.t 11) [(.t 12), (.t 13)]), none⟩,
  ⟨none, (.store 2 (.t 4) (.t 14)), none⟩]
def e85 : EFunc := ⟨15, [(.cell 4 true 2)],
  .seq (.region false a85_r0) (.seq (.region true a85_r1) (.ret))⟩

def a87_r0 : List AOper := [
  ⟨(some 2), (.mv (.k (.d (.int .i64 0)))), none⟩]
def a87_r1 : List AOper := [
  ⟨(some 5), (.mv (.t 0)), none⟩,
  ⟨(some 6), (.len false (.t 5)), none⟩,
  ⟨(some 7), (.mv (.k (.d (.int .i64 0)))), none⟩]
def a87_r2 : List AOper := [
  ⟨(some 8), (.bin .lss (.t 7) (.t 6)), none⟩]
def a87_r3 : List AOper := [
  ⟨(some 9), (.ixa 2 (.t 5) (.t 7)), none⟩,
  ⟨(some 10), (.load true 2 (.t 9)), none⟩,
  ⟨(some 4), (.alloc 143 [.nilf, (.d (.int .i64 0))]), none⟩,
  ⟨none, (.store 2 (.t 4) (.t 10)), none⟩]
def a87_r4 : List AOper := [
  ⟨(some 11), (.fld 0 (.t 4)), none⟩,
  ⟨(some 12), (.load false 1 (.t 11)), none⟩,
  ⟨(some 13), (.call (.t 12) []), none⟩]
def a87_r5 : List AOper := [
  ⟨(some 14), (.fld 1 (.t 4)), none⟩,
  ⟨(some 15), (.load false 1 (.t 14)), none⟩,
  ⟨(some 2), (.mv (.t 15)), none⟩]
def a87_r6 : List AOper := [
  ⟨(some 16), (.bin .add (.t 7) (.k (.d (.int .i64 1)))), none⟩,
  ⟨(some 7), (.mv (.t 16)), none⟩]
def a87_r7 : List AOper := [
  ⟨(some 2), (.mv (.k (.d (.int .i64 0)))), none⟩]
def l87_0 : ECode :=
  .seq (.region false a87_r2) (.seq (.cond (.t 8) (.skip) (.exit 0)) (.seq (.block 1 (.seq (.region false a87_r3) (.seq (.region false a87_r4) (.cond (.t 13) (.seq (.region false a87_r5) (.ret)) (.skip))))) (.region false a87_r6)))
def e87 : EFunc := ⟨17, [(.tmp 2)],
  .seq (.region false a87_r0) (.seq (.seq (.region false a87_r1) (.block 0 (.loop [false, false, false, false, false, true, true, true] [false, false, true] l87_0))) (.seq (.region false a87_r7) (.ret)))⟩

def a88_r0 : List AOper := [
  ⟨(some 1), (.mv (.k (.d (.bool false)))), none⟩]
def a88_r1 : List AOper := [
  ⟨(some 2), (.fld 0 (.t 0)), none⟩,
  ⟨(some 3), (.load false 1 (.t 2)), none⟩,
  ⟨(some 4), (.bin .lss (.t 3) (.k (.d (.int .i64 1)))), none⟩,
  ⟨(some 5), (.mv (.t 4)), none⟩,
  ⟨(some 6), (.fld 0 (.t 0)), (some (5, false))⟩,
  ⟨(some 7), (.load false 1 (.t 6)), (some (5, false))⟩,
  ⟨(some 8), (.bin .gtr (.t 7) (.k (.d (.int .i64 1073741824)))), (some (5, false))⟩,
  ⟨(some 9), (.pick (.t 5) (.k (.d (.bool true))) (.t 8)), none⟩,
  ⟨(some 10), (.mv (.t 9)), none⟩,
  ⟨(some 11), (.fld 2 (.t 0)), (some (10, false))⟩,
  ⟨(some 12), (.load false 1 (.t 11)), (some (10, false))⟩,
  ⟨(some 13), (.bin .lss (.t 12) (.k (.d (.int .i64 1)))), (some (10, false))⟩,
  ⟨(some 14), (.pick (.t 10) (.k (.d (.bool true))) (.t 13)), none⟩,
  ⟨(some 15), (.mv (.t 14)), none⟩,
  ⟨(some 16), (.fld 2 (.t 0)), (some (15, false))⟩,
  ⟨(some 17), (.load false 1 (.t 16)), (some (15, false))⟩,
  ⟨(some 18), (.bin .gtr (.t 17) (.k (.d (.int .i64 1073741824)))), (some (15, false))⟩,
  ⟨(some 19), (.pick (.t 15) (.k (.d (.bool true))) (.t 18)), none⟩,
  ⟨(some 20), (.mv (.t 19)), none⟩,
  ⟨(some 21), (.fld 1 (.t 0)), (some (20, false))⟩,
  ⟨(some 22), (.load false 1 (.t 21)), (some (20, false))⟩,
  ⟨(some 23), (.bin .lss (.t 22) (.k (.d (.int .i64 1)))), (some (20, false))⟩,
  ⟨(some 24), (.pick (.t 20) (.k (.d (.bool true))) (.t 23)), none⟩,
  ⟨(some 25), (.mv (.t 24)), none⟩,
  ⟨(some 26), (.fld 1 (.t 0)), (some (25, false))⟩,
  ⟨(some 27), (.load false 1 (.t 26)), (some (25, false))⟩,
  ⟨(some 28), (.bin .gtr (.t 27) (.k (.d (.int .i64 1073741824)))), (some (25, false))⟩,
  ⟨(some 29), (.pick (.t 25) (.k (.d (.bool true))) (.t 28)), none⟩,
  ⟨(some 1), (.mv (.t 29)), none⟩]
def e88 : EFunc := ⟨30, [(.tmp 1)],
  .seq (.region false a88_r0) (.seq (.region false a88_r1) (.ret))⟩
end Go.Proofs.YtbecgpajbcafiaaGreat
