/-
  The table speaks of the program: each function is what its text in the small language says.
  The table speaks of the program: each function is what its text in the small language says.
  The table speaks of the program: each function is what its text in the small language says.
  The table and the contracts beside it are the program's.
  The environment for the laws: what is told first by every law of this layer, that the examples hold, is known by itself.
  The environment for the laws of decoding: slices.Clone of strings is known, whether its argument is nil or not.
-/
import Derived.Test.YtbecgpajbcafiaaGreatKT2
import Derived.KernelRfl
import Derived.Test.YtbecgpajbcafiaaGreatKD
set_option linter.unusedVariables false
set_option maxRecDepth 100000
namespace Go.Proofs.YtbecgpajbcafiaaGreat
open Go.Av Go.RowKit

theorem lk10 : linkF Tryz.prog Tryz.f10 = some e10.strip := by kernel_rfl
theorem lk13 : linkF Tryz.prog Tryz.f13 = some e13.strip := by kernel_rfl
theorem lk14 : linkF Tryz.prog Tryz.f14 = some e14.strip := by kernel_rfl
theorem lk15 : linkF Tryz.prog Tryz.f15 = some e15.strip := by kernel_rfl
theorem lk17 : linkF Tryz.prog Tryz.f17 = some e17.strip := by kernel_rfl
theorem lk19 : linkF Tryz.prog Tryz.f19 = some e19.strip := by kernel_rfl
theorem lk22 : linkF Tryz.prog Tryz.f22 = some e22.strip := by kernel_rfl
theorem lk25 : linkF Tryz.prog Tryz.f25 = some e25.strip := by kernel_rfl
theorem lk27 : linkF Tryz.prog Tryz.f27 = some e27.strip := by kernel_rfl
theorem lk31 : linkF Tryz.prog Tryz.f31 = some e31.strip := by kernel_rfl
theorem lk34 : linkF Tryz.prog Tryz.f34 = some e34.strip := by kernel_rfl
theorem lk37 : linkF Tryz.prog Tryz.f37 = some e37.strip := by kernel_rfl
theorem lk38 : linkF Tryz.prog Tryz.f38 = some e38.strip := by kernel_rfl
theorem lk41 : linkF Tryz.prog Tryz.f41 = some e41.strip := by kernel_rfl
theorem lk46 : linkF Tryz.prog Tryz.f46 = some e46.strip := by kernel_rfl
theorem lk47 : linkF Tryz.prog Tryz.f47 = some e47.strip := by kernel_rfl
theorem lk48 : linkF Tryz.prog Tryz.f48 = some e48.strip := by kernel_rfl
theorem lk49 : linkF Tryz.prog Tryz.f49 = some e49.strip := by kernel_rfl
theorem lk52 : linkF Tryz.prog Tryz.f52 = some e52.strip := by kernel_rfl
theorem lk53 : linkF Tryz.prog Tryz.f53 = some e53.strip := by kernel_rfl
theorem lk54 : linkF Tryz.prog Tryz.f54 = some e54.strip := by kernel_rfl
theorem lk55 : linkF Tryz.prog Tryz.f55 = some e55.strip := by kernel_rfl
theorem lk56 : linkF Tryz.prog Tryz.f56 = some e56.strip := by kernel_rfl
theorem lk57 : linkF Tryz.prog Tryz.f57 = some e57.strip := by kernel_rfl
theorem lk58 : linkF Tryz.prog Tryz.f58 = some e58.strip := by kernel_rfl
theorem lk59 : linkF Tryz.prog Tryz.f59 = some e59.strip := by kernel_rfl
theorem lk60 : linkF Tryz.prog Tryz.f60 = some e60.strip := by kernel_rfl
theorem lk64 : linkF Tryz.prog Tryz.f64 = some e64.strip := by kernel_rfl
theorem lk65 : linkF Tryz.prog Tryz.f65 = some e65.strip := by kernel_rfl
theorem lk66 : linkF Tryz.prog Tryz.f66 = some e66.strip := by kernel_rfl
theorem lk67 : linkF Tryz.prog Tryz.f67 = some e67.strip := by kernel_rfl
theorem lk72 : linkF Tryz.prog Tryz.f72 = some e72.strip := by kernel_rfl
theorem lk73 : linkF Tryz.prog Tryz.f73 = some e73.strip := by kernel_rfl
theorem lk76 : linkF Tryz.prog Tryz.f76 = some e76.strip := by kernel_rfl
theorem lk77 : linkF Tryz.prog Tryz.f77 = some e77.strip := by kernel_rfl
theorem lk84 : linkF Tryz.prog Tryz.f84 = some e84.strip := by kernel_rfl
theorem lk85 : linkF Tryz.prog Tryz.f85 = some e85.strip := by kernel_rfl
theorem lk87 : linkF Tryz.prog Tryz.f87 = some e87.strip := by kernel_rfl
theorem lk88 : linkF Tryz.prog Tryz.f88 = some e88.strip := by kernel_rfl
theorem lk89 : linkF Tryz.prog Tryz.f89 = some e89.strip := by kernel_rfl
theorem lk90 : linkF Tryz.prog Tryz.f90 = some e90.strip := by kernel_rfl
theorem lk91 : linkF Tryz.prog Tryz.f91 = some e91.strip := by kernel_rfl
theorem lk92 : linkF Tryz.prog Tryz.f92 = some e92.strip := by kernel_rfl
theorem lk93 : linkF Tryz.prog Tryz.f93 = some e93.strip := by kernel_rfl
theorem lk95 : linkF Tryz.prog Tryz.f95 = some e95.strip := by kernel_rfl
theorem lk97 : linkF Tryz.prog Tryz.f97 = some e97.strip := by kernel_rfl
theorem lk98 : linkF Tryz.prog Tryz.f98 = some e98.strip := by kernel_rfl
theorem lk99 : linkF Tryz.prog Tryz.f99 = some e99.strip := by kernel_rfl
theorem lk100 : linkF Tryz.prog Tryz.f100 = some e100.strip := by kernel_rfl
theorem lk104 : linkF Tryz.prog Tryz.f104 = some e104.strip := by kernel_rfl
theorem lk106 : linkF Tryz.prog Tryz.f106 = some e106.strip := by kernel_rfl
theorem lk107 : linkF Tryz.prog Tryz.f107 = some e107.strip := by kernel_rfl
theorem lk117 : linkF Tryz.prog Tryz.f117 = some e117.strip := by kernel_rfl
theorem lk118 : linkF Tryz.prog Tryz.f118 = some e118.strip := by kernel_rfl
theorem lk119 : linkF Tryz.prog Tryz.f119 = some e119.strip := by kernel_rfl
theorem lk120 : linkF Tryz.prog Tryz.f120 = some e120.strip := by kernel_rfl
theorem lk121 : linkF Tryz.prog Tryz.f121 = some e121.strip := by kernel_rfl
theorem lk122 : linkF Tryz.prog Tryz.f122 = some e122.strip := by kernel_rfl
end Go.Proofs.YtbecgpajbcafiaaGreat

set_option linter.unusedVariables false
set_option maxRecDepth 100000
namespace Go.Proofs.YtbecgpajbcafiaaGreat
open Go.Av Go.RowKit

theorem lk123 : linkF Tryz.prog Tryz.f123 = some e123.strip := by kernel_rfl
theorem lk124 : linkF Tryz.prog Tryz.f124 = some e124.strip := by kernel_rfl
theorem lk125 : linkF Tryz.prog Tryz.f125 = some e125.strip := by kernel_rfl
theorem lk126 : linkF Tryz.prog Tryz.f126 = some e126.strip := by kernel_rfl
theorem lk127 : linkF Tryz.prog Tryz.f127 = some e127.strip := by kernel_rfl
theorem lk128 : linkF Tryz.prog Tryz.f128 = some e128.strip := by kernel_rfl
theorem lk129 : linkF Tryz.prog Tryz.f129 = some e129.strip := by kernel_rfl
theorem lk130 : linkF Tryz.prog Tryz.f130 = some e130.strip := by kernel_rfl
theorem lk131 : linkF Tryz.prog Tryz.f131 = some e131.strip := by kernel_rfl
theorem lk132 : linkF Tryz.prog Tryz.f132 = some e132.strip := by kernel_rfl
theorem lk133 : linkF Tryz.prog Tryz.f133 = some e133.strip := by kernel_rfl
theorem lk134 : linkF Tryz.prog Tryz.f134 = some e134.strip := by kernel_rfl
theorem lk135 : linkF Tryz.prog Tryz.f135 = some e135.strip := by kernel_rfl
theorem lk136 : linkF Tryz.prog Tryz.f136 = some e136.strip := by kernel_rfl
theorem lk137 : linkF Tryz.prog Tryz.f137 = some e137.strip := by kernel_rfl
theorem lk138 : linkF Tryz.prog Tryz.f138 = some e138.strip := by kernel_rfl
theorem lk139 : linkF Tryz.prog Tryz.f139 = some e139.strip := by kernel_rfl
theorem lk140 : linkF Tryz.prog Tryz.f140 = some e140.strip := by kernel_rfl
theorem lk141 : linkF Tryz.prog Tryz.f141 = some e141.strip := by kernel_rfl
theorem lk142 : linkF Tryz.prog Tryz.f142 = some e142.strip := by kernel_rfl
theorem lk146 : linkF Tryz.prog Tryz.f146 = some e146.strip := by kernel_rfl
theorem lk147 : linkF Tryz.prog Tryz.f147 = some e147.strip := by kernel_rfl
theorem lk149 : linkF Tryz.prog Tryz.f149 = some e149.strip := by kernel_rfl
theorem lk150 : linkF Tryz.prog Tryz.f150 = some e150.strip := by kernel_rfl
theorem lk151 : linkF Tryz.prog Tryz.f151 = some e151.strip := by kernel_rfl
theorem lk152 : linkF Tryz.prog Tryz.f152 = some e152.strip := by kernel_rfl
theorem lk153 : linkF Tryz.prog Tryz.f153 = some e153.strip := by kernel_rfl
theorem lk154 : linkF Tryz.prog Tryz.f154 = some e154.strip := by kernel_rfl
theorem lk160 : linkF Tryz.prog Tryz.f160 = some e160.strip := by kernel_rfl
theorem lk161 : linkF Tryz.prog Tryz.f161 = some e161.strip := by kernel_rfl
theorem lk162 : linkF Tryz.prog Tryz.f162 = some e162.strip := by kernel_rfl
theorem lk163 : linkF Tryz.prog Tryz.f163 = some e163.strip := by kernel_rfl
theorem lk164 : linkF Tryz.prog Tryz.f164 = some e164.strip := by kernel_rfl
theorem lk165 : linkF Tryz.prog Tryz.f165 = some e165.strip := by kernel_rfl
theorem lk166 : linkF Tryz.prog Tryz.f166 = some e166.strip := by kernel_rfl
theorem lk167 : linkF Tryz.prog Tryz.f167 = some e167.strip := by kernel_rfl
theorem lk168 : linkF Tryz.prog Tryz.f168 = some e168.strip := by kernel_rfl
theorem lk169 : linkF Tryz.prog Tryz.f169 = some e169.strip := by kernel_rfl
theorem lk170 : linkF Tryz.prog Tryz.f170 = some e170.strip := by kernel_rfl
theorem lk171 : linkF Tryz.prog Tryz.f171 = some e171.strip := by kernel_rfl
theorem lk172 : linkF Tryz.prog Tryz.f172 = some e172.strip := by kernel_rfl
theorem lk173 : linkF Tryz.prog Tryz.f173 = some e173.strip := by kernel_rfl
theorem lk174 : linkF Tryz.prog Tryz.f174 = some e174.strip := by kernel_rfl
theorem lk175 : linkF Tryz.prog Tryz.f175 = some e175.strip := by kernel_rfl
theorem lk176 : linkF Tryz.prog Tryz.f176 = some e176.strip := by kernel_rfl
theorem lk177 : linkF Tryz.prog Tryz.f177 = some e177.strip := by kernel_rfl
theorem lk178 : linkF Tryz.prog Tryz.f178 = some e178.strip := by kernel_rfl
theorem lk179 : linkF Tryz.prog Tryz.f179 = some e179.strip := by kernel_rfl
theorem lk180 : linkF Tryz.prog Tryz.f180 = some e180.strip := by kernel_rfl
theorem lk181 : linkF Tryz.prog Tryz.f181 = some e181.strip := by kernel_rfl
theorem lk185 : linkF Tryz.prog Tryz.f185 = some e185.strip := by kernel_rfl
theorem lk187 : linkF Tryz.prog Tryz.f187 = some e187.strip := by kernel_rfl
theorem lk188 : linkF Tryz.prog Tryz.f188 = some e188.strip := by kernel_rfl
theorem lk189 : linkF Tryz.prog Tryz.f189 = some e189.strip := by kernel_rfl
theorem lk190 : linkF Tryz.prog Tryz.f190 = some e190.strip := by kernel_rfl
theorem lk199 : linkF Tryz.prog Tryz.f199 = some e199.strip := by kernel_rfl
theorem lk200 : linkF Tryz.prog Tryz.f200 = some e200.strip := by kernel_rfl
theorem lk201 : linkF Tryz.prog Tryz.f201 = some e201.strip := by kernel_rfl
end Go.Proofs.YtbecgpajbcafiaaGreat

set_option linter.unusedVariables false
set_option maxRecDepth 100000
namespace Go.Proofs.YtbecgpajbcafiaaGreat
open Go.Av Go.RowKit

theorem lk202 : linkF Tryz.prog Tryz.f202 = some e202.strip := by kernel_rfl
theorem lk203 : linkF Tryz.prog Tryz.f203 = some e203.strip := by kernel_rfl
theorem lk204 : linkF Tryz.prog Tryz.f204 = some e204.strip := by kernel_rfl
theorem lk205 : linkF Tryz.prog Tryz.f205 = some e205.strip := by kernel_rfl
theorem lk206 : linkF Tryz.prog Tryz.f206 = some e206.strip := by kernel_rfl
theorem lk207 : linkF Tryz.prog Tryz.f207 = some e207.strip := by kernel_rfl
theorem lk208 : linkF Tryz.prog Tryz.f208 = some e208.strip := by kernel_rfl
theorem lk209 : linkF Tryz.prog Tryz.f209 = some e209.strip := by kernel_rfl
theorem lk210 : linkF Tryz.prog Tryz.f210 = some e210.strip := by kernel_rfl
theorem lk211 : linkF Tryz.prog Tryz.f211 = some e211.strip := by kernel_rfl
theorem lk212 : linkF Tryz.prog Tryz.f212 = some e212.strip := by kernel_rfl
theorem lk213 : linkF Tryz.prog Tryz.f213 = some e213.strip := by kernel_rfl
theorem lk214 : linkF Tryz.prog Tryz.f214 = some e214.strip := by kernel_rfl
theorem lk215 : linkF Tryz.prog Tryz.f215 = some e215.strip := by kernel_rfl
theorem lk216 : linkF Tryz.prog Tryz.f216 = some e216.strip := by kernel_rfl
theorem lk217 : linkF Tryz.prog Tryz.f217 = some e217.strip := by kernel_rfl
theorem lk218 : linkF Tryz.prog Tryz.f218 = some e218.strip := by kernel_rfl
theorem lk219 : linkF Tryz.prog Tryz.f219 = some e219.strip := by kernel_rfl
theorem lk220 : linkF Tryz.prog Tryz.f220 = some e220.strip := by kernel_rfl
theorem lk221 : linkF Tryz.prog Tryz.f221 = some e221.strip := by kernel_rfl
theorem lk222 : linkF Tryz.prog Tryz.f222 = some e222.strip := by kernel_rfl
theorem lk223 : linkF Tryz.prog Tryz.f223 = some e223.strip := by kernel_rfl
theorem lk224 : linkF Tryz.prog Tryz.f224 = some e224.strip := by kernel_rfl
theorem lk225 : linkF Tryz.prog Tryz.f225 = some e225.strip := by kernel_rfl
theorem lk226 : linkF Tryz.prog Tryz.f226 = some e226.strip := by kernel_rfl
theorem lk227 : linkF Tryz.prog Tryz.f227 = some e227.strip := by kernel_rfl
theorem lk228 : linkF Tryz.prog Tryz.f228 = some e228.strip := by kernel_rfl
theorem lk229 : linkF Tryz.prog Tryz.f229 = some e229.strip := by kernel_rfl
theorem lk230 : linkF Tryz.prog Tryz.f230 = some e230.strip := by kernel_rfl
theorem lk231 : linkF Tryz.prog Tryz.f231 = some e231.strip := by kernel_rfl
theorem lk232 : linkF Tryz.prog Tryz.f232 = some e232.strip := by kernel_rfl
theorem lk233 : linkF Tryz.prog Tryz.f233 = some e233.strip := by kernel_rfl
theorem lk234 : linkF Tryz.prog Tryz.f234 = some e234.strip := by kernel_rfl
theorem lk235 : linkF Tryz.prog Tryz.f235 = some e235.strip := by kernel_rfl
theorem lk236 : linkF Tryz.prog Tryz.f236 = some e236.strip := by kernel_rfl
theorem lk240 : linkF Tryz.prog Tryz.f240 = some e240.strip := by kernel_rfl
theorem lk241 : linkF Tryz.prog Tryz.f241 = some e241.strip := by kernel_rfl
theorem lk253 : linkF Tryz.prog Tryz.f253 = some e253.strip := by kernel_rfl
theorem lk254 : linkF Tryz.prog Tryz.f254 = some e254.strip := by kernel_rfl
theorem lk255 : linkF Tryz.prog Tryz.f255 = some e255.strip := by kernel_rfl
theorem lk256 : linkF Tryz.prog Tryz.f256 = some e256.strip := by kernel_rfl
theorem lk257 : linkF Tryz.prog Tryz.f257 = some e257.strip := by kernel_rfl
theorem lk258 : linkF Tryz.prog Tryz.f258 = some e258.strip := by kernel_rfl
theorem lk259 : linkF Tryz.prog Tryz.f259 = some e259.strip := by kernel_rfl
theorem lk260 : linkF Tryz.prog Tryz.f260 = some e260.strip := by kernel_rfl
theorem lk261 : linkF Tryz.prog Tryz.f261 = some e261.strip := by kernel_rfl
theorem lk263 : linkF Tryz.prog Tryz.f263 = some e263.strip := by kernel_rfl
theorem lk267 : linkF Tryz.prog Tryz.f267 = some e267.strip := by kernel_rfl
theorem lk268 : linkF Tryz.prog Tryz.f268 = some e268.strip := by kernel_rfl
theorem lk269 : linkF Tryz.prog Tryz.f269 = some e269.strip := by kernel_rfl
theorem lk280 : linkF Tryz.prog Tryz.f280 = some e280.strip := by kernel_rfl
theorem lk281 : linkF Tryz.prog Tryz.f281 = some e281.strip := by kernel_rfl
theorem lk282 : linkF Tryz.prog Tryz.f282 = some e282.strip := by kernel_rfl
theorem lk283 : linkF Tryz.prog Tryz.f283 = some e283.strip := by kernel_rfl
theorem lk284 : linkF Tryz.prog Tryz.f284 = some e284.strip := by kernel_rfl
theorem lk285 : linkF Tryz.prog Tryz.f285 = some e285.strip := by kernel_rfl
theorem lk286 : linkF Tryz.prog Tryz.f286 = some e286.strip := by kernel_rfl
end Go.Proofs.YtbecgpajbcafiaaGreat

set_option linter.unusedVariables false
set_option maxRecDepth 100000
namespace Go.Proofs.YtbecgpajbcafiaaGreat
open Go.Av Go.RowKit

def OkF (p : Nat × EFunc) : Prop := ∃ fn, Tryz.prog.funcs[p.1]? = some fn ∧ (fn.name == "runtime.NumGoroutine") = false ∧ linkF Tryz.prog fn = some p.2.strip
def AllOk : List (Nat × EFunc) → Prop
  | [] => True
  | p :: l => OkF p ∧ AllOk l
theorem lookup_ok : ∀ {l : List (Nat × EFunc)} {f : Nat} {ef : EFunc}, AllOk l → l.lookup f = some ef → OkF (f, ef)
  | [], f, ef, _, h => by cases h
  | (k, e) :: l, f, ef, ha, h => by
    simp only [List.lookup] at h
    split at h
    · rename_i hk
      simp only [Option.some.injEq] at h
      have : f = k := by simpa using hk
      subst this; subst h
      exact ha.1
    · exact lookup_ok ha.2 h
theorem ok10 : OkF (10, e10) := ⟨Tryz.f10, Tryz.func10, by kernel_rfl, lk10⟩
theorem ok13 : OkF (13, e13) := ⟨Tryz.f13, Tryz.func13, by kernel_rfl, lk13⟩
theorem ok14 : OkF (14, e14) := ⟨Tryz.f14, Tryz.func14, by kernel_rfl, lk14⟩
theorem ok15 : OkF (15, e15) := ⟨Tryz.f15, Tryz.func15, by kernel_rfl, lk15⟩
theorem ok17 : OkF (17, e17) := ⟨Tryz.f17, Tryz.func17, by kernel_rfl, lk17⟩
theorem ok19 : OkF (19, e19) := ⟨Tryz.f19, Tryz.func19, by kernel_rfl, lk19⟩
theorem ok22 : OkF (22, e22) := ⟨Tryz.f22, Tryz.func22, by kernel_rfl, lk22⟩
theorem ok25 : OkF (25, e25) := ⟨Tryz.f25, Tryz.func25, by kernel_rfl, lk25⟩
theorem ok27 : OkF (27, e27) := ⟨Tryz.f27, Tryz.func27, by kernel_rfl, lk27⟩
theorem ok31 : OkF (31, e31) := ⟨Tryz.f31, Tryz.func31, by kernel_rfl, lk31⟩
theorem ok34 : OkF (34, e34) := ⟨Tryz.f34, Tryz.func34, by kernel_rfl, lk34⟩
theorem ok37 : OkF (37, e37) := ⟨Tryz.f37, Tryz.func37, by kernel_rfl, lk37⟩
theorem ok38 : OkF (38, e38) := ⟨Tryz.f38, Tryz.func38, by kernel_rfl, lk38⟩
theorem ok41 : OkF (41, e41) := ⟨Tryz.f41, Tryz.func41, by kernel_rfl, lk41⟩
theorem ok46 : OkF (46, e46) := ⟨Tryz.f46, Tryz.func46, by kernel_rfl, lk46⟩
theorem ok47 : OkF (47, e47) := ⟨Tryz.f47, Tryz.func47, by kernel_rfl, lk47⟩
theorem ok48 : OkF (48, e48) := ⟨Tryz.f48, Tryz.func48, by kernel_rfl, lk48⟩
theorem ok49 : OkF (49, e49) := ⟨Tryz.f49, Tryz.func49, by kernel_rfl, lk49⟩
theorem ok52 : OkF (52, e52) := ⟨Tryz.f52, Tryz.func52, by kernel_rfl, lk52⟩
theorem ok53 : OkF (53, e53) := ⟨Tryz.f53, Tryz.func53, by kernel_rfl, lk53⟩
theorem ok54 : OkF (54, e54) := ⟨Tryz.f54, Tryz.func54, by kernel_rfl, lk54⟩
theorem ok55 : OkF (55, e55) := ⟨Tryz.f55, Tryz.func55, by kernel_rfl, lk55⟩
theorem ok56 : OkF (56, e56) := ⟨Tryz.f56, Tryz.func56, by kernel_rfl, lk56⟩
theorem ok57 : OkF (57, e57) := ⟨Tryz.f57, Tryz.func57, by kernel_rfl, lk57⟩
theorem ok58 : OkF (58, e58) := ⟨Tryz.f58, Tryz.func58, by kernel_rfl, lk58⟩
theorem ok59 : OkF (59, e59) := ⟨Tryz.f59, Tryz.func59, by kernel_rfl, lk59⟩
theorem ok60 : OkF (60, e60) := ⟨Tryz.f60, Tryz.func60, by kernel_rfl, lk60⟩
theorem ok64 : OkF (64, e64) := ⟨Tryz.f64, Tryz.func64, by kernel_rfl, lk64⟩
theorem ok65 : OkF (65, e65) := ⟨Tryz.f65, Tryz.func65, by kernel_rfl, lk65⟩
theorem ok66 : OkF (66, e66) := ⟨Tryz.f66, Tryz.func66, by kernel_rfl, lk66⟩
theorem ok67 : OkF (67, e67) := ⟨Tryz.f67, Tryz.func67, by kernel_rfl, lk67⟩
theorem ok72 : OkF (72, e72) := ⟨Tryz.f72, Tryz.func72, by kernel_rfl, lk72⟩
theorem ok73 : OkF (73, e73) := ⟨Tryz.f73, Tryz.func73, by kernel_rfl, lk73⟩
theorem ok76 : OkF (76, e76) := ⟨Tryz.f76, Tryz.func76, by kernel_rfl, lk76⟩
theorem ok77 : OkF (77, e77) := ⟨Tryz.f77, Tryz.func77, by kernel_rfl, lk77⟩
theorem ok84 : OkF (84, e84) := ⟨Tryz.f84, Tryz.func84, by kernel_rfl, lk84⟩
theorem ok85 : OkF (85, e85) := ⟨Tryz.f85, Tryz.func85, by kernel_rfl, lk85⟩
theorem ok87 : OkF (87, e87) := ⟨Tryz.f87, Tryz.func87, by kernel_rfl, lk87⟩
theorem ok88 : OkF (88, e88) := ⟨Tryz.f88, Tryz.func88, by kernel_rfl, lk88⟩
theorem ok89 : OkF (89, e89) := ⟨Tryz.f89, Tryz.func89, by kernel_rfl, lk89⟩
theorem ok90 : OkF (90, e90) := ⟨Tryz.f90, Tryz.func90, by kernel_rfl, lk90⟩
theorem ok91 : OkF (91, e91) := ⟨Tryz.f91, Tryz.func91, by kernel_rfl, lk91⟩
theorem ok92 : OkF (92, e92) := ⟨Tryz.f92, Tryz.func92, by kernel_rfl, lk92⟩
theorem ok93 : OkF (93, e93) := ⟨Tryz.f93, Tryz.func93, by kernel_rfl, lk93⟩
theorem ok95 : OkF (95, e95) := ⟨Tryz.f95, Tryz.func95, by kernel_rfl, lk95⟩
theorem ok97 : OkF (97, e97) := ⟨Tryz.f97, Tryz.func97, by kernel_rfl, lk97⟩
theorem ok98 : OkF (98, e98) := ⟨Tryz.f98, Tryz.func98, by kernel_rfl, lk98⟩
theorem ok99 : OkF (99, e99) := ⟨Tryz.f99, Tryz.func99, by kernel_rfl, lk99⟩
theorem ok100 : OkF (100, e100) := ⟨Tryz.f100, Tryz.func100, by kernel_rfl, lk100⟩
theorem ok104 : OkF (104, e104) := ⟨Tryz.f104, Tryz.func104, by kernel_rfl, lk104⟩
theorem ok106 : OkF (106, e106) := ⟨Tryz.f106, Tryz.func106, by kernel_rfl, lk106⟩
theorem ok107 : OkF (107, e107) := ⟨Tryz.f107, Tryz.func107, by kernel_rfl, lk107⟩
theorem ok117 : OkF (117, e117) := ⟨Tryz.f117, Tryz.func117, by kernel_rfl, lk117⟩
theorem ok118 : OkF (118, e118) := ⟨Tryz.f118, Tryz.func118, by kernel_rfl, lk118⟩
theorem ok119 : OkF (119, e119) := ⟨Tryz.f119, Tryz.func119, by kernel_rfl, lk119⟩
theorem ok120 : OkF (120, e120) := ⟨Tryz.f120, Tryz.func120, by kernel_rfl, lk120⟩
theorem ok121 : OkF (121, e121) := ⟨Tryz.f121, Tryz.func121, by kernel_rfl, lk121⟩
theorem ok122 : OkF (122, e122) := ⟨Tryz.f122, Tryz.func122, by kernel_rfl, lk122⟩
theorem ok123 : OkF (123, e123) := ⟨Tryz.f123, Tryz.func123, by kernel_rfl, lk123⟩
theorem ok124 : OkF (124, e124) := ⟨Tryz.f124, Tryz.func124, by kernel_rfl, lk124⟩
theorem ok125 : OkF (125, e125) := ⟨Tryz.f125, Tryz.func125, by kernel_rfl, lk125⟩
theorem ok126 : OkF (126, e126) := ⟨Tryz.f126, Tryz.func126, by kernel_rfl, lk126⟩
theorem ok127 : OkF (127, e127) := ⟨Tryz.f127, Tryz.func127, by kernel_rfl, lk127⟩
theorem ok128 : OkF (128, e128) := ⟨Tryz.f128, Tryz.func128, by kernel_rfl, lk128⟩
theorem ok129 : OkF (129, e129) := ⟨Tryz.f129, Tryz.func129, by kernel_rfl, lk129⟩
theorem ok130 : OkF (130, e130) := ⟨Tryz.f130, Tryz.func130, by kernel_rfl, lk130⟩
theorem ok131 : OkF (131, e131) := ⟨Tryz.f131, Tryz.func131, by kernel_rfl, lk131⟩
theorem ok132 : OkF (132, e132) := ⟨Tryz.f132, Tryz.func132, by kernel_rfl, lk132⟩
theorem ok133 : OkF (133, e133) := ⟨Tryz.f133, Tryz.func133, by kernel_rfl, lk133⟩
theorem ok134 : OkF (134, e134) := ⟨Tryz.f134, Tryz.func134, by kernel_rfl, lk134⟩
theorem ok135 : OkF (135, e135) := ⟨Tryz.f135, Tryz.func135, by kernel_rfl, lk135⟩
theorem ok136 : OkF (136, e136) := ⟨Tryz.f136, Tryz.func136, by kernel_rfl, lk136⟩
theorem ok137 : OkF (137, e137) := ⟨Tryz.f137, Tryz.func137, by kernel_rfl, lk137⟩
theorem ok138 : OkF (138, e138) := ⟨Tryz.f138, Tryz.func138, by kernel_rfl, lk138⟩
theorem ok139 : OkF (139, e139) := ⟨Tryz.f139, Tryz.func139, by kernel_rfl, lk139⟩
theorem ok140 : OkF (140, e140) := ⟨Tryz.f140, Tryz.func140, by kernel_rfl, lk140⟩
theorem ok141 : OkF (141, e141) := ⟨Tryz.f141, Tryz.func141, by kernel_rfl, lk141⟩
theorem ok142 : OkF (142, e142) := ⟨Tryz.f142, Tryz.func142, by kernel_rfl, lk142⟩
theorem ok146 : OkF (146, e146) := ⟨Tryz.f146, Tryz.func146, by kernel_rfl, lk146⟩
theorem ok147 : OkF (147, e147) := ⟨Tryz.f147, Tryz.func147, by kernel_rfl, lk147⟩
theorem ok149 : OkF (149, e149) := ⟨Tryz.f149, Tryz.func149, by kernel_rfl, lk149⟩
theorem ok150 : OkF (150, e150) := ⟨Tryz.f150, Tryz.func150, by kernel_rfl, lk150⟩
theorem ok151 : OkF (151, e151) := ⟨Tryz.f151, Tryz.func151, by kernel_rfl, lk151⟩
theorem ok152 : OkF (152, e152) := ⟨Tryz.f152, Tryz.func152, by kernel_rfl, lk152⟩
theorem ok153 : OkF (153, e153) := ⟨Tryz.f153, Tryz.func153, by kernel_rfl, lk153⟩
theorem ok154 : OkF (154, e154) := ⟨Tryz.f154, Tryz.func154, by kernel_rfl, lk154⟩
theorem ok160 : OkF (160, e160) := ⟨Tryz.f160, Tryz.func160, by kernel_rfl, lk160⟩
theorem ok161 : OkF (161, e161) := ⟨Tryz.f161, Tryz.func161, by kernel_rfl, lk161⟩
theorem ok162 : OkF (162, e162) := ⟨Tryz.f162, Tryz.func162, by kernel_rfl, lk162⟩
theorem ok163 : OkF (163, e163) := ⟨Tryz.f163, Tryz.func163, by kernel_rfl, lk163⟩
theorem ok164 : OkF (164, e164) := ⟨Tryz.f164, Tryz.func164, by kernel_rfl, lk164⟩
theorem ok165 : OkF (165, e165) := ⟨Tryz.f165, Tryz.func165, by kernel_rfl, lk165⟩
theorem ok166 : OkF (166, e166) := ⟨Tryz.f166, Tryz.func166, by kernel_rfl, lk166⟩
theorem ok167 : OkF (167, e167) := ⟨Tryz.f167, Tryz.func167, by kernel_rfl, lk167⟩
theorem ok168 : OkF (168, e168) := ⟨Tryz.f168, Tryz.func168, by kernel_rfl, lk168⟩
theorem ok169 : OkF (169, e169) := ⟨Tryz.f169, Tryz.func169, by kernel_rfl, lk169⟩
theorem ok170 : OkF (170, e170) := ⟨Tryz.f170, Tryz.func170, by kernel_rfl, lk170⟩
theorem ok171 : OkF (171, e171) := ⟨Tryz.f171, Tryz.func171, by kernel_rfl, lk171⟩
theorem ok172 : OkF (172, e172) := ⟨Tryz.f172, Tryz.func172, by kernel_rfl, lk172⟩
theorem ok173 : OkF (173, e173) := ⟨Tryz.f173, Tryz.func173, by kernel_rfl, lk173⟩
theorem ok174 : OkF (174, e174) := ⟨Tryz.f174, Tryz.func174, by kernel_rfl, lk174⟩
theorem ok175 : OkF (175, e175) := ⟨Tryz.f175, Tryz.func175, by kernel_rfl, lk175⟩
theorem ok176 : OkF (176, e176) := ⟨Tryz.f176, Tryz.func176, by kernel_rfl, lk176⟩
theorem ok177 : OkF (177, e177) := ⟨Tryz.f177, Tryz.func177, by kernel_rfl, lk177⟩
theorem ok178 : OkF (178, e178) := ⟨Tryz.f178, Tryz.func178, by kernel_rfl, lk178⟩
theorem ok179 : OkF (179, e179) := ⟨Tryz.f179, Tryz.func179, by kernel_rfl, lk179⟩
theorem ok180 : OkF (180, e180) := ⟨Tryz.f180, Tryz.func180, by kernel_rfl, lk180⟩
theorem ok181 : OkF (181, e181) := ⟨Tryz.f181, Tryz.func181, by kernel_rfl, lk181⟩
theorem ok185 : OkF (185, e185) := ⟨Tryz.f185, Tryz.func185, by kernel_rfl, lk185⟩
theorem ok187 : OkF (187, e187) := ⟨Tryz.f187, Tryz.func187, by kernel_rfl, lk187⟩
theorem ok188 : OkF (188, e188) := ⟨Tryz.f188, Tryz.func188, by kernel_rfl, lk188⟩
theorem ok189 : OkF (189, e189) := ⟨Tryz.f189, Tryz.func189, by kernel_rfl, lk189⟩
theorem ok190 : OkF (190, e190) := ⟨Tryz.f190, Tryz.func190, by kernel_rfl, lk190⟩
theorem ok199 : OkF (199, e199) := ⟨Tryz.f199, Tryz.func199, by kernel_rfl, lk199⟩
theorem ok200 : OkF (200, e200) := ⟨Tryz.f200, Tryz.func200, by kernel_rfl, lk200⟩
theorem ok201 : OkF (201, e201) := ⟨Tryz.f201, Tryz.func201, by kernel_rfl, lk201⟩
theorem ok202 : OkF (202, e202) := ⟨Tryz.f202, Tryz.func202, by kernel_rfl, lk202⟩
theorem ok203 : OkF (203, e203) := ⟨Tryz.f203, Tryz.func203, by kernel_rfl, lk203⟩
theorem ok204 : OkF (204, e204) := ⟨Tryz.f204, Tryz.func204, by kernel_rfl, lk204⟩
theorem ok205 : OkF (205, e205) := ⟨Tryz.f205, Tryz.func205, by kernel_rfl, lk205⟩
theorem ok206 : OkF (206, e206) := ⟨Tryz.f206, Tryz.func206, by kernel_rfl, lk206⟩
theorem ok207 : OkF (207, e207) := ⟨Tryz.f207, Tryz.func207, by kernel_rfl, lk207⟩
theorem ok208 : OkF (208, e208) := ⟨Tryz.f208, Tryz.func208, by kernel_rfl, lk208⟩
theorem ok209 : OkF (209, e209) := ⟨Tryz.f209, Tryz.func209, by kernel_rfl, lk209⟩
theorem ok210 : OkF (210, e210) := ⟨Tryz.f210, Tryz.func210, by kernel_rfl, lk210⟩
theorem ok211 : OkF (211, e211) := ⟨Tryz.f211, Tryz.func211, by kernel_rfl, lk211⟩
theorem ok212 : OkF (212, e212) := ⟨Tryz.f212, Tryz.func212, by kernel_rfl, lk212⟩
theorem ok213 : OkF (213, e213) := ⟨Tryz.f213, Tryz.func213, by kernel_rfl, lk213⟩
theorem ok214 : OkF (214, e214) := ⟨Tryz.f214, Tryz.func214, by kernel_rfl, lk214⟩
theorem ok215 : OkF (215, e215) := ⟨Tryz.f215, Tryz.func215, by kernel_rfl, lk215⟩
theorem ok216 : OkF (216, e216) := ⟨Tryz.f216, Tryz.func216, by kernel_rfl, lk216⟩
theorem ok217 : OkF (217, e217) := ⟨Tryz.f217, Tryz.func217, by kernel_rfl, lk217⟩
theorem ok218 : OkF (218, e218) := ⟨Tryz.f218, Tryz.func218, by kernel_rfl, lk218⟩
theorem ok219 : OkF (219, e219) := ⟨Tryz.f219, Tryz.func219, by kernel_rfl, lk219⟩
theorem ok220 : OkF (220, e220) := ⟨Tryz.f220, Tryz.func220, by kernel_rfl, lk220⟩
theorem ok221 : OkF (221, e221) := ⟨Tryz.f221, Tryz.func221, by kernel_rfl, lk221⟩
theorem ok222 : OkF (222, e222) := ⟨Tryz.f222, Tryz.func222, by kernel_rfl, lk222⟩
theorem ok223 : OkF (223, e223) := ⟨Tryz.f223, Tryz.func223, by kernel_rfl, lk223⟩
theorem ok224 : OkF (224, e224) := ⟨Tryz.f224, Tryz.func224, by kernel_rfl, lk224⟩
theorem ok225 : OkF (225, e225) := ⟨Tryz.f225, Tryz.func225, by kernel_rfl, lk225⟩
theorem ok226 : OkF (226, e226) := ⟨Tryz.f226, Tryz.func226, by kernel_rfl, lk226⟩
theorem ok227 : OkF (227, e227) := ⟨Tryz.f227, Tryz.func227, by kernel_rfl, lk227⟩
theorem ok228 : OkF (228, e228) := ⟨Tryz.f228, Tryz.func228, by kernel_rfl, lk228⟩
theorem ok229 : OkF (229, e229) := ⟨Tryz.f229, Tryz.func229, by kernel_rfl, lk229⟩
theorem ok230 : OkF (230, e230) := ⟨Tryz.f230, Tryz.func230, by kernel_rfl, lk230⟩
theorem ok231 : OkF (231, e231) := ⟨Tryz.f231, Tryz.func231, by kernel_rfl, lk231⟩
theorem ok232 : OkF (232, e232) := ⟨Tryz.f232, Tryz.func232, by kernel_rfl, lk232⟩
theorem ok233 : OkF (233, e233) := ⟨Tryz.f233, Tryz.func233, by kernel_rfl, lk233⟩
theorem ok234 : OkF (234, e234) := ⟨Tryz.f234, Tryz.func234, by kernel_rfl, lk234⟩
theorem ok235 : OkF (235, e235) := ⟨Tryz.f235, Tryz.func235, by kernel_rfl, lk235⟩
theorem ok236 : OkF (236, e236) := ⟨Tryz.f236, Tryz.func236, by kernel_rfl, lk236⟩
theorem ok240 : OkF (240, e240) := ⟨Tryz.f240, Tryz.func240, by kernel_rfl, lk240⟩
theorem ok241 : OkF (241, e241) := ⟨Tryz.f241, Tryz.func241, by kernel_rfl, lk241⟩
theorem ok253 : OkF (253, e253) := ⟨Tryz.f253, Tryz.func253, by kernel_rfl, lk253⟩
theorem ok254 : OkF (254, e254) := ⟨Tryz.f254, Tryz.func254, by kernel_rfl, lk254⟩
theorem ok255 : OkF (255, e255) := ⟨Tryz.f255, Tryz.func255, by kernel_rfl, lk255⟩
theorem ok256 : OkF (256, e256) := ⟨Tryz.f256, Tryz.func256, by kernel_rfl, lk256⟩
theorem ok257 : OkF (257, e257) := ⟨Tryz.f257, Tryz.func257, by kernel_rfl, lk257⟩
theorem ok258 : OkF (258, e258) := ⟨Tryz.f258, Tryz.func258, by kernel_rfl, lk258⟩
theorem ok259 : OkF (259, e259) := ⟨Tryz.f259, Tryz.func259, by kernel_rfl, lk259⟩
theorem ok260 : OkF (260, e260) := ⟨Tryz.f260, Tryz.func260, by kernel_rfl, lk260⟩
theorem ok261 : OkF (261, e261) := ⟨Tryz.f261, Tryz.func261, by kernel_rfl, lk261⟩
theorem ok263 : OkF (263, e263) := ⟨Tryz.f263, Tryz.func263, by kernel_rfl, lk263⟩
theorem ok267 : OkF (267, e267) := ⟨Tryz.f267, Tryz.func267, by kernel_rfl, lk267⟩
theorem ok268 : OkF (268, e268) := ⟨Tryz.f268, Tryz.func268, by kernel_rfl, lk268⟩
theorem ok269 : OkF (269, e269) := ⟨Tryz.f269, Tryz.func269, by kernel_rfl, lk269⟩
theorem ok280 : OkF (280, e280) := ⟨Tryz.f280, Tryz.func280, by kernel_rfl, lk280⟩
theorem ok281 : OkF (281, e281) := ⟨Tryz.f281, Tryz.func281, by kernel_rfl, lk281⟩
theorem ok282 : OkF (282, e282) := ⟨Tryz.f282, Tryz.func282, by kernel_rfl, lk282⟩
theorem ok283 : OkF (283, e283) := ⟨Tryz.f283, Tryz.func283, by kernel_rfl, lk283⟩
theorem ok284 : OkF (284, e284) := ⟨Tryz.f284, Tryz.func284, by kernel_rfl, lk284⟩
theorem ok285 : OkF (285, e285) := ⟨Tryz.f285, Tryz.func285, by kernel_rfl, lk285⟩
theorem ok286 : OkF (286, e286) := ⟨Tryz.f286, Tryz.func286, by kernel_rfl, lk286⟩
theorem all_ok : AllOk tblL := ⟨ok10, ok13, ok14, ok15, ok17, ok19, ok22, ok25, ok27, ok31, ok34, ok37, ok38, ok41, ok46, ok47, ok48, ok49, ok52, ok53, ok54, ok55, ok56, ok57, ok58, ok59, ok60, ok64, ok65, ok66, ok67, ok72, ok73, ok76, ok77, ok84, ok85, ok87, ok88, ok89, ok90, ok91, ok92, ok93, ok95, ok97, ok98, ok99, ok100, ok104, ok106, ok107, ok117, ok118, ok119, ok120, ok121, ok122, ok123, ok124, ok125, ok126, ok127, ok128, ok129, ok130, ok131, ok132, ok133, ok134, ok135, ok136, ok137, ok138, ok139, ok140, ok141, ok142, ok146, ok147, ok149, ok150, ok151, ok152, ok153, ok154, ok160, ok161, ok162, ok163, ok164, ok165, ok166, ok167, ok168, ok169, ok170, ok171, ok172, ok173, ok174, ok175, ok176, ok177, ok178, ok179, ok180, ok181, ok185, ok187, ok188, ok189, ok190, ok199, ok200, ok201, ok202, ok203, ok204, ok205, ok206, ok207, ok208, ok209, ok210, ok211, ok212, ok213, ok214, ok215, ok216, ok217, ok218, ok219, ok220, ok221, ok222, ok223, ok224, ok225, ok226, ok227, ok228, ok229, ok230, ok231, ok232, ok233, ok234, ok235, ok236, ok240, ok241, ok253, ok254, ok255, ok256, ok257, ok258, ok259, ok260, ok261, ok263, ok267, ok268, ok269, ok280, ok281, ok282, ok283, ok284, ok285, ok286, trivial⟩

theorem envOk : EnvOk TheProg.prog env := ⟨mixed, fun f ef h => lookup_ok all_ok h, prim_ok, prim_grow⟩
theorem tb10 : env.tbl 10 = some e10 := rfl
theorem tb13 : env.tbl 13 = some e13 := rfl
theorem tb14 : env.tbl 14 = some e14 := rfl
theorem tb15 : env.tbl 15 = some e15 := rfl
theorem tb17 : env.tbl 17 = some e17 := rfl
theorem tb19 : env.tbl 19 = some e19 := rfl
theorem tb22 : env.tbl 22 = some e22 := rfl
theorem tb25 : env.tbl 25 = some e25 := rfl
theorem tb27 : env.tbl 27 = some e27 := rfl
theorem tb31 : env.tbl 31 = some e31 := rfl
theorem tb34 : env.tbl 34 = some e34 := rfl
theorem tb37 : env.tbl 37 = some e37 := rfl
theorem tb38 : env.tbl 38 = some e38 := rfl
theorem tb41 : env.tbl 41 = some e41 := rfl
theorem tb46 : env.tbl 46 = some e46 := rfl
theorem tb47 : env.tbl 47 = some e47 := rfl
theorem tb48 : env.tbl 48 = some e48 := rfl
theorem tb49 : env.tbl 49 = some e49 := rfl
theorem tb52 : env.tbl 52 = some e52 := rfl
theorem tb53 : env.tbl 53 = some e53 := rfl
theorem tb54 : env.tbl 54 = some e54 := rfl
theorem tb55 : env.tbl 55 = some e55 := rfl
theorem tb56 : env.tbl 56 = some e56 := rfl
theorem tb57 : env.tbl 57 = some e57 := rfl
theorem tb58 : env.tbl 58 = some e58 := rfl
theorem tb59 : env.tbl 59 = some e59 := rfl
theorem tb60 : env.tbl 60 = some e60 := rfl
theorem tb64 : env.tbl 64 = some e64 := rfl
theorem tb65 : env.tbl 65 = some e65 := rfl
theorem tb66 : env.tbl 66 = some e66 := rfl
theorem tb67 : env.tbl 67 = some e67 := rfl
theorem tb72 : env.tbl 72 = some e72 := rfl
theorem tb73 : env.tbl 73 = some e73 := rfl
theorem tb76 : env.tbl 76 = some e76 := rfl
theorem tb77 : env.tbl 77 = some e77 := rfl
theorem tb84 : env.tbl 84 = some e84 := rfl
theorem tb85 : env.tbl 85 = some e85 := rfl
theorem tb87 : env.tbl 87 = some e87 := rfl
theorem tb88 : env.tbl 88 = some e88 := rfl
theorem tb89 : env.tbl 89 = some e89 := rfl
theorem tb90 : env.tbl 90 = some e90 := rfl
theorem tb91 : env.tbl 91 = some e91 := rfl
theorem tb92 : env.tbl 92 = some e92 := rfl
theorem tb93 : env.tbl 93 = some e93 := rfl
theorem tb95 : env.tbl 95 = some e95 := rfl
theorem tb97 : env.tbl 97 = some e97 := rfl
theorem tb98 : env.tbl 98 = some e98 := rfl
theorem tb99 : env.tbl 99 = some e99 := rfl
theorem tb100 : env.tbl 100 = some e100 := rfl
theorem tb104 : env.tbl 104 = some e104 := rfl
theorem tb106 : env.tbl 106 = some e106 := rfl
theorem tb107 : env.tbl 107 = some e107 := rfl
theorem tb117 : env.tbl 117 = some e117 := rfl
theorem tb118 : env.tbl 118 = some e118 := rfl
theorem tb119 : env.tbl 119 = some e119 := rfl
theorem tb120 : env.tbl 120 = some e120 := rfl
theorem tb121 : env.tbl 121 = some e121 := rfl
theorem tb122 : env.tbl 122 = some e122 := rfl
theorem tb123 : env.tbl 123 = some e123 := rfl
theorem tb124 : env.tbl 124 = some e124 := rfl
theorem tb125 : env.tbl 125 = some e125 := rfl
theorem tb126 : env.tbl 126 = some e126 := rfl
theorem tb127 : env.tbl 127 = some e127 := rfl
theorem tb128 : env.tbl 128 = some e128 := rfl
theorem tb129 : env.tbl 129 = some e129 := rfl
theorem tb130 : env.tbl 130 = some e130 := rfl
theorem tb131 : env.tbl 131 = some e131 := rfl
theorem tb132 : env.tbl 132 = some e132 := rfl
theorem tb133 : env.tbl 133 = some e133 := rfl
theorem tb134 : env.tbl 134 = some e134 := rfl
theorem tb135 : env.tbl 135 = some e135 := rfl
theorem tb136 : env.tbl 136 = some e136 := rfl
theorem tb137 : env.tbl 137 = some e137 := rfl
theorem tb138 : env.tbl 138 = some e138 := rfl
theorem tb139 : env.tbl 139 = some e139 := rfl
theorem tb140 : env.tbl 140 = some e140 := rfl
theorem tb141 : env.tbl 141 = some e141 := rfl
theorem tb142 : env.tbl 142 = some e142 := rfl
theorem tb146 : env.tbl 146 = some e146 := rfl
theorem tb147 : env.tbl 147 = some e147 := rfl
theorem tb149 : env.tbl 149 = some e149 := rfl
theorem tb150 : env.tbl 150 = some e150 := rfl
theorem tb151 : env.tbl 151 = some e151 := rfl
theorem tb152 : env.tbl 152 = some e152 := rfl
theorem tb153 : env.tbl 153 = some e153 := rfl
theorem tb154 : env.tbl 154 = some e154 := rfl
theorem tb160 : env.tbl 160 = some e160 := rfl
theorem tb161 : env.tbl 161 = some e161 := rfl
theorem tb162 : env.tbl 162 = some e162 := rfl
theorem tb163 : env.tbl 163 = some e163 := rfl
theorem tb164 : env.tbl 164 = some e164 := rfl
theorem tb165 : env.tbl 165 = some e165 := rfl
theorem tb166 : env.tbl 166 = some e166 := rfl
theorem tb167 : env.tbl 167 = some e167 := rfl
theorem tb168 : env.tbl 168 = some e168 := rfl
theorem tb169 : env.tbl 169 = some e169 := rfl
theorem tb170 : env.tbl 170 = some e170 := rfl
theorem tb171 : env.tbl 171 = some e171 := rfl
theorem tb172 : env.tbl 172 = some e172 := rfl
theorem tb173 : env.tbl 173 = some e173 := rfl
theorem tb174 : env.tbl 174 = some e174 := rfl
theorem tb175 : env.tbl 175 = some e175 := rfl
theorem tb176 : env.tbl 176 = some e176 := rfl
theorem tb177 : env.tbl 177 = some e177 := rfl
theorem tb178 : env.tbl 178 = some e178 := rfl
theorem tb179 : env.tbl 179 = some e179 := rfl
theorem tb180 : env.tbl 180 = some e180 := rfl
theorem tb181 : env.tbl 181 = some e181 := rfl
theorem tb185 : env.tbl 185 = some e185 := rfl
theorem tb187 : env.tbl 187 = some e187 := rfl
theorem tb188 : env.tbl 188 = some e188 := rfl
theorem tb189 : env.tbl 189 = some e189 := rfl
theorem tb190 : env.tbl 190 = some e190 := rfl
theorem tb199 : env.tbl 199 = some e199 := rfl
theorem tb200 : env.tbl 200 = some e200 := rfl
theorem tb201 : env.tbl 201 = some e201 := rfl
theorem tb202 : env.tbl 202 = some e202 := rfl
theorem tb203 : env.tbl 203 = some e203 := rfl
theorem tb204 : env.tbl 204 = some e204 := rfl
theorem tb205 : env.tbl 205 = some e205 := rfl
theorem tb206 : env.tbl 206 = some e206 := rfl
theorem tb207 : env.tbl 207 = some e207 := rfl
theorem tb208 : env.tbl 208 = some e208 := rfl
theorem tb209 : env.tbl 209 = some e209 := rfl
theorem tb210 : env.tbl 210 = some e210 := rfl
theorem tb211 : env.tbl 211 = some e211 := rfl
theorem tb212 : env.tbl 212 = some e212 := rfl
theorem tb213 : env.tbl 213 = some e213 := rfl
theorem tb214 : env.tbl 214 = some e214 := rfl
theorem tb215 : env.tbl 215 = some e215 := rfl
theorem tb216 : env.tbl 216 = some e216 := rfl
theorem tb217 : env.tbl 217 = some e217 := rfl
theorem tb218 : env.tbl 218 = some e218 := rfl
theorem tb219 : env.tbl 219 = some e219 := rfl
theorem tb220 : env.tbl 220 = some e220 := rfl
theorem tb221 : env.tbl 221 = some e221 := rfl
theorem tb222 : env.tbl 222 = some e222 := rfl
theorem tb223 : env.tbl 223 = some e223 := rfl
theorem tb224 : env.tbl 224 = some e224 := rfl
theorem tb225 : env.tbl 225 = some e225 := rfl
theorem tb226 : env.tbl 226 = some e226 := rfl
theorem tb227 : env.tbl 227 = some e227 := rfl
theorem tb228 : env.tbl 228 = some e228 := rfl
theorem tb229 : env.tbl 229 = some e229 := rfl
theorem tb230 : env.tbl 230 = some e230 := rfl
theorem tb231 : env.tbl 231 = some e231 := rfl
theorem tb232 : env.tbl 232 = some e232 := rfl
theorem tb233 : env.tbl 233 = some e233 := rfl
theorem tb234 : env.tbl 234 = some e234 := rfl
theorem tb235 : env.tbl 235 = some e235 := rfl
theorem tb236 : env.tbl 236 = some e236 := rfl
theorem tb240 : env.tbl 240 = some e240 := rfl
theorem tb241 : env.tbl 241 = some e241 := rfl
theorem tb253 : env.tbl 253 = some e253 := rfl
theorem tb254 : env.tbl 254 = some e254 := rfl
theorem tb255 : env.tbl 255 = some e255 := rfl
theorem tb256 : env.tbl 256 = some e256 := rfl
theorem tb257 : env.tbl 257 = some e257 := rfl
theorem tb258 : env.tbl 258 = some e258 := rfl
theorem tb259 : env.tbl 259 = some e259 := rfl
theorem tb260 : env.tbl 260 = some e260 := rfl
theorem tb261 : env.tbl 261 = some e261 := rfl
theorem tb263 : env.tbl 263 = some e263 := rfl
theorem tb267 : env.tbl 267 = some e267 := rfl
theorem tb268 : env.tbl 268 = some e268 := rfl
theorem tb269 : env.tbl 269 = some e269 := rfl
theorem tb280 : env.tbl 280 = some e280 := rfl
theorem tb281 : env.tbl 281 = some e281 := rfl
theorem tb282 : env.tbl 282 = some e282 := rfl
theorem tb283 : env.tbl 283 = some e283 := rfl
theorem tb284 : env.tbl 284 = some e284 := rfl
theorem tb285 : env.tbl 285 = some e285 := rfl
theorem tb286 : env.tbl 286 = some e286 := rfl

end Go.Proofs.YtbecgpajbcafiaaGreat

namespace Go.Proofs.YtbecgpajbcafiaaGreat
open Go.Av Go.RowKit
theorem sanity_ev : evF env 200 0 (.fn 14) [] [] = some (.d (.bool true), []) := by kernel_rfl
end Go.Proofs.YtbecgpajbcafiaaGreat

set_option linter.unusedVariables false
namespace Go.Proofs.YtbecgpajbcafiaaGreat
open Go.Av Go.RowKit

def prim2 : CallF := fun lo f args σ => match f, args with
  | .fn 14, [] => some (.d (.bool true), σ)
  | f, args => primOf lo f args σ
def env2 : Env := ⟨fun f => if f = 14 then none else tblOf f, prim2⟩

theorem prim2_some {lo : Nat} {f : Cal} {args : List C} {σ σ' : St} {r : C} (h : prim2 lo f args σ = some (r, σ')) : (f = .fn 14 ∧ args = [] ∧ r = .d (.bool true) ∧ σ' = σ) ∨ primOf lo f args σ = some (r, σ') := by
  unfold prim2 at h
  split at h
  · simp only [Option.some.injEq, Prod.mk.injEq] at h
    exact .inl ⟨rfl, rfl, h.1.symm, h.2.symm⟩
  · exact .inr h

theorem env2Ok : EnvOk TheProg.prog env2 := by
  refine ⟨mixed, fun f ef h => ?_, ⟨fun lo f args σ r σ' h n0 hlo => ?_, fun lo n args σ r σ' h n0 hlo => ?_⟩, fun lo f args σ r σ' h => ?_⟩
  · by_cases e : f = 14
    · simp [env2, e] at h
    · simp only [env2, e, if_false] at h
      exact envOk.fn f ef h
  · have h : prim2 lo (.fn f) args σ = some (r, σ') := h
    rcases prim2_some h with ⟨hf, rfl, rfl, rfl⟩ | h
    · cases hf
      exact callX_closed envOk sanity_ev n0 _
    · exact prim_ok.fn _ _ _ _ _ _ h n0 hlo
  · have h : prim2 lo (.yl n) args σ = some (r, σ') := h
    rcases prim2_some h with ⟨hf, _⟩ | h
    · cases hf
    · exact prim_ok.yl _ _ _ _ _ _ h n0 hlo
  · have h : prim2 lo f args σ = some (r, σ') := h
    rcases prim2_some h with ⟨_, _, _, rfl⟩ | h
    · exact .refl _
    · exact prim_grow _ _ _ _ _ _ h

theorem sanity2 (lo : Nat) (σ : St) : EvF env2 lo (.fn 14) [] σ = some (.d (.bool true), σ) := by
  rw [EvF_prim (by rfl)]; rfl
end Go.Proofs.YtbecgpajbcafiaaGreat

set_option linter.unusedVariables false
set_option linter.unusedSimpArgs false
namespace Go.Proofs.YtbecgpajbcafiaaGreat
open Go.Av Go.RowKit

theorem nil_or {w : World} {im : Nat → Nat} {sz : Nat} {v : Value} (h : RepD w im (.sl sz []) v) : v = .slice none 0 0 ∨ ∃ p cap, v = .slice (some p) 0 cap := by
  cases h with
  | sl0 _ a cap hc =>
    cases a with
    | none => exact .inl (by rw [hc rfl])
    | some p => exact .inr ⟨p, cap, rfl⟩
  | sl => exact .inr ⟨_, _, rfl⟩

/-- What is so of a nil slice and of one that is empty and not nil. -/
theorem callX_nil {P : Program} {n0 : Fr} {f : FuncId} {e sz : Nat} {σ : St} {Q : C → St → Prop} (h1 : CallX P n0 f [.nils e sz] σ Q) (h2 : CallX P n0 f [.enn sz] σ Q) : CallX P n0 f [.d (.sl sz [])] σ Q := by
  refine ⟨h1.1, fun B w γ vs hs hl hr => ?_⟩
  have h0 := hr 0 _ rfl
  cases h0 with
  | d h =>
    rcases nil_or h with hv | ⟨p, cap, hv⟩
    · refine h1.2 B w γ vs hs hl fun i c hc => ?_
      cases i with
      | zero => simp only [List.getElem?_cons_zero, Option.some.injEq] at hc; subst hc; rw [hv]; exact .nils _ _
      | succ i => simp at hc
    · refine h2.2 B w γ vs hs hl fun i c hc => ?_
      cases i with
      | zero => simp only [List.getElem?_cons_zero, Option.some.injEq] at hc; subst hc; rw [hv]; exact .enn _ _ _
      | succ i => simp at hc

theorem ev124_c (E : Env) (h124 : E.tbl 124 = some e124) (lo : Nat) (σ : St) (hlo : lo ≤ σ.length) (r : List D) (rs : List (List D)) (hl : (r :: rs).length ≤ 1000000) :
    EvF E lo (.fn 124) [.d (.sl 1 (r :: rs))] σ = some (.o 1 (r :: rs) σ.length, σ ++ [some (.tok 9 1 (r :: rs).length)]) := by
  rw [EvF_fn h124]
  have hl' : (r :: rs).length = rs.length + 1 := rfl
  rw [hl'] at hl
  simp only [e124, List.replicate_succ, List.replicate_zero]
  simp (disch := omega) only [evs, evR, ev1, evOp, evO, setT, binC, binInt, unC, ↓reduceIte, keepT, C.one, toDss, toDs, toD, Nat.reduceAdd, Nat.reduceLT, Nat.reduceLeDiff, Int.reduceLT, Int.reduceLE, Nat.reduceEqDiff, endE, finE, resC, retC, finC, cutA, cut1, C.ltL, C.ltLL, tokOf, aggOf, Int.reduceEq, Nat.reduceBEq, stab, evW, Nat.reduceSub, List.replicate_succ, List.replicate_zero, a124_r0, a124_r1, a124_r3, nilC]
theorem ev124_n (E : Env) (h124 : E.tbl 124 = some e124) (lo : Nat) (σ : St) (hlo : lo ≤ σ.length) :
    EvF E lo (.fn 124) [.nils 9 1] σ = some (.o 1 [] σ.length, σ ++ [some (.tok 9 1 0)]) := by
  rw [EvF_fn h124]
  simp only [e124, List.replicate_succ, List.replicate_zero]
  simp (disch := omega) only [evs, evR, ev1, evOp, evO, setT, binC, binInt, unC, ↓reduceIte, keepT, C.one, toDss, toDs, toD, Nat.reduceAdd, Nat.reduceLT, Nat.reduceLeDiff, Int.reduceLT, Int.reduceLE, Nat.reduceEqDiff, endE, finE, resC, retC, finC, cutA, cut1, C.ltL, C.ltLL, tokOf, aggOf, Int.reduceEq, Nat.reduceBEq, stab, evW, Nat.reduceSub, List.replicate_succ, List.replicate_zero, a124_r0, a124_r1, a124_r2, nilC]
theorem ev124_e (E : Env) (h124 : E.tbl 124 = some e124) (lo : Nat) (σ : St) (hlo : lo ≤ σ.length) :
    EvF E lo (.fn 124) [.enn 1] σ = some (.o 1 [] σ.length, σ ++ [some (.tok 9 1 0)]) := by
  rw [EvF_fn h124]
  simp only [e124, List.replicate_succ, List.replicate_zero]
  simp (disch := omega) only [evs, evR, ev1, evOp, evO, setT, binC, binInt, unC, ↓reduceIte, keepT, C.one, toDss, toDs, toD, Nat.reduceAdd, Nat.reduceLT, Nat.reduceLeDiff, Int.reduceLT, Int.reduceLE, Nat.reduceEqDiff, endE, finE, resC, retC, finC, cutA, cut1, C.ltL, C.ltLL, tokOf, aggOf, Int.reduceEq, Nat.reduceBEq, stab, evW, Nat.reduceSub, Nat.reduceMul, List.replicate_succ, List.replicate_zero, a124_r0, a124_r1, a124_r3, nilC]

def prim3 : CallF := fun lo f args σ => match f, args with
  | .fn 124, [.d (.sl 1 rows)] => if lo ≤ σ.length ∧ rows.length ≤ 1000000 then some (.o 1 rows σ.length, σ ++ [some (.tok 9 1 rows.length)]) else none
  | f, args => prim2 lo f args σ
def env3 : Env := ⟨fun f => if f = 124 then none else env2.tbl f, prim3⟩

theorem prim3_some {lo : Nat} {f : Cal} {args : List C} {σ σ' : St} {r : C} (h : prim3 lo f args σ = some (r, σ')) : (∃ rows, f = .fn 124 ∧ args = [.d (.sl 1 rows)] ∧ lo ≤ σ.length ∧ rows.length ≤ 1000000 ∧ r = .o 1 rows σ.length ∧ σ' = σ ++ [some (.tok 9 1 rows.length)]) ∨ prim2 lo f args σ = some (r, σ') := by
  unfold prim3 at h
  split at h
  · split at h
    · rename_i hc
      simp only [Option.some.injEq, Prod.mk.injEq] at h
      exact .inl ⟨_, rfl, rfl, hc.1, hc.2, h.1.symm, h.2.symm⟩
    · cases h
  · exact .inr h

theorem env3Ok : EnvOk TheProg.prog env3 := by
  have h124 : env2.tbl 124 = some e124 := rfl
  refine ⟨mixed, fun f ef h => ?_, ⟨fun lo f args σ r σ' h n0 hlo => ?_, fun lo n args σ r σ' h n0 hlo => ?_⟩, fun lo f args σ r σ' h => ?_⟩
  · by_cases e : f = 124
    · simp [env3, e] at h
    · simp only [env3, e, if_false] at h
      exact env2Ok.fn f ef h
  · have h : prim3 lo (.fn f) args σ = some (r, σ') := h
    rcases prim3_some h with ⟨rows, hf, rfl, h1, h2, rfl, rfl⟩ | h
    · cases hf
      cases rows with
      | nil => exact callX_nil (callX_of_EvF env2Ok (ev124_n env2 h124 lo σ h1) n0 hlo) (callX_of_EvF env2Ok (ev124_e env2 h124 lo σ h1) n0 hlo)
      | cons r rs => exact callX_of_EvF env2Ok (ev124_c env2 h124 lo σ h1 r rs h2) n0 hlo
    · exact env2Ok.prim.fn _ _ _ _ _ _ h n0 hlo
  · have h : prim3 lo (.yl n) args σ = some (r, σ') := h
    rcases prim3_some h with ⟨_, hf, _⟩ | h
    · cases hf
    · exact env2Ok.prim.yl _ _ _ _ _ _ h n0 hlo
  · have h : prim3 lo f args σ = some (r, σ') := h
    rcases prim3_some h with ⟨_, _, _, _, _, _, rfl⟩ | h
    · exact .push _ _
    · exact env2Ok.grow _ _ _ _ _ _ h

theorem sanity3 (lo : Nat) (σ : St) : EvF env3 lo (.fn 14) [] σ = some (.d (.bool true), σ) := by
  rw [EvF_prim (by rfl)]; rfl
theorem clone3 (lo : Nat) (σ : St) (hlo : lo ≤ σ.length) (rows : List (List D)) (hr : rows.length ≤ 1000000) : EvF env3 lo (.fn 124) [.d (.sl 1 rows)] σ = some (.o 1 rows σ.length, σ ++ [some (.tok 9 1 rows.length)]) := by
  rw [EvF_prim (by rfl)]
  show prim3 lo (.fn 124) [.d (.sl 1 rows)] σ = _
  simp only [prim3]
  rw [if_pos ⟨hlo, hr⟩]
end Go.Proofs.YtbecgpajbcafiaaGreat
