/-
  The row of the law ZoneCodes: for every input the law returns true, and each argument reads as it did. Out of what the evaluator finds at the opened arguments.
-/
import Derived.Test.YtbecgpajbcafiaaGreatRows
import Derived.Test.YtbecgpajbcafiaaGreatKJ
import Derived.WalkKit
import Derived.ProofKit
import Derived.OpenShut
import Derived.ShutString
import Derived.ChangeOld
import Derived.Below
import Derived.SizedLaws
import Derived.Carry
import Derived.KernelRfl
namespace Go.Proofs.YtbecgpajbcafiaaGreat.zoneCodes
open Go.ChangeShapes Go.WideShapes Go.ChangeAt Go.RowKit Go.Av
set_option linter.unusedVariables false
theorem own : ownKnob Tryz.prog.godebug = none := by kernel_rfl
theorem laidOut : laidOutB Tryz.prog = true := by kernel_rfl
set_option maxRecDepth 100000 in
theorem lifted (os : Os) (started : os.Started) (H : Type) (enc : TypeId × Value → H) :
    ReturnsInHanded {} Tryz.checked os 10 .any (Rows.zoneCodesSpec.pre6 enc Tryz.prog Tryz.f10 Rows.zoneCodesRow.domain false) (Rows.zoneCodesSpec.post enc Tryz.prog Tryz.f10 false true false false) := by
  refine returnsInHanded_of_change_sized (C := Tryz.checked) own started (by kernel_rfl) Tryz.func10
    (ChangeSpec.witness6 (enc := enc) (C := Tryz.checked) false ⟨#[], #[.agg #[.int .i64 0, .slice none 0 0, .slice none 0 0, .slice none 0 0, .int .i64 0, .int .i64 0, .int .i64 0, .int .i64 0, .int .i64 0, .slice none 0 0], .slice none 0 0], []⟩ 8 (by kernel_rfl) (by kernel_rfl) (by kernel_rfl) (by kernel_rfl)) ?_
  intro W base args ds gs before hval0 hW hcnd hsz0 _
  have hval : ∀ (j : Nat) t v, Tryz.f10.params[j]? = some t → args[j]? = some v → Value.okWide Tryz.prog W .any base t v := hval0
  have hW' := hW
  obtain ⟨p, q, hA0, hV, rfl, hfz, hnd⟩ := hW
  have hA : DataW.TrodAll enc Tryz.prog W 0 (fun _ => true) true Tryz.f10.params.toList args.toList ds p := hA0
  rw [Tryz.params10] at hA hval
  obtain ⟨v0, vs0, d0, e0, p0, q0, hargs, rfl, rfl, h0, r0⟩ := trodAll_cons hA
  obtain ⟨v1, vs1, d1, e1, p1, q1, rfl, rfl, rfl, h1, r1⟩ := trodAll_cons r0
  obtain ⟨rfl, rfl, rfl⟩ := trodAll_nil r1
  obtain rfl : args = #[v0, v1] := by cases args; simp_all
  obtain ⟨rfl, rfl⟩ := trodVars_none hV
  have lt0 : ∀ x ∈ p0, x.block < W.heap.size := by obtain ⟨m, hm⟩ := h0; exact DataW.trod_lt m _ _ _ hm
  obtain ⟨k0, ds0, w0, c0⟩ := open_arg (S := seatT) closed (by decide) (hval 0 33 v0 rfl rfl) h0 (γ := γ0 W) rfl (Fil [])
  have lt1 : ∀ x ∈ p1, x.block < W.heap.size := by obtain ⟨m, hm⟩ := h1; exact DataW.trod_lt m _ _ _ hm
  obtain ⟨k1, ds1, w1, c1⟩ := open_arg (S := seatT) closed (by decide) (hval 1 92 v1 rfl rfl) h1 (γ := γ0 W) rfl (Fil [])
  obtain ⟨σ', hev⟩ := main k0 ds0 w0 k1 ds1 w1
  clear hA0 hval0 hsz0
  refine (calls_true env3Ok hev (W := W) (vs := #[v0, v1]) rfl (fun i c hc => ?_)).mono fun e W' ⟨he, bel⟩ => ?_
  · match i, hc with
    | 0, hc => cases hc; exact c0
    | 1, hc => cases hc; exact c1
    | i + 2, hc => cases hc
  · subst he
    exact ⟨_, rfl, _, _, _, [], _, [], hW', trodAll_mk1 (shut_bool Tryz.underlying4 _), (trodAll_cons_mk (Below.trod laidOut (by kernel_rfl) (of_decide_eq_true (by kernel_rfl)) h0 bel lt0) (trodAll_cons_mk (Below.trod laidOut (by kernel_rfl) (of_decide_eq_true (by kernel_rfl)) h1 bel lt1) trodAll_mk0)), rfl, bel.frame _, fun h => by cases h⟩
theorem facts1 : Tryz.pinned.checked.prog.funcNamed Rows.zoneCodesRow.func = some 10 := by kernel_rfl
theorem facts2 : joinedFacts Tryz.pinned.checked.prog 10 Tryz.f10 Rows.zoneCodesSpec Rows.zoneCodesRow = true := by kernel_rfl
theorem facts3 : Tryz.f10.isInstance Tryz.pinned.checked.prog Rows.zoneCodesRow.origin Rows.zoneCodesRow.targs := of_decide_eq_true (by kernel_rfl)
theorem facts4 : Tryz.f10.isWrapper Tryz.pinned.checked.prog Rows.zoneCodesRow.wrapper Rows.zoneCodesRow.mainSum := by unfold Func.isWrapper; first | (rw [if_pos (by decide +kernel)]; kernel_rfl) | (rw [if_neg (by decide +kernel)]; exact ⟨rfl, rfl⟩)
theorem over : Rows.zoneCodesRow.holds Tryz.pinned (OpenSpec.ofChange Rows.zoneCodesSpec) :=
  OpenClaim.holds_of_wide 10 Tryz.f10 rfl rfl rfl rfl rfl rfl rfl ⟨rfl, rfl, rfl, rfl, rfl⟩ rfl rfl rfl rfl rfl facts1 Tryz.func10 facts2 facts3 facts4
    (fun os started H enc _ => lifted os started H enc)
theorem proved : Rows.ZoneCodesSaid := over
#print axioms proved
end Go.Proofs.YtbecgpajbcafiaaGreat.zoneCodes
namespace Go.Proofs.YtbecgpajbcafiaaGreat
theorem zoneCodes_holds : Rows.ZoneCodesSaid := zoneCodes.proved
end Go.Proofs.YtbecgpajbcafiaaGreat
