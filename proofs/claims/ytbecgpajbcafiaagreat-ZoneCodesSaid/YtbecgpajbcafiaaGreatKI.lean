/-
  The reference's cutting of lists.
  The loops of the reference's building of a summary.
  The reference's Decode.
  The reference's Decode: of bytes.
  Whether two summaries are the same.
  Whether a summary is small.
-/
import Derived.Test.YtbecgpajbcafiaaGreatKH
import Derived.Test.YtbecgpajbcafiaaGreatKG
set_option linter.unusedVariables false
set_option linter.unusedSimpArgs false
namespace Go.Proofs.YtbecgpajbcafiaaGreat
open Go.Av Go.RowKit

theorem iR_take (l : List Int) (c : Nat) : List.take (((c : Nat) : Int).toNat - (0 : Int).toNat) (List.drop (0 : Int).toNat (iR l)) = iR (l.take c) := by
  show List.take (((c : Nat) : Int).toNat - 0) (List.drop 0 (iR l)) = _
  rw [Int.toNat_natCast, List.drop_zero, Nat.sub_zero]
  simp [iR, List.map_take]
theorem iR_from (l : List Int) (u : Nat) : List.take (((l.length : Nat) : Int).toNat - ((u : Nat) : Int).toNat) (List.drop ((u : Nat) : Int).toNat (iR l)) = iR (l.drop u) := by
  rw [Int.toNat_natCast, Int.toNat_natCast, List.take_of_length_le (by simp [iR])]
  simp [iR, List.map_drop]

/-- Whether the first number says how many (times t) of the others come; these; the rest. -/
def ctO (n : List Int) (t : Int) : Bool := !n.isEmpty && (decide (0 ≤ n.headD 0) && (decide (n.headD 0 ≤ n.length) && decide (n.headD 0 * t ≤ n.tail.length)))
def ctA (n : List Int) (t : Int) : List Int := if ctO n t then n.tail.take (n.headD 0 * t).toNat else []
def ctB (n : List Int) (t : Int) : List Int := if ctO n t then n.tail.drop (n.headD 0 * t).toNat else []

theorem c254_t (E : Env) (h254 : E.tbl 254 = some e254) (lo : Nat) (σ : St) (hlo : lo ≤ σ.length) (n : List Int) (m : Nat) (hm : m ≤ n.length) :
    EvF E lo (.fn 254) [.d (.sl 1 (iR n)), .d (.int .i64 (m : Nat))] σ = some (.tup [.d (.sl 1 (iR (n.take m))), .d (.sl 1 (iR (n.drop m))), .d (.bool true)], σ) := by
  rw [EvF_fn h254]
  have h1 := iR_take n m
  have h2 := iR_from n m
  simp only [e254, List.replicate_succ, List.replicate_zero]
  simp (disch := omega) only [evs, evR, ev1, evOp, evO, setT, binC, binInt, unC, ↓reduceIte, keepT, C.one, toDss, toDs, toD, Nat.reduceAdd, Nat.reduceLT, Nat.reduceLeDiff, Int.reduceLT, Int.reduceLE, Nat.reduceEqDiff, endE, finE, resC, retC, finC, cutA, cut1, C.ltL, C.ltLL, tokOf, aggOf, Int.reduceEq, Nat.reduceBEq, stab, evW, Nat.reduceSub, List.replicate_succ, List.replicate_zero, a254_r0, a254_r1, a254_r2, a254_r3, iR_len, boundN, h1, h2, gdec]
theorem c254_f (E : Env) (h254 : E.tbl 254 = some e254) (lo : Nat) (σ : St) (hlo : lo ≤ σ.length) (n : List Int) (m : Int) (hm0 : 0 ≤ m) (hm : n.length < m) :
    EvF E lo (.fn 254) [.d (.sl 1 (iR n)), .d (.int .i64 m)] σ = some (.tup [.d (.sl 1 []), .d (.sl 1 []), .d (.bool false)], σ) := by
  rw [EvF_fn h254]
  simp only [e254, List.replicate_succ, List.replicate_zero]
  simp (disch := omega) only [evs, evR, ev1, evOp, evO, setT, binC, binInt, unC, ↓reduceIte, keepT, C.one, toDss, toDs, toD, Nat.reduceAdd, Nat.reduceLT, Nat.reduceLeDiff, Int.reduceLT, Int.reduceLE, Nat.reduceEqDiff, endE, finE, resC, retC, finC, cutA, cut1, C.ltL, C.ltLL, tokOf, aggOf, Int.reduceEq, Nat.reduceBEq, stab, evW, Nat.reduceSub, List.replicate_succ, List.replicate_zero, a254_r0, a254_r1, a254_r2, a254_r3, iR_len, gdec]

theorem c210 (E : Env) (h254 : E.tbl 254 = some e254) (h210 : E.tbl 210 = some e210) (lo : Nat) (σ : St) (hlo : lo ≤ σ.length) (n : List Int) (t : Int) (ht : 1 ≤ t ∧ t ≤ 4) (hl : n.length ≤ 1000000) :
    EvF E lo (.fn 210) [.d (.sl 1 (iR n)), .d (.int .i64 t)] σ = some (.tup [.d (.sl 1 (iR (ctA n t))), .d (.sl 1 (iR (ctB n t))), .d (.bool (ctO n t))], σ) := by
  rw [EvF_fn h210]
  simp only [e210, List.replicate_succ, List.replicate_zero]
  cases n with
  | nil =>
    have h0 : ctO [] t = false := rfl
    have hl0 : (iR []).length = 0 := rfl
    have hz : ((0 : Nat) : Int) = 0 := rfl
    unfold ctA ctB
    rw [h0]
    simp (disch := omega) only [evs, evR, ev1, evOp, evO, setT, binC, binInt, unC, ↓reduceIte, keepT, C.one, toDss, toDs, toD, Nat.reduceAdd, Nat.reduceLT, Nat.reduceLeDiff, Int.reduceLT, Int.reduceLE, Nat.reduceEqDiff, endE, finE, resC, retC, finC, cutA, cut1, C.ltL, C.ltLL, tokOf, aggOf, Int.reduceEq, Nat.reduceBEq, stab, evW, Nat.reduceSub, List.replicate_succ, List.replicate_zero, a210_r0, a210_r1, a210_r2, a210_r3, hl0, hz, gdec]
    rfl
  | cons y r =>
    have hn : (y :: r).length = r.length + 1 := rfl
    have hil : (iR (y :: r)).length = (y :: r).length := iR_len _
    have hat : (iR (y :: r)).getD (0 : Int).toNat [] = [.int .i64 y] := rfl
    have hf := iR_from1 (y :: r)
    rw [hn] at hf
    have htl : (y :: r).tail = r := rfl
    rw [htl] at hf
    have hO : ctO (y :: r) t = (decide (0 ≤ y) && (decide (y ≤ ((y :: r).length : Nat)) && decide (y * t ≤ (r.length : Nat)))) := by
      simp [ctO]
    have hA : ctA (y :: r) t = if ctO (y :: r) t then r.take (y * t).toNat else [] := rfl
    have hB : ctB (y :: r) t = if ctO (y :: r) t then r.drop (y * t).toNat else [] := rfl
    rw [hA, hB, hO, hn]
    rw [hn] at hl
    by_cases h1 : y < 0
    · rw [decide_eq_false (by omega), Bool.false_and]
      simp (disch := omega) only [evs, evR, ev1, evOp, evO, setT, binC, binInt, unC, ↓reduceIte, keepT, C.one, toDss, toDs, toD, Nat.reduceAdd, Nat.reduceLT, Nat.reduceLeDiff, Int.reduceLT, Int.reduceLE, Nat.reduceEqDiff, endE, finE, resC, retC, finC, cutA, cut1, C.ltL, C.ltLL, tokOf, aggOf, Int.reduceEq, Nat.reduceBEq, stab, evW, Nat.reduceSub, List.replicate_succ, List.replicate_zero, a210_r0, a210_r1, a210_r2, a210_r3, hil, hn, hat, gdec]
      rfl
    · rw [decide_eq_true (by omega), Bool.true_and]
      by_cases h2 : y ≤ ((r.length + 1 : Nat) : Int)
      · rw [decide_eq_true h2, Bool.true_and]
        have hyt : y * t ≤ 4 * y ∧ 0 ≤ y * t := ⟨by have := Int.mul_le_mul_of_nonneg_left ht.2 (show (0 : Int) ≤ y by omega); rw [Int.mul_comm 4]; exact this, Int.mul_nonneg (by omega) (by omega)⟩
        have hw : IntKind.i64.wrap (y * t) = y * t := by rw [IntKind.wrap_i64]; omega
        by_cases h3 : y * t ≤ (r.length : Nat)
        · rw [decide_eq_true h3, if_pos rfl, if_pos rfl]
          obtain ⟨m, hm⟩ : ∃ m : Nat, y * t = (m : Int) := ⟨(y * t).toNat, by omega⟩
          rw [hm] at h3
          have hw' : IntKind.i64.wrap (y * t) = (m : Int) := by rw [hw, hm]
          rw [hm, Int.toNat_natCast]
          have c1 := fun τ h => c254_t E h254 lo τ h r m (by omega)
          simp (disch := first | omega | (simp only [st_len, List.length_cons, List.length_nil]; omega)) only [evs, evR, ev1, evOp, evO, setT, binC, binInt, unC, ↓reduceIte, keepT, C.one, toDss, toDs, toD, Nat.reduceAdd, Nat.reduceLT, Nat.reduceLeDiff, Int.reduceLT, Int.reduceLE, Nat.reduceEqDiff, endE, finE, resC, retC, finC, cutA, cut1, C.ltL, C.ltLL, tokOf, aggOf, Int.reduceEq, Nat.reduceBEq, stab, evW, Nat.reduceSub, List.replicate_succ, List.replicate_zero, a210_r0, a210_r1, a210_r2, a210_r3, hil, hn, hat, hf, gdec, boundN, hw', c1]
        · rw [decide_eq_false h3]
          have c1 := fun τ h => c254_f E h254 lo τ h r (y * t) hyt.2 (by omega)
          simp (disch := first | omega | (simp only [st_len, List.length_cons, List.length_nil]; omega)) only [evs, evR, ev1, evOp, evO, setT, binC, binInt, unC, ↓reduceIte, keepT, C.one, toDss, toDs, toD, Nat.reduceAdd, Nat.reduceLT, Nat.reduceLeDiff, Int.reduceLT, Int.reduceLE, Nat.reduceEqDiff, endE, finE, resC, retC, finC, cutA, cut1, C.ltL, C.ltLL, tokOf, aggOf, Int.reduceEq, Nat.reduceBEq, stab, evW, Nat.reduceSub, List.replicate_succ, List.replicate_zero, a210_r0, a210_r1, a210_r2, a210_r3, hil, hn, hat, hf, gdec, boundN, hw, c1]
          rfl
      · rw [decide_eq_false h2, Bool.false_and]
        simp (disch := omega) only [evs, evR, ev1, evOp, evO, setT, binC, binInt, unC, ↓reduceIte, keepT, C.one, toDss, toDs, toD, Nat.reduceAdd, Nat.reduceLT, Nat.reduceLeDiff, Int.reduceLT, Int.reduceLE, Nat.reduceEqDiff, endE, finE, resC, retC, finC, cutA, cut1, C.ltL, C.ltLL, tokOf, aggOf, Int.reduceEq, Nat.reduceBEq, stab, evW, Nat.reduceSub, List.replicate_succ, List.replicate_zero, a210_r0, a210_r1, a210_r2, a210_r3, hil, hn, hat, gdec]
        rfl
end Go.Proofs.YtbecgpajbcafiaaGreat

set_option linter.unusedVariables false
set_option linter.unusedSimpArgs false
namespace Go.Proofs.YtbecgpajbcafiaaGreat
open Go.Av Go.RowKit

def q4 (l : List (Int × Int × Int × Int)) : List Int := l.flatMap fun q => [q.1, q.2.1, q.2.2.1, q.2.2.2]
/-- Fields, with their words. -/
def tkF : List (Int × Int × Int × Int) → List ByteArray → Option (List Fl × List ByteArray)
  | [], w => some ([], w)
  | q :: qs, w => if q.2.2.2 < 0 ∨ (w.length : Int) < q.2.2.2 then none else (tkF qs (w.drop q.2.2.2.toNat)).map fun r => (⟨q.1, q.2.1, q.2.2.1, w.take q.2.2.2.toNat⟩ :: r.1, r.2)
theorem q4_len (l : List (Int × Int × Int × Int)) : (q4 l).length = 4 * l.length := by
  induction l with
  | nil => rfl
  | cons p l ih => simp only [q4, List.flatMap_cons, List.length_append, List.length_cons, List.length_nil] at ih ⊢; omega
theorem iR_get (pre : List Int) (a : Int) (post : List Int) (i : Nat) (h : i = pre.length) : (iR (pre ++ a :: post)).getD ((i : Nat) : Int).toNat [] = [.int .i64 a] := by
  subst h; rw [Int.toNat_natCast]; exact iR_at pre a post

set_option maxRecDepth 20000 in
set_option maxHeartbeats 1000000 in
theorem loop127_1 (E : Env) (lo : Nat) (σ : St) (hlo : lo ≤ σ.length) (w : List ByteArray) (A Fd : List Int) (hA : A.length ≤ 1000000) (o0 o1 o2 o3 o4 o5 o6 o7 o8 o9 o10 o11 o13 o15 o16 : Option Ob) (c0 c1 c2 c4 c5 c6 c7 c8 c9 : C) : ∀ (ps : List (Int × Int)) (pre : List Int) (acc : List (Int × Int)) (tk : Ob), A = pre ++ shN ps → acc.length ≤ pre.length → (tk = .tok 119 2 acc.length ∨ (tk = .ntok 119 2 ∧ acc.length = 0)) →
    ∃ tk', EvL E lo [false, true, false, false, true, true, true, false, false, false, false, false, false, true, false, false, true, false, false, true] [false, true, false, false, true, true, true, false, false, false, false, false, false, false, false, false, true] (σ.length + 17) l127_1 (U :: .d (.sl 1 (sR w)) :: U :: U :: .ref (σ.length + 4) 0 :: .ref (σ.length + 9) 0 :: .ref (σ.length + 14) 0 :: U :: U :: U :: U :: U :: U :: .d (.sl 1 (iR A)) :: U :: U :: .d (.sl 1 (iR Fd)) :: U :: U :: .d (.int .i64 (pre.length : Nat)) :: U :: U :: U :: U :: U :: U :: U :: U :: U :: U :: U :: U :: U :: U :: U :: U :: U :: U :: U :: U :: U :: U :: U :: U :: U :: U :: U :: U :: U :: U :: U :: U :: U :: U :: U :: U :: U :: U :: U :: U :: U :: U :: U :: U :: U :: U :: U :: U :: U :: U :: U :: U :: U :: U :: U :: U :: U :: U :: U :: U :: U :: U :: U :: U :: U :: U :: U :: U :: U :: U :: U :: U :: U :: U :: U :: U :: U :: U :: U :: U :: U :: U :: U :: U :: U :: U :: U :: U :: U :: U :: U :: U :: U :: U :: U :: U :: U :: U :: U :: U :: U :: U :: U :: U :: U :: U :: U :: U :: U :: U :: U :: U :: U :: U :: U :: U :: U :: U :: U :: U :: U :: U :: U :: U :: U :: U :: U :: U :: U :: U :: U :: U :: U :: U :: U :: U :: U :: U :: U :: U :: U :: U :: U :: U :: U :: U :: U :: U :: U :: U :: U :: U :: U :: U :: []) (σ ++ [o0, o1, o2, o3, o4, o5, o6, o7, o8, o9, o10, o11, some tk, o13, some (.box 33 [c0, c1, c2, .o 2 (shR acc) (σ.length + 12), c4, c5, c6, c7, c8, c9]), o15, o16]) =
      some (.exit 0, (U :: .d (.sl 1 (sR w)) :: U :: U :: .ref (σ.length + 4) 0 :: .ref (σ.length + 9) 0 :: .ref (σ.length + 14) 0 :: U :: U :: U :: U :: U :: U :: U :: U :: U :: .d (.sl 1 (iR Fd)) :: U :: U :: U :: U :: U :: U :: U :: U :: U :: U :: U :: U :: U :: U :: U :: U :: U :: U :: U :: U :: U :: U :: U :: U :: U :: U :: U :: U :: U :: U :: U :: U :: U :: U :: U :: U :: U :: U :: U :: U :: U :: U :: U :: U :: U :: U :: U :: U :: U :: U :: U :: U :: U :: U :: U :: U :: U :: U :: U :: U :: U :: U :: U :: U :: U :: U :: U :: U :: U :: U :: U :: U :: U :: U :: U :: U :: U :: U :: U :: U :: U :: U :: U :: U :: U :: U :: U :: U :: U :: U :: U :: U :: U :: U :: U :: U :: U :: U :: U :: U :: U :: U :: U :: U :: U :: U :: U :: U :: U :: U :: U :: U :: U :: U :: U :: U :: U :: U :: U :: U :: U :: U :: U :: U :: U :: U :: U :: U :: U :: U :: U :: U :: U :: U :: U :: U :: U :: U :: U :: U :: U :: U :: U :: U :: U :: U :: U :: U :: U :: U :: U :: U :: U :: U :: U :: U :: U :: []), (σ ++ [o0, o1, o2, o3, o4, o5, o6, o7, o8, o9, o10, o11, some tk', o13, some (.box 33 [c0, c1, c2, .o 2 (shR (acc ++ ps)) (σ.length + 12), c4, c5, c6, c7, c8, c9]), o15, o16])) := by
  intro ps
  induction ps with
  | nil =>
    intro pre acc tk h ha htk
    refine ⟨tk, ?_⟩
    have hl : A.length = pre.length := by rw [h]; simp [shN]
    rw [EvL_eq]
    simp (disch := omega) only [evs, evR, ev1, evOp, evO, setT, binC, binInt, unC, ↓reduceIte, keepT, C.one, toDss, toDs, toD, Nat.reduceAdd, Nat.reduceLT, Nat.reduceLeDiff, Int.reduceLT, Int.reduceLE, Nat.reduceEqDiff, endE, finE, resC, retC, finC, cutA, cut1, C.ltL, C.ltLL, tokOf, aggOf, Int.reduceEq, Nat.reduceBEq, stab, evW, l127_1, a127_r13, iR_len]
  | cons q ps ih =>
    intro pre acc tk h ha htk
    have hsh : shN (q :: ps) = q.1 :: q.2 :: shN ps := by simp [shN]
    rw [hsh] at h
    have hl : A.length = pre.length + ((shN ps).length + 2) := by rw [h]; simp
    have g1 := iR_get pre q.1 (q.2 :: shN ps) pre.length rfl
    have g2 := iR_get (pre ++ [q.1]) q.2 (shN ps) (pre.length + 1) (by simp)
    rw [show pre ++ [q.1] ++ q.2 :: shN ps = A from by rw [h]; simp] at g2
    rw [← h] at g1
    have w1 : IntKind.i64.wrap ((pre.length : Int) + 1) = ((pre.length + 1 : Nat) : Int) := by rw [IntKind.wrap_i64]; omega
    have w2 : IntKind.i64.wrap ((pre.length : Int) + 2) = ((pre.length + 2 : Nat) : Int) := by rw [IntKind.wrap_i64]; omega
    obtain ⟨tk', ih⟩ := ih (pre ++ [q.1, q.2]) (acc ++ [q]) (.tok 119 2 (acc.length + 1)) (by rw [h]; simp) (by simp; omega) (.inl (by simp))
    have hacc : shR acc ++ [[.int .i64 q.1, .int .i64 q.2]] = shR (acc ++ [q]) := by simp [shR]
    refine ⟨tk', ?_⟩
    simp only [List.length_append, List.length_cons, List.length_nil, Nat.zero_add, Nat.reduceAdd] at ih
    rw [EvL_eq]
    generalize hL : EvL E lo _ _ _ _ = L at ih ⊢
    rcases htk with rfl | ⟨rfl, h0⟩
    · simp (disch := omega) only [evs, evR, ev1, evOp, evO, setT, binC, binInt, unC, ↓reduceIte, keepT, C.one, toDss, toDs, toD, Nat.reduceAdd, Nat.reduceLT, Nat.reduceLeDiff, Int.reduceLT, Int.reduceLE, Nat.reduceEqDiff, endE, finE, resC, retC, finC, cutA, cut1, C.ltL, C.ltLL, tokOf, aggOf, Int.reduceEq, Nat.reduceBEq, stab, evW, l127_1, a127_r13, a127_d14, a127_r15, iR_len, g1, g2, w1, w2, shR_len, hacc, fillC]
      rw [ih]
      simp
    · simp (disch := omega) only [evs, evR, ev1, evOp, evO, setT, binC, binInt, unC, ↓reduceIte, keepT, C.one, toDss, toDs, toD, Nat.reduceAdd, Nat.reduceLT, Nat.reduceLeDiff, Int.reduceLT, Int.reduceLE, Nat.reduceEqDiff, endE, finE, resC, retC, finC, cutA, cut1, C.ltL, C.ltLL, tokOf, aggOf, Int.reduceEq, Nat.reduceBEq, stab, evW, l127_1, a127_r13, a127_d14, a127_r15, iR_len, g1, g2, w1, w2, shR_len, hacc, fillC]
      rw [ih]
      simp

set_option maxRecDepth 20000 in
set_option maxHeartbeats 2000000 in
theorem loop127_0 (E : Env) (lo : Nat) (σ : St) (hlo : lo ≤ σ.length) (Fd : List Int) (hFd : Fd.length ≤ 1000000) (o0 o1 o2 o3 o5 o6 o7 o8 o10 o11 o12 o15 o16 : Option Ob) (c0 c1 c2 c3 c4 c5 c6 c7 c8 : C) (hlo4 : lo ≤ σ.length + 4) : ∀ (qs : List (Int × Int × Int × Int)) (pre : List Int) (w : List ByteArray) (acc : List Fl) (tk : Ob), w.length ≤ 1000000 → Fd = pre ++ q4 qs → acc.length ≤ pre.length → (tk = .tok 100 4 acc.length ∨ (tk = .ntok 100 4 ∧ acc.length = 0)) →
    match tkF qs w with
    | some r => ∃ tk', EvL E lo [false, true, false, false, true, true, true, false, false, false, false, false, false, false, false, false, true, false, false, false, true] [false, true, false, false, true, true, true] (σ.length + 17) l127_0 (U :: .d (.sl 1 (sR w)) :: U :: U :: .ref (σ.length + 4) 0 :: .ref (σ.length + 9) 0 :: .ref (σ.length + 14) 0 :: U :: U :: U :: U :: U :: U :: U :: U :: U :: .d (.sl 1 (iR Fd)) :: U :: U :: U :: .d (.int .i64 (pre.length : Nat)) :: U :: U :: U :: U :: U :: U :: U :: U :: U :: U :: U :: U :: U :: U :: U :: U :: U :: U :: U :: U :: U :: U :: U :: U :: U :: U :: U :: U :: U :: U :: U :: U :: U :: U :: U :: U :: U :: U :: U :: U :: U :: U :: U :: U :: U :: U :: U :: U :: U :: U :: U :: U :: U :: U :: U :: U :: U :: U :: U :: U :: U :: U :: U :: U :: U :: U :: U :: U :: U :: U :: U :: U :: U :: U :: U :: U :: U :: U :: U :: U :: U :: U :: U :: U :: U :: U :: U :: U :: U :: U :: U :: U :: U :: U :: U :: U :: U :: U :: U :: U :: U :: U :: U :: U :: U :: U :: U :: U :: U :: U :: U :: U :: U :: U :: U :: U :: U :: U :: U :: U :: U :: U :: U :: U :: U :: U :: U :: U :: U :: U :: U :: U :: U :: U :: U :: U :: U :: U :: U :: U :: U :: U :: U :: U :: U :: U :: U :: U :: U :: U :: U :: U :: U :: []) (σ ++ [o0, o1, o2, o3, some (.box 42 [.d (.int .i64 0), .o 1 [] σ.length, .o 1 [] (σ.length + 1), .o 2 [] (σ.length + 2), .d (.int .i64 0), .d (.int .i64 0), .d (.int .i64 0), .d (.int .i64 0), .d (.int .i64 0), .o 4 [] (σ.length + 3), .d (.int .i64 0)]), o5, o6, o7, o8, some (.box 42 [.d (.int .i64 0), .o 1 [] (σ.length + 5), .o 1 [] (σ.length + 6), .o 2 [] (σ.length + 7), .d (.int .i64 0), .d (.int .i64 0), .d (.int .i64 0), .d (.int .i64 0), .d (.int .i64 0), .o 4 [] (σ.length + 8), .d (.int .i64 11)]), o10, o11, o12, some tk, some (.box 33 [c0, c1, c2, c3, c4, c5, c6, c7, c8, .o 4 (flR acc) (σ.length + 13)]), o15, o16]) =
      some (.exit 2, (U :: .d (.sl 1 (sR r.2)) :: U :: U :: .ref (σ.length + 4) 0 :: .ref (σ.length + 9) 0 :: .ref (σ.length + 14) 0 :: U :: U :: U :: U :: U :: U :: U :: U :: U :: U :: U :: U :: U :: U :: U :: U :: U :: U :: U :: U :: U :: U :: U :: U :: U :: U :: U :: U :: U :: U :: U :: U :: U :: U :: U :: U :: U :: U :: U :: U :: U :: U :: U :: U :: U :: U :: U :: U :: U :: U :: U :: U :: U :: U :: U :: U :: U :: U :: U :: U :: U :: U :: U :: U :: U :: U :: U :: U :: U :: U :: U :: U :: U :: U :: U :: U :: U :: U :: U :: U :: U :: U :: U :: U :: U :: U :: U :: U :: U :: U :: U :: U :: U :: U :: U :: U :: U :: U :: U :: U :: U :: U :: U :: U :: U :: U :: U :: U :: U :: U :: U :: U :: U :: U :: U :: U :: U :: U :: U :: U :: U :: U :: U :: U :: U :: U :: U :: U :: U :: U :: U :: U :: U :: U :: U :: U :: U :: U :: U :: U :: U :: U :: U :: U :: U :: U :: U :: U :: U :: U :: U :: U :: U :: U :: U :: U :: U :: U :: U :: U :: U :: U :: U :: U :: U :: U :: U :: []), (σ ++ [o0, o1, o2, o3, some (.box 42 [.d (.int .i64 0), .o 1 [] σ.length, .o 1 [] (σ.length + 1), .o 2 [] (σ.length + 2), .d (.int .i64 0), .d (.int .i64 0), .d (.int .i64 0), .d (.int .i64 0), .d (.int .i64 0), .o 4 [] (σ.length + 3), .d (.int .i64 0)]), o5, o6, o7, o8, some (.box 42 [.d (.int .i64 0), .o 1 [] (σ.length + 5), .o 1 [] (σ.length + 6), .o 2 [] (σ.length + 7), .d (.int .i64 0), .d (.int .i64 0), .d (.int .i64 0), .d (.int .i64 0), .d (.int .i64 0), .o 4 [] (σ.length + 8), .d (.int .i64 11)]), o10, o11, o12, some tk', some (.box 33 [c0, c1, c2, c3, c4, c5, c6, c7, c8, .o 4 (flR (acc ++ r.1)) (σ.length + 13)]), o15, o16]))
    | none => ∃ tk' w' acc', EvL E lo [false, true, false, false, true, true, true, false, false, false, false, false, false, false, false, false, true, false, false, false, true] [false, true, false, false, true, true, true] (σ.length + 17) l127_0 (U :: .d (.sl 1 (sR w)) :: U :: U :: .ref (σ.length + 4) 0 :: .ref (σ.length + 9) 0 :: .ref (σ.length + 14) 0 :: U :: U :: U :: U :: U :: U :: U :: U :: U :: .d (.sl 1 (iR Fd)) :: U :: U :: U :: .d (.int .i64 (pre.length : Nat)) :: U :: U :: U :: U :: U :: U :: U :: U :: U :: U :: U :: U :: U :: U :: U :: U :: U :: U :: U :: U :: U :: U :: U :: U :: U :: U :: U :: U :: U :: U :: U :: U :: U :: U :: U :: U :: U :: U :: U :: U :: U :: U :: U :: U :: U :: U :: U :: U :: U :: U :: U :: U :: U :: U :: U :: U :: U :: U :: U :: U :: U :: U :: U :: U :: U :: U :: U :: U :: U :: U :: U :: U :: U :: U :: U :: U :: U :: U :: U :: U :: U :: U :: U :: U :: U :: U :: U :: U :: U :: U :: U :: U :: U :: U :: U :: U :: U :: U :: U :: U :: U :: U :: U :: U :: U :: U :: U :: U :: U :: U :: U :: U :: U :: U :: U :: U :: U :: U :: U :: U :: U :: U :: U :: U :: U :: U :: U :: U :: U :: U :: U :: U :: U :: U :: U :: U :: U :: U :: U :: U :: U :: U :: U :: U :: U :: U :: U :: U :: U :: U :: U :: U :: U :: []) (σ ++ [o0, o1, o2, o3, some (.box 42 [.d (.int .i64 0), .o 1 [] σ.length, .o 1 [] (σ.length + 1), .o 2 [] (σ.length + 2), .d (.int .i64 0), .d (.int .i64 0), .d (.int .i64 0), .d (.int .i64 0), .d (.int .i64 0), .o 4 [] (σ.length + 3), .d (.int .i64 0)]), o5, o6, o7, o8, some (.box 42 [.d (.int .i64 0), .o 1 [] (σ.length + 5), .o 1 [] (σ.length + 6), .o 2 [] (σ.length + 7), .d (.int .i64 0), .d (.int .i64 0), .d (.int .i64 0), .d (.int .i64 0), .d (.int .i64 0), .o 4 [] (σ.length + 8), .d (.int .i64 11)]), o10, o11, o12, some tk, some (.box 33 [c0, c1, c2, c3, c4, c5, c6, c7, c8, .o 4 (flR acc) (σ.length + 13)]), o15, o16]) =
      some (.ret, (U :: .d (.sl 1 (sR w')) :: U :: U :: .ref (σ.length + 4) 0 :: .ref (σ.length + 9) 0 :: .ref (σ.length + 14) 0 :: U :: U :: U :: U :: U :: U :: U :: U :: U :: U :: U :: U :: U :: U :: U :: U :: U :: U :: U :: U :: U :: U :: U :: U :: U :: U :: U :: U :: U :: U :: U :: U :: U :: U :: U :: U :: U :: U :: U :: U :: U :: U :: U :: U :: U :: U :: U :: U :: U :: U :: U :: U :: U :: U :: U :: U :: U :: U :: U :: U :: U :: U :: U :: U :: U :: U :: U :: U :: U :: U :: U :: U :: U :: U :: U :: U :: U :: U :: U :: U :: U :: U :: U :: U :: U :: U :: U :: U :: U :: U :: U :: U :: U :: U :: U :: U :: U :: U :: U :: U :: U :: U :: U :: U :: U :: U :: U :: U :: U :: U :: U :: U :: U :: U :: U :: U :: U :: U :: U :: U :: U :: U :: U :: U :: U :: U :: U :: U :: U :: U :: U :: U :: U :: U :: U :: U :: U :: U :: U :: U :: U :: U :: U :: U :: U :: U :: U :: U :: U :: U :: U :: U :: U :: U :: U :: U :: U :: U :: U :: U :: U :: U :: U :: U :: U :: U :: U :: []), (σ ++ [o0, o1, o2, o3, some (.box 42 [.d (.int .i64 0), .d (.sl 1 []), .d (.sl 1 []), .d (.sl 2 []), .d (.int .i64 0), .d (.int .i64 0), .d (.int .i64 0), .d (.int .i64 0), .d (.int .i64 0), .d (.sl 4 []), .d (.int .i64 11)]), o5, o6, o7, o8, some (.box 42 [.d (.int .i64 0), .o 1 [] (σ.length + 5), .o 1 [] (σ.length + 6), .o 2 [] (σ.length + 7), .d (.int .i64 0), .d (.int .i64 0), .d (.int .i64 0), .d (.int .i64 0), .d (.int .i64 0), .o 4 [] (σ.length + 8), .d (.int .i64 11)]), o10, o11, o12, some tk', some (.box 33 [c0, c1, c2, c3, c4, c5, c6, c7, c8, .o 4 (flR acc') (σ.length + 13)]), o15, o16])) := by
  intro qs
  induction qs with
  | nil =>
    intro pre w acc tk hwl h ha htk
    refine ⟨tk, ?_⟩
    have hl : Fd.length = pre.length := by rw [h]; simp [q4]
    rw [EvL_eq]
    simp (disch := omega) only [evs, evR, ev1, evOp, evO, setT, binC, binInt, unC, ↓reduceIte, keepT, C.one, toDss, toDs, toD, Nat.reduceAdd, Nat.reduceLT, Nat.reduceLeDiff, Int.reduceLT, Int.reduceLE, Nat.reduceEqDiff, endE, finE, resC, retC, finC, cutA, cut1, C.ltL, C.ltLL, tokOf, aggOf, Int.reduceEq, Nat.reduceBEq, stab, evW, l127_0, a127_r17, iR_len]
  | cons q qs ih =>
    intro pre w acc tk hwl h ha htk
    obtain ⟨x, y, z, k⟩ := q
    have hq : q4 ((x, y, z, k) :: qs) = x :: y :: z :: k :: q4 qs := by simp [q4]
    rw [hq] at h
    have hl : Fd.length = pre.length + ((q4 qs).length + 4) := by rw [h]; simp
    have g1 := iR_get pre x (y :: z :: k :: q4 qs) pre.length rfl
    have g2 := iR_get (pre ++ [x]) y (z :: k :: q4 qs) (pre.length + 1) (by simp)
    have g3 := iR_get (pre ++ [x, y]) z (k :: q4 qs) (pre.length + 2) (by simp)
    have g4 := iR_get (pre ++ [x, y, z]) k (q4 qs) (pre.length + 3) (by simp)
    rw [show pre ++ [x] ++ y :: z :: k :: q4 qs = Fd from by rw [h]; simp] at g2
    rw [show pre ++ [x, y] ++ z :: k :: q4 qs = Fd from by rw [h]; simp] at g3
    rw [show pre ++ [x, y, z] ++ k :: q4 qs = Fd from by rw [h]; simp] at g4
    rw [← h] at g1
    have w1 : IntKind.i64.wrap ((pre.length : Int) + 1) = ((pre.length + 1 : Nat) : Int) := by rw [IntKind.wrap_i64]; omega
    have w2 : IntKind.i64.wrap ((pre.length : Int) + 2) = ((pre.length + 2 : Nat) : Int) := by rw [IntKind.wrap_i64]; omega
    have w3 : IntKind.i64.wrap ((pre.length : Int) + 3) = ((pre.length + 3 : Nat) : Int) := by rw [IntKind.wrap_i64]; omega
    have w4 : IntKind.i64.wrap ((pre.length : Int) + 4) = ((pre.length + 4 : Nat) : Int) := by rw [IntKind.wrap_i64]; omega
    by_cases hk : k < 0 ∨ (w.length : Int) < k
    · rw [show tkF ((x, y, z, k) :: qs) w = none from by rw [tkF, if_pos hk]]
      refine ⟨tk, w, acc, ?_⟩
      rw [EvL_eq]
      rcases Int.lt_or_le k 0 with hk0 | hk0
      · simp (disch := omega) only [evs, evR, ev1, evOp, evO, setT, binC, binInt, unC, ↓reduceIte, keepT, C.one, toDss, toDs, toD, Nat.reduceAdd, Nat.reduceLT, Nat.reduceLeDiff, Int.reduceLT, Int.reduceLE, Nat.reduceEqDiff, endE, finE, resC, retC, finC, cutA, cut1, C.ltL, C.ltLL, tokOf, aggOf, Int.reduceEq, Nat.reduceBEq, stab, evW, l127_0, a127_r17, a127_r18, a127_r19, a127_r20, iR_len, sR_len, g4, w3, gdec]
      · have hk1 : (w.length : Int) < k := by omega
        simp (disch := omega) only [evs, evR, ev1, evOp, evO, setT, binC, binInt, unC, ↓reduceIte, keepT, C.one, toDss, toDs, toD, Nat.reduceAdd, Nat.reduceLT, Nat.reduceLeDiff, Int.reduceLT, Int.reduceLE, Nat.reduceEqDiff, endE, finE, resC, retC, finC, cutA, cut1, C.ltL, C.ltLL, tokOf, aggOf, Int.reduceEq, Nat.reduceBEq, stab, evW, l127_0, a127_r17, a127_r18, a127_r19, a127_r20, iR_len, sR_len, g4, w3, gdec]
    · obtain ⟨c, hc⟩ : ∃ c : Nat, k = (c : Int) := ⟨k.toNat, by omega⟩
      subst hc
      have hcw : c ≤ w.length := by omega
      have e : tkF ((x, y, z, (c : Int)) :: qs) w = (tkF qs (w.drop c)).map fun r => (⟨x, y, z, w.take c⟩ :: r.1, r.2) := by rw [tkF, if_neg hk]; simp only [Int.toNat_natCast]
      rw [e]
      have ih := ih (pre ++ [x, y, z, (c : Int)]) (w.drop c) (acc ++ [⟨x, y, z, w.take c⟩]) (.tok 100 4 (acc.length + 1)) (by rw [List.length_drop]; omega) (by rw [h]; simp) (by simp; omega) (.inl (by simp))
      have hacc : flR acc ++ [[.int .i64 x, .int .i64 y, .int .i64 z, .sl 1 (sR (w.take c))]] = flR (acc ++ [⟨x, y, z, w.take c⟩]) := by simp [flR]
      have ht1 := sR_take w c
      have ht2 := sR_from w c
      have hsl : (sR (w.take c)).length = c := by rw [sR_len, List.length_take]; omega
      simp only [List.length_append, List.length_cons, List.length_nil, Nat.zero_add, Nat.reduceAdd] at ih
      rw [EvL_eq]
      generalize hL : EvL E lo _ _ _ _ = L at ih ⊢
      cases hr : tkF qs (w.drop c) with
      | none =>
        rw [hr] at ih
        obtain ⟨tk', w', acc', ih⟩ := ih
        refine ⟨tk', w', acc', ?_⟩
        rcases htk with rfl | ⟨rfl, h0⟩
        · simp (disch := omega) only [evs, evR, ev1, evOp, evO, setT, binC, binInt, unC, ↓reduceIte, keepT, C.one, toDss, toDs, toD, Nat.reduceAdd, Nat.reduceLT, Nat.reduceLeDiff, Int.reduceLT, Int.reduceLE, Nat.reduceEqDiff, endE, finE, resC, retC, finC, cutA, cut1, C.ltL, C.ltLL, tokOf, aggOf, Int.reduceEq, Nat.reduceBEq, stab, evW, l127_0, a127_r17, a127_r18, a127_r19, a127_d21, a127_r22, a127_r23, iR_len, sR_len, hsl, g1, g2, g3, g4, w1, w2, w3, w4, gdec, boundN, ht1, ht2, flR_len, hacc, fillC]
          rw [ih]
        · simp (disch := omega) only [evs, evR, ev1, evOp, evO, setT, binC, binInt, unC, ↓reduceIte, keepT, C.one, toDss, toDs, toD, Nat.reduceAdd, Nat.reduceLT, Nat.reduceLeDiff, Int.reduceLT, Int.reduceLE, Nat.reduceEqDiff, endE, finE, resC, retC, finC, cutA, cut1, C.ltL, C.ltLL, tokOf, aggOf, Int.reduceEq, Nat.reduceBEq, stab, evW, l127_0, a127_r17, a127_r18, a127_r19, a127_d21, a127_r22, a127_r23, iR_len, sR_len, hsl, g1, g2, g3, g4, w1, w2, w3, w4, gdec, boundN, ht1, ht2, flR_len, hacc, fillC]
          rw [ih]
      | some r =>
        rw [hr] at ih
        obtain ⟨tk', ih⟩ := ih
        refine ⟨tk', ?_⟩
        rcases htk with rfl | ⟨rfl, h0⟩
        · simp (disch := omega) only [evs, evR, ev1, evOp, evO, setT, binC, binInt, unC, ↓reduceIte, keepT, C.one, toDss, toDs, toD, Nat.reduceAdd, Nat.reduceLT, Nat.reduceLeDiff, Int.reduceLT, Int.reduceLE, Nat.reduceEqDiff, endE, finE, resC, retC, finC, cutA, cut1, C.ltL, C.ltLL, tokOf, aggOf, Int.reduceEq, Nat.reduceBEq, stab, evW, l127_0, a127_r17, a127_r18, a127_r19, a127_d21, a127_r22, a127_r23, iR_len, sR_len, hsl, g1, g2, g3, g4, w1, w2, w3, w4, gdec, boundN, ht1, ht2, flR_len, hacc, fillC]
          rw [ih]
          simp
        · simp (disch := omega) only [evs, evR, ev1, evOp, evO, setT, binC, binInt, unC, ↓reduceIte, keepT, C.one, toDss, toDs, toD, Nat.reduceAdd, Nat.reduceLT, Nat.reduceLeDiff, Int.reduceLT, Int.reduceLE, Nat.reduceEqDiff, endE, finE, resC, retC, finC, cutA, cut1, C.ltL, C.ltLL, tokOf, aggOf, Int.reduceEq, Nat.reduceBEq, stab, evW, l127_0, a127_r17, a127_r18, a127_r19, a127_d21, a127_r22, a127_r23, iR_len, sR_len, hsl, g1, g2, g3, g4, w1, w2, w3, w4, gdec, boundN, ht1, ht2, flR_len, hacc, fillC]
          rw [ih]
          simp
end Go.Proofs.YtbecgpajbcafiaaGreat

set_option linter.unusedVariables false
set_option linter.unusedSimpArgs false
namespace Go.Proofs.YtbecgpajbcafiaaGreat
open Go.Av Go.RowKit

def pairs : List Int → List (Int × Int)
  | a :: b :: l => (a, b) :: pairs l
  | _ => []
def quads : List Int → List (Int × Int × Int × Int)
  | a :: b :: c :: d :: l => (a, b, c, d) :: quads l
  | _ => []
theorem pairs_sh : ∀ ps : List (Int × Int), pairs (shN ps) = ps
  | [] => rfl
  | p :: ps => by
    have : shN (p :: ps) = p.1 :: p.2 :: shN ps := by simp [shN]
    rw [this, pairs, pairs_sh ps]
theorem quads_q4 : ∀ qs : List (Int × Int × Int × Int), quads (q4 qs) = qs
  | [] => rfl
  | p :: ps => by
    have : q4 (p :: ps) = p.1 :: p.2.1 :: p.2.2.1 :: p.2.2.2 :: q4 ps := by simp [q4]
    rw [this, quads, quads_q4 ps]
theorem sh_of : ∀ (k : Nat) (l : List Int), l.length = 2 * k → ∃ ps, l = shN ps
  | 0, l, h => ⟨[], (List.length_eq_zero_iff.1 (by omega) : l = [])⟩
  | k + 1, a :: b :: l, h => by
    obtain ⟨ps, hp⟩ := sh_of k l (by simp only [List.length_cons] at h; omega)
    exact ⟨(a, b) :: ps, by rw [hp]; simp [shN]⟩
  | k + 1, [a], h => by simp at h; omega
  | k + 1, [], h => by simp at h
theorem q4_of : ∀ (k : Nat) (l : List Int), l.length = 4 * k → ∃ qs, l = q4 qs
  | 0, l, h => ⟨[], (List.length_eq_zero_iff.1 (by omega) : l = [])⟩
  | k + 1, a :: b :: c :: d :: l, h => by
    obtain ⟨ps, hp⟩ := q4_of k l (by simp only [List.length_cons] at h; omega)
    exact ⟨(a, b, c, d) :: ps, by rw [hp]; simp [q4]⟩
  | k + 1, [a, b, c], h => by simp at h; omega
  | k + 1, [a, b], h => by simp at h; omega
  | k + 1, [a], h => by simp at h; omega
  | k + 1, [], h => by simp at h
theorem ctA_len (n : List Int) (t : Nat) : ∃ k : Nat, (ctA n t).length = t * k := by
  unfold ctA
  split
  · rename_i h
    refine ⟨(n.headD 0).toNat, ?_⟩
    simp only [ctO, Bool.and_eq_true, decide_eq_true_eq] at h
    obtain ⟨_, h1, _, h3⟩ := h
    obtain ⟨m, hm⟩ : ∃ m : Nat, n.headD 0 = (m : Int) := ⟨(n.headD 0).toNat, by omega⟩
    rw [hm] at h3 ⊢
    rw [← Int.natCast_mul] at h3 ⊢
    rw [List.length_take, Int.toNat_natCast, Int.toNat_natCast, Nat.mul_comm t]
    omega
  · exact ⟨0, by simp⟩
theorem ctB_len (n : List Int) (t : Int) : (ctB n t).length ≤ n.length := by
  unfold ctB
  split
  · rw [List.length_drop, List.length_tail]; omega
  · simp
theorem ctA_le (n : List Int) (t : Int) : (ctA n t).length ≤ n.length := by
  unfold ctA
  split
  · rw [List.length_take, List.length_tail]; omega
  · simp

/-- The reference's: the summary of numbers and words. -/
def bldR (n : List Int) (w : List ByteArray) : Nat × Zs :=
  if n.length < 6 then (11, z0s) else
  if (ctO (n.drop 6) 1 && ctO (ctB (n.drop 6) 1) 1 && ctO (ctB (ctB (n.drop 6) 1) 1) 2 && ctO (ctB (ctB (ctB (n.drop 6) 1) 1) 2) 4 && (ctB (ctB (ctB (ctB (n.drop 6) 1) 1) 2) 4).isEmpty) = true then
    match tkF (quads (ctA (ctB (ctB (ctB (n.drop 6) 1) 1) 2) 4)) w with
    | some (fs, []) => (0, ⟨n.getD 0 0, ctA (n.drop 6) 1, ctA (ctB (n.drop 6) 1) 1, pairs (ctA (ctB (ctB (n.drop 6) 1) 1) 2), n.getD 1 0, n.getD 2 0, n.getD 3 0, n.getD 4 0, n.getD 5 0, fs⟩)
    | _ => (11, z0s)
  else (11, z0s)
abbrev mC (r : Nat × Zs) : List C := [.d (.int .i64 r.2.count), .d (.sl 1 (iR r.2.lo)), .d (.sl 1 (iR r.2.hi)), .d (.sl 2 (shR r.2.shells)), .d (.int .i64 r.2.flo), .d (.int .i64 r.2.fhi), .d (.int .i64 r.2.thi), .d (.int .i64 r.2.blo), .d (.int .i64 r.2.bhi), .d (.sl 4 (flR r.2.fields)), .d (.int .i64 (r.1 : Nat))]

set_option maxRecDepth 20000 in
set_option maxHeartbeats 2000000 in
theorem c127 (E : Env) (h127 : E.tbl 127 = some e127) (h254 : E.tbl 254 = some e254) (h210 : E.tbl 210 = some e210) (lo : Nat) (σ : St) (hlo : lo ≤ σ.length) (n : List Int) (w : List ByteArray) (hnl : n.length ≤ 1000000) (hwl : w.length ≤ 1000000) :
    EvF E lo (.fn 127) [.d (.sl 1 (iR n)), .d (.sl 1 (sR w))] σ = some (.agg (mC (bldR n w)), σ) := by
  rw [EvF_fn h127]
  simp only [e127, List.replicate_succ, List.replicate_zero]
  unfold bldR
  by_cases h6 : n.length < 6
  · rw [if_pos h6]
    simp (disch := omega) only [evs, evR, ev1, evOp, evO, setT, binC, binInt, unC, ↓reduceIte, keepT, C.one, toDss, toDs, toD, Nat.reduceAdd, Nat.reduceLT, Nat.reduceLeDiff, Int.reduceLT, Int.reduceLE, Nat.reduceEqDiff, endE, finE, resC, retC, finC, cutA, cut1, C.ltL, C.ltLL, tokOf, aggOf, Int.reduceEq, Nat.reduceBEq, stab, evW, Nat.reduceSub, List.replicate_succ, List.replicate_zero, a127_r0, a127_r1, a127_r2, a127_r3, a127_r5, a127_r6, a127_r7, a127_r8, a127_r9, a127_r10, a127_r11, a127_r12, a127_r16, a127_r24, a127_r25, a127_r26, a127_d4, iR_len, fillC]
    rfl
  · rw [if_neg h6]
    obtain ⟨x0, x1, x2, x3, x4, x5, r, hn⟩ : ∃ x0 x1 x2 x3 x4 x5 r, n = x0 :: x1 :: x2 :: x3 :: x4 :: x5 :: r := by
      match n, h6 with
      | x0 :: x1 :: x2 :: x3 :: x4 :: x5 :: r, _ => exact ⟨x0, x1, x2, x3, x4, x5, r, rfl⟩
      | [], h | [_], h | [_, _], h | [_, _, _], h | [_, _, _, _], h | [_, _, _, _, _], h => exact absurd (by simp) h
    have hN : n.length = r.length + 6 := by rw [hn]; rfl
    have hiN : (iR n).length = n.length := iR_len n
    have g0 : (iR n).getD (0 : Int).toNat [] = [.int .i64 x0] := by rw [hn]; rfl
    have g1 : (iR n).getD (1 : Int).toNat [] = [.int .i64 x1] := by rw [hn]; rfl
    have g2 : (iR n).getD (2 : Int).toNat [] = [.int .i64 x2] := by rw [hn]; rfl
    have g3 : (iR n).getD (3 : Int).toNat [] = [.int .i64 x3] := by rw [hn]; rfl
    have g4 : (iR n).getD (4 : Int).toNat [] = [.int .i64 x4] := by rw [hn]; rfl
    have g5 : (iR n).getD (5 : Int).toNat [] = [.int .i64 x5] := by rw [hn]; rfl
    have hf : List.take (((r.length + 6 : Nat) : Int).toNat - (6 : Int).toNat) (List.drop (6 : Int).toNat (iR n)) = iR r := by
      rw [← hN]
      have := iR_from n 6
      rw [show n.drop 6 = r from by rw [hn]; rfl] at this
      exact this
    have hd : n.drop 6 = r := by rw [hn]; rfl
    have y0 : n.getD 0 0 = x0 := by rw [hn]; rfl
    have y1 : n.getD 1 0 = x1 := by rw [hn]; rfl
    have y2 : n.getD 2 0 = x2 := by rw [hn]; rfl
    have y3 : n.getD 3 0 = x3 := by rw [hn]; rfl
    have y4 : n.getD 4 0 = x4 := by rw [hn]; rfl
    have y5 : n.getD 5 0 = x5 := by rw [hn]; rfl
    rw [hd, y0, y1, y2, y3, y4, y5]
    clear y0 y1 y2 y3 y4 y5 hd hn
    have b1 := ctB_len r 1
    have b2 := ctB_len (ctB r 1) 1
    have b3 := ctB_len (ctB (ctB r 1) 1) 2
    have b4 := ctB_len (ctB (ctB (ctB r 1) 1) 2) 4
    have a1 := ctA_le r 1
    have a2 := ctA_le (ctB r 1) 1
    have a3 := ctA_le (ctB (ctB r 1) 1) 2
    have a4 := ctA_le (ctB (ctB (ctB r 1) 1) 2) 4
    have c1 : ∀ τ : St, lo ≤ τ.length → EvF E lo (.fn 210) [.d (.sl 1 (iR r)), .d (.int .i64 1)] τ = _ := fun τ h => c210 E h254 h210 lo τ h r 1 (by omega) (by omega)
    have c2 : ∀ τ : St, lo ≤ τ.length → EvF E lo (.fn 210) [.d (.sl 1 (iR (ctB r 1))), .d (.int .i64 1)] τ = _ := fun τ h => c210 E h254 h210 lo τ h (ctB r 1) 1 (by omega) (by omega)
    have c3 : ∀ τ : St, lo ≤ τ.length → EvF E lo (.fn 210) [.d (.sl 1 (iR (ctB (ctB r 1) 1))), .d (.int .i64 2)] τ = _ := fun τ h => c210 E h254 h210 lo τ h (ctB (ctB r 1) 1) 2 (by omega) (by omega)
    have c4 : ∀ τ : St, lo ≤ τ.length → EvF E lo (.fn 210) [.d (.sl 1 (iR (ctB (ctB (ctB r 1) 1) 2))), .d (.int .i64 4)] τ = _ := fun τ h => c210 E h254 h210 lo τ h (ctB (ctB (ctB r 1) 1) 2) 4 (by omega) (by omega)
    obtain ⟨k3, hk3⟩ := ctA_len (ctB (ctB r 1) 1) 2
    obtain ⟨ps, hps⟩ := sh_of k3 _ hk3
    obtain ⟨k4, hk4⟩ := ctA_len (ctB (ctB (ctB r 1) 1) 2) 4
    obtain ⟨qs, hqs⟩ := q4_of k4 _ hk4
    have hps : ctA (ctB (ctB r 1) 1) 2 = shN ps := hps
    have hqs : ctA (ctB (ctB (ctB r 1) 1) 2) 4 = q4 qs := hqs
    rw [hps] at a3 c3 ⊢
    rw [hqs] at a4 c4 ⊢
    rw [pairs_sh, quads_q4]
    generalize ctA r 1 = A1 at *
    generalize ctA (ctB r 1) 1 = A2 at *
    generalize ctO (ctB (ctB (ctB r 1) 1) 2) 4 = O4 at *
    generalize ctB (ctB (ctB (ctB r 1) 1) 2) 4 = B4 at *
    generalize ctO (ctB (ctB r 1) 1) 2 = O3 at *
    generalize ctB (ctB (ctB r 1) 1) 2 = B3 at *
    generalize ctO (ctB r 1) 1 = O2 at *
    generalize ctB (ctB r 1) 1 = B2 at *
    generalize ctO r 1 = O1 at *
    generalize ctB r 1 = B1 at *
    have hrl : r.length ≤ 1000000 := by omega
    clear hk3 hk4 hps hqs h6 hnl
    cases O1 with
    | false =>
      rw [if_neg (by simp)]
      simp (disch := first | omega | (simp only [st_len, List.length_cons, List.length_nil]; omega)) only [evs, evR, ev1, evOp, evO, setT, binC, binInt, unC, ↓reduceIte, keepT, C.one, toDss, toDs, toD, Nat.reduceAdd, Nat.reduceLT, Nat.reduceLeDiff, Int.reduceLT, Int.reduceLE, Nat.reduceEqDiff, endE, finE, resC, retC, finC, cutA, cut1, C.ltL, C.ltLL, tokOf, aggOf, Int.reduceEq, Nat.reduceBEq, stab, evW, Nat.reduceSub, List.replicate_succ, List.replicate_zero, a127_r0, a127_r1, a127_r2, a127_r3, a127_r5, a127_r6, a127_r7, a127_r8, a127_r9, a127_r10, a127_r11, a127_r12, a127_r16, a127_r24, a127_r25, a127_r26, a127_d4, hiN, hN, g0, g1, g2, g3, g4, g5, hf, boundN, gdec, c1, c2, c3, c4, iR_len, sR_len, fillC]
      rfl
    | true =>
      cases O2 with
      | false =>
        rw [if_neg (by simp)]
        simp (disch := first | omega | (simp only [st_len, List.length_cons, List.length_nil]; omega)) only [evs, evR, ev1, evOp, evO, setT, binC, binInt, unC, ↓reduceIte, keepT, C.one, toDss, toDs, toD, Nat.reduceAdd, Nat.reduceLT, Nat.reduceLeDiff, Int.reduceLT, Int.reduceLE, Nat.reduceEqDiff, endE, finE, resC, retC, finC, cutA, cut1, C.ltL, C.ltLL, tokOf, aggOf, Int.reduceEq, Nat.reduceBEq, stab, evW, Nat.reduceSub, List.replicate_succ, List.replicate_zero, a127_r0, a127_r1, a127_r2, a127_r3, a127_r5, a127_r6, a127_r7, a127_r8, a127_r9, a127_r10, a127_r11, a127_r12, a127_r16, a127_r24, a127_r25, a127_r26, a127_d4, hiN, hN, g0, g1, g2, g3, g4, g5, hf, boundN, gdec, c1, c2, c3, c4, iR_len, sR_len, fillC]
        rfl
      | true =>
        cases O3 with
        | false =>
          rw [if_neg (by simp)]
          simp (disch := first | omega | (simp only [st_len, List.length_cons, List.length_nil]; omega)) only [evs, evR, ev1, evOp, evO, setT, binC, binInt, unC, ↓reduceIte, keepT, C.one, toDss, toDs, toD, Nat.reduceAdd, Nat.reduceLT, Nat.reduceLeDiff, Int.reduceLT, Int.reduceLE, Nat.reduceEqDiff, endE, finE, resC, retC, finC, cutA, cut1, C.ltL, C.ltLL, tokOf, aggOf, Int.reduceEq, Nat.reduceBEq, stab, evW, Nat.reduceSub, List.replicate_succ, List.replicate_zero, a127_r0, a127_r1, a127_r2, a127_r3, a127_r5, a127_r6, a127_r7, a127_r8, a127_r9, a127_r10, a127_r11, a127_r12, a127_r16, a127_r24, a127_r25, a127_r26, a127_d4, hiN, hN, g0, g1, g2, g3, g4, g5, hf, boundN, gdec, c1, c2, c3, c4, iR_len, sR_len, fillC]
          rfl
        | true =>
          cases O4 with
          | false =>
            rw [if_neg (by simp)]
            simp (disch := first | omega | (simp only [st_len, List.length_cons, List.length_nil]; omega)) only [evs, evR, ev1, evOp, evO, setT, binC, binInt, unC, ↓reduceIte, keepT, C.one, toDss, toDs, toD, Nat.reduceAdd, Nat.reduceLT, Nat.reduceLeDiff, Int.reduceLT, Int.reduceLE, Nat.reduceEqDiff, endE, finE, resC, retC, finC, cutA, cut1, C.ltL, C.ltLL, tokOf, aggOf, Int.reduceEq, Nat.reduceBEq, stab, evW, Nat.reduceSub, List.replicate_succ, List.replicate_zero, a127_r0, a127_r1, a127_r2, a127_r3, a127_r5, a127_r6, a127_r7, a127_r8, a127_r9, a127_r10, a127_r11, a127_r12, a127_r16, a127_r24, a127_r25, a127_r26, a127_d4, hiN, hN, g0, g1, g2, g3, g4, g5, hf, boundN, gdec, c1, c2, c3, c4, iR_len, sR_len, fillC]
            rfl
          | true =>
            cases B4 with
            | cons y B4 =>
              rw [if_neg (by simp)]
              simp (disch := first | omega | (simp only [st_len, List.length_cons, List.length_nil]; omega)) only [evs, evR, ev1, evOp, evO, setT, binC, binInt, unC, ↓reduceIte, keepT, C.one, toDss, toDs, toD, Nat.reduceAdd, Nat.reduceLT, Nat.reduceLeDiff, Int.reduceLT, Int.reduceLE, Nat.reduceEqDiff, endE, finE, resC, retC, finC, cutA, cut1, C.ltL, C.ltLL, tokOf, aggOf, Int.reduceEq, Nat.reduceBEq, stab, evW, Nat.reduceSub, List.replicate_succ, List.replicate_zero, a127_r0, a127_r1, a127_r2, a127_r3, a127_r5, a127_r6, a127_r7, a127_r8, a127_r9, a127_r10, a127_r11, a127_r12, a127_r16, a127_r24, a127_r25, a127_r26, a127_d4, hiN, hN, g0, g1, g2, g3, g4, g5, hf, boundN, gdec, c1, c2, c3, c4, iR_len, sR_len, fillC]
              rfl
            | nil =>
              rw [if_pos (by simp)]
              obtain ⟨tk1, e1⟩ := loop127_1 E lo σ hlo w (shN ps) (q4 qs) (by omega) (some (.ntok 3 1)) (some (.ntok 3 1)) (some (.ntok 119 2)) (some (.ntok 100 4)) (some (.box 42 [.d (.int .i64 0), .o 1 [] σ.length, .o 1 [] (σ.length + 1), .o 2 [] (σ.length + 2), .d (.int .i64 0), .d (.int .i64 0), .d (.int .i64 0), .d (.int .i64 0), .d (.int .i64 0), .o 4 [] (σ.length + 3), .d (.int .i64 0)])) (some (.ntok 3 1)) (some (.ntok 3 1)) (some (.ntok 119 2)) (some (.ntok 100 4)) (some (.box 42 [.d (.int .i64 0), .o 1 [] (σ.length + 5), .o 1 [] (σ.length + 6), .o 2 [] (σ.length + 7), .d (.int .i64 0), .d (.int .i64 0), .d (.int .i64 0), .d (.int .i64 0), .d (.int .i64 0), .o 4 [] (σ.length + 8), .d (.int .i64 11)])) (some (.ntok 3 1)) (some (.ntok 3 1)) (some (.ntok 100 4)) (some (.tok 3 1 A1.length)) (some (.tok 3 1 A2.length))
                (.d (.int .i64 x0)) (.d (.sl 1 (iR A1))) (.d (.sl 1 (iR A2))) (.d (.int .i64 x1)) (.d (.int .i64 x2)) (.d (.int .i64 x3)) (.d (.int .i64 x4)) (.d (.int .i64 x5)) (.o 4 [] (σ.length + 13)) ps [] [] (.ntok 119 2) rfl (Nat.le_refl _) (.inr ⟨rfl, rfl⟩)
              have e2 := loop127_0 E lo σ hlo (q4 qs) (by omega) (some (.ntok 3 1)) (some (.ntok 3 1)) (some (.ntok 119 2)) (some (.ntok 100 4)) (some (.ntok 3 1)) (some (.ntok 3 1)) (some (.ntok 119 2)) (some (.ntok 100 4)) (some (.ntok 3 1)) (some (.ntok 3 1)) (some tk1) (some (.tok 3 1 A1.length)) (some (.tok 3 1 A2.length))
                (.d (.int .i64 x0)) (.d (.sl 1 (iR A1))) (.d (.sl 1 (iR A2))) (.o 2 (shR ps) (σ.length + 12)) (.d (.int .i64 x1)) (.d (.int .i64 x2)) (.d (.int .i64 x3)) (.d (.int .i64 x4)) (.d (.int .i64 x5)) (by omega) qs [] w [] (.ntok 100 4) hwl rfl (Nat.le_refl _) (.inr ⟨rfl, rfl⟩)
              have e1z : ((0 : Nat) : Int) = 0 := rfl
              have hz0 : ((List.length ([] : List Int) : Nat) : Int) = 0 := rfl
              have hil0 : (iR []).length = 0 := rfl
              simp only [shR_nil, List.nil_append, hz0] at e1
              cases hr : tkF qs w with
              | none =>
                rw [hr] at e2
                obtain ⟨tk2, w2, acc2, e2⟩ := e2
                simp only [flR_nil, List.nil_append, hz0] at e2
                simp (disch := first | omega | (simp only [st_len, List.length_cons, List.length_nil]; omega)) only [evs, evR, ev1, evOp, evO, setT, binC, binInt, unC, ↓reduceIte, keepT, C.one, toDss, toDs, toD, Nat.reduceAdd, Nat.reduceLT, Nat.reduceLeDiff, Int.reduceLT, Int.reduceLE, Nat.reduceEqDiff, endE, finE, resC, retC, finC, cutA, cut1, C.ltL, C.ltLL, tokOf, aggOf, Int.reduceEq, Nat.reduceBEq, stab, evW, Nat.reduceSub, List.replicate_succ, List.replicate_zero, a127_r0, a127_r1, a127_r2, a127_r3, a127_r5, a127_r6, a127_r7, a127_r8, a127_r9, a127_r10, a127_r11, a127_r12, a127_r16, a127_r24, a127_r25, a127_r26, a127_d4, hiN, hN, g0, g1, g2, g3, g4, g5, hf, boundN, gdec, c1, c2, c3, c4, iR_len, sR_len, fillC, e1z, hil0, e1, e2, shR_nil, flR_nil]
                rfl
              | some rr =>
                obtain ⟨fs, w2⟩ := rr
                rw [hr] at e2
                obtain ⟨tk2, e2⟩ := e2
                simp only [flR_nil, List.nil_append, hz0] at e2
                cases w2 with
                | nil =>
                  have hs0 : (sR []).length = 0 := rfl
                  simp (disch := first | omega | (simp only [st_len, List.length_cons, List.length_nil]; omega)) only [evs, evR, ev1, evOp, evO, setT, binC, binInt, unC, ↓reduceIte, keepT, C.one, toDss, toDs, toD, Nat.reduceAdd, Nat.reduceLT, Nat.reduceLeDiff, Int.reduceLT, Int.reduceLE, Nat.reduceEqDiff, endE, finE, resC, retC, finC, cutA, cut1, C.ltL, C.ltLL, tokOf, aggOf, Int.reduceEq, Nat.reduceBEq, stab, evW, Nat.reduceSub, List.replicate_succ, List.replicate_zero, a127_r0, a127_r1, a127_r2, a127_r3, a127_r5, a127_r6, a127_r7, a127_r8, a127_r9, a127_r10, a127_r11, a127_r12, a127_r16, a127_r24, a127_r25, a127_r26, a127_d4, hiN, hN, g0, g1, g2, g3, g4, g5, hf, boundN, gdec, c1, c2, c3, c4, iR_len, sR_len, fillC, e1z, hil0, hs0, e1, e2, shR_nil, flR_nil]
                  rfl
                | cons s w2 =>
                  have hs0 : (sR (s :: w2)).length = w2.length + 1 := by rw [sR_len]; rfl
                  simp (disch := first | omega | (simp only [st_len, List.length_cons, List.length_nil]; omega)) only [evs, evR, ev1, evOp, evO, setT, binC, binInt, unC, ↓reduceIte, keepT, C.one, toDss, toDs, toD, Nat.reduceAdd, Nat.reduceLT, Nat.reduceLeDiff, Int.reduceLT, Int.reduceLE, Nat.reduceEqDiff, endE, finE, resC, retC, finC, cutA, cut1, C.ltL, C.ltLL, tokOf, aggOf, Int.reduceEq, Nat.reduceBEq, stab, evW, Nat.reduceSub, List.replicate_succ, List.replicate_zero, a127_r0, a127_r1, a127_r2, a127_r3, a127_r5, a127_r6, a127_r7, a127_r8, a127_r9, a127_r10, a127_r11, a127_r12, a127_r16, a127_r24, a127_r25, a127_r26, a127_d4, hiN, hN, g0, g1, g2, g3, g4, g5, hf, boundN, gdec, c1, c2, c3, c4, iR_len, sR_len, fillC, e1z, hil0, hs0, e1, e2, shR_nil, flR_nil]
                  rfl
end Go.Proofs.YtbecgpajbcafiaaGreat

set_option linter.unusedVariables false
set_option linter.unusedSimpArgs false
namespace Go.Proofs.YtbecgpajbcafiaaGreat
open Go.Av Go.RowKit

def rdec (l : List Nat) : Nat × Zs :=
  if (dL eI l).1 ≠ 0 then ((dL eI l).1, z0s) else if (dL eS (l.drop (dL eI l).2.2)).1 ≠ 0 then ((dL eS (l.drop (dL eI l).2.2)).1, z0s) else
    if (dL eI l).2.2 + (dL eS (l.drop (dL eI l).2.2)).2.2 ≠ l.length then (11, z0s) else bldR (dL eI l).2.1 (dL eS (l.drop (dL eI l).2.2)).2.1

set_option maxRecDepth 20000 in
set_option maxHeartbeats 1000000 in
theorem c48 (E : Env) (h48 : E.tbl 48 = some e48) (h125 : E.tbl 125 = some e125) (h126 : E.tbl 126 = some e126) (h207 : E.tbl 207 = some e207) (h208 : E.tbl 208 = some e208) (h209 : E.tbl 209 = some e209) (h127 : E.tbl 127 = some e127) (h254 : E.tbl 254 = some e254) (h210 : E.tbl 210 = some e210)
    (lo : Nat) (σ : St) (hlo : lo ≤ σ.length) (x : C) (l : List Nat) (hx : SlC σ.length 1 x (bR l)) (hl : l.length ≤ 1000000) (hB : By l) :
    EvF E lo (.fn 48) [x] σ = some (.agg (mC (rdec l)), σ) := by
  rw [EvF_fn h48]
  have a1 : ∀ τ : St, σ.length ≤ τ.length → EvF E lo (.fn 125) [x] τ = _ := fun τ h => c125 E h208 h207 h125 lo τ (by omega) x l (hx.mono h) hl hB
  have hlen := hx.len
  rw [bR_len] at hlen
  have hrow := hx.row
  have hfrom := bR_from l (dL eI l).2.2
  simp only [e48, List.replicate_succ, List.replicate_zero]
  unfold rdec
  by_cases h1 : (dL eI l).1 = 0
  · obtain ⟨u1, u2⟩ := dL_used (e := eI) (fun l h => eI_used h) l h1
    have a2 : ∀ τ : St, lo ≤ τ.length → EvF E lo (.fn 126) [.d (.sl 1 (bR (l.drop (dL eI l).2.2)))] τ = _ := fun τ h => c126 E h208 h207 h209 h126 lo τ h _ (l.drop (dL eI l).2.2) (.d _ _ _) (by rw [List.length_drop]; omega) (hB.drop _)
    rw [if_neg (fun h => h h1)]
    have e1z : ((0 : Nat) : Int) = 0 := rfl
    rw [h1, e1z] at a1
    by_cases h2 : (dL eS (l.drop (dL eI l).2.2)).1 = 0
    · obtain ⟨u3, u4⟩ := dL_used (e := eS) (fun l h => eS_used h) _ h2
      rw [List.length_drop] at u3 u4
      rw [if_neg (fun h => h h2)]
      rw [h2, e1z] at a2
      have hwr : IntKind.i64.wrap (((dL eI l).2.2 : Int) + ((dL eS (l.drop (dL eI l).2.2)).2.2 : Nat)) = (((dL eI l).2.2 + (dL eS (l.drop (dL eI l).2.2)).2.2 : Nat) : Int) := by rw [IntKind.wrap_i64]; omega
      have c1 : ∀ τ : St, lo ≤ τ.length → EvF E lo (.fn 127) [.d (.sl 1 (iR (dL eI l).2.1)), .d (.sl 1 (sR (dL eS (l.drop (dL eI l).2.2)).2.1))] τ = _ := fun τ h => c127 E h127 h254 h210 lo τ h _ _ (by omega) (by omega)
      generalize bldR (dL eI l).2.1 (dL eS (l.drop (dL eI l).2.2)).2.1 = B at *
      by_cases h3 : (dL eI l).2.2 + (dL eS (l.drop (dL eI l).2.2)).2.2 = l.length
      · rw [if_neg (fun h => h h3)]
        simp (disch := first | omega | (simp only [st_len, List.length_cons, List.length_nil]; omega)) only [evs, evR, ev1, evOp, evO, setT, binC, binInt, unC, ↓reduceIte, keepT, C.one, toDss, toDs, toD, Nat.reduceAdd, Nat.reduceLT, Nat.reduceLeDiff, Int.reduceLT, Int.reduceLE, Nat.reduceEqDiff, endE, finE, resC, retC, finC, cutA, cut1, C.ltL, C.ltLL, tokOf, aggOf, Int.reduceEq, Nat.reduceBEq, stab, evW, Nat.reduceSub, List.replicate_succ, List.replicate_zero, a48_r0, a48_r1, a48_r2, a48_r3, a48_r4, a48_r5, a48_r6, a48_r7, a48_r8, a48_r9, a1, hlen, hrow, boundN, bR_len, fillC, a2, h1, h2, hwr, hfrom, c1]
      · rw [if_pos h3]
        simp (disch := first | omega | (simp only [st_len, List.length_cons, List.length_nil]; omega)) only [evs, evR, ev1, evOp, evO, setT, binC, binInt, unC, ↓reduceIte, keepT, C.one, toDss, toDs, toD, Nat.reduceAdd, Nat.reduceLT, Nat.reduceLeDiff, Int.reduceLT, Int.reduceLE, Nat.reduceEqDiff, endE, finE, resC, retC, finC, cutA, cut1, C.ltL, C.ltLL, tokOf, aggOf, Int.reduceEq, Nat.reduceBEq, stab, evW, Nat.reduceSub, List.replicate_succ, List.replicate_zero, a48_r0, a48_r1, a48_r2, a48_r3, a48_r4, a48_r5, a48_r6, a48_r7, a48_r8, a48_r9, a1, hlen, hrow, boundN, bR_len, fillC, a2, h1, h2, hwr, hfrom]
        rfl
    · rw [if_pos h2]
      simp (disch := first | omega | (simp only [st_len, List.length_cons, List.length_nil]; omega)) only [evs, evR, ev1, evOp, evO, setT, binC, binInt, unC, ↓reduceIte, keepT, C.one, toDss, toDs, toD, Nat.reduceAdd, Nat.reduceLT, Nat.reduceLeDiff, Int.reduceLT, Int.reduceLE, Nat.reduceEqDiff, endE, finE, resC, retC, finC, cutA, cut1, C.ltL, C.ltLL, tokOf, aggOf, Int.reduceEq, Nat.reduceBEq, stab, evW, Nat.reduceSub, List.replicate_succ, List.replicate_zero, a48_r0, a48_r1, a48_r2, a48_r3, a48_r4, a48_r5, a48_r6, a48_r7, a48_r8, a48_r9, a1, hlen, hrow, boundN, bR_len, fillC, a2, h1, hfrom]
      rfl
  · rw [if_pos h1]
    simp (disch := first | omega | (simp only [st_len, List.length_cons, List.length_nil]; omega)) only [evs, evR, ev1, evOp, evO, setT, binC, binInt, unC, ↓reduceIte, keepT, C.one, toDss, toDs, toD, Nat.reduceAdd, Nat.reduceLT, Nat.reduceLeDiff, Int.reduceLT, Int.reduceLE, Nat.reduceEqDiff, endE, finE, resC, retC, finC, cutA, cut1, C.ltL, C.ltLL, tokOf, aggOf, Int.reduceEq, Nat.reduceBEq, stab, evW, Nat.reduceSub, List.replicate_succ, List.replicate_zero, a48_r0, a48_r1, a48_r2, a48_r3, a48_r4, a48_r5, a48_r6, a48_r7, a48_r8, a48_r9, a1, hlen, hrow, boundN, bR_len, fillC]
    rfl
end Go.Proofs.YtbecgpajbcafiaaGreat

set_option linter.unusedVariables false
set_option linter.unusedSimpArgs false
namespace Go.Proofs.YtbecgpajbcafiaaGreat
open Go.Av Go.RowKit

theorem c17 (E : Env) (h17 : E.tbl 17 = some e17) (h49 : E.tbl 49 = some e49) (h128 : E.tbl 128 = some e128) (h129 : E.tbl 129 = some e129) (h211 : E.tbl 211 = some e211) (h212 : E.tbl 212 = some e212) (lo : Nat) (σ : St) (hlo : lo ≤ σ.length) (z y : Zs) (hz : Small z) (hy : Small y) :
    EvF E lo (.fn 17) [.agg (zC z), .agg (zC y)] σ = some (.d (.bool (strEq (bA (encZ z)) (bA (encZ y)))), σ) := by
  rw [EvF_fn h17]
  have d1 := fun σ (h : lo ≤ σ.length) => c49 E h49 h128 h129 h211 h212 lo σ h z hz
  have d2 := fun σ (h : lo ≤ σ.length) => c49 E h49 h128 h129 h211 h212 lo σ h y hy
  simp only [e17, List.replicate_succ, List.replicate_zero]
  simp (maxSteps := 2000000) (disch := first | omega | (simp only [st_len, List.length_cons, List.length_nil]; omega)) only [evs, evR, ev1, evOp, evO, setT, binC, binInt, unC, ↓reduceIte, keepT, C.one, toDss, toDs, toD, Nat.reduceAdd, Nat.reduceLT, Nat.reduceLeDiff, Int.reduceLT, Int.reduceLE, Nat.reduceEqDiff, endE, finE, resC, retC, finC, cutA, cut1, C.ltL, C.ltLL, tokOf, aggOf, Int.reduceEq, Nat.reduceBEq, stab, evW, Nat.reduceSub, List.replicate_succ, List.replicate_zero, a17_r0, a17_d1, d1, d2, bytesOf_bR, binStr]
end Go.Proofs.YtbecgpajbcafiaaGreat

set_option linter.unusedVariables false
set_option linter.unusedSimpArgs false
namespace Go.Proofs.YtbecgpajbcafiaaGreat
open Go.Av Go.RowKit

def fewF (f : Fl) : Bool := decide (f.words.length ≤ 60) && f.words.all fun w => decide (w.size ≤ 100)
def fewZ (z : Zs) : Bool := decide (z.lo.length ≤ 40) && (decide (z.hi.length ≤ 40) && (decide (z.shells.length ≤ 20) && (decide (z.fields.length ≤ 20) && z.fields.all fewF)))

theorem loop13_0 (E : Env) (lo : Nat) (σ : St) (hlo : lo ≤ σ.length) (z : Zs) (pf : List Fl) (f : Fl) (qf : List Fl) (hz : z.fields = pf ++ f :: qf) (hf : pf.length ≤ 20) (hw : f.words.length ≤ 60) : ∀ (post pre : List ByteArray), f.words = pre ++ post →
    EvL E lo [false, true, false, true, true] [false, true, true, true] (σ.length + 1) l13_0 (U :: .ref σ.length 0 :: U :: .d (.int .i64 (pf.length : Nat)) :: .d (.int .i64 (pre.length : Nat)) :: U :: U :: U :: U :: U :: U :: U :: U :: U :: U :: U :: U :: U :: U :: U :: U :: U :: U :: U :: U :: U :: U :: U :: U :: U :: U :: U :: U :: U :: U :: U :: U :: U :: U :: U :: U :: U :: U :: U :: U :: U :: U :: U :: U :: U :: U :: U :: U :: U :: U :: U :: U :: U :: U :: U :: U :: U :: U :: U :: U :: U :: []) (σ ++ [some (.box 33 (zC z))]) =
      if (post.all fun w => decide (w.size ≤ 100)) = true then some (.exit 2, (U :: .ref σ.length 0 :: U :: .d (.int .i64 (pf.length : Nat)) :: U :: U :: U :: U :: U :: U :: U :: U :: U :: U :: U :: U :: U :: U :: U :: U :: U :: U :: U :: U :: U :: U :: U :: U :: U :: U :: U :: U :: U :: U :: U :: U :: U :: U :: U :: U :: U :: U :: U :: U :: U :: U :: U :: U :: U :: U :: U :: U :: U :: U :: U :: U :: U :: U :: U :: U :: U :: U :: U :: U :: U :: U :: []), σ ++ [some (.box 33 (zC z))])
      else some (.ret, (U :: .ref σ.length 0 :: .d (.bool false) :: .d (.int .i64 (pf.length : Nat)) :: U :: U :: U :: U :: U :: U :: U :: U :: U :: U :: U :: U :: U :: U :: U :: U :: U :: U :: U :: U :: U :: U :: U :: U :: U :: U :: U :: U :: U :: U :: U :: U :: U :: U :: U :: U :: U :: U :: U :: U :: U :: U :: U :: U :: U :: U :: U :: U :: U :: U :: U :: U :: U :: U :: U :: U :: U :: U :: U :: U :: U :: U :: []), σ ++ [some (.box 33 (zC z))]) := by
  have hat := flR_at pf f qf
  rw [← hz] at hat
  have hzl : z.fields.length = pf.length + (qf.length + 1) := by rw [hz]; simp
  intro post
  induction post with
  | nil =>
    intro pre h
    have hl : f.words.length = pre.length := by rw [h]; simp
    rw [EvL_eq]
    simp (disch := omega) only [evs, evR, ev1, evOp, evO, setT, binC, binInt, unC, ↓reduceIte, keepT, C.one, toDss, toDs, toD, Nat.reduceAdd, Nat.reduceLT, Nat.reduceLeDiff, Int.reduceLT, Int.reduceLE, Nat.reduceEqDiff, endE, finE, resC, retC, finC, cutA, cut1, C.ltL, C.ltLL, tokOf, aggOf, Int.reduceEq, Nat.reduceBEq, stab, evW, l13_0, a13_r8, flR_len, sR_len, hat]
  | cons w post ih =>
    intro pre h
    have hl : f.words.length = pre.length + (post.length + 1) := by rw [h]; simp
    have ha := sR_at pre w post
    rw [← h] at ha
    have hav : (sR f.words).getD ((pre.length : Nat) : Int).toNat [] = [.str w] := by rw [Int.toNat_natCast]; exact ha
    have hw1 : IntKind.i64.wrap ((pre.length : Int) + 1) = ((pre.length + 1 : Nat) : Int) := by rw [IntKind.wrap_i64]; omega
    have ih := ih (pre ++ [w]) (by simp [h])
    simp only [List.length_append, List.length_cons, List.length_nil, Nat.zero_add] at ih
    rw [EvL_eq]
    generalize hL : EvL E lo _ _ _ _ = L at ih ⊢
    by_cases hs : w.size ≤ 100
    · rw [show ((w :: post).all fun w => decide (w.size ≤ 100)) = post.all fun w => decide (w.size ≤ 100) from by rw [List.all_cons, decide_eq_true hs, Bool.true_and]]
      simp (disch := omega) only [evs, evR, ev1, evOp, evO, setT, binC, binInt, unC, ↓reduceIte, keepT, C.one, toDss, toDs, toD, Nat.reduceAdd, Nat.reduceLT, Nat.reduceLeDiff, Int.reduceLT, Int.reduceLE, Nat.reduceEqDiff, endE, finE, resC, retC, finC, cutA, cut1, C.ltL, C.ltLL, tokOf, aggOf, Int.reduceEq, Nat.reduceBEq, stab, evW, l13_0, a13_r8, a13_r9, a13_r11, flR_len, sR_len, hat, hav, hw1]
      rw [ih]
    · rw [show ((w :: post).all fun w => decide (w.size ≤ 100)) = false from by rw [List.all_cons, decide_eq_false hs, Bool.false_and]]
      simp (disch := omega) only [evs, evR, ev1, evOp, evO, setT, binC, binInt, unC, ↓reduceIte, keepT, C.one, toDss, toDs, toD, Nat.reduceAdd, Nat.reduceLT, Nat.reduceLeDiff, Int.reduceLT, Int.reduceLE, Nat.reduceEqDiff, endE, finE, resC, retC, finC, cutA, cut1, C.ltL, C.ltLL, tokOf, aggOf, Int.reduceEq, Nat.reduceBEq, stab, evW, l13_0, a13_r8, a13_r9, a13_r10, flR_len, sR_len, hat, hav, hw1]

theorem loop13_1 (E : Env) (lo : Nat) (σ : St) (hlo : lo ≤ σ.length) (z : Zs) (hzf : z.fields.length ≤ 20) : ∀ (post pre : List Fl), z.fields = pre ++ post →
    EvL E lo [false, true, false, true] [false, false, true] (σ.length + 1) l13_1 (U :: .ref σ.length 0 :: U :: .d (.int .i64 (pre.length : Nat)) :: U :: U :: U :: U :: U :: U :: U :: U :: U :: U :: U :: U :: U :: U :: U :: U :: U :: U :: U :: U :: U :: U :: U :: U :: U :: U :: U :: U :: U :: U :: U :: U :: U :: U :: U :: U :: U :: U :: U :: U :: U :: U :: U :: U :: U :: U :: U :: U :: U :: U :: U :: U :: U :: U :: U :: U :: U :: U :: U :: U :: U :: U :: []) (σ ++ [some (.box 33 (zC z))]) =
      if post.all fewF = true then some (.exit 0, (U :: U :: U :: U :: U :: U :: U :: U :: U :: U :: U :: U :: U :: U :: U :: U :: U :: U :: U :: U :: U :: U :: U :: U :: U :: U :: U :: U :: U :: U :: U :: U :: U :: U :: U :: U :: U :: U :: U :: U :: U :: U :: U :: U :: U :: U :: U :: U :: U :: U :: U :: U :: U :: U :: U :: U :: U :: U :: U :: U :: U :: U :: U :: U :: U :: U :: []), σ ++ [some (.box 33 (zC z))])
      else some (.ret, (U :: U :: .d (.bool false) :: U :: U :: U :: U :: U :: U :: U :: U :: U :: U :: U :: U :: U :: U :: U :: U :: U :: U :: U :: U :: U :: U :: U :: U :: U :: U :: U :: U :: U :: U :: U :: U :: U :: U :: U :: U :: U :: U :: U :: U :: U :: U :: U :: U :: U :: U :: U :: U :: U :: U :: U :: U :: U :: U :: U :: U :: U :: U :: U :: U :: U :: U :: U :: []), σ ++ [some (.box 33 (zC z))]) := by
  intro post
  induction post with
  | nil =>
    intro pre h
    have hl : z.fields.length = pre.length := by rw [h]; simp
    rw [EvL_eq]
    simp (disch := omega) only [evs, evR, ev1, evOp, evO, setT, binC, binInt, unC, ↓reduceIte, keepT, C.one, toDss, toDs, toD, Nat.reduceAdd, Nat.reduceLT, Nat.reduceLeDiff, Int.reduceLT, Int.reduceLE, Nat.reduceEqDiff, endE, finE, resC, retC, finC, cutA, cut1, C.ltL, C.ltLL, tokOf, aggOf, Int.reduceEq, Nat.reduceBEq, stab, evW, l13_1, a13_r4, flR_len]
  | cons f post ih =>
    intro pre h
    have hl : z.fields.length = pre.length + (post.length + 1) := by rw [h]; simp
    have hat := flR_at pre f post
    rw [← h] at hat
    have hw1 : IntKind.i64.wrap ((pre.length : Int) + 1) = ((pre.length + 1 : Nat) : Int) := by rw [IntKind.wrap_i64]; omega
    have ih := ih (pre ++ [f]) (by simp [h])
    simp only [List.length_append, List.length_cons, List.length_nil, Nat.zero_add] at ih
    have e0 := fun hw => loop13_0 E lo σ hlo z pre f post h (by omega) hw f.words [] rfl
    have hz0 : ((List.length ([] : List ByteArray) : Nat) : Int) = 0 := rfl
    rw [hz0] at e0
    have hfew : (f :: post).all fewF = (fewF f && post.all fewF) := rfl
    rw [EvL_eq]
    generalize hL : EvL E lo _ _ (σ.length + 1) l13_1 = L at ih ⊢
    by_cases hw : f.words.length ≤ 60
    · have e0 := e0 hw
      by_cases hall : (f.words.all fun w => decide (w.size ≤ 100)) = true
      · rw [if_pos hall] at e0
        rw [hfew, show fewF f = true from by unfold fewF; rw [hall, decide_eq_true hw]; rfl, Bool.true_and]
        simp (disch := omega) only [evs, evR, ev1, evOp, evO, setT, binC, binInt, unC, ↓reduceIte, keepT, C.one, toDss, toDs, toD, Nat.reduceAdd, Nat.reduceLT, Nat.reduceLeDiff, Int.reduceLT, Int.reduceLE, Nat.reduceEqDiff, endE, finE, resC, retC, finC, cutA, cut1, C.ltL, C.ltLL, tokOf, aggOf, Int.reduceEq, Nat.reduceBEq, stab, evW, l13_1, a13_r4, a13_r5, a13_r7, a13_r12, flR_len, sR_len, hat, hw1, e0]
        rw [ih]
      · rw [if_neg hall] at e0
        rw [hfew, show fewF f = false from by unfold fewF; rw [Bool.eq_false_iff.2 hall, decide_eq_true hw]; rfl, Bool.false_and]
        simp (disch := omega) only [evs, evR, ev1, evOp, evO, setT, binC, binInt, unC, ↓reduceIte, keepT, C.one, toDss, toDs, toD, Nat.reduceAdd, Nat.reduceLT, Nat.reduceLeDiff, Int.reduceLT, Int.reduceLE, Nat.reduceEqDiff, endE, finE, resC, retC, finC, cutA, cut1, C.ltL, C.ltLL, tokOf, aggOf, Int.reduceEq, Nat.reduceBEq, stab, evW, l13_1, a13_r4, a13_r5, a13_r7, a13_r12, flR_len, sR_len, hat, hw1, e0]
    · rw [hfew, show fewF f = false from by unfold fewF; rw [decide_eq_false hw, Bool.false_and], Bool.false_and]
      simp (disch := omega) only [evs, evR, ev1, evOp, evO, setT, binC, binInt, unC, ↓reduceIte, keepT, C.one, toDss, toDs, toD, Nat.reduceAdd, Nat.reduceLT, Nat.reduceLeDiff, Int.reduceLT, Int.reduceLE, Nat.reduceEqDiff, endE, finE, resC, retC, finC, cutA, cut1, C.ltL, C.ltLL, tokOf, aggOf, Int.reduceEq, Nat.reduceBEq, stab, evW, l13_1, a13_r4, a13_r5, a13_r6, flR_len, sR_len, hat]

theorem c13 (E : Env) (h13 : E.tbl 13 = some e13) (lo : Nat) (σ : St) (hlo : lo ≤ σ.length) (z : Zs) :
    EvF E lo (.fn 13) [.agg (zC z)] σ = some (.d (.bool (fewZ z)), σ) := by
  rw [EvF_fn h13]
  have e1 := fun hz => loop13_1 E lo σ hlo z hz z.fields [] rfl
  have hz0 : ((List.length ([] : List Fl) : Nat) : Int) = 0 := rfl
  rw [hz0] at e1
  unfold fewZ
  simp only [e13, List.replicate_succ, List.replicate_zero]
  by_cases h1 : z.lo.length ≤ 40
  · by_cases h2 : z.hi.length ≤ 40
    · by_cases h3 : z.shells.length ≤ 20
      · by_cases h4 : z.fields.length ≤ 20
        · have e1 := e1 h4
          rw [decide_eq_true h1, decide_eq_true h2, decide_eq_true h3, decide_eq_true h4]
          simp only [Bool.true_and]
          by_cases h5 : z.fields.all fewF = true
          · rw [if_pos h5] at e1
            rw [h5]
            simp (disch := omega) only [evs, evR, ev1, evOp, evO, setT, binC, binInt, unC, ↓reduceIte, keepT, C.one, toDss, toDs, toD, Nat.reduceAdd, Nat.reduceLT, Nat.reduceLeDiff, Int.reduceLT, Int.reduceLE, Nat.reduceEqDiff, endE, finE, resC, retC, finC, cutA, cut1, C.ltL, C.ltLL, tokOf, aggOf, Int.reduceEq, Nat.reduceBEq, stab, evW, Nat.reduceSub, List.replicate_succ, List.replicate_zero, a13_r0, a13_r1, a13_r3, a13_r13, iR_len, shR_len, flR_len, gdec, e1]
          · rw [if_neg h5] at e1
            rw [Bool.eq_false_iff.2 h5]
            simp (disch := omega) only [evs, evR, ev1, evOp, evO, setT, binC, binInt, unC, ↓reduceIte, keepT, C.one, toDss, toDs, toD, Nat.reduceAdd, Nat.reduceLT, Nat.reduceLeDiff, Int.reduceLT, Int.reduceLE, Nat.reduceEqDiff, endE, finE, resC, retC, finC, cutA, cut1, C.ltL, C.ltLL, tokOf, aggOf, Int.reduceEq, Nat.reduceBEq, stab, evW, Nat.reduceSub, List.replicate_succ, List.replicate_zero, a13_r0, a13_r1, a13_r3, a13_r13, iR_len, shR_len, flR_len, gdec, e1]
        · rw [decide_eq_false h4]
          simp only [Bool.and_false, Bool.false_and]
          simp (disch := omega) only [evs, evR, ev1, evOp, evO, setT, binC, binInt, unC, ↓reduceIte, keepT, C.one, toDss, toDs, toD, Nat.reduceAdd, Nat.reduceLT, Nat.reduceLeDiff, Int.reduceLT, Int.reduceLE, Nat.reduceEqDiff, endE, finE, resC, retC, finC, cutA, cut1, C.ltL, C.ltLL, tokOf, aggOf, Int.reduceEq, Nat.reduceBEq, stab, evW, Nat.reduceSub, List.replicate_succ, List.replicate_zero, a13_r0, a13_r1, a13_r2, iR_len, shR_len, flR_len, gdec]
      · rw [decide_eq_false h3]
        simp only [Bool.and_false, Bool.false_and]
        simp (disch := omega) only [evs, evR, ev1, evOp, evO, setT, binC, binInt, unC, ↓reduceIte, keepT, C.one, toDss, toDs, toD, Nat.reduceAdd, Nat.reduceLT, Nat.reduceLeDiff, Int.reduceLT, Int.reduceLE, Nat.reduceEqDiff, endE, finE, resC, retC, finC, cutA, cut1, C.ltL, C.ltLL, tokOf, aggOf, Int.reduceEq, Nat.reduceBEq, stab, evW, Nat.reduceSub, List.replicate_succ, List.replicate_zero, a13_r0, a13_r1, a13_r2, iR_len, shR_len, flR_len, gdec]
    · rw [decide_eq_false h2]
      simp only [Bool.and_false, Bool.false_and]
      simp (disch := omega) only [evs, evR, ev1, evOp, evO, setT, binC, binInt, unC, ↓reduceIte, keepT, C.one, toDss, toDs, toD, Nat.reduceAdd, Nat.reduceLT, Nat.reduceLeDiff, Int.reduceLT, Int.reduceLE, Nat.reduceEqDiff, endE, finE, resC, retC, finC, cutA, cut1, C.ltL, C.ltLL, tokOf, aggOf, Int.reduceEq, Nat.reduceBEq, stab, evW, Nat.reduceSub, List.replicate_succ, List.replicate_zero, a13_r0, a13_r1, a13_r2, iR_len, shR_len, flR_len, gdec]
  · rw [decide_eq_false h1]
    simp only [Bool.false_and]
    simp (disch := omega) only [evs, evR, ev1, evOp, evO, setT, binC, binInt, unC, ↓reduceIte, keepT, C.one, toDss, toDs, toD, Nat.reduceAdd, Nat.reduceLT, Nat.reduceLeDiff, Int.reduceLT, Int.reduceLE, Nat.reduceEqDiff, endE, finE, resC, retC, finC, cutA, cut1, C.ltL, C.ltLL, tokOf, aggOf, Int.reduceEq, Nat.reduceBEq, stab, evW, Nat.reduceSub, List.replicate_succ, List.replicate_zero, a13_r0, a13_r1, a13_r2, iR_len, shR_len, flR_len, gdec]
end Go.Proofs.YtbecgpajbcafiaaGreat
