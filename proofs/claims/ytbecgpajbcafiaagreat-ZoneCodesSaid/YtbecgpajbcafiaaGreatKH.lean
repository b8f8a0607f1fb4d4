/-
  Decoding of lengths, byte strings, lists: the reference's.
  Numbers that are taken one after the other.
  The loops of zone.Decode.
  The loop of zone.Decode over fields.
  zone.Decode.
-/
import Derived.Test.YtbecgpajbcafiaaGreatKG
set_option linter.unusedVariables false
set_option linter.unusedSimpArgs false
namespace Go.Proofs.YtbecgpajbcafiaaGreat
open Go.Av Go.RowKit

theorem c207 (E : Env) (h208 : E.tbl 208 = some e208) (h207 : E.tbl 207 = some e207) (lo : Nat) (σ : St) (hlo : lo ≤ σ.length) (x : C) (l : List Nat) (hx : SlC σ.length 1 x (bR l)) (hl : l.length ≤ 1000000) (hB : By l) :
    EvF E lo (.fn 207) [x, .d (.int .i64 1)] σ = some (.tup [.d (.int .i64 (lN l)), .d (.int .i64 (lU l : Nat)), .d (.int .i64 (lE l : Nat))], σ) := by
  rw [EvF_fn h207]
  have c1 := c208 E h208 lo σ hlo x l hx hl hB
  have hlen := hx.len
  rw [bR_len] at hlen
  have hg := gV_I64 l
  obtain ⟨hg1, hg2⟩ := hg
  unfold lN lU
  simp only [e207, List.replicate_succ, List.replicate_zero]
  rcases g_cases l with ⟨h1, h2, h3, h4⟩ | ⟨h1, h2, h3⟩ | ⟨h1, h2, h3⟩
  · have w1 : IntKind.i64.wrap ((l.length : Int) - (gU l : Nat)) = (l.length : Int) - (gU l : Nat) := by rw [IntKind.wrap_i64]; omega
    have w2 : Int.tdiv ((l.length : Int) - (gU l : Nat)) 1 = (l.length : Int) - (gU l : Nat) := Int.tdiv_one _
    by_cases ha : gV l < 0
    · have e : lE l = 11 := by unfold lE; rw [if_neg (by omega), if_pos ha]
      simp (disch := omega) only [evs, evR, ev1, evOp, evO, setT, binC, binInt, unC, ↓reduceIte, keepT, C.one, toDss, toDs, toD, Nat.reduceAdd, Nat.reduceLT, Nat.reduceLeDiff, Int.reduceLT, Int.reduceLE, Nat.reduceEqDiff, endE, finE, resC, retC, finC, cutA, cut1, C.ltL, C.ltLL, tokOf, aggOf, Int.reduceEq, Nat.reduceBEq, stab, evW, Nat.reduceSub, List.replicate_succ, List.replicate_zero, a207_r0, a207_r1, a207_r2, a207_r3, a207_r4, a207_r5, a207_r6, a207_r7, a207_r8, c1, hlen, h1, e]
      rfl
    · by_cases hb : gV l > (l.length : Int) - (gU l : Nat)
      · have e : lE l = 10 := by unfold lE; rw [if_neg (by omega), if_neg ha, if_pos hb]
        simp (disch := omega) only [evs, evR, ev1, evOp, evO, setT, binC, binInt, unC, ↓reduceIte, keepT, C.one, toDss, toDs, toD, Nat.reduceAdd, Nat.reduceLT, Nat.reduceLeDiff, Int.reduceLT, Int.reduceLE, Nat.reduceEqDiff, endE, finE, resC, retC, finC, cutA, cut1, C.ltL, C.ltLL, tokOf, aggOf, Int.reduceEq, Nat.reduceBEq, stab, evW, Nat.reduceSub, List.replicate_succ, List.replicate_zero, a207_r0, a207_r1, a207_r2, a207_r3, a207_r4, a207_r5, a207_r6, a207_r7, a207_r8, c1, hlen, h1, e, w1, w2]
        rfl
      · have e : lE l = 0 := by unfold lE; rw [if_neg (by omega), if_neg ha, if_neg hb]
        simp (disch := omega) only [evs, evR, ev1, evOp, evO, setT, binC, binInt, unC, ↓reduceIte, keepT, C.one, toDss, toDs, toD, Nat.reduceAdd, Nat.reduceLT, Nat.reduceLeDiff, Int.reduceLT, Int.reduceLE, Nat.reduceEqDiff, endE, finE, resC, retC, finC, cutA, cut1, C.ltL, C.ltLL, tokOf, aggOf, Int.reduceEq, Nat.reduceBEq, stab, evW, Nat.reduceSub, List.replicate_succ, List.replicate_zero, a207_r0, a207_r1, a207_r2, a207_r3, a207_r4, a207_r5, a207_r6, a207_r7, a207_r8, c1, hlen, h1, e, w1, w2]
        rfl
  · have e : lE l = 10 := by unfold lE; rw [if_pos (by omega)]; exact h1
    simp (disch := omega) only [evs, evR, ev1, evOp, evO, setT, binC, binInt, unC, ↓reduceIte, keepT, C.one, toDss, toDs, toD, Nat.reduceAdd, Nat.reduceLT, Nat.reduceLeDiff, Int.reduceLT, Int.reduceLE, Nat.reduceEqDiff, endE, finE, resC, retC, finC, cutA, cut1, C.ltL, C.ltLL, tokOf, aggOf, Int.reduceEq, Nat.reduceBEq, stab, evW, Nat.reduceSub, List.replicate_succ, List.replicate_zero, a207_r0, a207_r1, a207_r2, a207_r3, a207_r4, a207_r5, a207_r6, a207_r7, a207_r8, c1, hlen, h1, e]
    rfl
  · have e : lE l = 11 := by unfold lE; rw [if_pos (by omega)]; exact h1
    simp (disch := omega) only [evs, evR, ev1, evOp, evO, setT, binC, binInt, unC, ↓reduceIte, keepT, C.one, toDss, toDs, toD, Nat.reduceAdd, Nat.reduceLT, Nat.reduceLeDiff, Int.reduceLT, Int.reduceLE, Nat.reduceEqDiff, endE, finE, resC, retC, finC, cutA, cut1, C.ltL, C.ltLL, tokOf, aggOf, Int.reduceEq, Nat.reduceBEq, stab, evW, Nat.reduceSub, List.replicate_succ, List.replicate_zero, a207_r0, a207_r1, a207_r2, a207_r3, a207_r4, a207_r5, a207_r6, a207_r7, a207_r8, c1, hlen, h1, e]
    rfl

theorem c209 (E : Env) (h208 : E.tbl 208 = some e208) (h209 : E.tbl 209 = some e209) (lo : Nat) (σ : St) (hlo : lo ≤ σ.length) (x : C) (l : List Nat) (hx : SlC σ.length 1 x (bR l)) (hl : l.length ≤ 1000000) (hB : By l) :
    EvF E lo (.fn 209) [x] σ = some (.tup [.d (.str (sV l)), .d (.int .i64 (sU l : Nat)), .d (.int .i64 (lE l : Nat))], σ) := by
  rw [EvF_fn h209]
  have c1 := c208 E h208 lo σ hlo x l hx hl hB
  have hlen := hx.len
  rw [bR_len] at hlen
  have hrow := hx.row
  obtain ⟨hg1, hg2⟩ := gV_I64 l
  unfold sV sU
  simp only [e209, List.replicate_succ, List.replicate_zero]
  rcases l_cases l with ⟨e, h1, h2, h3, h4, h5, h6⟩ | ⟨e, e', h2, h3⟩
  · obtain ⟨n, hn⟩ : ∃ n : Nat, gV l = (n : Int) := ⟨(gV l).toNat, by omega⟩
    rw [hn] at h3 h5 c1
    have w0 : IntKind.i64.wrap ((l.length : Int) - (gU l : Nat)) = (l.length : Int) - (gU l : Nat) := by rw [IntKind.wrap_i64]; omega
    have w1 : IntKind.i64.wrap ((gU l : Int) + (n : Int)) = ((gU l + n : Nat) : Int) := by rw [IntKind.wrap_i64]; omega
    have hcut := bR_cut l (gU l) n (by omega)
    simp (disch := omega) only [evs, evR, ev1, evOp, evO, setT, binC, binInt, unC, ↓reduceIte, keepT, C.one, toDss, toDs, toD, Nat.reduceAdd, Nat.reduceLT, Nat.reduceLeDiff, Int.reduceLT, Int.reduceLE, Nat.reduceEqDiff, endE, finE, resC, retC, finC, cutA, cut1, C.ltL, C.ltLL, tokOf, aggOf, Int.reduceEq, Nat.reduceBEq, stab, evW, Nat.reduceSub, List.replicate_succ, List.replicate_zero, a209_r0, a209_r1, a209_r2, a209_r3, a209_r4, a209_r5, a209_r6, a209_r7, a209_r8, c1, hlen, hrow, e, h1, h2, h3, w0, w1, bR_len, boundN, hcut, bytesOf_bR]
    simp
  · rw [if_neg e, if_neg e]
    rcases g_cases l with ⟨k1, k2, k3, k4⟩ | ⟨k1, k2, k3⟩ | ⟨k1, k2, k3⟩
    · have w1 : IntKind.i64.wrap ((l.length : Int) - (gU l : Nat)) = (l.length : Int) - (gU l : Nat) := by rw [IntKind.wrap_i64]; omega
      by_cases ha : gV l < 0
      · have e : lE l = 11 := by unfold lE; rw [if_neg (by omega), if_pos ha]
        simp (disch := omega) only [evs, evR, ev1, evOp, evO, setT, binC, binInt, unC, ↓reduceIte, keepT, C.one, toDss, toDs, toD, Nat.reduceAdd, Nat.reduceLT, Nat.reduceLeDiff, Int.reduceLT, Int.reduceLE, Nat.reduceEqDiff, endE, finE, resC, retC, finC, cutA, cut1, C.ltL, C.ltLL, tokOf, aggOf, Int.reduceEq, Nat.reduceBEq, stab, evW, Nat.reduceSub, List.replicate_succ, List.replicate_zero, a209_r0, a209_r1, a209_r2, a209_r3, a209_r4, a209_r5, a209_r6, a209_r7, a209_r8, c1, hlen, k1, e]
        rfl
      · by_cases hb : gV l > (l.length : Int) - (gU l : Nat)
        · have e : lE l = 10 := by unfold lE; rw [if_neg (by omega), if_neg ha, if_pos hb]
          simp (disch := omega) only [evs, evR, ev1, evOp, evO, setT, binC, binInt, unC, ↓reduceIte, keepT, C.one, toDss, toDs, toD, Nat.reduceAdd, Nat.reduceLT, Nat.reduceLeDiff, Int.reduceLT, Int.reduceLE, Nat.reduceEqDiff, endE, finE, resC, retC, finC, cutA, cut1, C.ltL, C.ltLL, tokOf, aggOf, Int.reduceEq, Nat.reduceBEq, stab, evW, Nat.reduceSub, List.replicate_succ, List.replicate_zero, a209_r0, a209_r1, a209_r2, a209_r3, a209_r4, a209_r5, a209_r6, a209_r7, a209_r8, c1, hlen, k1, e, w1]
          rfl
        · have e' : lE l = 0 := by unfold lE; rw [if_neg (by omega), if_neg ha, if_neg hb]
          exact absurd e' e
    · have e : lE l = 10 := by unfold lE; rw [if_pos (by omega)]; exact k1
      simp (disch := omega) only [evs, evR, ev1, evOp, evO, setT, binC, binInt, unC, ↓reduceIte, keepT, C.one, toDss, toDs, toD, Nat.reduceAdd, Nat.reduceLT, Nat.reduceLeDiff, Int.reduceLT, Int.reduceLE, Nat.reduceEqDiff, endE, finE, resC, retC, finC, cutA, cut1, C.ltL, C.ltLL, tokOf, aggOf, Int.reduceEq, Nat.reduceBEq, stab, evW, Nat.reduceSub, List.replicate_succ, List.replicate_zero, a209_r0, a209_r1, a209_r2, a209_r3, a209_r4, a209_r5, a209_r6, a209_r7, a209_r8, c1, hlen, k1, e]
      rfl
    · have e : lE l = 11 := by unfold lE; rw [if_pos (by omega)]; exact k1
      simp (disch := omega) only [evs, evR, ev1, evOp, evO, setT, binC, binInt, unC, ↓reduceIte, keepT, C.one, toDss, toDs, toD, Nat.reduceAdd, Nat.reduceLT, Nat.reduceLeDiff, Int.reduceLT, Int.reduceLE, Nat.reduceEqDiff, endE, finE, resC, retC, finC, cutA, cut1, C.ltL, C.ltLL, tokOf, aggOf, Int.reduceEq, Nat.reduceBEq, stab, evW, Nat.reduceSub, List.replicate_succ, List.replicate_zero, a209_r0, a209_r1, a209_r2, a209_r3, a209_r4, a209_r5, a209_r6, a209_r7, a209_r8, c1, hlen, k1, e]
      rfl

theorem loop125 (E : Env) (h208 : E.tbl 208 = some e208) (lo : Nat) (σ : St) (hlo : lo ≤ σ.length) (x : C) (l : List Nat) (hx : SlC σ.length 1 x (bR l)) (hl : l.length ≤ 1000000) (hB : By l) (N : Nat) (hN : N ≤ 1000000) : ∀ (n i at_ : Nat) (acc : List Int), i + n = N → acc.length = i → at_ ≤ l.length →
    ((gL eI n (l.drop at_)).1 = 0 → at_ + (gL eI n (l.drop at_)).2.2 ≤ l.length ∧ EvL E lo [true, false, false, false, false, true, true, false, true, true] [false, false, true, true, true, false, true, false, true] (σ.length + 2) l125_0 (x :: U :: U :: U :: U :: .d (.int .i64 (N : Nat)) :: .d (.int .i64 (at_ : Nat)) :: U :: .o 1 (iR acc) (σ.length + 1) :: .d (.int .i64 (i : Nat)) :: U :: U :: U :: U :: U :: U :: U :: U :: U :: U :: U :: U :: U :: U :: U :: U :: U :: U :: U :: U :: U :: U :: U :: U :: U :: U :: U :: U :: U :: U :: U :: U :: U :: U :: U :: U :: U :: []) (σ ++ [some (.tok 3 1 0), some (.tok 3 1 acc.length)]) =
      some (.exit 0, (U :: U :: U :: U :: U :: U :: .d (.int .i64 (at_ + (gL eI n (l.drop at_)).2.2 : Nat)) :: U :: .o 1 (iR (acc ++ (gL eI n (l.drop at_)).2.1)) (σ.length + 1) :: U :: U :: U :: U :: U :: U :: U :: U :: U :: U :: U :: U :: U :: U :: U :: U :: U :: U :: U :: U :: U :: U :: U :: U :: U :: U :: U :: U :: U :: U :: U :: U :: U :: U :: U :: U :: U :: U :: []), σ ++ [some (.tok 3 1 0), some (.tok 3 1 (acc ++ (gL eI n (l.drop at_)).2.1).length)])) ∧
    ((gL eI n (l.drop at_)).1 ≠ 0 → ∃ (at' : Nat) (acc' : List Int), EvL E lo [true, false, false, false, false, true, true, false, true, true] [false, false, true, true, true, false, true, false, true] (σ.length + 2) l125_0 (x :: U :: U :: U :: U :: .d (.int .i64 (N : Nat)) :: .d (.int .i64 (at_ : Nat)) :: U :: .o 1 (iR acc) (σ.length + 1) :: .d (.int .i64 (i : Nat)) :: U :: U :: U :: U :: U :: U :: U :: U :: U :: U :: U :: U :: U :: U :: U :: U :: U :: U :: U :: U :: U :: U :: U :: U :: U :: U :: U :: U :: U :: U :: U :: U :: U :: U :: U :: U :: U :: []) (σ ++ [some (.tok 3 1 0), some (.tok 3 1 acc.length)]) =
      some (.ret, (U :: U :: .d (.sl 1 []) :: .d (.int .i64 0) :: .d (.int .i64 ((gL eI n (l.drop at_)).1 : Nat)) :: U :: .d (.int .i64 (at' : Nat)) :: U :: .o 1 (iR acc') (σ.length + 1) :: U :: U :: U :: U :: U :: U :: U :: U :: U :: U :: U :: U :: U :: U :: U :: U :: U :: U :: U :: U :: U :: U :: U :: U :: U :: U :: U :: U :: U :: U :: U :: U :: U :: U :: U :: U :: U :: U :: []), σ ++ [some (.tok 3 1 0), some (.tok 3 1 acc'.length)])) := by
  have hcut := hx.cut (σ.length + 2) (by omega)
  have hrow := hx.row
  intro n
  induction n with
  | zero =>
    intro i at_ acc h ha hat
    refine ⟨fun _ => ⟨by simp only [gL]; omega, ?_⟩, fun h => absurd rfl h⟩
    rw [EvL_eq]
    simp (disch := omega) only [evs, evR, ev1, evOp, evO, setT, binC, binInt, unC, ↓reduceIte, keepT, C.one, toDss, toDs, toD, Nat.reduceAdd, Nat.reduceLT, Nat.reduceLeDiff, Int.reduceLT, Int.reduceLE, Nat.reduceEqDiff, endE, finE, resC, retC, finC, cutA, cut1, C.ltL, C.ltLL, tokOf, aggOf, Int.reduceEq, Nat.reduceBEq, stab, evW, l125_0, a125_r6, a125_r7, a125_r8, a125_r10, a125_r11, a125_r12, hcut]
    simp [gL]
  | succ n ih =>
    intro i at_ acc h ha hat
    have hw : IntKind.i64.wrap ((i : Int) + 1) = ((i + 1 : Nat) : Int) := by rw [IntKind.wrap_i64]; omega
    have hfrom := bR_from l at_
    have c1 := c208 E h208 lo (σ ++ [some (.tok 3 1 0), some (.tok 3 1 acc.length)]) (by rw [st_len]; omega) (.d (.sl 1 (bR (l.drop at_)))) (l.drop at_) (.d _ _ _) (by rw [List.length_drop]; omega) (hB.drop at_)
    by_cases he : (eI (l.drop at_)).1 = 0
    · have hu := eI_used he
      have hu' : (eI (l.drop at_)).2.2 ≤ l.length - at_ := by rw [List.length_drop] at hu; exact hu
      have hw2 : IntKind.i64.wrap ((at_ : Int) + ((eI (l.drop at_)).2.2 : Nat)) = ((at_ + (eI (l.drop at_)).2.2 : Nat) : Int) := by rw [IntKind.wrap_i64]; omega
      have hdd : (l.drop at_).drop (eI (l.drop at_)).2.2 = l.drop (at_ + (eI (l.drop at_)).2.2) := by rw [List.drop_drop]
      obtain ⟨ih1, ih2⟩ := ih (i + 1) (at_ + (eI (l.drop at_)).2.2) (acc ++ [(eI (l.drop at_)).2.1]) (by omega) (by simp; omega) (by omega)
      have hacc : iR acc ++ [[.int .i64 (eI (l.drop at_)).2.1]] = iR (acc ++ [(eI (l.drop at_)).2.1]) := by simp [iR]
      have hal : (iR acc).length = acc.length := by simp [iR]
      simp only [List.length_append, List.length_cons, List.length_nil, Nat.zero_add] at ih1 ih2
      rw [EvL_eq]
      generalize hL : EvL E lo _ _ _ _ = L at ih1 ih2 ⊢
      by_cases hr : (gL eI n (l.drop (at_ + (eI (l.drop at_)).2.2))).1 = 0
      · have key : gL eI (n + 1) (l.drop at_) = (0, (eI (l.drop at_)).2.1 :: (gL eI n (l.drop (at_ + (eI (l.drop at_)).2.2))).2.1, (eI (l.drop at_)).2.2 + (gL eI n (l.drop (at_ + (eI (l.drop at_)).2.2))).2.2) := by
          rw [gL, if_neg (by omega), hdd, if_neg (fun h => h hr)]
        obtain ⟨q1, q2⟩ := ih1 hr
        rw [key]
        refine ⟨fun _ => ⟨by simp only []; omega, ?_⟩, fun h => absurd rfl h⟩
        clear ih ih1 ih2 key hr hu hu'
        simp only [eI] at *
        simp (disch := omega) only [evs, evR, ev1, evOp, evO, setT, binC, binInt, unC, ↓reduceIte, keepT, C.one, toDss, toDs, toD, Nat.reduceAdd, Nat.reduceLT, Nat.reduceLeDiff, Int.reduceLT, Int.reduceLE, Nat.reduceEqDiff, endE, finE, resC, retC, finC, cutA, cut1, C.ltL, C.ltLL, tokOf, aggOf, Int.reduceEq, Nat.reduceBEq, stab, evW, l125_0, a125_r6, a125_r7, a125_r8, a125_r10, a125_r11, a125_r12, hcut, hrow, boundN, bR_len, hfrom, c1, hw, hw2, hal, hacc, he]
        rw [q2]
        simp [Nat.add_assoc, Nat.add_comm 1]
      · have key : gL eI (n + 1) (l.drop at_) = ((gL eI n (l.drop (at_ + (eI (l.drop at_)).2.2))).1, [], 0) := by
          rw [gL, if_neg (by omega), hdd, if_pos hr]
        obtain ⟨at', acc', q⟩ := ih2 hr
        rw [key]
        refine ⟨fun h => absurd h hr, fun _ => ⟨at', acc', ?_⟩⟩
        clear ih ih1 ih2 key hr hu hu'
        simp only [eI] at *
        simp (disch := omega) only [evs, evR, ev1, evOp, evO, setT, binC, binInt, unC, ↓reduceIte, keepT, C.one, toDss, toDs, toD, Nat.reduceAdd, Nat.reduceLT, Nat.reduceLeDiff, Int.reduceLT, Int.reduceLE, Nat.reduceEqDiff, endE, finE, resC, retC, finC, cutA, cut1, C.ltL, C.ltLL, tokOf, aggOf, Int.reduceEq, Nat.reduceBEq, stab, evW, l125_0, a125_r6, a125_r7, a125_r8, a125_r10, a125_r11, a125_r12, hcut, hrow, boundN, bR_len, hfrom, c1, hw, hw2, hal, hacc, he]
        exact q
    · have hle := eI_le (l.drop at_)
      have key : gL eI (n + 1) (l.drop at_) = ((eI (l.drop at_)).1, [], 0) := by rw [gL, if_pos (by omega)]
      rw [key]
      simp only [eI] at *
      refine ⟨fun h => absurd h he, fun _ => ⟨at_, acc, ?_⟩⟩
      rw [EvL_eq]
      simp (disch := omega) only [evs, evR, ev1, evOp, evO, setT, binC, binInt, unC, ↓reduceIte, keepT, C.one, toDss, toDs, toD, Nat.reduceAdd, Nat.reduceLT, Nat.reduceLeDiff, Int.reduceLT, Int.reduceLE, Nat.reduceEqDiff, endE, finE, resC, retC, finC, cutA, cut1, C.ltL, C.ltLL, tokOf, aggOf, Int.reduceEq, Nat.reduceBEq, stab, evW, l125_0, a125_r6, a125_r7, a125_r8, a125_r9, hcut, hrow, boundN, bR_len, hfrom, c1]

theorem c125 (E : Env) (h208 : E.tbl 208 = some e208) (h207 : E.tbl 207 = some e207) (h125 : E.tbl 125 = some e125) (lo : Nat) (σ : St) (hlo : lo ≤ σ.length) (x : C) (l : List Nat) (hx : SlC σ.length 1 x (bR l)) (hl : l.length ≤ 1000000) (hB : By l) :
    EvF E lo (.fn 125) [x] σ = some (.tup [.d (.sl 1 (iR (dL eI l).2.1)), .d (.int .i64 ((dL eI l).2.2 : Nat)), .d (.int .i64 ((dL eI l).1 : Nat))], σ) := by
  rw [EvF_fn h125]
  have c1 := c207 E h208 h207 lo (σ ++ [some (.tok 3 1 0)]) (by rw [st_len]; omega) x l (hx.mono (by rw [st_len]; omega)) hl hB
  have hcut := hx.cut (σ.length + 2) (by omega)
  simp only [e125, List.replicate_succ, List.replicate_zero]
  rcases l_cases l with ⟨e, h1, h2, h3, h4, h5, h6⟩ | ⟨e, e', h2, h3⟩
  · obtain ⟨n, hn⟩ : ∃ n : Nat, gV l = (n : Int) := ⟨(gV l).toNat, by omega⟩
    rw [hn] at h3 h5
    obtain ⟨k1, k2⟩ := loop125 E h208 lo σ hlo x l hx hl hB n (by omega) n 0 (gU l) [] (by omega) rfl (by omega)
    have hz : ((0 : Nat) : Int) = 0 := rfl
    have hR0 : iR [] = [] := rfl
    simp only [hz, hR0, List.length_nil, List.nil_append] at k1 k2
    have key : dL eI l = if (gL eI n (l.drop (gU l))).1 ≠ 0 then ((gL eI n (l.drop (gU l))).1, [], 0) else (0, (gL eI n (l.drop (gU l))).2.1, gU l + (gL eI n (l.drop (gU l))).2.2) := by
      unfold dL
      rw [if_neg (by omega), h2, h3, Int.toNat_natCast]
    rw [key]
    by_cases hr : (gL eI n (l.drop (gU l))).1 = 0
    · obtain ⟨q1, q2⟩ := k1 hr
      rw [if_neg (by omega)]
      simp (disch := omega) only [evs, evR, ev1, evOp, evO, setT, binC, binInt, unC, ↓reduceIte, keepT, C.one, toDss, toDs, toD, Nat.reduceAdd, Nat.reduceLT, Nat.reduceLeDiff, Int.reduceLT, Int.reduceLE, Nat.reduceEqDiff, endE, finE, resC, retC, finC, cutA, cut1, C.ltL, C.ltLL, tokOf, aggOf, Int.reduceEq, Nat.reduceBEq, stab, evW, Nat.reduceSub, List.replicate_succ, List.replicate_zero, a125_r0, a125_r1, a125_r2, a125_r3, a125_r4, a125_r5, a125_r13, c1, e, h2, h3, hcut, q2]
      simp
    · obtain ⟨at', acc', q2⟩ := k2 hr
      rw [if_pos hr]
      simp (disch := omega) only [evs, evR, ev1, evOp, evO, setT, binC, binInt, unC, ↓reduceIte, keepT, C.one, toDss, toDs, toD, Nat.reduceAdd, Nat.reduceLT, Nat.reduceLeDiff, Int.reduceLT, Int.reduceLE, Nat.reduceEqDiff, endE, finE, resC, retC, finC, cutA, cut1, C.ltL, C.ltLL, tokOf, aggOf, Int.reduceEq, Nat.reduceBEq, stab, evW, Nat.reduceSub, List.replicate_succ, List.replicate_zero, a125_r0, a125_r1, a125_r2, a125_r3, a125_r4, a125_r5, a125_r13, c1, e, h2, h3, hcut, q2]
      rfl
  · have key : dL eI l = (lE l, [], 0) := by unfold dL; rw [if_pos e]
    rw [key]
    simp (disch := omega) only [evs, evR, ev1, evOp, evO, setT, binC, binInt, unC, ↓reduceIte, keepT, C.one, toDss, toDs, toD, Nat.reduceAdd, Nat.reduceLT, Nat.reduceLeDiff, Int.reduceLT, Int.reduceLE, Nat.reduceEqDiff, endE, finE, resC, retC, finC, cutA, cut1, C.ltL, C.ltLL, tokOf, aggOf, Int.reduceEq, Nat.reduceBEq, stab, evW, Nat.reduceSub, List.replicate_succ, List.replicate_zero, a125_r0, a125_r1, a125_r2, a125_r3, a125_r4, a125_r5, a125_r13, c1, h2, h3]
    rfl


theorem loop126 (E : Env) (h208 : E.tbl 208 = some e208) (h209 : E.tbl 209 = some e209) (lo : Nat) (σ : St) (hlo : lo ≤ σ.length) (x : C) (l : List Nat) (hx : SlC σ.length 1 x (bR l)) (hl : l.length ≤ 1000000) (hB : By l) (N : Nat) (hN : N ≤ 1000000) : ∀ (n i at_ : Nat) (acc : List ByteArray), i + n = N → acc.length = i → at_ ≤ l.length →
    ((gL eS n (l.drop at_)).1 = 0 → at_ + (gL eS n (l.drop at_)).2.2 ≤ l.length ∧ EvL E lo [true, false, false, false, false, true, true, false, true, true] [false, false, true, true, true, false, true, false, true] (σ.length + 2) l126_0 (x :: U :: U :: U :: U :: .d (.int .i64 (N : Nat)) :: .d (.int .i64 (at_ : Nat)) :: U :: .o 1 (sR acc) (σ.length + 1) :: .d (.int .i64 (i : Nat)) :: U :: U :: U :: U :: U :: U :: U :: U :: U :: U :: U :: U :: U :: U :: U :: U :: U :: U :: U :: U :: U :: U :: U :: U :: U :: U :: U :: U :: U :: U :: U :: U :: U :: U :: U :: U :: U :: []) (σ ++ [some (.tok 9 1 0), some (.tok 9 1 acc.length)]) =
      some (.exit 0, (U :: U :: U :: U :: U :: U :: .d (.int .i64 (at_ + (gL eS n (l.drop at_)).2.2 : Nat)) :: U :: .o 1 (sR (acc ++ (gL eS n (l.drop at_)).2.1)) (σ.length + 1) :: U :: U :: U :: U :: U :: U :: U :: U :: U :: U :: U :: U :: U :: U :: U :: U :: U :: U :: U :: U :: U :: U :: U :: U :: U :: U :: U :: U :: U :: U :: U :: U :: U :: U :: U :: U :: U :: U :: []), σ ++ [some (.tok 9 1 0), some (.tok 9 1 (acc ++ (gL eS n (l.drop at_)).2.1).length)])) ∧
    ((gL eS n (l.drop at_)).1 ≠ 0 → ∃ (at' : Nat) (acc' : List ByteArray), EvL E lo [true, false, false, false, false, true, true, false, true, true] [false, false, true, true, true, false, true, false, true] (σ.length + 2) l126_0 (x :: U :: U :: U :: U :: .d (.int .i64 (N : Nat)) :: .d (.int .i64 (at_ : Nat)) :: U :: .o 1 (sR acc) (σ.length + 1) :: .d (.int .i64 (i : Nat)) :: U :: U :: U :: U :: U :: U :: U :: U :: U :: U :: U :: U :: U :: U :: U :: U :: U :: U :: U :: U :: U :: U :: U :: U :: U :: U :: U :: U :: U :: U :: U :: U :: U :: U :: U :: U :: U :: []) (σ ++ [some (.tok 9 1 0), some (.tok 9 1 acc.length)]) =
      some (.ret, (U :: U :: .d (.sl 1 []) :: .d (.int .i64 0) :: .d (.int .i64 ((gL eS n (l.drop at_)).1 : Nat)) :: U :: .d (.int .i64 (at' : Nat)) :: U :: .o 1 (sR acc') (σ.length + 1) :: U :: U :: U :: U :: U :: U :: U :: U :: U :: U :: U :: U :: U :: U :: U :: U :: U :: U :: U :: U :: U :: U :: U :: U :: U :: U :: U :: U :: U :: U :: U :: U :: U :: U :: U :: U :: U :: U :: []), σ ++ [some (.tok 9 1 0), some (.tok 9 1 acc'.length)])) := by
  have hcut := hx.cut (σ.length + 2) (by omega)
  have hrow := hx.row
  intro n
  induction n with
  | zero =>
    intro i at_ acc h ha hat
    refine ⟨fun _ => ⟨by simp only [gL]; omega, ?_⟩, fun h => absurd rfl h⟩
    rw [EvL_eq]
    simp (disch := omega) only [evs, evR, ev1, evOp, evO, setT, binC, binInt, unC, ↓reduceIte, keepT, C.one, toDss, toDs, toD, Nat.reduceAdd, Nat.reduceLT, Nat.reduceLeDiff, Int.reduceLT, Int.reduceLE, Nat.reduceEqDiff, endE, finE, resC, retC, finC, cutA, cut1, C.ltL, C.ltLL, tokOf, aggOf, Int.reduceEq, Nat.reduceBEq, stab, evW, l126_0, a126_r6, a126_r7, a126_r8, a126_r10, a126_r11, a126_r12, hcut]
    simp [gL]
  | succ n ih =>
    intro i at_ acc h ha hat
    have hw : IntKind.i64.wrap ((i : Int) + 1) = ((i + 1 : Nat) : Int) := by rw [IntKind.wrap_i64]; omega
    have hfrom := bR_from l at_
    have c1 := c209 E h208 h209 lo (σ ++ [some (.tok 9 1 0), some (.tok 9 1 acc.length)]) (by rw [st_len]; omega) (.d (.sl 1 (bR (l.drop at_)))) (l.drop at_) (.d _ _ _) (by rw [List.length_drop]; omega) (hB.drop at_)
    by_cases he : (eS (l.drop at_)).1 = 0
    · have hu := eS_used he
      have hu' : (eS (l.drop at_)).2.2 ≤ l.length - at_ := by rw [List.length_drop] at hu; exact hu
      have hw2 : IntKind.i64.wrap ((at_ : Int) + ((eS (l.drop at_)).2.2 : Nat)) = ((at_ + (eS (l.drop at_)).2.2 : Nat) : Int) := by rw [IntKind.wrap_i64]; omega
      have hdd : (l.drop at_).drop (eS (l.drop at_)).2.2 = l.drop (at_ + (eS (l.drop at_)).2.2) := by rw [List.drop_drop]
      obtain ⟨ih1, ih2⟩ := ih (i + 1) (at_ + (eS (l.drop at_)).2.2) (acc ++ [(eS (l.drop at_)).2.1]) (by omega) (by simp; omega) (by omega)
      have hacc : sR acc ++ [[.str (eS (l.drop at_)).2.1]] = sR (acc ++ [(eS (l.drop at_)).2.1]) := by simp [sR]
      have hal : (sR acc).length = acc.length := by simp [sR]
      simp only [List.length_append, List.length_cons, List.length_nil, Nat.zero_add] at ih1 ih2
      rw [EvL_eq]
      generalize hL : EvL E lo _ _ _ _ = L at ih1 ih2 ⊢
      by_cases hr : (gL eS n (l.drop (at_ + (eS (l.drop at_)).2.2))).1 = 0
      · have key : gL eS (n + 1) (l.drop at_) = (0, (eS (l.drop at_)).2.1 :: (gL eS n (l.drop (at_ + (eS (l.drop at_)).2.2))).2.1, (eS (l.drop at_)).2.2 + (gL eS n (l.drop (at_ + (eS (l.drop at_)).2.2))).2.2) := by
          rw [gL, if_neg (by omega), hdd, if_neg (fun h => h hr)]
        obtain ⟨q1, q2⟩ := ih1 hr
        rw [key]
        refine ⟨fun _ => ⟨by simp only []; omega, ?_⟩, fun h => absurd rfl h⟩
        clear ih ih1 ih2 key hr hu hu'
        simp only [eS] at *
        simp (disch := omega) only [evs, evR, ev1, evOp, evO, setT, binC, binInt, unC, ↓reduceIte, keepT, C.one, toDss, toDs, toD, Nat.reduceAdd, Nat.reduceLT, Nat.reduceLeDiff, Int.reduceLT, Int.reduceLE, Nat.reduceEqDiff, endE, finE, resC, retC, finC, cutA, cut1, C.ltL, C.ltLL, tokOf, aggOf, Int.reduceEq, Nat.reduceBEq, stab, evW, l126_0, a126_r6, a126_r7, a126_r8, a126_r10, a126_r11, a126_r12, hcut, hrow, boundN, bR_len, hfrom, c1, hw, hw2, hal, hacc, he]
        rw [q2]
        simp [Nat.add_assoc, Nat.add_comm 1]
      · have key : gL eS (n + 1) (l.drop at_) = ((gL eS n (l.drop (at_ + (eS (l.drop at_)).2.2))).1, [], 0) := by
          rw [gL, if_neg (by omega), hdd, if_pos hr]
        obtain ⟨at', acc', q⟩ := ih2 hr
        rw [key]
        refine ⟨fun h => absurd h hr, fun _ => ⟨at', acc', ?_⟩⟩
        clear ih ih1 ih2 key hr hu hu'
        simp only [eS] at *
        simp (disch := omega) only [evs, evR, ev1, evOp, evO, setT, binC, binInt, unC, ↓reduceIte, keepT, C.one, toDss, toDs, toD, Nat.reduceAdd, Nat.reduceLT, Nat.reduceLeDiff, Int.reduceLT, Int.reduceLE, Nat.reduceEqDiff, endE, finE, resC, retC, finC, cutA, cut1, C.ltL, C.ltLL, tokOf, aggOf, Int.reduceEq, Nat.reduceBEq, stab, evW, l126_0, a126_r6, a126_r7, a126_r8, a126_r10, a126_r11, a126_r12, hcut, hrow, boundN, bR_len, hfrom, c1, hw, hw2, hal, hacc, he]
        exact q
    · have hle := eS_le (l.drop at_)
      have key : gL eS (n + 1) (l.drop at_) = ((eS (l.drop at_)).1, [], 0) := by rw [gL, if_pos (by omega)]
      rw [key]
      simp only [eS] at *
      refine ⟨fun h => absurd h he, fun _ => ⟨at_, acc, ?_⟩⟩
      rw [EvL_eq]
      simp (disch := omega) only [evs, evR, ev1, evOp, evO, setT, binC, binInt, unC, ↓reduceIte, keepT, C.one, toDss, toDs, toD, Nat.reduceAdd, Nat.reduceLT, Nat.reduceLeDiff, Int.reduceLT, Int.reduceLE, Nat.reduceEqDiff, endE, finE, resC, retC, finC, cutA, cut1, C.ltL, C.ltLL, tokOf, aggOf, Int.reduceEq, Nat.reduceBEq, stab, evW, l126_0, a126_r6, a126_r7, a126_r8, a126_r9, hcut, hrow, boundN, bR_len, hfrom, c1]

theorem c126 (E : Env) (h208 : E.tbl 208 = some e208) (h207 : E.tbl 207 = some e207) (h209 : E.tbl 209 = some e209) (h126 : E.tbl 126 = some e126) (lo : Nat) (σ : St) (hlo : lo ≤ σ.length) (x : C) (l : List Nat) (hx : SlC σ.length 1 x (bR l)) (hl : l.length ≤ 1000000) (hB : By l) :
    EvF E lo (.fn 126) [x] σ = some (.tup [.d (.sl 1 (sR (dL eS l).2.1)), .d (.int .i64 ((dL eS l).2.2 : Nat)), .d (.int .i64 ((dL eS l).1 : Nat))], σ) := by
  rw [EvF_fn h126]
  have c1 := c207 E h208 h207 lo (σ ++ [some (.tok 9 1 0)]) (by rw [st_len]; omega) x l (hx.mono (by rw [st_len]; omega)) hl hB
  have hcut := hx.cut (σ.length + 2) (by omega)
  simp only [e126, List.replicate_succ, List.replicate_zero]
  rcases l_cases l with ⟨e, h1, h2, h3, h4, h5, h6⟩ | ⟨e, e', h2, h3⟩
  · obtain ⟨n, hn⟩ : ∃ n : Nat, gV l = (n : Int) := ⟨(gV l).toNat, by omega⟩
    rw [hn] at h3 h5
    obtain ⟨k1, k2⟩ := loop126 E h208 h209 lo σ hlo x l hx hl hB n (by omega) n 0 (gU l) [] (by omega) rfl (by omega)
    have hz : ((0 : Nat) : Int) = 0 := rfl
    have hR0 : sR [] = [] := rfl
    simp only [hz, hR0, List.length_nil, List.nil_append] at k1 k2
    have key : dL eS l = if (gL eS n (l.drop (gU l))).1 ≠ 0 then ((gL eS n (l.drop (gU l))).1, [], 0) else (0, (gL eS n (l.drop (gU l))).2.1, gU l + (gL eS n (l.drop (gU l))).2.2) := by
      unfold dL
      rw [if_neg (by omega), h2, h3, Int.toNat_natCast]
    rw [key]
    by_cases hr : (gL eS n (l.drop (gU l))).1 = 0
    · obtain ⟨q1, q2⟩ := k1 hr
      rw [if_neg (by omega)]
      simp (disch := omega) only [evs, evR, ev1, evOp, evO, setT, binC, binInt, unC, ↓reduceIte, keepT, C.one, toDss, toDs, toD, Nat.reduceAdd, Nat.reduceLT, Nat.reduceLeDiff, Int.reduceLT, Int.reduceLE, Nat.reduceEqDiff, endE, finE, resC, retC, finC, cutA, cut1, C.ltL, C.ltLL, tokOf, aggOf, Int.reduceEq, Nat.reduceBEq, stab, evW, Nat.reduceSub, List.replicate_succ, List.replicate_zero, a126_r0, a126_r1, a126_r2, a126_r3, a126_r4, a126_r5, a126_r13, c1, e, h2, h3, hcut, q2]
      simp
    · obtain ⟨at', acc', q2⟩ := k2 hr
      rw [if_pos hr]
      simp (disch := omega) only [evs, evR, ev1, evOp, evO, setT, binC, binInt, unC, ↓reduceIte, keepT, C.one, toDss, toDs, toD, Nat.reduceAdd, Nat.reduceLT, Nat.reduceLeDiff, Int.reduceLT, Int.reduceLE, Nat.reduceEqDiff, endE, finE, resC, retC, finC, cutA, cut1, C.ltL, C.ltLL, tokOf, aggOf, Int.reduceEq, Nat.reduceBEq, stab, evW, Nat.reduceSub, List.replicate_succ, List.replicate_zero, a126_r0, a126_r1, a126_r2, a126_r3, a126_r4, a126_r5, a126_r13, c1, e, h2, h3, hcut, q2]
      rfl
  · have key : dL eS l = (lE l, [], 0) := by unfold dL; rw [if_pos e]
    rw [key]
    simp (disch := omega) only [evs, evR, ev1, evOp, evO, setT, binC, binInt, unC, ↓reduceIte, keepT, C.one, toDss, toDs, toD, Nat.reduceAdd, Nat.reduceLT, Nat.reduceLeDiff, Int.reduceLT, Int.reduceLE, Nat.reduceEqDiff, endE, finE, resC, retC, finC, cutA, cut1, C.ltL, C.ltLL, tokOf, aggOf, Int.reduceEq, Nat.reduceBEq, stab, evW, Nat.reduceSub, List.replicate_succ, List.replicate_zero, a126_r0, a126_r1, a126_r2, a126_r3, a126_r4, a126_r5, a126_r13, c1, h2, h3]
    rfl

end Go.Proofs.YtbecgpajbcafiaaGreat

set_option linter.unusedVariables false
set_option linter.unusedSimpArgs false
namespace Go.Proofs.YtbecgpajbcafiaaGreat
open Go.Av Go.RowKit

theorem iR_from1 (l : List Int) : List.take (((l.length : Nat) : Int).toNat - (1 : Int).toNat) (List.drop (1 : Int).toNat (iR l)) = iR l.tail := by
  cases l with
  | nil => rfl
  | cons a l =>
    show List.take (((l.length + 1 : Nat) : Int).toNat - 1) ((iR (a :: l)).drop 1) = iR l
    rw [Int.toNat_natCast, Nat.add_sub_cancel, iR_cons, List.drop_succ_cons, List.drop_zero, List.take_of_length_le (by rw [iR_len]; exact Nat.le_refl _)]

/-- The numbers, the words, and whether something was wrong. -/
abbrev bx (n : List Int) (w : List ByteArray) (b : Bool) : Ob := .box 182 [.d (.sl 1 (iR n)), .d (.sl 1 (sR w)), .d (.bool b)]
def nX (n : List Int) (b : Bool) : Int := if b then 0 else n.headD 0
def nN (n : List Int) (b : Bool) : List Int := if b then n else n.tail
def nB (n : List Int) (b : Bool) : Bool := b || n.isEmpty
def cB (n : List Int) (b : Bool) (left : Int) : Bool := nB n b || (decide (nX n b < 0) || decide (left < nX n b))
def cX (n : List Int) (b : Bool) (left : Int) : Int := if cB n b left then 0 else nX n b
def rep : Nat → List Int → Bool → List Int × List Int × Bool
  | 0, n, b => ([], n, b)
  | k + 1, n, b => (nX n b :: (rep k (nN n b) (nB n b)).1, (rep k (nN n b) (nB n b)).2)
/-- A list of numbers. -/
def lstN (n : List Int) (b : Bool) : List Int × List Int × Bool := rep (cX n b n.length).toNat (nN n b) (cB n b n.length)

theorem c121 (E : Env) (h121 : E.tbl 121 = some e121) (lo : Nat) (σ : St) (p : Nat) (hlo : lo ≤ p) (n : List Int) (w : List ByteArray) (b : Bool) (hp : σ[p]? = some (some (bx n w b))) :
    EvF E lo (.fn 121) [.ref p 0] σ = some (.d (.int .i64 (nX n b)), σ.set p (some (bx (nN n b) w (nB n b)))) := by
  have hpl : p < σ.length := (List.getElem?_eq_some_iff.1 hp).1
  rw [EvF_fn h121]
  unfold nX nN nB
  simp only [e121, List.replicate_succ, List.replicate_zero]
  cases b with
  | true =>
    simp (disch := omega) only [evs, evR, ev1, evOp, evO, setT, binC, binInt, unC, ↓reduceIte, keepT, C.one, toDss, toDs, toD, Nat.reduceAdd, Nat.reduceLT, Nat.reduceLeDiff, Int.reduceLT, Int.reduceLE, Nat.reduceEqDiff, endE, finE, resC, retC, finC, cutA, cut1, C.ltL, C.ltLL, tokOf, aggOf, Int.reduceEq, Nat.reduceBEq, stab, evW, Nat.reduceSub, List.replicate_succ, List.replicate_zero, a121_r0, a121_r1, a121_r2, a121_r3, a121_r4, a121_r5, a121_r6, hp, gdec]
    rfl
  | false =>
    cases n with
    | nil =>
      have hl : (iR []).length = 0 := rfl
      have hz : ((0 : Nat) : Int) = 0 := rfl
      simp (disch := omega) only [evs, evR, ev1, evOp, evO, setT, binC, binInt, unC, ↓reduceIte, keepT, C.one, toDss, toDs, toD, Nat.reduceAdd, Nat.reduceLT, Nat.reduceLeDiff, Int.reduceLT, Int.reduceLE, Nat.reduceEqDiff, endE, finE, resC, retC, finC, cutA, cut1, C.ltL, C.ltLL, tokOf, aggOf, Int.reduceEq, Nat.reduceBEq, stab, evW, Nat.reduceSub, List.replicate_succ, List.replicate_zero, a121_r0, a121_r1, a121_r2, a121_r3, a121_r4, a121_r5, a121_r6, hp, gdec, hl, hz]
      rfl
    | cons x r =>
      have hl : (iR (x :: r)).length = (x :: r).length := iR_len _
      have hn : (x :: r).length = r.length + 1 := rfl
      have h0 : (iR (x :: r)).getD (0 : Int).toNat [] = [.int .i64 x] := rfl
      have hf := iR_from1 (x :: r)
      rw [hn] at hf
      simp (disch := omega) only [evs, evR, ev1, evOp, evO, setT, binC, binInt, unC, ↓reduceIte, keepT, C.one, toDss, toDs, toD, Nat.reduceAdd, Nat.reduceLT, Nat.reduceLeDiff, Int.reduceLT, Int.reduceLE, Nat.reduceEqDiff, endE, finE, resC, retC, finC, cutA, cut1, C.ltL, C.ltLL, tokOf, aggOf, Int.reduceEq, Nat.reduceBEq, stab, evW, Nat.reduceSub, List.replicate_succ, List.replicate_zero, a121_r0, a121_r1, a121_r2, a121_r3, a121_r4, a121_r5, a121_r6, hp, gdec, hl, hn, h0, boundN, hf]
      rfl

theorem c123 (E : Env) (h121 : E.tbl 121 = some e121) (h123 : E.tbl 123 = some e123) (lo : Nat) (σ : St) (p : Nat) (hlo : lo ≤ p) (n : List Int) (w : List ByteArray) (b : Bool) (left : Int) (hp : σ[p]? = some (some (bx n w b))) :
    EvF E lo (.fn 123) [.ref p 0, .d (.int .i64 left)] σ = some (.d (.int .i64 (cX n b left)), σ.set p (some (bx (nN n b) w (cB n b left)))) := by
  have hpl : p < σ.length := (List.getElem?_eq_some_iff.1 hp).1
  have c1 := c121 E h121 lo σ p hlo n w b hp
  rw [EvF_fn h123]
  unfold cX cB
  generalize nX n b = X at c1 ⊢
  generalize nN n b = N at c1 ⊢
  generalize nB n b = B at c1 ⊢
  simp only [e123, List.replicate_succ, List.replicate_zero]
  cases B with
  | true =>
    simp (disch := omega) only [evs, evR, ev1, evOp, evO, setT, binC, binInt, unC, ↓reduceIte, keepT, C.one, toDss, toDs, toD, Nat.reduceAdd, Nat.reduceLT, Nat.reduceLeDiff, Int.reduceLT, Int.reduceLE, Nat.reduceEqDiff, endE, finE, resC, retC, finC, cutA, cut1, C.ltL, C.ltLL, tokOf, aggOf, Int.reduceEq, Nat.reduceBEq, stab, evW, Nat.reduceSub, List.replicate_succ, List.replicate_zero, a123_r0, a123_r1, a123_r2, a123_r3, a123_r4, a123_r5, c1, gdec]
    rfl
  | false =>
    by_cases h1 : X < 0
    · simp (disch := omega) only [evs, evR, ev1, evOp, evO, setT, binC, binInt, unC, ↓reduceIte, keepT, C.one, toDss, toDs, toD, Nat.reduceAdd, Nat.reduceLT, Nat.reduceLeDiff, Int.reduceLT, Int.reduceLE, Nat.reduceEqDiff, endE, finE, resC, retC, finC, cutA, cut1, C.ltL, C.ltLL, tokOf, aggOf, Int.reduceEq, Nat.reduceBEq, stab, evW, Nat.reduceSub, List.replicate_succ, List.replicate_zero, a123_r0, a123_r1, a123_r2, a123_r3, a123_r4, a123_r5, c1, gdec]
      rfl
    · by_cases h2 : left < X
      · simp (disch := omega) only [evs, evR, ev1, evOp, evO, setT, binC, binInt, unC, ↓reduceIte, keepT, C.one, toDss, toDs, toD, Nat.reduceAdd, Nat.reduceLT, Nat.reduceLeDiff, Int.reduceLT, Int.reduceLE, Nat.reduceEqDiff, endE, finE, resC, retC, finC, cutA, cut1, C.ltL, C.ltLL, tokOf, aggOf, Int.reduceEq, Nat.reduceBEq, stab, evW, Nat.reduceSub, List.replicate_succ, List.replicate_zero, a123_r0, a123_r1, a123_r2, a123_r3, a123_r4, a123_r5, c1, gdec]
        rfl
      · simp (disch := omega) only [evs, evR, ev1, evOp, evO, setT, binC, binInt, unC, ↓reduceIte, keepT, C.one, toDss, toDs, toD, Nat.reduceAdd, Nat.reduceLT, Nat.reduceLeDiff, Int.reduceLT, Int.reduceLE, Nat.reduceEqDiff, endE, finE, resC, retC, finC, cutA, cut1, C.ltL, C.ltLL, tokOf, aggOf, Int.reduceEq, Nat.reduceBEq, stab, evW, Nat.reduceSub, List.replicate_succ, List.replicate_zero, a123_r0, a123_r1, a123_r2, a123_r3, a123_r4, a123_r5, c1, gdec]
        rfl

theorem sst_len (σ l : St) (p : Nat) (x : Option Ob) : (σ.set p x ++ l).length = σ.length + l.length := by rw [List.length_append, List.length_set]
theorem sst_get (σ l : St) (p i : Nat) (x : Option Ob) : (σ.set p x ++ l)[σ.length + i]? = l[i]? := by have := st_get (σ.set p x) l i; rw [List.length_set] at this; exact this
theorem sst_set (σ l : St) (p i : Nat) (x b : Option Ob) : (σ.set p x ++ l).set (σ.length + i) b = σ.set p x ++ l.set i b := by have := st_set (σ.set p x) l i b; rw [List.length_set] at this; exact this
theorem sst_take (σ l : St) (p i : Nat) (x : Option Ob) : (σ.set p x ++ l).take (σ.length + i) = σ.set p x ++ l.take i := by have := st_take_i (σ.set p x) l i; rw [List.length_set] at this; exact this
theorem sst_take0 (σ l : St) (p : Nat) (x : Option Ob) : (σ.set p x ++ l).take σ.length = σ.set p x := by have := st_take (σ.set p x) l; rw [List.length_set] at this; exact this
theorem sst_getp {σ : St} {p : Nat} (h : p < σ.length) (l : St) (x : Option Ob) : (σ.set p x ++ l)[p]? = some x := by rw [List.getElem?_append_left (by rw [List.length_set]; exact h), st_gset h]
theorem sst_setp {σ : St} {p : Nat} (h : p < σ.length) (l : St) (x y : Option Ob) : (σ.set p x ++ l).set p y = σ.set p y ++ l := by rw [List.set_append_left _ _ (by rw [List.length_set]; exact h), List.set_set]
theorem st_getp {σ : St} {p : Nat} (h : p < σ.length) (l : St) : (σ ++ l)[p]? = σ[p]? := List.getElem?_append_left h
theorem st_setp {σ : St} {p : Nat} (h : p < σ.length) (l : St) (y : Option Ob) : (σ ++ l).set p y = σ.set p y ++ l := List.set_append_left _ _ h

theorem loop122 (E : Env) (h121 : E.tbl 121 = some e121) (lo : Nat) (σ : St) (p : Nat) (hlo : lo ≤ p) (hpl : p < σ.length) (w : List ByteArray) (N : Nat) (hN : N ≤ 1000000) : ∀ (k i : Nat) (n : List Int) (b : Bool) (acc : List Int), i + k = N → acc.length = i →
    EvL E lo [true, false, false, true, false, false, false, false, false, false, true, true] [false, false, false, true] (σ.length + 2) l122_0 [.ref p 0, U, U, .o 1 (iR acc) (σ.length + 1), U, U, U, U, U, U, .d (.int .i64 (N : Nat)), .d (.int .i64 (i : Nat)), U, U, U, U, U, U, U, U] (σ.set p (some (bx n w b)) ++ [some (.tok 3 1 0), some (.tok 3 1 acc.length)]) =
      some (.exit 0, [U, U, U, .o 1 (iR (acc ++ (rep k n b).1)) (σ.length + 1), U, U, U, U, U, U, U, U, U, U, U, U, U, U, U, U], σ.set p (some (bx (rep k n b).2.1 w (rep k n b).2.2)) ++ [some (.tok 3 1 0), some (.tok 3 1 (acc ++ (rep k n b).1).length)]) := by
  intro k
  induction k with
  | zero =>
    intro i n b acc h ha
    rw [EvL_eq]
    simp (disch := omega) only [evs, evR, ev1, evOp, evO, setT, binC, binInt, unC, ↓reduceIte, keepT, C.one, toDss, toDs, toD, Nat.reduceAdd, Nat.reduceLT, Nat.reduceLeDiff, Int.reduceLT, Int.reduceLE, Nat.reduceEqDiff, endE, finE, resC, retC, finC, cutA, cut1, C.ltL, C.ltLL, tokOf, aggOf, Int.reduceEq, Nat.reduceBEq, stab, evW, l122_0, a122_r3, a122_r4, a122_r5, rep, sst_take]
  | succ k ih =>
    intro i n b acc h ha
    have hw : IntKind.i64.wrap ((i : Int) + 1) = ((i + 1 : Nat) : Int) := by rw [IntKind.wrap_i64]; omega
    have c1 := c121 E h121 lo (σ.set p (some (bx n w b)) ++ [some (.tok 3 1 0), some (.tok 3 1 acc.length)]) p hlo n w b (sst_getp hpl _ _)
    rw [sst_setp hpl] at c1
    have ih := ih (i + 1) (nN n b) (nB n b) (acc ++ [nX n b]) (by omega) (by simp; omega)
    have hacc : iR acc ++ [[.int .i64 (nX n b)]] = iR (acc ++ [nX n b]) := by simp [iR]
    simp only [List.length_append, List.length_cons, List.length_nil, Nat.zero_add] at ih
    rw [EvL_eq]
    generalize hL : EvL E lo _ _ _ _ = L at ih ⊢
    simp (disch := omega) only [evs, evR, ev1, evOp, evO, setT, binC, binInt, unC, ↓reduceIte, keepT, C.one, toDss, toDs, toD, Nat.reduceAdd, Nat.reduceLT, Nat.reduceLeDiff, Int.reduceLT, Int.reduceLE, Nat.reduceEqDiff, endE, finE, resC, retC, finC, cutA, cut1, C.ltL, C.ltLL, tokOf, aggOf, Int.reduceEq, Nat.reduceBEq, stab, evW, l122_0, a122_r3, a122_r4, a122_r5, sst_take, sst_len, sst_get, sst_set, c1, hw, iR_len, hacc]
    rw [ih]
    simp [rep, Nat.add_assoc, Nat.add_comm 1]

theorem c122 (E : Env) (h121 : E.tbl 121 = some e121) (h123 : E.tbl 123 = some e123) (h122 : E.tbl 122 = some e122) (lo : Nat) (σ : St) (p : Nat) (hlo : lo ≤ p) (n : List Int) (w : List ByteArray) (b : Bool) (hp : σ[p]? = some (some (bx n w b))) (hl : n.length ≤ 1000000) :
    EvF E lo (.fn 122) [.ref p 0] σ = some (.o 1 (iR (lstN n b).1) σ.length, σ.set p (some (bx (lstN n b).2.1 w (lstN n b).2.2)) ++ [some (.tok 3 1 (lstN n b).1.length)]) := by
  have hpl : p < σ.length := (List.getElem?_eq_some_iff.1 hp).1
  have c1 := c123 E h121 h123 lo (σ ++ [some (.tok 3 1 0), some (.tok 3 1 0)]) p hlo n w b (n.length : Nat) (by rw [st_getp hpl]; exact hp)
  rw [st_setp hpl] at c1
  obtain ⟨N, hX, hN⟩ : ∃ N : Nat, cX n b (n.length : Nat) = (N : Int) ∧ N ≤ 1000000 := by
    refine ⟨(cX n b (n.length : Nat)).toNat, ?_, ?_⟩ <;> (unfold cX cB; split <;> rename_i h <;> first
      | rfl
      | (simp only [Int.toNat_zero]; omega)
      | (simp only [Bool.or_eq_true, decide_eq_true_eq, not_or] at h; omega))
  rw [hX] at c1
  have e2 := loop122 E h121 lo σ p hlo hpl w N hN N 0 (nN n b) (cB n b (n.length : Nat)) [] (by omega) rfl
  have hz : ((0 : Nat) : Int) = 0 := rfl
  have hR0 : iR [] = [] := rfl
  simp only [hz, hR0, List.length_nil, List.nil_append] at e2
  rw [EvF_fn h122]
  unfold lstN
  rw [hX, Int.toNat_natCast]
  simp only [e122, List.replicate_succ, List.replicate_zero]
  simp (disch := omega) only [evs, evR, ev1, evOp, evO, setT, binC, binInt, unC, ↓reduceIte, keepT, C.one, toDss, toDs, toD, Nat.reduceAdd, Nat.reduceLT, Nat.reduceLeDiff, Int.reduceLT, Int.reduceLE, Nat.reduceEqDiff, endE, finE, resC, retC, finC, cutA, cut1, C.ltL, C.ltLL, tokOf, aggOf, Int.reduceEq, Nat.reduceBEq, stab, evW, Nat.reduceSub, List.replicate_succ, List.replicate_zero, a122_r0, a122_r1, a122_r2, a122_r6, st_getp, hp, iR_len, c1, e2, sst_len, sst_take0, sst_get]
end Go.Proofs.YtbecgpajbcafiaaGreat

set_option linter.unusedVariables false
set_option linter.unusedSimpArgs false
namespace Go.Proofs.YtbecgpajbcafiaaGreat
open Go.Av Go.RowKit

abbrev P2 := List Int × Bool
def nxt (p : P2) : P2 := (nN p.1 p.2, nB p.1 p.2)
def pX (p : P2) : Int := nX p.1 p.2
def cnt (left : Int) (p : P2) : P2 := (nN p.1 p.2, cB p.1 p.2 left)
def cntX (left : Int) (p : P2) : Int := cX p.1 p.2 left
def lstP (p : P2) : List Int × P2 := lstN p.1 p.2
def rep2 : Nat → P2 → List (Int × Int) × P2
  | 0, p => ([], p)
  | k + 1, p => ((pX p, pX (nxt p)) :: (rep2 k (nxt (nxt p))).1, (rep2 k (nxt (nxt p))).2)
def repF : Nat → P2 → List ByteArray → List Fl × P2 × List ByteArray
  | 0, p, w => ([], p, w)
  | k + 1, p, w => (⟨pX p, pX (nxt p), pX (nxt (nxt p)), w.take (cntX w.length (nxt (nxt (nxt p)))).toNat⟩ :: (repF k (cnt w.length (nxt (nxt (nxt p)))) (w.drop (cntX w.length (nxt (nxt (nxt p)))).toNat)).1,
      (repF k (cnt w.length (nxt (nxt (nxt p)))) (w.drop (cntX w.length (nxt (nxt (nxt p)))).toNat)).2)

theorem cX_nat (n : List Int) (b : Bool) (m : Nat) : ∃ c : Nat, cX n b (m : Nat) = (c : Int) ∧ c ≤ m := by
  refine ⟨(cX n b (m : Nat)).toNat, ?_, ?_⟩ <;> (unfold cX cB; split <;> rename_i h <;> first
    | rfl
    | (simp only [Int.toNat_zero]; omega)
    | (simp only [Bool.or_eq_true, decide_eq_true_eq, not_or] at h; omega))
theorem cntX_nat (p : P2) (m : Nat) : ∃ c : Nat, cntX (m : Nat) p = (c : Int) ∧ c ≤ m := cX_nat _ _ _

theorem c121_5 (E : Env) (h121 : E.tbl 121 = some e121) (lo : Nat) (σ : St) (hlo : lo ≤ σ.length) (o0 o1 o2 o3 o4 : Option Ob) (p : P2) (w : List ByteArray) (rest : St) :
    EvF E lo (.fn 121) [.ref (σ.length + 5) 0] (σ ++ o0 :: o1 :: o2 :: o3 :: o4 :: some (bx p.1 w p.2) :: rest) = some (.d (.int .i64 (pX p)), σ ++ o0 :: o1 :: o2 :: o3 :: o4 :: some (bx (nxt p).1 w (nxt p).2) :: rest) := by
  rw [c121 E h121 lo _ (σ.length + 5) (by omega) p.1 w p.2 (by rw [st_get]; rfl), st_set]
  rfl
theorem c123_5 (E : Env) (h121 : E.tbl 121 = some e121) (h123 : E.tbl 123 = some e123) (lo : Nat) (σ : St) (hlo : lo ≤ σ.length) (o0 o1 o2 o3 o4 : Option Ob) (p : P2) (w : List ByteArray) (rest : St) (left : Int) :
    EvF E lo (.fn 123) [.ref (σ.length + 5) 0, .d (.int .i64 left)] (σ ++ o0 :: o1 :: o2 :: o3 :: o4 :: some (bx p.1 w p.2) :: rest) = some (.d (.int .i64 (cntX left p)), σ ++ o0 :: o1 :: o2 :: o3 :: o4 :: some (bx (cnt left p).1 w (cnt left p).2) :: rest) := by
  rw [c123 E h121 h123 lo _ (σ.length + 5) (by omega) p.1 w p.2 left (by rw [st_get]; rfl), st_set]
  rfl
theorem c122_5 (E : Env) (h121 : E.tbl 121 = some e121) (h123 : E.tbl 123 = some e123) (h122 : E.tbl 122 = some e122) (lo : Nat) (σ : St) (hlo : lo ≤ σ.length) (o0 o1 o2 o3 o4 : Option Ob) (p : P2) (w : List ByteArray) (rest : St) (hl : p.1.length ≤ 1000000) :
    EvF E lo (.fn 122) [.ref (σ.length + 5) 0] (σ ++ o0 :: o1 :: o2 :: o3 :: o4 :: some (bx p.1 w p.2) :: rest) = some (.o 1 (iR (lstP p).1) (σ.length + (rest.length + 6)), σ ++ o0 :: o1 :: o2 :: o3 :: o4 :: some (bx (lstP p).2.1 w (lstP p).2.2) :: (rest ++ [some (.tok 3 1 (lstP p).1.length)])) := by
  rw [c122 E h121 h123 h122 lo _ (σ.length + 5) (by omega) p.1 w p.2 (by rw [st_get]; rfl) hl, st_set, st_len]
  simp only [List.length_cons, List.set_cons_succ, List.set_cons_zero, st_app, List.cons_append]
  rfl

theorem loop47_1 (E : Env) (h121 : E.tbl 121 = some e121) (lo : Nat) (σ : St) (hlo : lo ≤ σ.length) (w : List ByteArray) (o0 o1 o2 o3 o4 o6 o7 o9 o11 o12 : Option Ob) (c0 c1 c2 c4 c5 c6 c7 c8 c9 : C) (N : Nat) (hN : N ≤ 1000000) : ∀ (k i : Nat) (p : P2) (acc : List (Int × Int)) (tk : Ob), i + k = N → acc.length = i → (tk = .tok 119 2 acc.length ∨ (tk = .ntok 119 2 ∧ acc.length = 0)) →
    ∃ tk', EvL E lo [false, false, true, false, false, false, false, false, false, true, true, false, false, false, false, false, false, false, false, false, false, false, false, false, false, false, false, false, false, false, false, false, false, false, false, false, false, false, false, false, false, false, false, false, false, false, false, false, false, false, false, false, false, false, false, false, false, false, false, false, false, false, false, false, false, false, false, false, false, false, true, true] [false, false, true, false, false, false, false, false, false, true, true] (σ.length + 13) l47_1 (U :: U :: .ref (σ.length + 4) 0 :: U :: U :: U :: U :: U :: U :: .ref (σ.length + 5) 0 :: .ref (σ.length + 10) 0 :: U :: U :: U :: U :: U :: U :: U :: U :: U :: U :: U :: U :: U :: U :: U :: U :: U :: U :: U :: U :: U :: U :: U :: U :: U :: U :: U :: U :: U :: U :: U :: U :: U :: U :: U :: U :: U :: U :: U :: U :: U :: U :: U :: U :: U :: U :: U :: U :: U :: U :: U :: U :: U :: U :: U :: U :: U :: U :: U :: .d (.int .i64 (N : Nat)) :: .d (.int .i64 (i : Nat)) :: U :: U :: U :: U :: U :: U :: U :: U :: U :: U :: U :: U :: U :: U :: U :: U :: U :: U :: U :: U :: U :: U :: U :: U :: U :: U :: U :: U :: U :: U :: U :: U :: U :: U :: U :: U :: U :: U :: U :: U :: U :: U :: U :: U :: U :: U :: U :: U :: U :: U :: U :: U :: U :: U :: U :: U :: U :: U :: U :: U :: U :: U :: U :: U :: U :: U :: U :: U :: U :: U :: U :: U :: U :: U :: U :: U :: U :: U :: U :: []) (σ ++ [o0, o1, o2, o3, o4, some (bx (p).1 w (p).2), o6, o7, some tk, o9, some (.box 33 [c0, c1, c2, .o 2 (shR acc) (σ.length + 8), c4, c5, c6, c7, c8, c9]), o11, o12]) =
      some (.exit 0, (U :: U :: .ref (σ.length + 4) 0 :: U :: U :: U :: U :: U :: U :: .ref (σ.length + 5) 0 :: .ref (σ.length + 10) 0 :: U :: U :: U :: U :: U :: U :: U :: U :: U :: U :: U :: U :: U :: U :: U :: U :: U :: U :: U :: U :: U :: U :: U :: U :: U :: U :: U :: U :: U :: U :: U :: U :: U :: U :: U :: U :: U :: U :: U :: U :: U :: U :: U :: U :: U :: U :: U :: U :: U :: U :: U :: U :: U :: U :: U :: U :: U :: U :: U :: U :: U :: U :: U :: U :: U :: U :: U :: U :: U :: U :: U :: U :: U :: U :: U :: U :: U :: U :: U :: U :: U :: U :: U :: U :: U :: U :: U :: U :: U :: U :: U :: U :: U :: U :: U :: U :: U :: U :: U :: U :: U :: U :: U :: U :: U :: U :: U :: U :: U :: U :: U :: U :: U :: U :: U :: U :: U :: U :: U :: U :: U :: U :: U :: U :: U :: U :: U :: U :: U :: U :: U :: U :: U :: U :: U :: U :: U :: U :: U :: U :: []), (σ ++ [o0, o1, o2, o3, o4, some (bx ((rep2 k p).2).1 w ((rep2 k p).2).2), o6, o7, some tk', o9, some (.box 33 [c0, c1, c2, .o 2 (shR (acc ++ (rep2 k p).1)) (σ.length + 8), c4, c5, c6, c7, c8, c9]), o11, o12])) := by
  intro k
  induction k with
  | zero =>
    intro i p acc tk h ha htk
    refine ⟨tk, ?_⟩
    rw [EvL_eq]
    simp (disch := omega) only [evs, evR, ev1, evOp, evO, setT, binC, binInt, unC, ↓reduceIte, keepT, C.one, toDss, toDs, toD, Nat.reduceAdd, Nat.reduceLT, Nat.reduceLeDiff, Int.reduceLT, Int.reduceLE, Nat.reduceEqDiff, endE, finE, resC, retC, finC, cutA, cut1, C.ltL, C.ltLL, tokOf, aggOf, Int.reduceEq, Nat.reduceBEq, stab, evW, l47_1, a47_r11, rep2]
  | succ k ih =>
    intro i p acc tk h ha htk
    have hw : IntKind.i64.wrap ((i : Int) + 1) = ((i + 1 : Nat) : Int) := by rw [IntKind.wrap_i64]; omega
    have n5 := c121_5 E h121 lo σ hlo
    obtain ⟨tk', ih⟩ := ih (i + 1) (nxt (nxt p)) (acc ++ [(pX p, pX (nxt p))]) (.tok 119 2 (acc.length + 1)) (by omega) (by simp; omega) (.inl (by simp))
    have hacc : shR acc ++ [[.int .i64 (pX p), .int .i64 (pX (nxt p))]] = shR (acc ++ [(pX p, pX (nxt p))]) := by simp [shR]
    refine ⟨tk', ?_⟩
    rw [EvL_eq]
    generalize hL : EvL E lo _ _ _ _ = L at ih ⊢
    rcases htk with rfl | ⟨rfl, h0⟩
    · simp (disch := omega) only [evs, evR, ev1, evOp, evO, setT, binC, binInt, unC, ↓reduceIte, keepT, C.one, toDss, toDs, toD, Nat.reduceAdd, Nat.reduceLT, Nat.reduceLeDiff, Int.reduceLT, Int.reduceLE, Nat.reduceEqDiff, endE, finE, resC, retC, finC, cutA, cut1, C.ltL, C.ltLL, tokOf, aggOf, Int.reduceEq, Nat.reduceBEq, stab, evW, l47_1, a47_r11, a47_d12, a47_r13, n5, shR_len, hacc, hw, ha, fillC]
      simp only [ha] at ih
      rw [ih]
      simp [rep2]
    · simp (disch := omega) only [evs, evR, ev1, evOp, evO, setT, binC, binInt, unC, ↓reduceIte, keepT, C.one, toDss, toDs, toD, Nat.reduceAdd, Nat.reduceLT, Nat.reduceLeDiff, Int.reduceLT, Int.reduceLE, Nat.reduceEqDiff, endE, finE, resC, retC, finC, cutA, cut1, C.ltL, C.ltLL, tokOf, aggOf, Int.reduceEq, Nat.reduceBEq, stab, evW, l47_1, a47_r11, a47_d12, a47_r13, n5, shR_len, hacc, hw, ha, fillC]
      simp only [ha] at ih
      rw [ih]
      simp [rep2]
end Go.Proofs.YtbecgpajbcafiaaGreat

set_option linter.unusedVariables false
set_option linter.unusedSimpArgs false
namespace Go.Proofs.YtbecgpajbcafiaaGreat
open Go.Av Go.RowKit

theorem sR_take (l : List ByteArray) (c : Nat) : List.take (((c : Nat) : Int).toNat - (0 : Int).toNat) (List.drop (0 : Int).toNat (sR l)) = sR (l.take c) := by
  show List.take (((c : Nat) : Int).toNat - 0) (List.drop 0 (sR l)) = _
  rw [Int.toNat_natCast, List.drop_zero, Nat.sub_zero]
  simp [sR, List.map_take]
theorem sR_from (l : List ByteArray) (u : Nat) : List.take (((l.length : Nat) : Int).toNat - ((u : Nat) : Int).toNat) (List.drop ((u : Nat) : Int).toNat (sR l)) = sR (l.drop u) := by
  rw [Int.toNat_natCast, Int.toNat_natCast, List.take_of_length_le (by simp [sR])]
  simp [sR, List.map_drop]

set_option maxRecDepth 20000 in
theorem loop47_0 (E : Env) (h121 : E.tbl 121 = some e121) (h123 : E.tbl 123 = some e123) (lo : Nat) (hcl : ∀ (τ : St) (rows : List (List D)), lo ≤ τ.length → rows.length ≤ 1000000 → EvF E lo (.fn 124) [.d (.sl 1 rows)] τ = some (.o 1 rows τ.length, τ ++ [some (.tok 9 1 rows.length)])) (σ : St) (hlo : lo ≤ σ.length) (o0 o1 o2 o3 o4 o6 o7 o8 o11 o12 : Option Ob) (c0 c1 c2 c3 c4 c5 c6 c7 c8 : C) (N : Nat) (hN : N ≤ 1000000) : ∀ (k i : Nat) (p : P2) (w : List ByteArray) (acc : List Fl) (tk : Ob), w.length ≤ 1000000 → i + k = N → acc.length = i → (tk = .tok 100 4 acc.length ∨ (tk = .ntok 100 4 ∧ acc.length = 0)) →
    ∃ tk', EvL E lo [false, false, true, false, false, false, false, false, false, true, true, false, false, false, false, false, false, false, false, false, false, false, false, false, false, false, false, false, false, false, false, false, false, false, false, false, false, false, false, false, false, false, false, false, false, false, false, false, false, false, false, false, false, false, false, false, false, false, false, false, false, false, false, false, false, false, false, false, false, false, false, false, false, false, false, false, false, false, false, false, false, false, false, false, false, false, false, false, false, false, true, true] [false, false, true, false, false, false, false, false, false, true, true] (σ.length + 13) l47_0 (U :: U :: .ref (σ.length + 4) 0 :: U :: U :: U :: U :: U :: U :: .ref (σ.length + 5) 0 :: .ref (σ.length + 10) 0 :: U :: U :: U :: U :: U :: U :: U :: U :: U :: U :: U :: U :: U :: U :: U :: U :: U :: U :: U :: U :: U :: U :: U :: U :: U :: U :: U :: U :: U :: U :: U :: U :: U :: U :: U :: U :: U :: U :: U :: U :: U :: U :: U :: U :: U :: U :: U :: U :: U :: U :: U :: U :: U :: U :: U :: U :: U :: U :: U :: U :: U :: U :: U :: U :: U :: U :: U :: U :: U :: U :: U :: U :: U :: U :: U :: U :: U :: U :: U :: .d (.int .i64 (N : Nat)) :: .d (.int .i64 (i : Nat)) :: U :: U :: U :: U :: U :: U :: U :: U :: U :: U :: U :: U :: U :: U :: U :: U :: U :: U :: U :: U :: U :: U :: U :: U :: U :: U :: U :: U :: U :: U :: U :: U :: U :: U :: U :: U :: U :: U :: U :: U :: U :: U :: U :: U :: U :: U :: U :: U :: U :: U :: U :: U :: U :: U :: U :: U :: U :: U :: U :: []) (σ ++ [o0, o1, o2, o3, o4, some (bx (p).1 w (p).2), o6, o7, o8, some tk, some (.box 33 [c0, c1, c2, c3, c4, c5, c6, c7, c8, .o 4 (flR acc) (σ.length + 9)]), o11, o12]) =
      some (.exit 2, (U :: U :: .ref (σ.length + 4) 0 :: U :: U :: U :: U :: U :: U :: .ref (σ.length + 5) 0 :: .ref (σ.length + 10) 0 :: U :: U :: U :: U :: U :: U :: U :: U :: U :: U :: U :: U :: U :: U :: U :: U :: U :: U :: U :: U :: U :: U :: U :: U :: U :: U :: U :: U :: U :: U :: U :: U :: U :: U :: U :: U :: U :: U :: U :: U :: U :: U :: U :: U :: U :: U :: U :: U :: U :: U :: U :: U :: U :: U :: U :: U :: U :: U :: U :: U :: U :: U :: U :: U :: U :: U :: U :: U :: U :: U :: U :: U :: U :: U :: U :: U :: U :: U :: U :: U :: U :: U :: U :: U :: U :: U :: U :: U :: U :: U :: U :: U :: U :: U :: U :: U :: U :: U :: U :: U :: U :: U :: U :: U :: U :: U :: U :: U :: U :: U :: U :: U :: U :: U :: U :: U :: U :: U :: U :: U :: U :: U :: U :: U :: U :: U :: U :: U :: U :: U :: U :: U :: U :: U :: U :: U :: U :: U :: U :: U :: []), (σ ++ [o0, o1, o2, o3, o4, some (bx ((repF k p w).2.1).1 (repF k p w).2.2 ((repF k p w).2.1).2), o6, o7, o8, some tk', some (.box 33 [c0, c1, c2, c3, c4, c5, c6, c7, c8, .o 4 (flR (acc ++ (repF k p w).1)) (σ.length + 9)]), o11, o12])) := by
  intro k
  induction k with
  | zero =>
    intro i p w acc tk hwl h ha htk
    refine ⟨tk, ?_⟩
    rw [EvL_eq]
    simp (disch := omega) only [evs, evR, ev1, evOp, evO, setT, binC, binInt, unC, ↓reduceIte, keepT, C.one, toDss, toDs, toD, Nat.reduceAdd, Nat.reduceLT, Nat.reduceLeDiff, Int.reduceLT, Int.reduceLE, Nat.reduceEqDiff, endE, finE, resC, retC, finC, cutA, cut1, C.ltL, C.ltLL, tokOf, aggOf, Int.reduceEq, Nat.reduceBEq, stab, evW, l47_0, a47_r15, repF]
  | succ k ih =>
    intro i p w acc tk hwl h ha htk
    have hw : IntKind.i64.wrap ((i : Int) + 1) = ((i + 1 : Nat) : Int) := by rw [IntKind.wrap_i64]; omega
    have n5 := c121_5 E h121 lo σ hlo
    have m5 := c123_5 E h121 h123 lo σ hlo
    obtain ⟨c, hc, hcw⟩ := cntX_nat (nxt (nxt (nxt p))) w.length
    have hcl' : ∀ τ : St, lo ≤ τ.length → EvF E lo (.fn 124) [.d (.sl 1 (sR (w.take c)))] τ = some (.o 1 (sR (w.take c)) τ.length, τ ++ [some (.tok 9 1 (w.take c).length)]) := fun τ hτ => by
      rw [hcl τ _ hτ (by rw [sR_len, List.length_take]; omega), sR_len]
    have ht1 := sR_take w c
    have ht2 := sR_from w c
    have e : (cntX w.length (nxt (nxt (nxt p)))).toNat = c := by rw [hc, Int.toNat_natCast]
    obtain ⟨tk', ih⟩ := ih (i + 1) (cnt w.length (nxt (nxt (nxt p)))) (w.drop c) (acc ++ [⟨pX p, pX (nxt p), pX (nxt (nxt p)), w.take c⟩]) (.tok 100 4 (acc.length + 1)) (by rw [List.length_drop]; omega) (by omega) (by simp; omega) (.inl (by simp))
    have hacc : flR acc ++ [[.int .i64 (pX p), .int .i64 (pX (nxt p)), .int .i64 (pX (nxt (nxt p))), .sl 1 (sR (w.take c))]] = flR (acc ++ [⟨pX p, pX (nxt p), pX (nxt (nxt p)), w.take c⟩]) := by simp [flR]
    refine ⟨tk', ?_⟩
    rw [repF, e]
    rw [EvL_eq]
    generalize hL : EvL E lo _ _ _ _ = L at ih ⊢
    rcases htk with rfl | ⟨rfl, h0⟩
    · simp (disch := first | omega | (simp only [st_len, List.length_cons, List.length_nil]; omega)) only [evs, evR, ev1, evOp, evO, setT, binC, binInt, unC, ↓reduceIte, keepT, C.one, toDss, toDs, toD, Nat.reduceAdd, Nat.reduceLT, Nat.reduceLeDiff, Int.reduceLT, Int.reduceLE, Nat.reduceEqDiff, endE, finE, resC, retC, finC, cutA, cut1, C.ltL, C.ltLL, tokOf, aggOf, Int.reduceEq, Nat.reduceBEq, stab, evW, l47_0, a47_r15, a47_r16, a47_r17, a47_d18, a47_r19, a47_r20, n5, m5, hc, hcl', ht1, ht2, boundN, sR_len, flR_len, hacc, hw, ha, fillC]
      simp only [ha] at ih
      rw [ih]
      simp
    · simp (disch := first | omega | (simp only [st_len, List.length_cons, List.length_nil]; omega)) only [evs, evR, ev1, evOp, evO, setT, binC, binInt, unC, ↓reduceIte, keepT, C.one, toDss, toDs, toD, Nat.reduceAdd, Nat.reduceLT, Nat.reduceLeDiff, Int.reduceLT, Int.reduceLE, Nat.reduceEqDiff, endE, finE, resC, retC, finC, cutA, cut1, C.ltL, C.ltLL, tokOf, aggOf, Int.reduceEq, Nat.reduceBEq, stab, evW, l47_0, a47_r15, a47_r16, a47_r17, a47_d18, a47_r19, a47_r20, n5, m5, hc, hcl', ht1, ht2, boundN, sR_len, flR_len, hacc, hw, ha, fillC]
      simp only [ha] at ih
      rw [ih]
      simp
end Go.Proofs.YtbecgpajbcafiaaGreat

set_option linter.unusedVariables false
set_option linter.unusedSimpArgs false
namespace Go.Proofs.YtbecgpajbcafiaaGreat
open Go.Av Go.RowKit

theorem gL_used {α : Type} {e : List Nat → Nat × α × Nat} (he : ∀ l, (e l).1 = 0 → (e l).2.2 ≤ l.length) : ∀ (n : Nat) (l : List Nat), (gL e n l).1 = 0 → (gL e n l).2.2 ≤ l.length ∧ (gL e n l).2.1.length = n
  | 0, l, h => ⟨by simp [gL], by simp [gL]⟩
  | n + 1, l, h => by
    rw [gL] at h ⊢
    by_cases h1 : (e l).1 = 0
    · rw [if_neg (fun h => h h1)] at h ⊢
      by_cases h2 : (gL e n (l.drop (e l).2.2)).1 = 0
      · rw [if_neg (fun h => h h2)] at h ⊢
        have := gL_used he n _ h2
        have h3 := he l h1
        rw [List.length_drop] at this
        simp only [List.length_cons]
        omega
      · rw [if_pos h2] at h
        exact absurd h h2
    · rw [if_pos h1] at h
      exact absurd h h1
theorem dL_used {α : Type} {e : List Nat → Nat × α × Nat} (he : ∀ l, (e l).1 = 0 → (e l).2.2 ≤ l.length) (l : List Nat) (h : (dL e l).1 = 0) : (dL e l).2.2 ≤ l.length ∧ (dL e l).2.1.length ≤ l.length := by
  unfold dL at h ⊢
  rcases l_cases l with ⟨k1, k2, k3, k4, k5, k6, k7⟩ | ⟨k1, _⟩
  · rw [if_neg (fun h => h k1)] at h ⊢
    by_cases h2 : (gL e (lN l).toNat (l.drop (lU l))).1 = 0
    · rw [if_neg (fun h => h h2)] at h ⊢
      have := gL_used he _ _ h2
      rw [List.length_drop] at this
      simp only []
      omega
    · rw [if_pos h2] at h
      exact absurd h h2
  · rw [if_pos k1] at h
    exact absurd h k1

def z0s : Zs := ⟨0, [], [], [], 0, 0, 0, 0, 0, []⟩
/-- The summary of numbers and words. -/
def bldP (p : P2) (w : List ByteArray) : Nat × Zs :=
  let l1 := lstP (nxt (nxt (nxt (nxt (nxt (nxt p))))))
  let l2 := lstP l1.2
  let s := rep2 (cntX l2.2.1.length l2.2).toNat (cnt l2.2.1.length l2.2)
  let f := repF (cntX s.2.1.length s.2).toNat (cnt s.2.1.length s.2) w
  if f.2.1.2 = true ∨ 0 < f.2.1.1.length + f.2.2.length then (11, z0s) else
    (0, ⟨pX p, l1.1, l2.1, s.1, pX (nxt p), pX (nxt (nxt p)), pX (nxt (nxt (nxt p))), pX (nxt (nxt (nxt (nxt p)))), pX (nxt (nxt (nxt (nxt (nxt p))))), f.1⟩)
def zdec (l : List Nat) : Nat × Zs :=
  if (dL eI l).1 ≠ 0 then ((dL eI l).1, z0s) else if (dL eS (l.drop (dL eI l).2.2)).1 ≠ 0 then ((dL eS (l.drop (dL eI l).2.2)).1, z0s) else
    bldP ((dL eI l).2.1, decide ((dL eI l).2.2 + (dL eS (l.drop (dL eI l).2.2)).2.2 ≠ l.length)) (dL eS (l.drop (dL eI l).2.2)).2.1

theorem nxt_len (p : P2) : (nxt p).1.length ≤ p.1.length := by
  simp only [nxt, nN]; split
  · exact Nat.le_refl _
  · rw [List.length_tail]; omega
theorem cnt_len (m : Int) (p : P2) : (cnt m p).1.length ≤ p.1.length := nxt_len p
theorem rep_len : ∀ (k : Nat) (n : List Int) (b : Bool), (rep k n b).2.1.length ≤ n.length
  | 0, n, b => Nat.le_refl _
  | k + 1, n, b => Nat.le_trans (rep_len k (nN n b) (nB n b)) (nxt_len (n, b))
theorem lstP_len (p : P2) : (lstP p).2.1.length ≤ p.1.length := Nat.le_trans (rep_len _ _ _) (nxt_len p)
theorem rep2_len : ∀ (k : Nat) (p : P2), (rep2 k p).2.1.length ≤ p.1.length
  | 0, p => Nat.le_refl _
  | k + 1, p => Nat.le_trans (rep2_len k _) (Nat.le_trans (nxt_len _) (nxt_len _))
theorem repF_len : ∀ (k : Nat) (p : P2) (w : List ByteArray), (repF k p w).2.1.1.length ≤ p.1.length ∧ (repF k p w).2.2.length ≤ w.length
  | 0, p, w => ⟨Nat.le_refl _, Nat.le_refl _⟩
  | k + 1, p, w => by
    obtain ⟨h1, h2⟩ := repF_len k (cnt w.length (nxt (nxt (nxt p)))) (w.drop (cntX w.length (nxt (nxt (nxt p)))).toNat)
    have a1 := nxt_len p
    have a2 := nxt_len (nxt p)
    have a3 := nxt_len (nxt (nxt p))
    have a4 := cnt_len (w.length : Nat) (nxt (nxt (nxt p)))
    rw [List.length_drop] at h2
    simp only [repF]
    omega
theorem shR_nil : shR [] = [] := rfl
theorem flR_nil : flR [] = [] := rfl

set_option maxRecDepth 20000 in
set_option maxHeartbeats 1000000 in
theorem c47 (E : Env) (h47 : E.tbl 47 = some e47) (h119 : E.tbl 119 = some e119) (h120 : E.tbl 120 = some e120) (h203 : E.tbl 203 = some e203) (h204 : E.tbl 204 = some e204) (h205 : E.tbl 205 = some e205) (h206 : E.tbl 206 = some e206) (h253 : E.tbl 253 = some e253) (h121 : E.tbl 121 = some e121) (h122 : E.tbl 122 = some e122) (h123 : E.tbl 123 = some e123)
    (lo : Nat) (hcl : ∀ (τ : St) (rows : List (List D)), lo ≤ τ.length → rows.length ≤ 1000000 → EvF E lo (.fn 124) [.d (.sl 1 rows)] τ = some (.o 1 rows τ.length, τ ++ [some (.tok 9 1 rows.length)])) (σ : St) (hlo : lo ≤ σ.length) (x : C) (l : List Nat) (hx : SlC σ.length 1 x (bR l)) (hl : l.length ≤ 1000000) (hB : By l) :
    EvF E lo (.fn 47) [x] σ = some (.tup [.agg (zC (zdec l).2), .d (.int .i64 ((zdec l).1 : Nat))], σ) := by
  rw [EvF_fn h47]
  have a1 : ∀ τ : St, σ.length ≤ τ.length → EvF E lo (.fn 119) [x] τ = _ := fun τ h => c119 E h204 h253 h203 h119 lo τ (by omega) x l (hx.mono h) hl hB
  have hlen := hx.len
  rw [bR_len] at hlen
  have hrow := hx.row
  have hfrom := bR_from l (dL eI l).2.2
  simp only [e47, List.replicate_succ, List.replicate_zero]
  unfold zdec
  by_cases h1 : (dL eI l).1 = 0
  · obtain ⟨u1, u2⟩ := dL_used (e := eI) (fun l h => eI_used h) l h1
    have a2 : ∀ τ : St, lo ≤ τ.length → EvF E lo (.fn 120) [.d (.sl 1 (bR (l.drop (dL eI l).2.2)))] τ = _ := fun τ h => c120 E h204 h253 h206 h205 h120 lo τ h _ (l.drop (dL eI l).2.2) (.d _ _ _) (by rw [List.length_drop]; omega) (hB.drop _)
    by_cases h2 : (dL eS (l.drop (dL eI l).2.2)).1 = 0
    · obtain ⟨u3, u4⟩ := dL_used (e := eS) (fun l h => eS_used h) _ h2
      rw [List.length_drop] at u3 u4
      rw [if_neg (fun h => h h1), if_neg (fun h => h h2)]
      have e1z : ((0 : Nat) : Int) = 0 := rfl
      rw [h1, e1z] at a1
      rw [h2, e1z] at a2
      have hwr : IntKind.i64.wrap (((dL eI l).2.2 : Int) + ((dL eS (l.drop (dL eI l).2.2)).2.2 : Nat)) = (((dL eI l).2.2 + (dL eS (l.drop (dL eI l).2.2)).2.2 : Nat) : Int) := by rw [IntKind.wrap_i64]; omega
      generalize hw : (dL eS (l.drop (dL eI l).2.2)).2.1 = w at a2 u4 ⊢
      have hpb : ((((dL eI l).2.2 + (dL eS (l.drop (dL eI l).2.2)).2.2 : Nat) : Int) != (l.length : Nat)) = decide ((dL eI l).2.2 + (dL eS (l.drop (dL eI l).2.2)).2.2 ≠ l.length) := by
        by_cases h : (dL eI l).2.2 + (dL eS (l.drop (dL eI l).2.2)).2.2 = l.length
        · rw [ibne_f (by omega), decide_eq_false (by omega)]
        · rw [ibne_t (by omega), decide_eq_true h]
      generalize hp : ((dL eI l).2.1, decide ((dL eI l).2.2 + (dL eS (l.drop (dL eI l).2.2)).2.2 ≠ l.length)) = p at *
      have hp1 : (dL eI l).2.1 = p.1 := by rw [← hp]
      have hp2 : decide ((dL eI l).2.2 + (dL eS (l.drop (dL eI l).2.2)).2.2 ≠ l.length) = p.2 := by rw [← hp]
      rw [hp2] at hpb
      rw [hp1] at a1 u2
      clear hp hp1 hp2 hw
      have n5 := c121_5 E h121 lo σ hlo
      have m5 := c123_5 E h121 h123 lo σ hlo
      have q1 := nxt_len p
      have q2 := nxt_len (nxt p)
      have q3 := nxt_len (nxt (nxt p))
      have q4 := nxt_len (nxt (nxt (nxt p)))
      have q5 := nxt_len (nxt (nxt (nxt (nxt p))))
      have q6 := nxt_len (nxt (nxt (nxt (nxt (nxt p)))))
      have l5 : ∀ (o0 o1 o2 o3 o4 : Option Ob) (rest : St), _ := fun o0 o1 o2 o3 o4 rest => c122_5 E h121 h123 h122 lo σ hlo o0 o1 o2 o3 o4 (nxt (nxt (nxt (nxt (nxt (nxt p)))))) w rest (by omega)
      have q7 := lstP_len (nxt (nxt (nxt (nxt (nxt (nxt p))))))
      have l6 : ∀ (o0 o1 o2 o3 o4 : Option Ob) (rest : St), _ := fun o0 o1 o2 o3 o4 rest => c122_5 E h121 h123 h122 lo σ hlo o0 o1 o2 o3 o4 (lstP (nxt (nxt (nxt (nxt (nxt (nxt p))))))).2 w rest (by omega)
      unfold bldP
      dsimp only
      generalize hl1 : lstP (nxt (nxt (nxt (nxt (nxt (nxt p)))))) = l1 at *
      have q8 := lstP_len l1.2
      generalize hl2 : lstP l1.2 = l2 at *
      obtain ⟨k1, hk1, hk1'⟩ := cntX_nat l2.2 l2.2.1.length
      have q9 := cnt_len (l2.2.1.length : Nat) l2.2
      have q10 := rep2_len k1 (cnt (l2.2.1.length : Nat) l2.2)
      obtain ⟨tk1, e1⟩ := loop47_1 E h121 lo σ hlo w (some (.ntok 3 1)) (some (.ntok 3 1)) (some (.ntok 119 2)) (some (.ntok 100 4)) (some (.box 33 [.d (.int .i64 0), .o 1 [] σ.length, .o 1 [] (σ.length + 1), .o 2 [] (σ.length + 2), .d (.int .i64 0), .d (.int .i64 0), .d (.int .i64 0), .d (.int .i64 0), .d (.int .i64 0), .o 4 [] (σ.length + 3)]))
        (some (.ntok 3 1)) (some (.ntok 3 1)) (some (.ntok 100 4)) (some (.tok 3 1 l1.1.length)) (some (.tok 3 1 l2.1.length)) (.d (.int .i64 (pX p))) (.d (.sl 1 (iR l1.1))) (.d (.sl 1 (iR l2.1))) (.d (.int .i64 (pX (nxt p)))) (.d (.int .i64 (pX (nxt (nxt p))))) (.d (.int .i64 (pX (nxt (nxt (nxt p)))))) (.d (.int .i64 (pX (nxt (nxt (nxt (nxt p))))))) (.d (.int .i64 (pX (nxt (nxt (nxt (nxt (nxt p)))))))) (.o 4 [] (σ.length + 9))
        k1 (by omega) k1 0 (cnt (l2.2.1.length : Nat) l2.2) [] (.ntok 119 2) (by omega) rfl (.inr ⟨rfl, rfl⟩)
      have ek1 : (cntX l2.2.1.length l2.2).toNat = k1 := by rw [hk1, Int.toNat_natCast]
      simp only [ek1]
      generalize hs : rep2 k1 (cnt (l2.2.1.length : Nat) l2.2) = s at *
      obtain ⟨k2, hk2, hk2'⟩ := cntX_nat s.2 s.2.1.length
      have ek2 : (cntX s.2.1.length s.2).toNat = k2 := by rw [hk2, Int.toNat_natCast]
      simp only [ek2]
      obtain ⟨tk2, e2⟩ := loop47_0 E h121 h123 lo hcl σ hlo (some (.ntok 3 1)) (some (.ntok 3 1)) (some (.ntok 119 2)) (some (.ntok 100 4)) (some (.box 33 [.d (.int .i64 0), .o 1 [] σ.length, .o 1 [] (σ.length + 1), .o 2 [] (σ.length + 2), .d (.int .i64 0), .d (.int .i64 0), .d (.int .i64 0), .d (.int .i64 0), .d (.int .i64 0), .o 4 [] (σ.length + 3)]))
        (some (.ntok 3 1)) (some (.ntok 3 1)) (some tk1) (some (.tok 3 1 l1.1.length)) (some (.tok 3 1 l2.1.length)) (.d (.int .i64 (pX p))) (.d (.sl 1 (iR l1.1))) (.d (.sl 1 (iR l2.1))) (.o 2 (shR s.1) (σ.length + 8)) (.d (.int .i64 (pX (nxt p)))) (.d (.int .i64 (pX (nxt (nxt p))))) (.d (.int .i64 (pX (nxt (nxt (nxt p)))))) (.d (.int .i64 (pX (nxt (nxt (nxt (nxt p))))))) (.d (.int .i64 (pX (nxt (nxt (nxt (nxt (nxt p))))))))
        k2 (by omega) k2 0 (cnt (s.2.1.length : Nat) s.2) w [] (.ntok 100 4) (by omega) (by omega) rfl (.inr ⟨rfl, rfl⟩)
      obtain ⟨q12, q13⟩ := repF_len k2 (cnt (s.2.1.length : Nat) s.2) w
      have q11 := cnt_len (s.2.1.length : Nat) s.2
      generalize hf : repF k2 (cnt (s.2.1.length : Nat) s.2) w = f at *
      simp only [shR_nil, flR_nil, List.nil_append, e1z] at e1 e2
      have hwl : IntKind.i64.wrap ((f.2.1.1.length : Int) + (f.2.2.length : Nat)) = ((f.2.1.1.length + f.2.2.length : Nat) : Int) := by rw [IntKind.wrap_i64]; omega
      generalize hfb : f.2.1.2 = fb at *
      cases fb with
      | true =>
        rw [if_pos (.inl rfl)]
        simp (disch := first | omega | (simp only [st_len, List.length_cons, List.length_nil]; omega)) only [evs, evR, ev1, evOp, evO, setT, binC, binInt, unC, ↓reduceIte, keepT, C.one, toDss, toDs, toD, Nat.reduceAdd, Nat.reduceLT, Nat.reduceLeDiff, Int.reduceLT, Int.reduceLE, Nat.reduceEqDiff, endE, finE, resC, retC, finC, cutA, cut1, C.ltL, C.ltLL, tokOf, aggOf, Int.reduceEq, Nat.reduceBEq, stab, evW, Nat.reduceSub, List.replicate_succ, List.replicate_zero, a47_r0, a47_r1, a47_r2, a47_r4, a47_r5, a47_r7, a47_r8, a47_r9, a47_r10, a47_r14, a47_r21, a47_r22, a47_r23, a1, a2, h1, h2, hlen, hrow, hfrom, boundN, bR_len, hwr, hpb, n5, m5, l5, l6, hl2, hk1, hk2, e1, e2, fillC, iR_len, sR_len, gdec, hwl, hfb, shR_nil, flR_nil]
        rfl
      | false =>
        by_cases hfl : 0 < f.2.1.1.length + f.2.2.length
        · rw [if_pos (.inr hfl)]
          simp (disch := first | omega | (simp only [st_len, List.length_cons, List.length_nil]; omega)) only [evs, evR, ev1, evOp, evO, setT, binC, binInt, unC, ↓reduceIte, keepT, C.one, toDss, toDs, toD, Nat.reduceAdd, Nat.reduceLT, Nat.reduceLeDiff, Int.reduceLT, Int.reduceLE, Nat.reduceEqDiff, endE, finE, resC, retC, finC, cutA, cut1, C.ltL, C.ltLL, tokOf, aggOf, Int.reduceEq, Nat.reduceBEq, stab, evW, Nat.reduceSub, List.replicate_succ, List.replicate_zero, a47_r0, a47_r1, a47_r2, a47_r4, a47_r5, a47_r7, a47_r8, a47_r9, a47_r10, a47_r14, a47_r21, a47_r22, a47_r23, a1, a2, h1, h2, hlen, hrow, hfrom, boundN, bR_len, hwr, hpb, n5, m5, l5, l6, hl2, hk1, hk2, e1, e2, fillC, iR_len, sR_len, gdec, hwl, hfb, shR_nil, flR_nil]
          rfl
        · rw [if_neg (by intro h; rcases h with h | h; · cases h
                         · exact hfl h)]
          simp (disch := first | omega | (simp only [st_len, List.length_cons, List.length_nil]; omega)) only [evs, evR, ev1, evOp, evO, setT, binC, binInt, unC, ↓reduceIte, keepT, C.one, toDss, toDs, toD, Nat.reduceAdd, Nat.reduceLT, Nat.reduceLeDiff, Int.reduceLT, Int.reduceLE, Nat.reduceEqDiff, endE, finE, resC, retC, finC, cutA, cut1, C.ltL, C.ltLL, tokOf, aggOf, Int.reduceEq, Nat.reduceBEq, stab, evW, Nat.reduceSub, List.replicate_succ, List.replicate_zero, a47_r0, a47_r1, a47_r2, a47_r4, a47_r5, a47_r7, a47_r8, a47_r9, a47_r10, a47_r14, a47_r21, a47_r22, a47_r23, a1, a2, h1, h2, hlen, hrow, hfrom, boundN, bR_len, hwr, hpb, n5, m5, l5, l6, hl2, hk1, hk2, e1, e2, fillC, iR_len, sR_len, gdec, hwl, hfb, shR_nil, flR_nil]
          rfl
    · rw [if_neg (fun h => h h1), if_pos h2]
      have e1z : ((0 : Nat) : Int) = 0 := rfl
      rw [h1, e1z] at a1
      simp (disch := first | omega | (simp only [st_len, List.length_cons, List.length_nil]; omega)) only [evs, evR, ev1, evOp, evO, setT, binC, binInt, unC, ↓reduceIte, keepT, C.one, toDss, toDs, toD, Nat.reduceAdd, Nat.reduceLT, Nat.reduceLeDiff, Int.reduceLT, Int.reduceLE, Nat.reduceEqDiff, endE, finE, resC, retC, finC, cutA, cut1, C.ltL, C.ltLL, tokOf, aggOf, Int.reduceEq, Nat.reduceBEq, stab, evW, Nat.reduceSub, List.replicate_succ, List.replicate_zero, a47_r0, a47_r1, a47_r2, a47_r4, a47_r5, a47_r7, a47_r8, a47_r9, a47_r10, a47_r14, a47_r21, a47_r22, a47_r23, a47_r6, a1, a2, h1, hlen, hrow, hfrom, boundN, bR_len, fillC]
      rfl
  · rw [if_pos h1]
    simp (disch := first | omega | (simp only [st_len, List.length_cons, List.length_nil]; omega)) only [evs, evR, ev1, evOp, evO, setT, binC, binInt, unC, ↓reduceIte, keepT, C.one, toDss, toDs, toD, Nat.reduceAdd, Nat.reduceLT, Nat.reduceLeDiff, Int.reduceLT, Int.reduceLE, Nat.reduceEqDiff, endE, finE, resC, retC, finC, cutA, cut1, C.ltL, C.ltLL, tokOf, aggOf, Int.reduceEq, Nat.reduceBEq, stab, evW, Nat.reduceSub, List.replicate_succ, List.replicate_zero, a47_r0, a47_r1, a47_r2, a47_r4, a47_r5, a47_r7, a47_r8, a47_r9, a47_r10, a47_r14, a47_r21, a47_r22, a47_r23, a47_r3, a1, h1, hlen, hrow, fillC]
    rfl
end Go.Proofs.YtbecgpajbcafiaaGreat
