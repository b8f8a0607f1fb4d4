/-
  Decoding of numbers, as a plain function; and what the machine reckons with at it.
  The program's decoding of a number.
  Decoding of lengths and byte strings: the program's and the reference's.
  Decoding of lists: the program's.
  The reference's decoding of a number.
-/
import Derived.Test.YtbecgpajbcafiaaGreatKF
import Derived.Test.YtbecgpajbcafiaaGreatKD
set_option linter.unusedVariables false
set_option linter.unusedSimpArgs false
namespace Go.Proofs.YtbecgpajbcafiaaGreat
open Go.Av Go.RowKit

def By (l : List Nat) : Prop := ∀ b ∈ l, b < 256
theorem By.drop {l : List Nat} (h : By l) (n : Nat) : By (l.drop n) := fun b hb => h b (List.mem_of_mem_drop hb)
theorem By.tail {c : Nat} {l : List Nat} (h : By (c :: l)) : By l := fun b hb => h b (List.mem_cons_of_mem _ hb)
theorem By.head {c : Nat} {l : List Nat} (h : By (c :: l)) : c < 256 := h c (List.mem_cons_self ..)

/-- The digits from the k-th on: what is wrong (0: nothing), the sum, how many bytes. -/
def gi : Nat → Nat → List Nat → Nat × Nat × Nat
  | _, z, [] => (10, z, 0)
  | k, z, c :: l => if (k = 9 ∧ 1 < c) ∨ (0 < k ∧ c = 0) then (11, z, 0) else if c < 128 then (0, z + c % 128 * 128 ^ k, k + 1) else gi (k + 1) (z + c % 128 * 128 ^ k) l

/-- The number for which z stands. -/
def unzz (z : Nat) : Int := if z % 2 = 0 then ((z / 2 : Nat) : Int) else -((z / 2 : Nat) : Int) - 1
def gE (l : List Nat) : Nat := (gi 0 0 l).1
def gV (l : List Nat) : Int := if gE l = 0 then unzz (gi 0 0 l).2.1 else 0
def gU (l : List Nat) : Nat := (gi 0 0 l).2.2

theorem pow_le9 {k : Nat} (h : k ≤ 9) : 128 ^ k ≤ 9223372036854775808 := by
  have : (128 : Nat) ^ k ≤ 128 ^ 9 := Nat.pow_le_pow_right (by decide) h
  have e : (128 : Nat) ^ 9 = 9223372036854775808 := by decide
  omega

theorem gi_step {k z c : Nat} (hk : k ≤ 9) (hz : z < 128 ^ k) (hc : ¬ (k = 9 ∧ 1 < c)) : z + c % 128 * 128 ^ k < 18446744073709551616 ∧ (k ≤ 8 → z + c % 128 * 128 ^ k < 128 ^ (k + 1)) := by
  have h9 := pow_le9 hk
  have hm : c % 128 < 128 := Nat.mod_lt _ (by decide)
  have hs : k ≤ 8 → z + c % 128 * 128 ^ k < 128 ^ (k + 1) := by
    intro _
    rw [Nat.pow_succ]
    have : c % 128 * 128 ^ k ≤ 127 * 128 ^ k := Nat.mul_le_mul_right _ (by omega)
    omega
  refine ⟨?_, hs⟩
  by_cases h : k = 9
  · subst h
    have hc1 : c ≤ 1 := by omega
    have : c % 128 * 128 ^ 9 ≤ 1 * 128 ^ 9 := Nat.mul_le_mul_right _ (by omega)
    omega
  · have := hs (by omega)
    have := pow_le9 (k := k + 1) (by omega)
    omega

theorem gi_spec : ∀ (l : List Nat) (k z : Nat), k ≤ 9 → z < 128 ^ k →
    (gi k z l).2.1 < 18446744073709551616 ∧ (((gi k z l).1 = 0 ∧ k < (gi k z l).2.2 ∧ (gi k z l).2.2 ≤ k + l.length ∧ (gi k z l).2.2 ≤ 10) ∨ ((gi k z l).1 = 10 ∧ (gi k z l).2.2 = 0) ∨ ((gi k z l).1 = 11 ∧ (gi k z l).2.2 = 0))
  | [], k, z, hk, hz => by
    have := pow_le9 hk
    exact ⟨by simp only [gi]; omega, .inr (.inl ⟨rfl, rfl⟩)⟩
  | c :: l, k, z, hk, hz => by
    have hp := pow_le9 hk
    by_cases h1 : (k = 9 ∧ 1 < c) ∨ (0 < k ∧ c = 0)
    · rw [gi, if_pos h1]
      exact ⟨by simp only []; omega, .inr (.inr ⟨rfl, rfl⟩)⟩
    · have h2 : ¬ (k = 9 ∧ 1 < c) := fun h => h1 (.inl h)
      obtain ⟨s1, s2⟩ := gi_step hk hz h2
      by_cases h3 : c < 128
      · rw [gi, if_neg h1, if_pos h3]
        exact ⟨s1, .inl ⟨rfl, Nat.lt_succ_self k, by simp only [List.length_cons]; omega, by simp only []; omega⟩⟩
      · rw [gi, if_neg h1, if_neg h3]
        obtain ⟨r1, r2⟩ := gi_spec l (k + 1) _ (by omega) (s2 (by omega))
        refine ⟨r1, ?_⟩
        rcases r2 with ⟨e1, e2, e3, e4⟩ | r2
        · exact .inl ⟨e1, by omega, by simp only [List.length_cons]; omega, e4⟩
        · exact .inr r2

theorem g_cases (l : List Nat) : (gE l = 0 ∧ 0 < gU l ∧ gU l ≤ l.length ∧ gU l ≤ 10) ∨ (gE l = 10 ∧ gU l = 0 ∧ gV l = 0) ∨ (gE l = 11 ∧ gU l = 0 ∧ gV l = 0) := by
  rcases (gi_spec l 0 0 (by omega) (by decide)).2 with ⟨e1, e2, e3, e4⟩ | ⟨e1, e2⟩ | ⟨e1, e2⟩
  · exact .inl ⟨e1, e2, by unfold gU; omega, e4⟩
  · exact .inr (.inl ⟨e1, e2, by unfold gV gE; rw [if_neg (by omega)]⟩)
  · exact .inr (.inr ⟨e1, e2, by unfold gV gE; rw [if_neg (by omega)]⟩)
theorem unzz_I64 {z : Nat} (h : z < 18446744073709551616) : I64 (unzz z) := by unfold unzz I64; split <;> omega
theorem gV_I64 (l : List Nat) : I64 (gV l) := by
  unfold gV
  split
  · exact unzz_I64 (gi_spec l 0 0 (by omega) (by decide)).1
  · exact ⟨by decide, by decide⟩

/-! ### Reckoning -/

set_option maxRecDepth 100000 in
theorem and127_fin : ∀ k : Fin 256, ((BitVec.ofNat 8 k.val &&& 127#8).toNat : Nat) = k.val % 128 := by decide
theorem and127 {c : Nat} (h : c < 256) : IntKind.u8.wrap ((BitVec.ofInt IntKind.u8.bits (c : Int) &&& BitVec.ofInt IntKind.u8.bits 127).toNat : Int) = ((c % 128 : Nat) : Int) := by
  have e : (BitVec.ofInt IntKind.u8.bits (c : Int) &&& BitVec.ofInt IntKind.u8.bits 127).toNat = (BitVec.ofNat 8 c &&& 127#8).toNat := by rw [ofInt_nat]; rfl
  rw [e, and127_fin ⟨c, h⟩, u8_nat]; simp only []; omega

theorem shl7 {k m : Nat} (hk : k ≤ 9) (hm : m * 128 ^ k < 18446744073709551616) : IntKind.u64.wrap ((m : Int) * 2 ^ (min ((7 * k : Nat) : Int).toNat IntKind.u64.bits)) = ((m * 128 ^ k : Nat) : Int) := by
  have e1 : min ((7 * k : Nat) : Int).toNat IntKind.u64.bits = 7 * k := by
    rw [Int.toNat_natCast]
    have : IntKind.u64.bits = 64 := rfl
    omega
  have e2 : (m : Int) * 2 ^ (7 * k) = ((m * 128 ^ k : Nat) : Int) := by
    have : (128 : Nat) ^ k = 2 ^ (7 * k) := by rw [Nat.pow_mul]
    rw [this]
    simp
  rw [e1, e2, u64_nat]
  omega

theorem or_add {k z m : Nat} (hz : z < 128 ^ k) (ht : z + m * 128 ^ k < 18446744073709551616) : IntKind.u64.wrap ((BitVec.ofInt IntKind.u64.bits (z : Int) ||| BitVec.ofInt IntKind.u64.bits ((m * 128 ^ k : Nat) : Int)).toNat : Int) = ((z + m * 128 ^ k : Nat) : Int) := by
  have e : (BitVec.ofInt IntKind.u64.bits (z : Int) ||| BitVec.ofInt IntKind.u64.bits ((m * 128 ^ k : Nat) : Int)).toNat = z + m * 128 ^ k := by
    rw [ofInt_nat, ofInt_nat, BitVec.toNat_or, BitVec.toNat_ofNat, BitVec.toNat_ofNat]
    have b : 2 ^ IntKind.u64.bits = 18446744073709551616 := by decide
    rw [b, Nat.mod_eq_of_lt (by omega), Nat.mod_eq_of_lt (by omega)]
    have p : (128 : Nat) ^ k = 2 ^ (7 * k) := by rw [Nat.pow_mul]
    rw [p] at hz ⊢
    have := Nat.two_pow_add_eq_or_of_lt hz m
    rw [Nat.mul_comm m, Nat.or_comm, ← this, Nat.add_comm]
  rw [e, u64_nat]
  omega

theorem shr1 (z : Nat) : Int.fdiv (z : Int) (2 ^ (min (1 : Int).toNat IntKind.u64.bits)) = ((z / 2 : Nat) : Int) := by
  have e : ((2 : Int) ^ (min (1 : Int).toNat IntKind.u64.bits)) = 2 := by decide
  rw [e, Int.fdiv_eq_ediv_of_nonneg _ (by decide)]
  omega
theorem and1 {z : Nat} (h : z < 18446744073709551616) : IntKind.u64.wrap ((BitVec.ofInt IntKind.u64.bits (z : Int) &&& BitVec.ofInt IntKind.u64.bits 1).toNat : Int) = ((z % 2 : Nat) : Int) := by
  have e : (BitVec.ofInt IntKind.u64.bits (z : Int) &&& BitVec.ofInt IntKind.u64.bits 1).toNat = z % 2 := by
    rw [ofInt_nat]
    show (BitVec.ofNat 64 z &&& 1#64).toNat = z % 2
    rw [BitVec.toNat_and, BitVec.toNat_ofNat]
    show (z % 2 ^ 64) &&& 1 = z % 2
    rw [Nat.and_one_is_mod]
    omega
  rw [e, u64_nat]
  omega
theorem i64_nat {z : Nat} (h : z < 9223372036854775808) : IntKind.i64.wrap (z : Int) = (z : Int) := by rw [IntKind.wrap_i64]; omega
theorem unzz_run {z : Nat} (h : z < 18446744073709551616) : IntKind.i64.wrap ((BitVec.ofInt IntKind.i64.bits ((z / 2 : Nat) : Int) ^^^ BitVec.ofInt IntKind.i64.bits (IntKind.i64.wrap (0 - ((z % 2 : Nat) : Int)))).toNat : Int) = unzz z := by
  rcases Nat.mod_two_eq_zero_or_one z with h0 | h0
  · have e : IntKind.i64.wrap (0 - ((z % 2 : Nat) : Int)) = ((0 : Nat) : Int) := by rw [h0, IntKind.wrap_i64]; decide
    rw [e, ofInt_nat, ofInt_nat]
    have e5 : (BitVec.ofNat IntKind.i64.bits (z / 2) ^^^ BitVec.ofNat IntKind.i64.bits 0).toNat = z / 2 := by
      show (BitVec.ofNat 64 (z / 2) ^^^ BitVec.ofNat 64 0).toNat = z / 2
      simp only [BitVec.xor_zero, BitVec.toNat_ofNat]
      omega
    rw [e5, i64_nat (by omega), unzz, if_pos h0]
  · have e : BitVec.ofInt IntKind.i64.bits (IntKind.i64.wrap (0 - ((z % 2 : Nat) : Int))) = BitVec.ofNat IntKind.i64.bits 18446744073709551615 := by rw [h0, IntKind.wrap_i64]; rfl
    rw [e, ofInt_nat]
    have e5 : (BitVec.ofNat IntKind.i64.bits (z / 2) ^^^ BitVec.ofNat IntKind.i64.bits 18446744073709551615).toNat = 18446744073709551615 - z / 2 := by
      show (BitVec.ofNat 64 (z / 2) ^^^ BitVec.ofNat 64 18446744073709551615).toNat = 18446744073709551615 - z / 2
      rw [xor_all, BitVec.toNat_ofNat]
      omega
    rw [e5, IntKind.wrap_i64, unzz, if_neg (by omega)]
    omega

theorem bR_at (pre : List Nat) (c : Nat) (post : List Nat) : (bR (pre ++ c :: post)).getD pre.length [] = [.int .u8 (c : Int)] := by simp [bR, List.getD_eq_getElem?_getD]
theorem slC_bat {s : Nat} {x : C} {pre : List Nat} {c : Nat} {post : List Nat} (hx : SlC s 1 x (bR (pre ++ c :: post))) : ixC 1 x (pre.length : Int) = some (.elt [.int .u8 (c : Int)] 0) := by
  have := hx.ix (pre.length : Int) (by omega) (by rw [bR_len]; simp only [List.length_append, List.length_cons]; omega)
  rw [Int.toNat_natCast, bR_at] at this
  exact this
end Go.Proofs.YtbecgpajbcafiaaGreat

set_option linter.unusedVariables false
set_option linter.unusedSimpArgs false
namespace Go.Proofs.YtbecgpajbcafiaaGreat
open Go.Av Go.RowKit

set_option maxHeartbeats 1000000 in
theorem loop204 (E : Env) (lo : Nat) (σ : St) (hlo : lo ≤ σ.length) (x : C) (l : List Nat) (hx : SlC σ.length 1 x (bR l)) (hl : l.length ≤ 1000000) (hB : By l) : ∀ (post pre : List Nat) (z : Nat), l = pre ++ post → pre.length ≤ 9 → z < 128 ^ pre.length →
    EvL E lo [false, false, false, false, false, true, true, false, false, true, true, true] [false, false, true, true, true, true, true] σ.length l204_0 (U :: U :: U :: U :: U :: .d (.int .u64 z) :: .d (.int .i64 0) :: U :: U :: x :: .d (.int .i64 (l.length : Nat)) :: .d (.int .i64 (pre.length : Nat)) :: U :: U :: U :: U :: U :: U :: U :: U :: U :: U :: U :: U :: U :: U :: U :: U :: U :: U :: U :: U :: U :: U :: U :: U :: U :: U :: U :: U :: U :: U :: U :: U :: U :: U :: U :: U :: U :: U :: U :: U :: U :: []) σ =
      if (gi pre.length z post).1 = 11 then some (.ret, (U :: U :: .d (.int .i64 0) :: .d (.int .i64 0) :: .d (.int .i64 11) :: .d (.int .u64 (gi pre.length z post).2.1) :: .d (.int .i64 0) :: U :: U :: U :: U :: U :: U :: U :: U :: U :: U :: U :: U :: U :: U :: U :: U :: U :: U :: U :: U :: U :: U :: U :: U :: U :: U :: U :: U :: U :: U :: U :: U :: U :: U :: U :: U :: U :: U :: U :: U :: U :: U :: U :: U :: U :: U :: []), σ) else some (.exit 0, (U :: U :: U :: U :: U :: .d (.int .u64 (gi pre.length z post).2.1) :: .d (.int .i64 (gi pre.length z post).2.2) :: U :: U :: U :: U :: U :: U :: U :: U :: U :: U :: U :: U :: U :: U :: U :: U :: U :: U :: U :: U :: U :: U :: U :: U :: U :: U :: U :: U :: U :: U :: U :: U :: U :: U :: U :: U :: U :: U :: U :: U :: U :: U :: U :: U :: U :: U :: []), σ) := by
  intro post
  induction post with
  | nil =>
    intro pre z h hk hz
    rw [List.append_nil] at h; subst h
    have hcut := hx.cut σ.length (Nat.le_refl _)
    rw [EvL_eq]
    simp (disch := omega) only [evs, evR, ev1, evOp, evO, setT, binC, binInt, unC, ↓reduceIte, keepT, C.one, toDss, toDs, toD, Nat.reduceAdd, Nat.reduceLT, Nat.reduceLeDiff, Int.reduceLT, Int.reduceLE, Nat.reduceEqDiff, endE, finE, resC, retC, finC, cutA, cut1, C.ltL, C.ltLL, tokOf, aggOf, Int.reduceEq, Nat.reduceBEq, stab, evW, l204_0, a204_r4, hcut, gi, Nat.reduceEqDiff]
    simp [gi, List.take_length]
  | cons c post ih =>
    intro pre z h hk hz
    have hc : c < 256 := hB c (by simp [h])
    have hcut := hx.cut σ.length (Nat.le_refl _)
    have hix : ixC 1 x (pre.length : Int) = some (.elt [.int .u8 (c : Int)] 0) := by rw [h] at hx; exact slC_bat hx
    have hln : l.length = pre.length + (post.length + 1) := by rw [h]; simp
    have hw : IntKind.i64.wrap ((pre.length : Int) + 1) = ((pre.length + 1 : Nat) : Int) := by rw [IntKind.wrap_i64]; omega
    have hm : IntKind.i64.wrap (7 * (pre.length : Int)) = ((7 * pre.length : Nat) : Int) := by rw [IntKind.wrap_i64]; omega
    have ha := and127 hc
    have hv : IntKind.u64.wrap ((c % 128 : Nat) : Int) = ((c % 128 : Nat) : Int) := by rw [u64_nat]; omega
    have hcs : ¬ (pre.length = 9 ∧ 1 < c) → IntKind.u64.wrap (((c % 128 : Nat) : Int) * 2 ^ (min ((7 * pre.length : Nat) : Int).toNat IntKind.u64.bits)) = ((c % 128 * 128 ^ pre.length : Nat) : Int) ∧
        IntKind.u64.wrap ((BitVec.ofInt IntKind.u64.bits (z : Int) ||| BitVec.ofInt IntKind.u64.bits ((c % 128 * 128 ^ pre.length : Nat) : Int)).toNat : Int) = ((z + c % 128 * 128 ^ pre.length : Nat) : Int) := fun hn => by
      have s1 := (gi_step hk hz hn).1
      exact ⟨shl7 hk (by omega), or_add hz s1⟩
    have ih : ¬ (pre.length = 9 ∧ 1 < c) → 128 ≤ c → _ := fun hn h128 => ih (pre ++ [c]) (z + c % 128 * 128 ^ pre.length) (by simp [h]) (by simp only [List.length_append, List.length_cons, List.length_nil]; omega) (by
      have := (gi_step hk hz hn).2 (by omega)
      simpa using this)
    simp only [List.length_append, List.length_cons, List.length_nil, Nat.zero_add] at ih
    rw [EvL_eq]
    generalize hL : EvL E lo _ _ _ _ = L at ih ⊢
    by_cases h9 : pre.length = 9
    · by_cases h1 : 1 < c
      · rw [show gi pre.length z (c :: post) = (11, z, 0) from by rw [gi, if_pos (.inl ⟨h9, h1⟩)]]
        have h9' : (pre.length : Int) = 9 := by omega
        simp (disch := omega) only [evs, evR, ev1, evOp, evO, setT, binC, binInt, unC, ↓reduceIte, keepT, C.one, toDss, toDs, toD, Nat.reduceAdd, Nat.reduceLT, Nat.reduceLeDiff, Int.reduceLT, Int.reduceLE, Nat.reduceEqDiff, endE, finE, resC, retC, finC, cutA, cut1, C.ltL, C.ltLL, tokOf, aggOf, Int.reduceEq, Nat.reduceBEq, stab, evW, l204_0, a204_r4, a204_r5, a204_r6, a204_r8, hcut, hix, gdec, eq_self, bR_len]
      · obtain ⟨e1, e2⟩ := hcs fun h => h1 h.2
        by_cases h0 : c = 0
        · rw [show gi pre.length z (c :: post) = (11, z, 0) from by rw [gi, if_pos (.inr ⟨by omega, h0⟩)]]
          simp (disch := omega) only [evs, evR, ev1, evOp, evO, setT, binC, binInt, unC, ↓reduceIte, keepT, C.one, toDss, toDs, toD, Nat.reduceAdd, Nat.reduceLT, Nat.reduceLeDiff, Int.reduceLT, Int.reduceLE, Nat.reduceEqDiff, endE, finE, resC, retC, finC, cutA, cut1, C.ltL, C.ltLL, tokOf, aggOf, Int.reduceEq, Nat.reduceBEq, stab, evW, l204_0, a204_r4, a204_r5, a204_r6, a204_r7, a204_r8, hcut, hix, gdec, eq_self, bR_len]
        · rw [show gi pre.length z (c :: post) = (0, z + c % 128 * 128 ^ pre.length, pre.length + 1) from by rw [gi, if_neg (by omega), if_pos (by omega)]]
          simp (disch := omega) only [evs, evR, ev1, evOp, evO, setT, binC, binInt, unC, ↓reduceIte, keepT, C.one, toDss, toDs, toD, Nat.reduceAdd, Nat.reduceLT, Nat.reduceLeDiff, Int.reduceLT, Int.reduceLE, Nat.reduceEqDiff, endE, finE, resC, retC, finC, cutA, cut1, C.ltL, C.ltLL, tokOf, aggOf, Int.reduceEq, Nat.reduceBEq, stab, evW, l204_0, a204_r4, a204_r5, a204_r6, a204_r7, a204_r9, a204_r10, a204_r11, hcut, hix, gdec, eq_self, bR_len, hm, ha, hv, e1, e2, hw]
    · obtain ⟨e1, e2⟩ := hcs fun h => h9 h.1
      by_cases hk0 : 0 < pre.length
      · by_cases h0 : c = 0
        · rw [show gi pre.length z (c :: post) = (11, z, 0) from by rw [gi, if_pos (.inr ⟨hk0, h0⟩)]]
          simp (disch := omega) only [evs, evR, ev1, evOp, evO, setT, binC, binInt, unC, ↓reduceIte, keepT, C.one, toDss, toDs, toD, Nat.reduceAdd, Nat.reduceLT, Nat.reduceLeDiff, Int.reduceLT, Int.reduceLE, Nat.reduceEqDiff, endE, finE, resC, retC, finC, cutA, cut1, C.ltL, C.ltLL, tokOf, aggOf, Int.reduceEq, Nat.reduceBEq, stab, evW, l204_0, a204_r4, a204_r5, a204_r6, a204_r7, a204_r8, hcut, hix, gdec, eq_self, bR_len]
        · by_cases h128 : c < 128
          · rw [show gi pre.length z (c :: post) = (0, z + c % 128 * 128 ^ pre.length, pre.length + 1) from by rw [gi, if_neg (by omega), if_pos h128]]
            simp (disch := omega) only [evs, evR, ev1, evOp, evO, setT, binC, binInt, unC, ↓reduceIte, keepT, C.one, toDss, toDs, toD, Nat.reduceAdd, Nat.reduceLT, Nat.reduceLeDiff, Int.reduceLT, Int.reduceLE, Nat.reduceEqDiff, endE, finE, resC, retC, finC, cutA, cut1, C.ltL, C.ltLL, tokOf, aggOf, Int.reduceEq, Nat.reduceBEq, stab, evW, l204_0, a204_r4, a204_r5, a204_r6, a204_r7, a204_r9, a204_r10, a204_r11, hcut, hix, gdec, eq_self, bR_len, hm, ha, hv, e1, e2, hw]
          · rw [show gi pre.length z (c :: post) = gi (pre.length + 1) (z + c % 128 * 128 ^ pre.length) post from by rw [gi, if_neg (by omega), if_neg h128]]
            simp (disch := omega) only [evs, evR, ev1, evOp, evO, setT, binC, binInt, unC, ↓reduceIte, keepT, C.one, toDss, toDs, toD, Nat.reduceAdd, Nat.reduceLT, Nat.reduceLeDiff, Int.reduceLT, Int.reduceLE, Nat.reduceEqDiff, endE, finE, resC, retC, finC, cutA, cut1, C.ltL, C.ltLL, tokOf, aggOf, Int.reduceEq, Nat.reduceBEq, stab, evW, l204_0, a204_r4, a204_r5, a204_r6, a204_r7, a204_r9, a204_r10, a204_r12, hcut, hix, gdec, eq_self, bR_len, hm, ha, hv, e1, e2, hw]
            rw [ih (by omega) (by omega)]
      · by_cases h128 : c < 128
        · rw [show gi pre.length z (c :: post) = (0, z + c % 128 * 128 ^ pre.length, pre.length + 1) from by rw [gi, if_neg (by omega), if_pos h128]]
          simp (disch := omega) only [evs, evR, ev1, evOp, evO, setT, binC, binInt, unC, ↓reduceIte, keepT, C.one, toDss, toDs, toD, Nat.reduceAdd, Nat.reduceLT, Nat.reduceLeDiff, Int.reduceLT, Int.reduceLE, Nat.reduceEqDiff, endE, finE, resC, retC, finC, cutA, cut1, C.ltL, C.ltLL, tokOf, aggOf, Int.reduceEq, Nat.reduceBEq, stab, evW, l204_0, a204_r4, a204_r5, a204_r6, a204_r7, a204_r9, a204_r10, a204_r11, hcut, hix, gdec, eq_self, bR_len, hm, ha, hv, e1, e2, hw]
        · rw [show gi pre.length z (c :: post) = gi (pre.length + 1) (z + c % 128 * 128 ^ pre.length) post from by rw [gi, if_neg (by omega), if_neg h128]]
          simp (disch := omega) only [evs, evR, ev1, evOp, evO, setT, binC, binInt, unC, ↓reduceIte, keepT, C.one, toDss, toDs, toD, Nat.reduceAdd, Nat.reduceLT, Nat.reduceLeDiff, Int.reduceLT, Int.reduceLE, Nat.reduceEqDiff, endE, finE, resC, retC, finC, cutA, cut1, C.ltL, C.ltLL, tokOf, aggOf, Int.reduceEq, Nat.reduceBEq, stab, evW, l204_0, a204_r4, a204_r5, a204_r6, a204_r7, a204_r9, a204_r10, a204_r12, hcut, hix, gdec, eq_self, bR_len, hm, ha, hv, e1, e2, hw]
          rw [ih (by omega) (by omega)]

theorem c204 (E : Env) (h204 : E.tbl 204 = some e204) (lo : Nat) (σ : St) (hlo : lo ≤ σ.length) (x : C) (l : List Nat) (hx : SlC σ.length 1 x (bR l)) (hl : l.length ≤ 1000000) (hB : By l) :
    EvF E lo (.fn 204) [x] σ = some (.tup [.d (.int .i64 (gV l)), .d (.int .i64 (gU l : Nat)), .d (.int .i64 (gE l : Nat))], σ) := by
  rw [EvF_fn h204]
  have e2 := loop204 E lo σ hlo x l hx hl hB l [] 0 rfl (by simp) (by simp)
  have hcut := hx.cut σ.length (Nat.le_refl _)
  have hlen := hx.len
  rw [bR_len] at hlen
  have hz : ((List.length ([] : List Nat) : Nat) : Int) = 0 := rfl
  have hz2 : (((0 : Nat) : Nat) : Int) = 0 := rfl
  rw [hz, hz2] at e2
  simp only [List.length_nil] at e2
  have hs := gi_spec l 0 0 (by omega) (by decide)
  unfold gV gU gE
  generalize gi 0 0 l = r at hs e2 ⊢
  obtain ⟨e, z, u⟩ := r
  simp only at hs e2 ⊢
  obtain ⟨hz, h⟩ := hs
  have w1 := shr1 z
  have w2 := and1 hz
  have w3 : IntKind.i64.wrap ((z / 2 : Nat) : Int) = ((z / 2 : Nat) : Int) := i64_nat (by omega)
  have w4 : IntKind.i64.wrap ((z % 2 : Nat) : Int) = ((z % 2 : Nat) : Int) := i64_nat (by omega)
  have w5 := unzz_run hz
  simp only [e204, List.replicate_succ, List.replicate_zero]
  rcases h with ⟨rfl, h1, h2, h3⟩ | ⟨rfl, rfl⟩ | ⟨rfl, rfl⟩
  · rw [if_neg (by decide)] at e2
    simp (disch := omega) only [evs, evR, ev1, evOp, evO, setT, binC, binInt, unC, ↓reduceIte, keepT, C.one, toDss, toDs, toD, Nat.reduceAdd, Nat.reduceLT, Nat.reduceLeDiff, Int.reduceLT, Int.reduceLE, Nat.reduceEqDiff, endE, finE, resC, retC, finC, cutA, cut1, C.ltL, C.ltLL, tokOf, aggOf, Int.reduceEq, Nat.reduceBEq, stab, evW, Nat.reduceSub, List.replicate_succ, List.replicate_zero, a204_r0, a204_r1, a204_r2, a204_r3, a204_r13, a204_r15, hcut, hlen, e2, w1, w2, w3, w4, w5]
    simp
  · rw [if_neg (by decide)] at e2
    simp (disch := omega) only [evs, evR, ev1, evOp, evO, setT, binC, binInt, unC, ↓reduceIte, keepT, C.one, toDss, toDs, toD, Nat.reduceAdd, Nat.reduceLT, Nat.reduceLeDiff, Int.reduceLT, Int.reduceLE, Nat.reduceEqDiff, endE, finE, resC, retC, finC, cutA, cut1, C.ltL, C.ltLL, tokOf, aggOf, Int.reduceEq, Nat.reduceBEq, stab, evW, Nat.reduceSub, List.replicate_succ, List.replicate_zero, a204_r0, a204_r1, a204_r2, a204_r3, a204_r13, a204_r14, hcut, hlen, e2]
    simp
  · rw [if_pos rfl] at e2
    simp (disch := omega) only [evs, evR, ev1, evOp, evO, setT, binC, binInt, unC, ↓reduceIte, keepT, C.one, toDss, toDs, toD, Nat.reduceAdd, Nat.reduceLT, Nat.reduceLeDiff, Int.reduceLT, Int.reduceLE, Nat.reduceEqDiff, endE, finE, resC, retC, finC, cutA, cut1, C.ltL, C.ltLL, tokOf, aggOf, Int.reduceEq, Nat.reduceBEq, stab, evW, Nat.reduceSub, List.replicate_succ, List.replicate_zero, a204_r0, a204_r1, a204_r2, a204_r3, a204_r13, a204_r14, hcut, hlen, e2]
    simp
end Go.Proofs.YtbecgpajbcafiaaGreat

set_option linter.unusedVariables false
set_option linter.unusedSimpArgs false
namespace Go.Proofs.YtbecgpajbcafiaaGreat
open Go.Av Go.RowKit

def lE (l : List Nat) : Nat := if gE l ≠ 0 then gE l else if gV l < 0 then 11 else if gV l > (l.length : Int) - (gU l : Nat) then 10 else 0
def lN (l : List Nat) : Int := if lE l = 0 then gV l else 0
def lU (l : List Nat) : Nat := if lE l = 0 then gU l else 0

theorem l_cases (l : List Nat) : (lE l = 0 ∧ gE l = 0 ∧ lU l = gU l ∧ lN l = gV l ∧ 0 ≤ gV l ∧ gV l + (gU l : Nat) ≤ (l.length : Int) ∧ 0 < gU l) ∨ (lE l ≠ 0 ∧ lE l ≤ 11 ∧ lU l = 0 ∧ lN l = 0) := by
  unfold lU lN
  rcases g_cases l with ⟨h1, h2, h3, h4⟩ | ⟨h1, h2, h3⟩ | ⟨h1, h2, h3⟩
  · by_cases ha : gV l < 0
    · have e : lE l = 11 := by unfold lE; rw [if_neg (by omega), if_pos ha]
      simp [e]
    · by_cases hb : gV l > (l.length : Int) - (gU l : Nat)
      · have e : lE l = 10 := by unfold lE; rw [if_neg (by omega), if_neg ha, if_pos hb]
        simp [e]
      · have e : lE l = 0 := by unfold lE; rw [if_neg (by omega), if_neg ha, if_neg hb]
        refine .inl ⟨e, h1, by rw [if_pos e], by rw [if_pos e], by omega, by omega, h2⟩
  · have e : lE l = 10 := by unfold lE; rw [if_pos (by omega)]; exact h1
    simp [e]
  · have e : lE l = 11 := by unfold lE; rw [if_pos (by omega)]; exact h1
    simp [e]

def bA (l : List Nat) : ByteArray := (l.map fun (b : Nat) => (b : Int)).foldl (fun r n => r.push (UInt8.ofNat n.toNat)) ByteArray.empty
theorem bytesOf_bR (l : List Nat) : bytesOf (bR l) = some (bA l) := by
  unfold bytesOf bR
  rw [bytesOf_bR_aux]; rfl
theorem bR_drop (l : List Nat) (n : Nat) : (bR l).drop n = bR (l.drop n) := by simp [bR, List.map_drop]
theorem bR_take (l : List Nat) (n : Nat) : (bR l).take n = bR (l.take n) := by simp [bR, List.map_take]
theorem bR_cut (l : List Nat) (u n : Nat) (h : u + n ≤ l.length) : List.take (((u + n : Nat) : Int).toNat - ((u : Nat) : Int).toNat) (List.drop ((u : Nat) : Int).toNat (bR l)) = bR ((l.drop u).take n) := by
  rw [Int.toNat_natCast, Int.toNat_natCast, bR_drop, bR_take, Nat.add_sub_cancel_left]
theorem bR_from (l : List Nat) (u : Nat) : List.take (((l.length : Nat) : Int).toNat - ((u : Nat) : Int).toNat) (List.drop ((u : Nat) : Int).toNat (bR l)) = bR (l.drop u) := by
  rw [Int.toNat_natCast, Int.toNat_natCast, bR_drop, List.take_of_length_le (by rw [bR_len, List.length_drop]; exact Nat.le_refl _)]

def sV (l : List Nat) : ByteArray := if lE l = 0 then bA ((l.drop (lU l)).take (lN l).toNat) else ⟨#[]⟩
def sU (l : List Nat) : Nat := if lE l = 0 then lU l + (lN l).toNat else 0

theorem c253 (E : Env) (h204 : E.tbl 204 = some e204) (h253 : E.tbl 253 = some e253) (lo : Nat) (σ : St) (hlo : lo ≤ σ.length) (x : C) (l : List Nat) (hx : SlC σ.length 1 x (bR l)) (hl : l.length ≤ 1000000) (hB : By l) :
    EvF E lo (.fn 253) [x, .d (.int .i64 1)] σ = some (.tup [.d (.int .i64 (lN l)), .d (.int .i64 (lU l : Nat)), .d (.int .i64 (lE l : Nat))], σ) := by
  rw [EvF_fn h253]
  have c1 := c204 E h204 lo σ hlo x l hx hl hB
  have hlen := hx.len
  rw [bR_len] at hlen
  have hg := gV_I64 l
  obtain ⟨hg1, hg2⟩ := hg
  unfold lN lU
  simp only [e253, List.replicate_succ, List.replicate_zero]
  rcases g_cases l with ⟨h1, h2, h3, h4⟩ | ⟨h1, h2, h3⟩ | ⟨h1, h2, h3⟩
  · have w1 : IntKind.i64.wrap ((l.length : Int) - (gU l : Nat)) = (l.length : Int) - (gU l : Nat) := by rw [IntKind.wrap_i64]; omega
    have w2 : Int.tdiv ((l.length : Int) - (gU l : Nat)) 1 = (l.length : Int) - (gU l : Nat) := Int.tdiv_one _
    by_cases ha : gV l < 0
    · have e : lE l = 11 := by unfold lE; rw [if_neg (by omega), if_pos ha]
      simp (disch := omega) only [evs, evR, ev1, evOp, evO, setT, binC, binInt, unC, ↓reduceIte, keepT, C.one, toDss, toDs, toD, Nat.reduceAdd, Nat.reduceLT, Nat.reduceLeDiff, Int.reduceLT, Int.reduceLE, Nat.reduceEqDiff, endE, finE, resC, retC, finC, cutA, cut1, C.ltL, C.ltLL, tokOf, aggOf, Int.reduceEq, Nat.reduceBEq, stab, evW, Nat.reduceSub, List.replicate_succ, List.replicate_zero, a253_r0, a253_r1, a253_r2, a253_r3, a253_r4, a253_r5, a253_r6, a253_r7, a253_r8, c1, hlen, h1, e]
      rfl
    · by_cases hb : gV l > (l.length : Int) - (gU l : Nat)
      · have e : lE l = 10 := by unfold lE; rw [if_neg (by omega), if_neg ha, if_pos hb]
        simp (disch := omega) only [evs, evR, ev1, evOp, evO, setT, binC, binInt, unC, ↓reduceIte, keepT, C.one, toDss, toDs, toD, Nat.reduceAdd, Nat.reduceLT, Nat.reduceLeDiff, Int.reduceLT, Int.reduceLE, Nat.reduceEqDiff, endE, finE, resC, retC, finC, cutA, cut1, C.ltL, C.ltLL, tokOf, aggOf, Int.reduceEq, Nat.reduceBEq, stab, evW, Nat.reduceSub, List.replicate_succ, List.replicate_zero, a253_r0, a253_r1, a253_r2, a253_r3, a253_r4, a253_r5, a253_r6, a253_r7, a253_r8, c1, hlen, h1, e, w1, w2]
        rfl
      · have e : lE l = 0 := by unfold lE; rw [if_neg (by omega), if_neg ha, if_neg hb]
        simp (disch := omega) only [evs, evR, ev1, evOp, evO, setT, binC, binInt, unC, ↓reduceIte, keepT, C.one, toDss, toDs, toD, Nat.reduceAdd, Nat.reduceLT, Nat.reduceLeDiff, Int.reduceLT, Int.reduceLE, Nat.reduceEqDiff, endE, finE, resC, retC, finC, cutA, cut1, C.ltL, C.ltLL, tokOf, aggOf, Int.reduceEq, Nat.reduceBEq, stab, evW, Nat.reduceSub, List.replicate_succ, List.replicate_zero, a253_r0, a253_r1, a253_r2, a253_r3, a253_r4, a253_r5, a253_r6, a253_r7, a253_r8, c1, hlen, h1, e, w1, w2]
        rfl
  · have e : lE l = 10 := by unfold lE; rw [if_pos (by omega)]; exact h1
    simp (disch := omega) only [evs, evR, ev1, evOp, evO, setT, binC, binInt, unC, ↓reduceIte, keepT, C.one, toDss, toDs, toD, Nat.reduceAdd, Nat.reduceLT, Nat.reduceLeDiff, Int.reduceLT, Int.reduceLE, Nat.reduceEqDiff, endE, finE, resC, retC, finC, cutA, cut1, C.ltL, C.ltLL, tokOf, aggOf, Int.reduceEq, Nat.reduceBEq, stab, evW, Nat.reduceSub, List.replicate_succ, List.replicate_zero, a253_r0, a253_r1, a253_r2, a253_r3, a253_r4, a253_r5, a253_r6, a253_r7, a253_r8, c1, hlen, h1, e]
    rfl
  · have e : lE l = 11 := by unfold lE; rw [if_pos (by omega)]; exact h1
    simp (disch := omega) only [evs, evR, ev1, evOp, evO, setT, binC, binInt, unC, ↓reduceIte, keepT, C.one, toDss, toDs, toD, Nat.reduceAdd, Nat.reduceLT, Nat.reduceLeDiff, Int.reduceLT, Int.reduceLE, Nat.reduceEqDiff, endE, finE, resC, retC, finC, cutA, cut1, C.ltL, C.ltLL, tokOf, aggOf, Int.reduceEq, Nat.reduceBEq, stab, evW, Nat.reduceSub, List.replicate_succ, List.replicate_zero, a253_r0, a253_r1, a253_r2, a253_r3, a253_r4, a253_r5, a253_r6, a253_r7, a253_r8, c1, hlen, h1, e]
    rfl

theorem c206 (E : Env) (h204 : E.tbl 204 = some e204) (h253 : E.tbl 253 = some e253) (h206 : E.tbl 206 = some e206) (lo : Nat) (σ : St) (hlo : lo ≤ σ.length) (x : C) (l : List Nat) (hx : SlC σ.length 1 x (bR l)) (hl : l.length ≤ 1000000) (hB : By l) :
    EvF E lo (.fn 206) [x] σ = some (.tup [.d (.str (sV l)), .d (.int .i64 (sU l : Nat)), .d (.int .i64 (lE l : Nat))], σ) := by
  rw [EvF_fn h206]
  have c1 := c253 E h204 h253 lo σ hlo x l hx hl hB
  have hlen := hx.len
  rw [bR_len] at hlen
  have hrow := hx.row
  unfold sV sU
  simp only [e206, List.replicate_succ, List.replicate_zero]
  rcases l_cases l with ⟨e, h1, h2, h3, h4, h5, h6⟩ | ⟨e, e', h2, h3⟩
  · obtain ⟨n, hn⟩ : ∃ n : Nat, gV l = (n : Int) := ⟨(gV l).toNat, by omega⟩
    rw [hn] at h3 h5
    have w1 : IntKind.i64.wrap ((gU l : Int) + (n : Int)) = ((gU l + n : Nat) : Int) := by rw [IntKind.wrap_i64]; omega
    have hcut := bR_cut l (gU l) n (by omega)
    simp (disch := omega) only [evs, evR, ev1, evOp, evO, setT, binC, binInt, unC, ↓reduceIte, keepT, C.one, toDss, toDs, toD, Nat.reduceAdd, Nat.reduceLT, Nat.reduceLeDiff, Int.reduceLT, Int.reduceLE, Nat.reduceEqDiff, endE, finE, resC, retC, finC, cutA, cut1, C.ltL, C.ltLL, tokOf, aggOf, Int.reduceEq, Nat.reduceBEq, stab, evW, Nat.reduceSub, List.replicate_succ, List.replicate_zero, a206_r0, a206_r1, a206_r2, a206_r4, c1, hlen, hrow, e, h2, h3, w1, bR_len, boundN, hcut, bytesOf_bR]
    simp
  · simp (disch := omega) only [evs, evR, ev1, evOp, evO, setT, binC, binInt, unC, ↓reduceIte, keepT, C.one, toDss, toDs, toD, Nat.reduceAdd, Nat.reduceLT, Nat.reduceLeDiff, Int.reduceLT, Int.reduceLE, Nat.reduceEqDiff, endE, finE, resC, retC, finC, cutA, cut1, C.ltL, C.ltLL, tokOf, aggOf, Int.reduceEq, Nat.reduceBEq, stab, evW, Nat.reduceSub, List.replicate_succ, List.replicate_zero, a206_r0, a206_r1, a206_r2, a206_r3, c1, hlen, hrow, h2, h3]
    simp [e]
end Go.Proofs.YtbecgpajbcafiaaGreat

set_option linter.unusedVariables false
set_option linter.unusedSimpArgs false
namespace Go.Proofs.YtbecgpajbcafiaaGreat
open Go.Av Go.RowKit

/-- A list of n elements: what is wrong, the elements, how many bytes. -/
def gL {α : Type} (e : List Nat → Nat × α × Nat) : Nat → List Nat → Nat × List α × Nat
  | 0, _ => (0, [], 0)
  | n + 1, l => if (e l).1 ≠ 0 then ((e l).1, [], 0) else if (gL e n (l.drop (e l).2.2)).1 ≠ 0 then ((gL e n (l.drop (e l).2.2)).1, [], 0) else (0, (e l).2.1 :: (gL e n (l.drop (e l).2.2)).2.1, (e l).2.2 + (gL e n (l.drop (e l).2.2)).2.2)
def eI (l : List Nat) : Nat × Int × Nat := (gE l, gV l, gU l)
def eS (l : List Nat) : Nat × ByteArray × Nat := (lE l, sV l, sU l)
theorem eI_used {l : List Nat} (h : (eI l).1 = 0) : (eI l).2.2 ≤ l.length := by
  rcases g_cases l with ⟨h1, h2, h3, h4⟩ | ⟨h1, h2, h3⟩ | ⟨h1, h2, h3⟩
  · exact h3
  · simp only [eI] at h; omega
  · simp only [eI] at h; omega
theorem eI_le (l : List Nat) : (eI l).1 ≤ 11 := by
  rcases g_cases l with ⟨h1, _⟩ | ⟨h1, _⟩ | ⟨h1, _⟩ <;> (simp only [eI]; omega)
theorem eS_used {l : List Nat} (h : (eS l).1 = 0) : (eS l).2.2 ≤ l.length := by
  simp only [eS] at h ⊢
  rcases l_cases l with ⟨e, h1, h2, h3, h4, h5, h6⟩ | ⟨e, h2, h3⟩
  · unfold sU; rw [if_pos e, h2, h3]; omega
  · exact absurd h e
theorem eS_le (l : List Nat) : (eS l).1 ≤ 11 := by
  rcases l_cases l with ⟨e, _⟩ | ⟨e, h, _⟩ <;> (simp only [eS]; omega)

/-- A list: what is wrong, the elements, how many bytes. -/
def dL {α : Type} (e : List Nat → Nat × α × Nat) (l : List Nat) : Nat × List α × Nat :=
  if lE l ≠ 0 then (lE l, [], 0) else if (gL e (lN l).toNat (l.drop (lU l))).1 ≠ 0 then ((gL e (lN l).toNat (l.drop (lU l))).1, [], 0) else (0, (gL e (lN l).toNat (l.drop (lU l))).2.1, lU l + (gL e (lN l).toNat (l.drop (lU l))).2.2)

theorem loop203 (E : Env) (h204 : E.tbl 204 = some e204) (lo : Nat) (σ : St) (hlo : lo ≤ σ.length) (x : C) (l : List Nat) (hx : SlC σ.length 1 x (bR l)) (hl : l.length ≤ 1000000) (hB : By l) (N : Nat) (hN : N ≤ 1000000) : ∀ (n i at_ : Nat) (acc : List Int), i + n = N → acc.length = i → at_ ≤ l.length →
    ((gL eI n (l.drop at_)).1 = 0 → at_ + (gL eI n (l.drop at_)).2.2 ≤ l.length ∧ EvL E lo [true, false, true, false, false, false, false, false, false, false, true, false, true, false, false, false, false, false, false, false, false, false, false, false, false, false, true, true] [false, false, false, false, false, false, true, true, true, false, true, false, true] (σ.length + 2) l203_0 (x :: U :: .cl 204 [] [] :: U :: U :: U :: U :: U :: U :: U :: .d (.int .i64 (at_ : Nat)) :: U :: .o 1 (iR acc) (σ.length + 1) :: U :: U :: U :: U :: U :: U :: U :: U :: U :: U :: U :: U :: U :: .d (.int .i64 (N : Nat)) :: .d (.int .i64 (i : Nat)) :: U :: U :: U :: U :: U :: U :: U :: U :: U :: U :: U :: U :: U :: U :: U :: U :: U :: U :: U :: U :: U :: U :: U :: []) (σ ++ [some (.tok 3 1 0), some (.tok 3 1 acc.length)]) =
      some (.exit 0, (U :: U :: U :: U :: U :: U :: U :: U :: U :: U :: .d (.int .i64 (at_ + (gL eI n (l.drop at_)).2.2 : Nat)) :: U :: .o 1 (iR (acc ++ (gL eI n (l.drop at_)).2.1)) (σ.length + 1) :: U :: U :: U :: U :: U :: U :: U :: U :: U :: U :: U :: U :: U :: U :: U :: U :: U :: U :: U :: U :: U :: U :: U :: U :: U :: U :: U :: U :: U :: U :: U :: U :: U :: U :: U :: U :: U :: U :: []), σ ++ [some (.tok 3 1 0), some (.tok 3 1 (acc ++ (gL eI n (l.drop at_)).2.1).length)])) ∧
    ((gL eI n (l.drop at_)).1 ≠ 0 → ∃ (at' : Nat) (acc' : List Int), EvL E lo [true, false, true, false, false, false, false, false, false, false, true, false, true, false, false, false, false, false, false, false, false, false, false, false, false, false, true, true] [false, false, false, false, false, false, true, true, true, false, true, false, true] (σ.length + 2) l203_0 (x :: U :: .cl 204 [] [] :: U :: U :: U :: U :: U :: U :: U :: .d (.int .i64 (at_ : Nat)) :: U :: .o 1 (iR acc) (σ.length + 1) :: U :: U :: U :: U :: U :: U :: U :: U :: U :: U :: U :: U :: U :: .d (.int .i64 (N : Nat)) :: .d (.int .i64 (i : Nat)) :: U :: U :: U :: U :: U :: U :: U :: U :: U :: U :: U :: U :: U :: U :: U :: U :: U :: U :: U :: U :: U :: U :: U :: []) (σ ++ [some (.tok 3 1 0), some (.tok 3 1 acc.length)]) =
      some (.ret, (U :: U :: U :: U :: U :: U :: .d (.sl 1 []) :: .d (.int .i64 0) :: .d (.int .i64 ((gL eI n (l.drop at_)).1 : Nat)) :: U :: .d (.int .i64 (at' : Nat)) :: U :: .o 1 (iR acc') (σ.length + 1) :: U :: U :: U :: U :: U :: U :: U :: U :: U :: U :: U :: U :: U :: U :: U :: U :: U :: U :: U :: U :: U :: U :: U :: U :: U :: U :: U :: U :: U :: U :: U :: U :: U :: U :: U :: U :: U :: U :: []), σ ++ [some (.tok 3 1 0), some (.tok 3 1 acc'.length)])) := by
  have hcut := hx.cut (σ.length + 2) (by omega)
  have hrow := hx.row
  intro n
  induction n with
  | zero =>
    intro i at_ acc h ha hat
    refine ⟨fun _ => ⟨by simp only [gL]; omega, ?_⟩, fun h => absurd rfl h⟩
    rw [EvL_eq]
    simp (disch := omega) only [evs, evR, ev1, evOp, evO, setT, binC, binInt, unC, ↓reduceIte, keepT, C.one, toDss, toDs, toD, Nat.reduceAdd, Nat.reduceLT, Nat.reduceLeDiff, Int.reduceLT, Int.reduceLE, Nat.reduceEqDiff, endE, finE, resC, retC, finC, cutA, cut1, C.ltL, C.ltLL, tokOf, aggOf, Int.reduceEq, Nat.reduceBEq, stab, evW, l203_0, a203_r6, a203_r7, a203_r8, a203_r10, a203_r11, hcut]
    simp [gL]
  | succ n ih =>
    intro i at_ acc h ha hat
    have hw : IntKind.i64.wrap ((i : Int) + 1) = ((i + 1 : Nat) : Int) := by rw [IntKind.wrap_i64]; omega
    have hfrom := bR_from l at_
    have c1 := c204 E h204 lo (σ ++ [some (.tok 3 1 0), some (.tok 3 1 acc.length)]) (by rw [st_len]; omega) (.d (.sl 1 (bR (l.drop at_)))) (l.drop at_) (.d _ _ _) (by rw [List.length_drop]; omega) (hB.drop at_)
    by_cases he : (eI (l.drop at_)).1 = 0
    · have hu := eI_used he
      have hu' : (eI (l.drop at_)).2.2 ≤ l.length - at_ := by rw [List.length_drop] at hu; exact hu
      have hw2 : IntKind.i64.wrap ((at_ : Int) + ((eI (l.drop at_)).2.2 : Nat)) = ((at_ + (eI (l.drop at_)).2.2 : Nat) : Int) := by rw [IntKind.wrap_i64]; omega
      have hdd : (l.drop at_).drop (eI (l.drop at_)).2.2 = l.drop (at_ + (eI (l.drop at_)).2.2) := by rw [List.drop_drop]
      obtain ⟨ih1, ih2⟩ := ih (i + 1) (at_ + (eI (l.drop at_)).2.2) (acc ++ [(eI (l.drop at_)).2.1]) (by omega) (by simp; omega) (by omega)
      have hacc : iR acc ++ [[.int .i64 (eI (l.drop at_)).2.1]] = iR (acc ++ [(eI (l.drop at_)).2.1]) := by simp [iR]
      have hal : (iR acc).length = acc.length := by simp [iR]
      simp only [List.length_append, List.length_cons, List.length_nil, Nat.zero_add] at ih1 ih2
      rw [EvL_eq]
      generalize hL : EvL E lo _ _ _ _ = L at ih1 ih2 ⊢
      by_cases hr : (gL eI n (l.drop (at_ + (eI (l.drop at_)).2.2))).1 = 0
      · have key : gL eI (n + 1) (l.drop at_) = (0, (eI (l.drop at_)).2.1 :: (gL eI n (l.drop (at_ + (eI (l.drop at_)).2.2))).2.1, (eI (l.drop at_)).2.2 + (gL eI n (l.drop (at_ + (eI (l.drop at_)).2.2))).2.2) := by
          rw [gL, if_neg (by omega), hdd, if_neg (fun h => h hr)]
        obtain ⟨q1, q2⟩ := ih1 hr
        rw [key]
        refine ⟨fun _ => ⟨by simp only []; omega, ?_⟩, fun h => absurd rfl h⟩
        clear ih ih1 ih2 key hr hu hu'
        simp only [eI] at *
        simp (disch := omega) only [evs, evR, ev1, evOp, evO, setT, binC, binInt, unC, ↓reduceIte, keepT, C.one, toDss, toDs, toD, Nat.reduceAdd, Nat.reduceLT, Nat.reduceLeDiff, Int.reduceLT, Int.reduceLE, Nat.reduceEqDiff, endE, finE, resC, retC, finC, cutA, cut1, C.ltL, C.ltLL, tokOf, aggOf, Int.reduceEq, Nat.reduceBEq, stab, evW, l203_0, a203_r6, a203_r7, a203_r8, a203_r10, a203_r11, hcut, hrow, boundN, bR_len, hfrom, c1, hw, hw2, hal, hacc, he]
        rw [q2]
        simp [Nat.add_assoc, Nat.add_comm 1]
      · have key : gL eI (n + 1) (l.drop at_) = ((gL eI n (l.drop (at_ + (eI (l.drop at_)).2.2))).1, [], 0) := by
          rw [gL, if_neg (by omega), hdd, if_pos hr]
        obtain ⟨at', acc', q⟩ := ih2 hr
        rw [key]
        refine ⟨fun h => absurd h hr, fun _ => ⟨at', acc', ?_⟩⟩
        clear ih ih1 ih2 key hr hu hu'
        simp only [eI] at *
        simp (disch := omega) only [evs, evR, ev1, evOp, evO, setT, binC, binInt, unC, ↓reduceIte, keepT, C.one, toDss, toDs, toD, Nat.reduceAdd, Nat.reduceLT, Nat.reduceLeDiff, Int.reduceLT, Int.reduceLE, Nat.reduceEqDiff, endE, finE, resC, retC, finC, cutA, cut1, C.ltL, C.ltLL, tokOf, aggOf, Int.reduceEq, Nat.reduceBEq, stab, evW, l203_0, a203_r6, a203_r7, a203_r8, a203_r10, a203_r11, hcut, hrow, boundN, bR_len, hfrom, c1, hw, hw2, hal, hacc, he]
        exact q
    · have hle := eI_le (l.drop at_)
      have key : gL eI (n + 1) (l.drop at_) = ((eI (l.drop at_)).1, [], 0) := by rw [gL, if_pos (by omega)]
      rw [key]
      simp only [eI] at *
      refine ⟨fun h => absurd h he, fun _ => ⟨at_, acc, ?_⟩⟩
      rw [EvL_eq]
      simp (disch := omega) only [evs, evR, ev1, evOp, evO, setT, binC, binInt, unC, ↓reduceIte, keepT, C.one, toDss, toDs, toD, Nat.reduceAdd, Nat.reduceLT, Nat.reduceLeDiff, Int.reduceLT, Int.reduceLE, Nat.reduceEqDiff, endE, finE, resC, retC, finC, cutA, cut1, C.ltL, C.ltLL, tokOf, aggOf, Int.reduceEq, Nat.reduceBEq, stab, evW, l203_0, a203_r6, a203_r7, a203_r8, a203_r9, hcut, hrow, boundN, bR_len, hfrom, c1]

theorem c203 (E : Env) (h204 : E.tbl 204 = some e204) (h253 : E.tbl 253 = some e253) (h203 : E.tbl 203 = some e203) (lo : Nat) (σ : St) (hlo : lo ≤ σ.length) (x : C) (l : List Nat) (hx : SlC σ.length 1 x (bR l)) (hl : l.length ≤ 1000000) (hB : By l) :
    EvF E lo (.fn 203) [x, .d (.int .i64 1), .cl 204 [] []] σ = some (.tup [.d (.sl 1 (iR (dL eI l).2.1)), .d (.int .i64 ((dL eI l).2.2 : Nat)), .d (.int .i64 ((dL eI l).1 : Nat))], σ) := by
  rw [EvF_fn h203]
  have c1 := c253 E h204 h253 lo (σ ++ [some (.tok 3 1 0)]) (by rw [st_len]; omega) x l (hx.mono (by rw [st_len]; omega)) hl hB
  have hcut := hx.cut (σ.length + 2) (by omega)
  simp only [e203, List.replicate_succ, List.replicate_zero]
  rcases l_cases l with ⟨e, h1, h2, h3, h4, h5, h6⟩ | ⟨e, e', h2, h3⟩
  · obtain ⟨n, hn⟩ : ∃ n : Nat, gV l = (n : Int) := ⟨(gV l).toNat, by omega⟩
    rw [hn] at h3 h5
    obtain ⟨k1, k2⟩ := loop203 E h204 lo σ hlo x l hx hl hB n (by omega) n 0 (gU l) [] (by omega) rfl (by omega)
    have hz : ((0 : Nat) : Int) = 0 := rfl
    have hR0 : iR [] = [] := rfl
    simp only [hz, hR0, List.length_nil, List.nil_append] at k1 k2
    have key : dL eI l = if (gL eI n (l.drop (gU l))).1 ≠ 0 then ((gL eI n (l.drop (gU l))).1, [], 0) else (0, (gL eI n (l.drop (gU l))).2.1, gU l + (gL eI n (l.drop (gU l))).2.2) := by
      unfold dL
      rw [if_neg (by omega), h2, h3, Int.toNat_natCast]
    rw [key]
    by_cases hr : (gL eI n (l.drop (gU l))).1 = 0
    · obtain ⟨q1, q2⟩ := k1 hr
      rw [if_neg (by omega)]
      simp (disch := omega) only [evs, evR, ev1, evOp, evO, setT, binC, binInt, unC, ↓reduceIte, keepT, C.one, toDss, toDs, toD, Nat.reduceAdd, Nat.reduceLT, Nat.reduceLeDiff, Int.reduceLT, Int.reduceLE, Nat.reduceEqDiff, endE, finE, resC, retC, finC, cutA, cut1, C.ltL, C.ltLL, tokOf, aggOf, Int.reduceEq, Nat.reduceBEq, stab, evW, Nat.reduceSub, List.replicate_succ, List.replicate_zero, a203_r0, a203_r1, a203_r2, a203_r3, a203_r4, a203_r5, a203_r12, c1, e, h2, h3, hcut, q2]
      simp
    · obtain ⟨at', acc', q2⟩ := k2 hr
      rw [if_pos hr]
      simp (disch := omega) only [evs, evR, ev1, evOp, evO, setT, binC, binInt, unC, ↓reduceIte, keepT, C.one, toDss, toDs, toD, Nat.reduceAdd, Nat.reduceLT, Nat.reduceLeDiff, Int.reduceLT, Int.reduceLE, Nat.reduceEqDiff, endE, finE, resC, retC, finC, cutA, cut1, C.ltL, C.ltLL, tokOf, aggOf, Int.reduceEq, Nat.reduceBEq, stab, evW, Nat.reduceSub, List.replicate_succ, List.replicate_zero, a203_r0, a203_r1, a203_r2, a203_r3, a203_r4, a203_r5, a203_r12, c1, e, h2, h3, hcut, q2]
      rfl
  · have key : dL eI l = (lE l, [], 0) := by unfold dL; rw [if_pos e]
    rw [key]
    simp (disch := omega) only [evs, evR, ev1, evOp, evO, setT, binC, binInt, unC, ↓reduceIte, keepT, C.one, toDss, toDs, toD, Nat.reduceAdd, Nat.reduceLT, Nat.reduceLeDiff, Int.reduceLT, Int.reduceLE, Nat.reduceEqDiff, endE, finE, resC, retC, finC, cutA, cut1, C.ltL, C.ltLL, tokOf, aggOf, Int.reduceEq, Nat.reduceBEq, stab, evW, Nat.reduceSub, List.replicate_succ, List.replicate_zero, a203_r0, a203_r1, a203_r2, a203_r3, a203_r4, a203_r5, a203_r12, c1, h2, h3]
    rfl

theorem c119 (E : Env) (h204 : E.tbl 204 = some e204) (h253 : E.tbl 253 = some e253) (h203 : E.tbl 203 = some e203) (h119 : E.tbl 119 = some e119) (lo : Nat) (σ : St) (hlo : lo ≤ σ.length) (x : C) (l : List Nat) (hx : SlC σ.length 1 x (bR l)) (hl : l.length ≤ 1000000) (hB : By l) :
    EvF E lo (.fn 119) [x] σ = some (.tup [.d (.sl 1 (iR (dL eI l).2.1)), .d (.int .i64 ((dL eI l).2.2 : Nat)), .d (.int .i64 ((dL eI l).1 : Nat))], σ) := by
  rw [EvF_fn h119]
  have c1 := c203 E h204 h253 h203 lo (σ ++ [some (.tok 3 1 0)]) (by rw [st_len]; omega) x l (hx.mono (by rw [st_len]; omega)) hl hB
  simp only [e119, List.replicate_succ, List.replicate_zero]
  simp (disch := omega) only [evs, evR, ev1, evOp, evO, setT, binC, binInt, unC, ↓reduceIte, keepT, C.one, toDss, toDs, toD, Nat.reduceAdd, Nat.reduceLT, Nat.reduceLeDiff, Int.reduceLT, Int.reduceLE, Nat.reduceEqDiff, endE, finE, resC, retC, finC, cutA, cut1, C.ltL, C.ltLL, tokOf, aggOf, Int.reduceEq, Nat.reduceBEq, stab, evW, Nat.reduceSub, List.replicate_succ, List.replicate_zero, a119_r0, a119_r1, c1]

theorem loop205 (E : Env) (h204 : E.tbl 204 = some e204) (h253 : E.tbl 253 = some e253) (h206 : E.tbl 206 = some e206) (lo : Nat) (σ : St) (hlo : lo ≤ σ.length) (x : C) (l : List Nat) (hx : SlC σ.length 1 x (bR l)) (hl : l.length ≤ 1000000) (hB : By l) (N : Nat) (hN : N ≤ 1000000) : ∀ (n i at_ : Nat) (acc : List ByteArray), i + n = N → acc.length = i → at_ ≤ l.length →
    ((gL eS n (l.drop at_)).1 = 0 → at_ + (gL eS n (l.drop at_)).2.2 ≤ l.length ∧ EvL E lo [true, false, true, false, false, false, false, false, false, false, true, false, true, false, false, false, false, false, false, false, false, false, false, false, false, false, true, true] [false, false, false, false, false, false, true, true, true, false, true, false, true] (σ.length + 2) l205_0 (x :: U :: .cl 206 [] [] :: U :: U :: U :: U :: U :: U :: U :: .d (.int .i64 (at_ : Nat)) :: U :: .o 1 (sR acc) (σ.length + 1) :: U :: U :: U :: U :: U :: U :: U :: U :: U :: U :: U :: U :: U :: .d (.int .i64 (N : Nat)) :: .d (.int .i64 (i : Nat)) :: U :: U :: U :: U :: U :: U :: U :: U :: U :: U :: U :: U :: U :: U :: U :: U :: U :: U :: U :: U :: U :: U :: U :: []) (σ ++ [some (.tok 9 1 0), some (.tok 9 1 acc.length)]) =
      some (.exit 0, (U :: U :: U :: U :: U :: U :: U :: U :: U :: U :: .d (.int .i64 (at_ + (gL eS n (l.drop at_)).2.2 : Nat)) :: U :: .o 1 (sR (acc ++ (gL eS n (l.drop at_)).2.1)) (σ.length + 1) :: U :: U :: U :: U :: U :: U :: U :: U :: U :: U :: U :: U :: U :: U :: U :: U :: U :: U :: U :: U :: U :: U :: U :: U :: U :: U :: U :: U :: U :: U :: U :: U :: U :: U :: U :: U :: U :: U :: []), σ ++ [some (.tok 9 1 0), some (.tok 9 1 (acc ++ (gL eS n (l.drop at_)).2.1).length)])) ∧
    ((gL eS n (l.drop at_)).1 ≠ 0 → ∃ (at' : Nat) (acc' : List ByteArray), EvL E lo [true, false, true, false, false, false, false, false, false, false, true, false, true, false, false, false, false, false, false, false, false, false, false, false, false, false, true, true] [false, false, false, false, false, false, true, true, true, false, true, false, true] (σ.length + 2) l205_0 (x :: U :: .cl 206 [] [] :: U :: U :: U :: U :: U :: U :: U :: .d (.int .i64 (at_ : Nat)) :: U :: .o 1 (sR acc) (σ.length + 1) :: U :: U :: U :: U :: U :: U :: U :: U :: U :: U :: U :: U :: U :: .d (.int .i64 (N : Nat)) :: .d (.int .i64 (i : Nat)) :: U :: U :: U :: U :: U :: U :: U :: U :: U :: U :: U :: U :: U :: U :: U :: U :: U :: U :: U :: U :: U :: U :: U :: []) (σ ++ [some (.tok 9 1 0), some (.tok 9 1 acc.length)]) =
      some (.ret, (U :: U :: U :: U :: U :: U :: .d (.sl 1 []) :: .d (.int .i64 0) :: .d (.int .i64 ((gL eS n (l.drop at_)).1 : Nat)) :: U :: .d (.int .i64 (at' : Nat)) :: U :: .o 1 (sR acc') (σ.length + 1) :: U :: U :: U :: U :: U :: U :: U :: U :: U :: U :: U :: U :: U :: U :: U :: U :: U :: U :: U :: U :: U :: U :: U :: U :: U :: U :: U :: U :: U :: U :: U :: U :: U :: U :: U :: U :: U :: U :: []), σ ++ [some (.tok 9 1 0), some (.tok 9 1 acc'.length)])) := by
  have hcut := hx.cut (σ.length + 2) (by omega)
  have hrow := hx.row
  intro n
  induction n with
  | zero =>
    intro i at_ acc h ha hat
    refine ⟨fun _ => ⟨by simp only [gL]; omega, ?_⟩, fun h => absurd rfl h⟩
    rw [EvL_eq]
    simp (disch := omega) only [evs, evR, ev1, evOp, evO, setT, binC, binInt, unC, ↓reduceIte, keepT, C.one, toDss, toDs, toD, Nat.reduceAdd, Nat.reduceLT, Nat.reduceLeDiff, Int.reduceLT, Int.reduceLE, Nat.reduceEqDiff, endE, finE, resC, retC, finC, cutA, cut1, C.ltL, C.ltLL, tokOf, aggOf, Int.reduceEq, Nat.reduceBEq, stab, evW, l205_0, a205_r6, a205_r7, a205_r8, a205_r10, a205_r11, hcut]
    simp [gL]
  | succ n ih =>
    intro i at_ acc h ha hat
    have hw : IntKind.i64.wrap ((i : Int) + 1) = ((i + 1 : Nat) : Int) := by rw [IntKind.wrap_i64]; omega
    have hfrom := bR_from l at_
    have c1 := c206 E h204 h253 h206 lo (σ ++ [some (.tok 9 1 0), some (.tok 9 1 acc.length)]) (by rw [st_len]; omega) (.d (.sl 1 (bR (l.drop at_)))) (l.drop at_) (.d _ _ _) (by rw [List.length_drop]; omega) (hB.drop at_)
    by_cases he : (eS (l.drop at_)).1 = 0
    · have hu := eS_used he
      have hu' : (eS (l.drop at_)).2.2 ≤ l.length - at_ := by rw [List.length_drop] at hu; exact hu
      have hw2 : IntKind.i64.wrap ((at_ : Int) + ((eS (l.drop at_)).2.2 : Nat)) = ((at_ + (eS (l.drop at_)).2.2 : Nat) : Int) := by rw [IntKind.wrap_i64]; omega
      have hdd : (l.drop at_).drop (eS (l.drop at_)).2.2 = l.drop (at_ + (eS (l.drop at_)).2.2) := by rw [List.drop_drop]
      obtain ⟨ih1, ih2⟩ := ih (i + 1) (at_ + (eS (l.drop at_)).2.2) (acc ++ [(eS (l.drop at_)).2.1]) (by omega) (by simp; omega) (by omega)
      have hacc : sR acc ++ [[.str (eS (l.drop at_)).2.1]] = sR (acc ++ [(eS (l.drop at_)).2.1]) := by simp [sR]
      have hal : (sR acc).length = acc.length := by simp [sR]
      simp only [List.length_append, List.length_cons, List.length_nil, Nat.zero_add] at ih1 ih2
      rw [EvL_eq]
      generalize hL : EvL E lo _ _ _ _ = L at ih1 ih2 ⊢
      by_cases hr : (gL eS n (l.drop (at_ + (eS (l.drop at_)).2.2))).1 = 0
      · have key : gL eS (n + 1) (l.drop at_) = (0, (eS (l.drop at_)).2.1 :: (gL eS n (l.drop (at_ + (eS (l.drop at_)).2.2))).2.1, (eS (l.drop at_)).2.2 + (gL eS n (l.drop (at_ + (eS (l.drop at_)).2.2))).2.2) := by
          rw [gL, if_neg (by omega), hdd, if_neg (fun h => h hr)]
        obtain ⟨q1, q2⟩ := ih1 hr
        rw [key]
        refine ⟨fun _ => ⟨by simp only []; omega, ?_⟩, fun h => absurd rfl h⟩
        clear ih ih1 ih2 key hr hu hu'
        simp only [eS] at *
        simp (disch := omega) only [evs, evR, ev1, evOp, evO, setT, binC, binInt, unC, ↓reduceIte, keepT, C.one, toDss, toDs, toD, Nat.reduceAdd, Nat.reduceLT, Nat.reduceLeDiff, Int.reduceLT, Int.reduceLE, Nat.reduceEqDiff, endE, finE, resC, retC, finC, cutA, cut1, C.ltL, C.ltLL, tokOf, aggOf, Int.reduceEq, Nat.reduceBEq, stab, evW, l205_0, a205_r6, a205_r7, a205_r8, a205_r10, a205_r11, hcut, hrow, boundN, bR_len, hfrom, c1, hw, hw2, hal, hacc, he]
        rw [q2]
        simp [Nat.add_assoc, Nat.add_comm 1]
      · have key : gL eS (n + 1) (l.drop at_) = ((gL eS n (l.drop (at_ + (eS (l.drop at_)).2.2))).1, [], 0) := by
          rw [gL, if_neg (by omega), hdd, if_pos hr]
        obtain ⟨at', acc', q⟩ := ih2 hr
        rw [key]
        refine ⟨fun h => absurd h hr, fun _ => ⟨at', acc', ?_⟩⟩
        clear ih ih1 ih2 key hr hu hu'
        simp only [eS] at *
        simp (disch := omega) only [evs, evR, ev1, evOp, evO, setT, binC, binInt, unC, ↓reduceIte, keepT, C.one, toDss, toDs, toD, Nat.reduceAdd, Nat.reduceLT, Nat.reduceLeDiff, Int.reduceLT, Int.reduceLE, Nat.reduceEqDiff, endE, finE, resC, retC, finC, cutA, cut1, C.ltL, C.ltLL, tokOf, aggOf, Int.reduceEq, Nat.reduceBEq, stab, evW, l205_0, a205_r6, a205_r7, a205_r8, a205_r10, a205_r11, hcut, hrow, boundN, bR_len, hfrom, c1, hw, hw2, hal, hacc, he]
        exact q
    · have hle := eS_le (l.drop at_)
      have key : gL eS (n + 1) (l.drop at_) = ((eS (l.drop at_)).1, [], 0) := by rw [gL, if_pos (by omega)]
      rw [key]
      simp only [eS] at *
      refine ⟨fun h => absurd h he, fun _ => ⟨at_, acc, ?_⟩⟩
      rw [EvL_eq]
      simp (disch := omega) only [evs, evR, ev1, evOp, evO, setT, binC, binInt, unC, ↓reduceIte, keepT, C.one, toDss, toDs, toD, Nat.reduceAdd, Nat.reduceLT, Nat.reduceLeDiff, Int.reduceLT, Int.reduceLE, Nat.reduceEqDiff, endE, finE, resC, retC, finC, cutA, cut1, C.ltL, C.ltLL, tokOf, aggOf, Int.reduceEq, Nat.reduceBEq, stab, evW, l205_0, a205_r6, a205_r7, a205_r8, a205_r9, hcut, hrow, boundN, bR_len, hfrom, c1]

theorem c205 (E : Env) (h204 : E.tbl 204 = some e204) (h253 : E.tbl 253 = some e253) (h206 : E.tbl 206 = some e206) (h205 : E.tbl 205 = some e205) (lo : Nat) (σ : St) (hlo : lo ≤ σ.length) (x : C) (l : List Nat) (hx : SlC σ.length 1 x (bR l)) (hl : l.length ≤ 1000000) (hB : By l) :
    EvF E lo (.fn 205) [x, .d (.int .i64 1), .cl 206 [] []] σ = some (.tup [.d (.sl 1 (sR (dL eS l).2.1)), .d (.int .i64 ((dL eS l).2.2 : Nat)), .d (.int .i64 ((dL eS l).1 : Nat))], σ) := by
  rw [EvF_fn h205]
  have c1 := c253 E h204 h253 lo (σ ++ [some (.tok 9 1 0)]) (by rw [st_len]; omega) x l (hx.mono (by rw [st_len]; omega)) hl hB
  have hcut := hx.cut (σ.length + 2) (by omega)
  simp only [e205, List.replicate_succ, List.replicate_zero]
  rcases l_cases l with ⟨e, h1, h2, h3, h4, h5, h6⟩ | ⟨e, e', h2, h3⟩
  · obtain ⟨n, hn⟩ : ∃ n : Nat, gV l = (n : Int) := ⟨(gV l).toNat, by omega⟩
    rw [hn] at h3 h5
    obtain ⟨k1, k2⟩ := loop205 E h204 h253 h206 lo σ hlo x l hx hl hB n (by omega) n 0 (gU l) [] (by omega) rfl (by omega)
    have hz : ((0 : Nat) : Int) = 0 := rfl
    have hR0 : sR [] = [] := rfl
    simp only [hz, hR0, List.length_nil, List.nil_append] at k1 k2
    have key : dL eS l = if (gL eS n (l.drop (gU l))).1 ≠ 0 then ((gL eS n (l.drop (gU l))).1, [], 0) else (0, (gL eS n (l.drop (gU l))).2.1, gU l + (gL eS n (l.drop (gU l))).2.2) := by
      unfold dL
      rw [if_neg (by omega), h2, h3, Int.toNat_natCast]
    rw [key]
    by_cases hr : (gL eS n (l.drop (gU l))).1 = 0
    · obtain ⟨q1, q2⟩ := k1 hr
      rw [if_neg (by omega)]
      simp (disch := omega) only [evs, evR, ev1, evOp, evO, setT, binC, binInt, unC, ↓reduceIte, keepT, C.one, toDss, toDs, toD, Nat.reduceAdd, Nat.reduceLT, Nat.reduceLeDiff, Int.reduceLT, Int.reduceLE, Nat.reduceEqDiff, endE, finE, resC, retC, finC, cutA, cut1, C.ltL, C.ltLL, tokOf, aggOf, Int.reduceEq, Nat.reduceBEq, stab, evW, Nat.reduceSub, List.replicate_succ, List.replicate_zero, a205_r0, a205_r1, a205_r2, a205_r3, a205_r4, a205_r5, a205_r12, c1, e, h2, h3, hcut, q2]
      simp
    · obtain ⟨at', acc', q2⟩ := k2 hr
      rw [if_pos hr]
      simp (disch := omega) only [evs, evR, ev1, evOp, evO, setT, binC, binInt, unC, ↓reduceIte, keepT, C.one, toDss, toDs, toD, Nat.reduceAdd, Nat.reduceLT, Nat.reduceLeDiff, Int.reduceLT, Int.reduceLE, Nat.reduceEqDiff, endE, finE, resC, retC, finC, cutA, cut1, C.ltL, C.ltLL, tokOf, aggOf, Int.reduceEq, Nat.reduceBEq, stab, evW, Nat.reduceSub, List.replicate_succ, List.replicate_zero, a205_r0, a205_r1, a205_r2, a205_r3, a205_r4, a205_r5, a205_r12, c1, e, h2, h3, hcut, q2]
      rfl
  · have key : dL eS l = (lE l, [], 0) := by unfold dL; rw [if_pos e]
    rw [key]
    simp (disch := omega) only [evs, evR, ev1, evOp, evO, setT, binC, binInt, unC, ↓reduceIte, keepT, C.one, toDss, toDs, toD, Nat.reduceAdd, Nat.reduceLT, Nat.reduceLeDiff, Int.reduceLT, Int.reduceLE, Nat.reduceEqDiff, endE, finE, resC, retC, finC, cutA, cut1, C.ltL, C.ltLL, tokOf, aggOf, Int.reduceEq, Nat.reduceBEq, stab, evW, Nat.reduceSub, List.replicate_succ, List.replicate_zero, a205_r0, a205_r1, a205_r2, a205_r3, a205_r4, a205_r5, a205_r12, c1, h2, h3]
    rfl

theorem c120 (E : Env) (h204 : E.tbl 204 = some e204) (h253 : E.tbl 253 = some e253) (h206 : E.tbl 206 = some e206) (h205 : E.tbl 205 = some e205) (h120 : E.tbl 120 = some e120) (lo : Nat) (σ : St) (hlo : lo ≤ σ.length) (x : C) (l : List Nat) (hx : SlC σ.length 1 x (bR l)) (hl : l.length ≤ 1000000) (hB : By l) :
    EvF E lo (.fn 120) [x] σ = some (.tup [.d (.sl 1 (sR (dL eS l).2.1)), .d (.int .i64 ((dL eS l).2.2 : Nat)), .d (.int .i64 ((dL eS l).1 : Nat))], σ) := by
  rw [EvF_fn h120]
  have c1 := c205 E h204 h253 h206 h205 lo (σ ++ [some (.tok 9 1 0)]) (by rw [st_len]; omega) x l (hx.mono (by rw [st_len]; omega)) hl hB
  simp only [e120, List.replicate_succ, List.replicate_zero]
  simp (disch := omega) only [evs, evR, ev1, evOp, evO, setT, binC, binInt, unC, ↓reduceIte, keepT, C.one, toDss, toDs, toD, Nat.reduceAdd, Nat.reduceLT, Nat.reduceLeDiff, Int.reduceLT, Int.reduceLE, Nat.reduceEqDiff, endE, finE, resC, retC, finC, cutA, cut1, C.ltL, C.ltLL, tokOf, aggOf, Int.reduceEq, Nat.reduceBEq, stab, evW, Nat.reduceSub, List.replicate_succ, List.replicate_zero, a120_r0, a120_r1, c1]
end Go.Proofs.YtbecgpajbcafiaaGreat

set_option linter.unusedVariables false
set_option linter.unusedSimpArgs false
namespace Go.Proofs.YtbecgpajbcafiaaGreat
open Go.Av Go.RowKit

/-- How many bytes ahead of the last one. -/
def lead : Nat → List Nat → Nat
  | k, [] => k
  | k, c :: l => if k < 10 ∧ 128 ≤ c then lead (k + 1) l else k
/-- The sum of digits. -/
def hz : List Nat → Nat
  | [] => 0
  | c :: l => c % 128 + 128 * hz l

theorem lead_10 (l : List Nat) : lead 10 l = 10 := by cases l <;> simp [lead]

theorem gi_lead : ∀ (l : List Nat) (k z : Nat), k ≤ 9 →
    (lead k l = 10 ∧ (gi k z l).1 = 11) ∨ (lead k l = k + l.length ∧ lead k l ≤ 9 ∧ (gi k z l).1 = 10) ∨
    (k ≤ lead k l ∧ lead k l < k + l.length ∧ lead k l ≤ 9 ∧ ∃ c, l[lead k l - k]? = some c ∧ ((((lead k l = 9 ∧ 1 < c) ∨ (0 < lead k l ∧ c = 0)) ∧ (gi k z l).1 = 11) ∨ (¬ ((lead k l = 9 ∧ 1 < c) ∨ (0 < lead k l ∧ c = 0)) ∧ c < 128 ∧ gi k z l = (0, z + 128 ^ k * hz (l.take (lead k l - k + 1)), lead k l + 1))))
  | [], k, z, hk => .inr (.inl ⟨rfl, by simpa [lead] using hk, rfl⟩)
  | c :: l, k, z, hk => by
    by_cases h : 128 ≤ c
    · have hl : lead k (c :: l) = lead (k + 1) l := by rw [lead, if_pos ⟨by omega, h⟩]
      rw [hl]
      by_cases h9 : k = 9
      · subst h9
        refine .inl ⟨lead_10 l, ?_⟩
        rw [gi, if_pos (.inl ⟨rfl, by omega⟩)]
      · have hg : gi k z (c :: l) = gi (k + 1) (z + c % 128 * 128 ^ k) l := by rw [gi, if_neg (by omega), if_neg (by omega)]
        rw [hg]
        rcases gi_lead l (k + 1) (z + c % 128 * 128 ^ k) (by omega) with ⟨h1, h2⟩ | ⟨h1, h2, h3⟩ | ⟨h1, h2, h3, c', h4, h5⟩
        · exact .inl ⟨h1, h2⟩
        · exact .inr (.inl ⟨by simp only [List.length_cons]; omega, h2, h3⟩)
        · have e : lead (k + 1) l - k = lead (k + 1) l - (k + 1) + 1 := by omega
          refine .inr (.inr ⟨by omega, by simp only [List.length_cons]; omega, h3, c', by rw [e, List.getElem?_cons_succ]; exact h4, ?_⟩)
          rcases h5 with h5 | ⟨h5, h6, h7⟩
          · exact .inl h5
          · refine .inr ⟨h5, h6, ?_⟩
            rw [h7, e, List.take_succ_cons, hz, Nat.pow_succ, Nat.mul_add, Nat.mul_assoc, Nat.mul_comm (c % 128)]
            simp [Nat.add_assoc]
    · have hl : lead k (c :: l) = k := by rw [lead, if_neg (fun h' => h h'.2)]
      rw [hl]
      refine .inr (.inr ⟨Nat.le_refl _, by simp only [List.length_cons]; omega, hk, c, by simp, ?_⟩)
      by_cases he : (k = 9 ∧ 1 < c) ∨ (0 < k ∧ c = 0)
      · exact .inl ⟨he, by rw [gi, if_pos he]⟩
      · refine .inr ⟨he, by omega, ?_⟩
        rw [gi, if_neg he, if_pos (by omega)]
        simp [hz, Nat.mul_comm]

theorem hz_drop : ∀ (l : List Nat) (j : Nat), hz (l.drop j) ≤ hz l
  | [], j => by simp
  | c :: l, 0 => by simp
  | c :: l, j + 1 => by have := hz_drop l j; simp only [List.drop_succ_cons, hz]; omega


theorem loop208_1 (E : Env) (lo : Nat) (σ : St) (hlo : lo ≤ σ.length) (x : C) (l : List Nat) (hx : SlC σ.length 1 x (bR l)) (hl : l.length ≤ 1000000) (hB : By l) : ∀ (post pre : List Nat), l = pre ++ post → pre.length ≤ 10 →
    EvL E lo [true, false, false, false, false, true] [true, false, false, false, false, true] σ.length l208_1 (x :: U :: U :: U :: U :: .d (.int .i64 (pre.length : Nat)) :: U :: U :: U :: U :: U :: U :: U :: U :: U :: U :: U :: U :: U :: U :: U :: U :: U :: U :: U :: U :: U :: U :: U :: U :: U :: U :: U :: U :: U :: U :: U :: U :: U :: U :: U :: U :: U :: U :: U :: U :: U :: U :: U :: U :: U :: U :: U :: U :: U :: U :: U :: U :: U :: U :: U :: U :: U :: U :: U :: U :: U :: U :: U :: U :: U :: U :: U :: U :: U :: U :: U :: U :: U :: []) σ = some (.exit 0, (x :: U :: U :: U :: U :: .d (.int .i64 (lead pre.length post : Nat)) :: U :: U :: U :: U :: U :: U :: U :: U :: U :: U :: U :: U :: U :: U :: U :: U :: U :: U :: U :: U :: U :: U :: U :: U :: U :: U :: U :: U :: U :: U :: U :: U :: U :: U :: U :: U :: U :: U :: U :: U :: U :: U :: U :: U :: U :: U :: U :: U :: U :: U :: U :: U :: U :: U :: U :: U :: U :: U :: U :: U :: U :: U :: U :: U :: U :: U :: U :: U :: U :: U :: U :: U :: U :: []), σ) := by
  have hcut := hx.cut σ.length (Nat.le_refl _)
  have hlen := hx.len
  rw [bR_len] at hlen
  intro post
  induction post with
  | nil =>
    intro pre h hk
    rw [List.append_nil] at h; subst h
    rw [EvL_eq]
    simp (disch := omega) only [evs, evR, ev1, evOp, evO, setT, binC, binInt, unC, ↓reduceIte, keepT, C.one, toDss, toDs, toD, Nat.reduceAdd, Nat.reduceLT, Nat.reduceLeDiff, Int.reduceLT, Int.reduceLE, Nat.reduceEqDiff, endE, finE, resC, retC, finC, cutA, cut1, C.ltL, C.ltLL, tokOf, aggOf, Int.reduceEq, Nat.reduceBEq, stab, evW, l208_1, a208_r2, hcut, hlen, gdec, lead]
  | cons c post ih =>
    intro pre h hk
    have hc : c < 256 := hB c (by simp [h])
    have hix : ixC 1 x (pre.length : Int) = some (.elt [.int .u8 (c : Int)] 0) := by rw [h] at hx; exact slC_bat hx
    have hln : l.length = pre.length + (post.length + 1) := by rw [h]; simp
    have hw : IntKind.i64.wrap ((pre.length : Int) + 1) = ((pre.length + 1 : Nat) : Int) := by rw [IntKind.wrap_i64]; omega
    rw [EvL_eq]
    by_cases h10 : pre.length < 10
    · by_cases h128 : 128 ≤ c
      · have ih := ih (pre ++ [c]) (by simp [h]) (by simp only [List.length_append, List.length_cons, List.length_nil]; omega)
        simp only [List.length_append, List.length_cons, List.length_nil, Nat.zero_add] at ih
        generalize hL : EvL E lo _ _ _ _ = L at ih ⊢
        rw [show lead pre.length (c :: post) = lead (pre.length + 1) post from by rw [lead, if_pos ⟨h10, h128⟩]]
        simp (disch := omega) only [evs, evR, ev1, evOp, evO, setT, binC, binInt, unC, ↓reduceIte, keepT, C.one, toDss, toDs, toD, Nat.reduceAdd, Nat.reduceLT, Nat.reduceLeDiff, Int.reduceLT, Int.reduceLE, Nat.reduceEqDiff, endE, finE, resC, retC, finC, cutA, cut1, C.ltL, C.ltLL, tokOf, aggOf, Int.reduceEq, Nat.reduceBEq, stab, evW, l208_1, a208_r2, a208_r3, hcut, hlen, gdec, hix, hw]
        rw [ih]
      · rw [show lead pre.length (c :: post) = pre.length from by rw [lead, if_neg (fun h' => h128 h'.2)]]
        simp (disch := omega) only [evs, evR, ev1, evOp, evO, setT, binC, binInt, unC, ↓reduceIte, keepT, C.one, toDss, toDs, toD, Nat.reduceAdd, Nat.reduceLT, Nat.reduceLeDiff, Int.reduceLT, Int.reduceLE, Nat.reduceEqDiff, endE, finE, resC, retC, finC, cutA, cut1, C.ltL, C.ltLL, tokOf, aggOf, Int.reduceEq, Nat.reduceBEq, stab, evW, l208_1, a208_r2, a208_r3, hcut, hlen, gdec, hix, hw]
    · rw [show lead pre.length (c :: post) = pre.length from by rw [lead, if_neg (fun h' => h10 h'.1)]]
      simp (disch := omega) only [evs, evR, ev1, evOp, evO, setT, binC, binInt, unC, ↓reduceIte, keepT, C.one, toDss, toDs, toD, Nat.reduceAdd, Nat.reduceLT, Nat.reduceLeDiff, Int.reduceLT, Int.reduceLE, Nat.reduceEqDiff, endE, finE, resC, retC, finC, cutA, cut1, C.ltL, C.ltLL, tokOf, aggOf, Int.reduceEq, Nat.reduceBEq, stab, evW, l208_1, a208_r2, a208_r3, hcut, hlen, gdec]

theorem loop208_0 (E : Env) (lo : Nat) (σ : St) (hlo : lo ≤ σ.length) (x : C) (l : List Nat) (hx : SlC σ.length 1 x (bR l)) (hl : l.length ≤ 1000000) (hB : By l) (K : Nat) (hK : K < l.length) (hK9 : K ≤ 9) (hz64 : hz (l.take (K + 1)) < 18446744073709551616) : ∀ (j : Nat) (i : Int), j ≤ K + 1 → i = (j : Int) - 1 →
    EvL E lo [true, false, false, false, false, true, true, true] [false, false, false, false, false, true, true] σ.length l208_0 (x :: U :: U :: U :: U :: .d (.int .i64 (K : Nat)) :: .d (.int .u64 (hz ((l.take (K + 1)).drop j) : Nat)) :: .d (.int .i64 i) :: U :: U :: U :: U :: U :: U :: U :: U :: U :: U :: U :: U :: U :: U :: U :: U :: U :: U :: U :: U :: U :: U :: U :: U :: U :: U :: U :: U :: U :: U :: U :: U :: U :: U :: U :: U :: U :: U :: U :: U :: U :: U :: U :: U :: U :: U :: U :: U :: U :: U :: U :: U :: U :: U :: U :: U :: U :: U :: U :: U :: U :: U :: U :: U :: U :: U :: U :: U :: U :: U :: U :: []) σ = some (.exit 2, (U :: U :: U :: U :: U :: .d (.int .i64 (K : Nat)) :: .d (.int .u64 (hz (l.take (K + 1)) : Nat)) :: U :: U :: U :: U :: U :: U :: U :: U :: U :: U :: U :: U :: U :: U :: U :: U :: U :: U :: U :: U :: U :: U :: U :: U :: U :: U :: U :: U :: U :: U :: U :: U :: U :: U :: U :: U :: U :: U :: U :: U :: U :: U :: U :: U :: U :: U :: U :: U :: U :: U :: U :: U :: U :: U :: U :: U :: U :: U :: U :: U :: U :: U :: U :: U :: U :: U :: U :: U :: U :: U :: U :: U :: []), σ) := by
  have hcut := hx.cut σ.length (Nat.le_refl _)
  intro j
  induction j with
  | zero =>
    intro i hj hi
    rw [EvL_eq]
    simp (disch := omega) only [evs, evR, ev1, evOp, evO, setT, binC, binInt, unC, ↓reduceIte, keepT, C.one, toDss, toDs, toD, Nat.reduceAdd, Nat.reduceLT, Nat.reduceLeDiff, Int.reduceLT, Int.reduceLE, Nat.reduceEqDiff, endE, finE, resC, retC, finC, cutA, cut1, C.ltL, C.ltLL, tokOf, aggOf, Int.reduceEq, Nat.reduceBEq, stab, evW, l208_0, a208_r12, hcut]
  | succ j ih =>
    intro i hj hi
    obtain rfl : i = (j : Int) := by omega
    have hjl : j < l.length := by omega
    have hsplit : l = l.take j ++ l[j] :: l.drop (j + 1) := by rw [List.getElem_cons_drop, List.take_append_drop]
    have hc : l[j] < 256 := hB _ (List.getElem_mem hjl)
    have hix : ixC 1 x (j : Int) = some (.elt [.int .u8 (l[j] : Int)] 0) := by
      have h1 : SlC σ.length 1 x (bR (l.take j ++ l[j] :: l.drop (j + 1))) := by rw [← hsplit]; exact hx
      have := slC_bat h1
      rw [List.length_take, Nat.min_eq_left (by omega)] at this
      exact this
    have hdr : (l.take (K + 1)).drop j = l[j] :: (l.take (K + 1)).drop (j + 1) := by
      have hj2 : j < (l.take (K + 1)).length := by rw [List.length_take]; omega
      rw [List.drop_eq_getElem_cons hj2, List.getElem_take]
    have hzj : hz ((l.take (K + 1)).drop j) = l[j] % 128 + 128 * hz ((l.take (K + 1)).drop (j + 1)) := by rw [hdr, hz]
    have hbd := hz_drop (l.take (K + 1)) j
    have e1 : Int.tmod (l[j] : Int) 128 = ((l[j] % 128 : Nat) : Int) := by rw [Int.tmod_eq_emod_of_nonneg (by omega)]; omega
    have e2 : IntKind.u64.wrap ((l[j] % 128 : Nat) : Int) = ((l[j] % 128 : Nat) : Int) := by rw [u64_nat]; omega
    have e3 : IntKind.u64.wrap (((hz ((l.take (K + 1)).drop (j + 1)) : Nat) : Int) * 128) = ((128 * hz ((l.take (K + 1)).drop (j + 1)) : Nat) : Int) := by
      rw [IntKind.wrap_u64]; omega
    have e4 : IntKind.u64.wrap (((128 * hz ((l.take (K + 1)).drop (j + 1)) : Nat) : Int) + ((l[j] % 128 : Nat) : Int)) = ((hz ((l.take (K + 1)).drop j) : Nat) : Int) := by
      rw [IntKind.wrap_u64]; omega
    have e5 : IntKind.i64.wrap ((j : Int) - 1) = (j : Int) - 1 := by rw [IntKind.wrap_i64]; omega
    have ih := ih ((j : Int) - 1) (by omega) rfl
    rw [EvL_eq]
    generalize hL : EvL E lo _ _ _ _ = L at ih ⊢
    simp (disch := omega) only [evs, evR, ev1, evOp, evO, setT, binC, binInt, unC, ↓reduceIte, keepT, C.one, toDss, toDs, toD, Nat.reduceAdd, Nat.reduceLT, Nat.reduceLeDiff, Int.reduceLT, Int.reduceLE, Nat.reduceEqDiff, endE, finE, resC, retC, finC, cutA, cut1, C.ltL, C.ltLL, tokOf, aggOf, Int.reduceEq, Nat.reduceBEq, stab, evW, l208_0, a208_r12, a208_r13, a208_r14, hcut, hix, e1, e2, e3, e4, e5]
    rw [ih]

set_option maxHeartbeats 1000000 in
theorem c208 (E : Env) (h208 : E.tbl 208 = some e208) (lo : Nat) (σ : St) (hlo : lo ≤ σ.length) (x : C) (l : List Nat) (hx : SlC σ.length 1 x (bR l)) (hl : l.length ≤ 1000000) (hB : By l) :
    EvF E lo (.fn 208) [x] σ = some (.tup [.d (.int .i64 (gV l)), .d (.int .i64 (gU l : Nat)), .d (.int .i64 (gE l : Nat))], σ) := by
  rw [EvF_fn h208]
  have e2 := loop208_1 E lo σ hlo x l hx hl hB l [] rfl (by simp)
  have hcut := hx.cut σ.length (Nat.le_refl _)
  have hlen := hx.len
  rw [bR_len] at hlen
  have hz0 : ((List.length ([] : List Nat) : Nat) : Int) = 0 := rfl
  rw [hz0] at e2
  simp only [List.length_nil] at e2
  have hs := gi_spec l 0 0 (by omega) (by decide)
  unfold gV gU gE
  simp only [e208, List.replicate_succ, List.replicate_zero]
  rcases gi_lead l 0 0 (by omega) with ⟨h1, h2⟩ | ⟨h1, h2, h3⟩ | ⟨h1, h2, h3, c, h4, h5⟩
  · obtain ⟨_, h | h | ⟨_, h⟩⟩ := hs
    · omega
    · omega
    · rw [h2, h]
      simp (disch := omega) only [evs, evR, ev1, evOp, evO, setT, binC, binInt, unC, ↓reduceIte, keepT, C.one, toDss, toDs, toD, Nat.reduceAdd, Nat.reduceLT, Nat.reduceLeDiff, Int.reduceLT, Int.reduceLE, Nat.reduceEqDiff, endE, finE, resC, retC, finC, cutA, cut1, C.ltL, C.ltLL, tokOf, aggOf, Int.reduceEq, Nat.reduceBEq, stab, evW, Nat.reduceSub, List.replicate_succ, List.replicate_zero, a208_r0, a208_r1, a208_r4, a208_r5, hcut, hlen, e2, h1]
      rfl
  · obtain ⟨_, h | ⟨_, h⟩ | h⟩ := hs
    · omega
    · rw [h3, h]
      simp (disch := omega) only [evs, evR, ev1, evOp, evO, setT, binC, binInt, unC, ↓reduceIte, keepT, C.one, toDss, toDs, toD, Nat.reduceAdd, Nat.reduceLT, Nat.reduceLeDiff, Int.reduceLT, Int.reduceLE, Nat.reduceEqDiff, endE, finE, resC, retC, finC, cutA, cut1, C.ltL, C.ltLL, tokOf, aggOf, Int.reduceEq, Nat.reduceBEq, stab, evW, Nat.reduceSub, List.replicate_succ, List.replicate_zero, a208_r0, a208_r1, a208_r4, a208_r6, a208_r7, hcut, hlen, e2]
      rfl
    · omega
  · simp only [Nat.zero_add, Nat.sub_zero] at h2 h4 h5
    have hjl : lead 0 l < l.length := by omega
    have hsplit : l = l.take (lead 0 l) ++ l[lead 0 l] :: l.drop (lead 0 l + 1) := by rw [List.getElem_cons_drop, List.take_append_drop]
    have hce : l[lead 0 l] = c := by rw [List.getElem?_eq_getElem hjl] at h4; exact Option.some.inj h4
    have hc : c < 256 := hce ▸ hB _ (List.getElem_mem hjl)
    have hix : ixC 1 x (lead 0 l : Nat) = some (.elt [.int .u8 (c : Int)] 0) := by
      have h1 : SlC σ.length 1 x (bR (l.take (lead 0 l) ++ l[lead 0 l] :: l.drop (lead 0 l + 1))) := by rw [← hsplit]; exact hx
      have := slC_bat h1
      rw [List.length_take, Nat.min_eq_left (by omega), hce] at this
      exact this
    rcases h5 with ⟨h5, h6⟩ | ⟨h5, h6, h7⟩
    · obtain ⟨_, h | h | ⟨_, h⟩⟩ := hs
      · omega
      · omega
      · rw [h6, h]
        by_cases h9 : lead 0 l = 9
        · by_cases hc1 : 1 < c
          · simp (disch := omega) only [evs, evR, ev1, evOp, evO, setT, binC, binInt, unC, ↓reduceIte, keepT, C.one, toDss, toDs, toD, Nat.reduceAdd, Nat.reduceLT, Nat.reduceLeDiff, Int.reduceLT, Int.reduceLE, Nat.reduceEqDiff, endE, finE, resC, retC, finC, cutA, cut1, C.ltL, C.ltLL, tokOf, aggOf, Int.reduceEq, Nat.reduceBEq, stab, evW, Nat.reduceSub, List.replicate_succ, List.replicate_zero, a208_r0, a208_r1, a208_r4, a208_r6, a208_r8, a208_r9, hcut, hlen, e2, hix, gdec]
            rfl
          · simp (disch := omega) only [evs, evR, ev1, evOp, evO, setT, binC, binInt, unC, ↓reduceIte, keepT, C.one, toDss, toDs, toD, Nat.reduceAdd, Nat.reduceLT, Nat.reduceLeDiff, Int.reduceLT, Int.reduceLE, Nat.reduceEqDiff, endE, finE, resC, retC, finC, cutA, cut1, C.ltL, C.ltLL, tokOf, aggOf, Int.reduceEq, Nat.reduceBEq, stab, evW, Nat.reduceSub, List.replicate_succ, List.replicate_zero, a208_r0, a208_r1, a208_r4, a208_r6, a208_r8, a208_r9, hcut, hlen, e2, hix, gdec]
            rfl
        · simp (disch := omega) only [evs, evR, ev1, evOp, evO, setT, binC, binInt, unC, ↓reduceIte, keepT, C.one, toDss, toDs, toD, Nat.reduceAdd, Nat.reduceLT, Nat.reduceLeDiff, Int.reduceLT, Int.reduceLE, Nat.reduceEqDiff, endE, finE, resC, retC, finC, cutA, cut1, C.ltL, C.ltLL, tokOf, aggOf, Int.reduceEq, Nat.reduceBEq, stab, evW, Nat.reduceSub, List.replicate_succ, List.replicate_zero, a208_r0, a208_r1, a208_r4, a208_r6, a208_r8, a208_r9, hcut, hlen, e2, hix, gdec]
          rfl
    · rw [h7] at hs ⊢
      simp only [Nat.pow_zero, Nat.one_mul, Nat.zero_add] at hs ⊢
      obtain ⟨hz64, _⟩ := hs
      have e3 := loop208_0 E lo σ hlo x l hx hl hB (lead 0 l) hjl h3 hz64 (lead 0 l + 1) (lead 0 l : Nat) (Nat.le_refl _) (by omega)
      have hnil : List.drop (lead 0 l + 1) (l.take (lead 0 l + 1)) = [] := List.drop_of_length_le (by rw [List.length_take]; omega)
      have hz1 : ((hz [] : Nat) : Int) = 0 := rfl
      rw [hnil, hz1] at e3
      generalize hz (l.take (lead 0 l + 1)) = z at hz64 e3 ⊢
      have w1 : Int.tmod (z : Int) 2 = ((z % 2 : Nat) : Int) := by rw [Int.tmod_eq_emod_of_nonneg (by omega)]; omega
      have w2 : Int.tdiv (z : Int) 2 = ((z / 2 : Nat) : Int) := by rw [Int.tdiv_eq_ediv_of_nonneg (by omega)]; omega
      have w3 : IntKind.u64.wrap ((z / 2 : Nat) : Int) = ((z / 2 : Nat) : Int) := by rw [u64_nat]; omega
      have w4 : IntKind.i64.wrap ((z / 2 : Nat) : Int) = ((z / 2 : Nat) : Int) := i64_nat (by omega)
      have w5 : IntKind.i64.wrap (-1 - ((z / 2 : Nat) : Int)) = -((z / 2 : Nat) : Int) - 1 := by rw [IntKind.wrap_i64]; omega
      have w6 : IntKind.i64.wrap ((lead 0 l : Nat) + 1 : Int) = ((lead 0 l + 1 : Nat) : Int) := by rw [IntKind.wrap_i64]; omega
      unfold unzz
      by_cases hodd : z % 2 = 0
      · rw [if_pos hodd, if_pos trivial]
        by_cases h9 : lead 0 l = 9
        · simp (disch := omega) only [evs, evR, ev1, evOp, evO, setT, binC, binInt, unC, ↓reduceIte, keepT, C.one, toDss, toDs, toD, Nat.reduceAdd, Nat.reduceLT, Nat.reduceLeDiff, Int.reduceLT, Int.reduceLE, Nat.reduceEqDiff, endE, finE, resC, retC, finC, cutA, cut1, C.ltL, C.ltLL, tokOf, aggOf, Int.reduceEq, Nat.reduceBEq, stab, evW, Nat.reduceSub, List.replicate_succ, List.replicate_zero, a208_r0, a208_r1, a208_r4, a208_r6, a208_r8, a208_r10, a208_r11, a208_r15, a208_r17, hcut, hlen, e2, hix, gdec, e3, w1, w2, w3, w4, w5, w6]; rfl
        · by_cases hl0 : 0 < lead 0 l
          · simp (disch := omega) only [evs, evR, ev1, evOp, evO, setT, binC, binInt, unC, ↓reduceIte, keepT, C.one, toDss, toDs, toD, Nat.reduceAdd, Nat.reduceLT, Nat.reduceLeDiff, Int.reduceLT, Int.reduceLE, Nat.reduceEqDiff, endE, finE, resC, retC, finC, cutA, cut1, C.ltL, C.ltLL, tokOf, aggOf, Int.reduceEq, Nat.reduceBEq, stab, evW, Nat.reduceSub, List.replicate_succ, List.replicate_zero, a208_r0, a208_r1, a208_r4, a208_r6, a208_r8, a208_r10, a208_r11, a208_r15, a208_r17, hcut, hlen, e2, hix, gdec, e3, w1, w2, w3, w4, w5, w6]; rfl
          · simp (disch := omega) only [evs, evR, ev1, evOp, evO, setT, binC, binInt, unC, ↓reduceIte, keepT, C.one, toDss, toDs, toD, Nat.reduceAdd, Nat.reduceLT, Nat.reduceLeDiff, Int.reduceLT, Int.reduceLE, Nat.reduceEqDiff, endE, finE, resC, retC, finC, cutA, cut1, C.ltL, C.ltLL, tokOf, aggOf, Int.reduceEq, Nat.reduceBEq, stab, evW, Nat.reduceSub, List.replicate_succ, List.replicate_zero, a208_r0, a208_r1, a208_r4, a208_r6, a208_r8, a208_r10, a208_r11, a208_r15, a208_r17, hcut, hlen, e2, hix, gdec, e3, w1, w2, w3, w4, w5, w6]; rfl
      · rw [if_neg hodd, if_pos trivial]
        by_cases h9 : lead 0 l = 9
        · simp (disch := omega) only [evs, evR, ev1, evOp, evO, setT, binC, binInt, unC, ↓reduceIte, keepT, C.one, toDss, toDs, toD, Nat.reduceAdd, Nat.reduceLT, Nat.reduceLeDiff, Int.reduceLT, Int.reduceLE, Nat.reduceEqDiff, endE, finE, resC, retC, finC, cutA, cut1, C.ltL, C.ltLL, tokOf, aggOf, Int.reduceEq, Nat.reduceBEq, stab, evW, Nat.reduceSub, List.replicate_succ, List.replicate_zero, a208_r0, a208_r1, a208_r4, a208_r6, a208_r8, a208_r10, a208_r11, a208_r15, a208_r16, hcut, hlen, e2, hix, gdec, e3, w1, w2, w3, w4, w5, w6]; rfl
        · by_cases hl0 : 0 < lead 0 l
          · simp (disch := omega) only [evs, evR, ev1, evOp, evO, setT, binC, binInt, unC, ↓reduceIte, keepT, C.one, toDss, toDs, toD, Nat.reduceAdd, Nat.reduceLT, Nat.reduceLeDiff, Int.reduceLT, Int.reduceLE, Nat.reduceEqDiff, endE, finE, resC, retC, finC, cutA, cut1, C.ltL, C.ltLL, tokOf, aggOf, Int.reduceEq, Nat.reduceBEq, stab, evW, Nat.reduceSub, List.replicate_succ, List.replicate_zero, a208_r0, a208_r1, a208_r4, a208_r6, a208_r8, a208_r10, a208_r11, a208_r15, a208_r16, hcut, hlen, e2, hix, gdec, e3, w1, w2, w3, w4, w5, w6]; rfl
          · simp (disch := omega) only [evs, evR, ev1, evOp, evO, setT, binC, binInt, unC, ↓reduceIte, keepT, C.one, toDss, toDs, toD, Nat.reduceAdd, Nat.reduceLT, Nat.reduceLeDiff, Int.reduceLT, Int.reduceLE, Nat.reduceEqDiff, endE, finE, resC, retC, finC, cutA, cut1, C.ltL, C.ltLL, tokOf, aggOf, Int.reduceEq, Nat.reduceBEq, stab, evW, Nat.reduceSub, List.replicate_succ, List.replicate_zero, a208_r0, a208_r1, a208_r4, a208_r6, a208_r8, a208_r10, a208_r11, a208_r15, a208_r16, hcut, hlen, e2, hix, gdec, e3, w1, w2, w3, w4, w5, w6]; rfl
end Go.Proofs.YtbecgpajbcafiaaGreat
