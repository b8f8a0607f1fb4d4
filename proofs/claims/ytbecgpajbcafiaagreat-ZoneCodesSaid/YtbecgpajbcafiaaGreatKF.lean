/-
  Whole numbers as the machine reckons with them: what the layer of wires needs.
  wire.list of whole numbers.
  wire.Strings.
  The reference's encoding of lists.
  A summary's numbers and words; the reference's encoding of it.
  The encoding of a summary: the reference's.
  The encoding of a summary: the program's.
  The encoding of a summary: the program's (the whole).
-/
import Derived.Test.YtbecgpajbcafiaaGreatKD
import Derived.Laws.Bits64
import Derived.Test.YtbecgpajbcafiaaGreatKE
import Derived.Test.YtbecgpajbcafiaaGreatKT0
import Derived.Test.YtbecgpajbcafiaaGreatKT1
import Derived.Test.YtbecgpajbcafiaaGreatKT2
namespace Go.Proofs.YtbecgpajbcafiaaGreat
open Go.Av Go.RowKit
set_option linter.unusedVariables false
set_option linter.unusedSimpArgs false

theorem u8_nat (z : Nat) : IntKind.u8.wrap (z : Int) = ((z % 256 : Nat) : Int) := by
  rw [IntKind.wrap_u8]; omega

theorem u64_nat (z : Nat) : IntKind.u64.wrap (z : Int) = ((z % 18446744073709551616 : Nat) : Int) := by
  rw [IntKind.wrap_u64]; omega

theorem ofInt_nat (n z : Nat) : BitVec.ofInt n (z : Int) = BitVec.ofNat n z := by
  apply BitVec.eq_of_toNat_eq
  simp [BitVec.toNat_ofInt, BitVec.toNat_ofNat]

set_option maxRecDepth 100000 in
theorem or128_fin : ∀ k : Fin 256, ((BitVec.ofNat 8 k.val ||| 128#8).toNat : Nat) = k.val % 128 + 128 := by decide

theorem or128 (z : Nat) : IntKind.u8.wrap ((BitVec.ofInt IntKind.u8.bits (IntKind.u8.wrap (z : Int)) ||| BitVec.ofInt IntKind.u8.bits 128).toNat : Int) = ((z % 128 + 128 : Nat) : Int) := by
  have e : (BitVec.ofInt IntKind.u8.bits (IntKind.u8.wrap (z : Int)) ||| BitVec.ofInt IntKind.u8.bits 128).toNat = (BitVec.ofNat 8 (z % 256) ||| 128#8).toNat := by
    rw [u8_nat, ofInt_nat]; rfl
  have h := or128_fin ⟨z % 256, by omega⟩
  simp only [] at h
  rw [e, h, u8_nat]
  omega

theorem shr7 (z : Nat) : Int.fdiv (z : Int) (2 ^ (min (7 : Int).toNat IntKind.u64.bits)) = ((z / 128 : Nat) : Int) := by
  have e : ((2 : Int) ^ (min (7 : Int).toNat IntKind.u64.bits)) = 128 := by decide
  rw [e, Int.fdiv_eq_ediv_of_nonneg _ (by decide)]
  omega

/-- The number that stands for n. -/
def zz (n : Int) : Nat := if 0 ≤ n then (2 * n).toNat else (-2 * n - 1).toNat

theorem xor_all (x : BitVec 64) : (x ^^^ BitVec.ofNat 64 18446744073709551615).toNat = 18446744073709551615 - x.toNat := by
  have : BitVec.ofNat 64 18446744073709551615 = BitVec.allOnes 64 := by decide
  rw [this, BitVec.xor_allOnes, BitVec.toNat_not]

theorem zz_run (n : Int) (h0 : -9223372036854775808 ≤ n) (h1 : n < 9223372036854775808) :
    IntKind.u64.wrap ((BitVec.ofInt IntKind.u64.bits (IntKind.u64.wrap (IntKind.u64.wrap n * 2 ^ (min (1 : Int).toNat IntKind.u64.bits))) ^^^ BitVec.ofInt IntKind.u64.bits (IntKind.u64.wrap (Int.fdiv n (2 ^ (min (63 : Int).toNat IntKind.i64.bits))))).toNat : Int) = (zz n : Nat) := by
  have e1 : ((2 : Int) ^ (min (1 : Int).toNat IntKind.u64.bits)) = 2 := by decide
  have e2 : ((2 : Int) ^ (min (63 : Int).toNat IntKind.i64.bits)) = 9223372036854775808 := by decide
  rw [e1, e2, Int.fdiv_eq_ediv_of_nonneg _ (by decide)]
  by_cases hn : 0 ≤ n
  · have e3 : IntKind.u64.wrap (n / 9223372036854775808) = ((0 : Nat) : Int) := by
      rw [IntKind.wrap_u64]; omega
    have e4 : IntKind.u64.wrap (IntKind.u64.wrap n * 2) = ((zz n : Nat) : Int) := by
      rw [IntKind.wrap_u64, IntKind.wrap_u64]; simp only [zz, if_pos hn]; omega
    rw [e3, e4, ofInt_nat, ofInt_nat]
    have e5 : (BitVec.ofNat IntKind.u64.bits (zz n) ^^^ BitVec.ofNat IntKind.u64.bits 0).toNat = zz n := by
      show (BitVec.ofNat 64 (zz n) ^^^ BitVec.ofNat 64 0).toNat = zz n
      simp only [BitVec.xor_zero, BitVec.toNat_ofNat]
      simp only [zz, if_pos hn]; omega
    rw [e5, u64_nat]
    simp only [zz, if_pos hn]; omega
  · have e3 : IntKind.u64.wrap (n / 9223372036854775808) = ((18446744073709551615 : Nat) : Int) := by
      rw [IntKind.wrap_u64]; omega
    have e4 : IntKind.u64.wrap (IntKind.u64.wrap n * 2) = ((18446744073709551615 - zz n : Nat) : Int) := by
      rw [IntKind.wrap_u64, IntKind.wrap_u64]; simp only [zz, if_neg hn]; omega
    rw [e3, e4, ofInt_nat, ofInt_nat]
    have e5 : (BitVec.ofNat IntKind.u64.bits (18446744073709551615 - zz n) ^^^ BitVec.ofNat IntKind.u64.bits 18446744073709551615).toNat = zz n := by
      show (BitVec.ofNat 64 (18446744073709551615 - zz n) ^^^ BitVec.ofNat 64 18446744073709551615).toNat = zz n
      rw [xor_all, BitVec.toNat_ofNat]
      simp only [zz, if_neg hn]; omega
    rw [e5, u64_nat]
    simp only [zz, if_neg hn]; omega
end Go.Proofs.YtbecgpajbcafiaaGreat

set_option linter.unusedVariables false
set_option linter.unusedSimpArgs false
namespace Go.Proofs.YtbecgpajbcafiaaGreat
open Go.Av Go.RowKit

/-- All digits but the last. -/
def hd (z : Nat) : List Nat := if z < 128 then [] else (z % 128 + 128) :: hd (z / 128)
def lst (z : Nat) : Nat := if z < 128 then z else lst (z / 128)
def bR (l : List Nat) : List (List D) := l.map fun (b : Nat) => [.int .u8 b]
abbrev U := C.undef

theorem loop200 (E : Env) (lo : Nat) (σ : St) (hlo : lo ≤ σ.length) : ∀ (z : Nat) (rows : List (List D)), z < 18446744073709551616 → rows.length + (hd z).length ≤ 1000000 →
    EvL E lo [false, false, false, true, true] [false, false, false, true, true] (σ.length + 2)
            l200_0
      [U, U, U, .d (.int .u64 z), .o 1 rows (σ.length + 1), U, U, U, U, U, U, U, U, U, U, U, U, U, U, U, U, U, U, U, U, U, U] (σ ++ [some (.tok 5 1 0), some (.tok 5 1 rows.length)]) =
    some (.exit 0, [U, U, U, .d (.int .u64 (lst z)), .o 1 (rows ++ bR (hd z)) (σ.length + 1), U, U, U, U, U, U, U, U, U, U, U, U, U, U, U, U, U, U, U, U, U, U], σ ++ [some (.tok 5 1 0), some (.tok 5 1 (rows.length + (hd z).length))]) := by
  intro z
  induction z using Nat.strongRecOn with
  | _ z ih =>
    intro rows hz hr
    rw [EvL_eq]
    generalize hL : EvL E lo _ _ _ _ = L at ih ⊢
    by_cases h : (z : Int) > 127
    · have e7 := shr7 z
      have e8 := or128 z
      have hl : 128 ≤ z := by omega
      have hh : hd z = (z % 128 + 128) :: hd (z / 128) := by rw [hd, if_neg (by omega)]
      have hl' : lst z = lst (z / 128) := by rw [lst, if_neg (by omega)]
      rw [hh, List.length_cons] at hr
      simp (disch := omega) only [evs, evR, ev1, evOp, evO, setT, binC, binInt, unC, ↓reduceIte, keepT, C.one, toDss, toDs, toD, Nat.reduceAdd, Nat.reduceLT, Nat.reduceLeDiff, Int.reduceLT, Int.reduceLE, Nat.reduceEqDiff, endE, finE, resC, retC, finC, cutA, cut1, C.ltL, C.ltLL, tokOf, aggOf, Int.reduceEq, Nat.reduceBEq, stab, evW, l200_0, a200_r3, a200_r4, a200_r5, e8, e7]
      have := ih (z / 128) (by omega) (rows ++ [[D.int .u8 ((z % 128 + 128 : Nat) : Int)]]) (by omega) (by simp; omega)
      simp only [List.length_append, List.length_cons, List.length_nil, Nat.zero_add] at this
      rw [this, hh, hl']
      simp [bR, Nat.add_assoc, Nat.add_comm 1]
    · have hh : hd z = [] := by rw [hd, if_pos (by omega)]
      have hl' : lst z = z := by rw [lst, if_pos (by omega)]
      simp (disch := omega) only [evs, evR, ev1, evOp, evO, setT, binC, binInt, unC, ↓reduceIte, keepT, C.one, toDss, toDs, toD, Nat.reduceAdd, Nat.reduceLT, Nat.reduceLeDiff, Int.reduceLT, Int.reduceLE, Nat.reduceEqDiff, endE, finE, resC, retC, finC, cutA, cut1, C.ltL, C.ltLL, tokOf, aggOf, Int.reduceEq, Nat.reduceBEq, stab, evW, l200_0, a200_r3, a200_r4, a200_r5]
      simp [hh, hl', bR]

theorem bR_len (l : List Nat) : (bR l).length = l.length := by simp [bR]
theorem bR_app (l m : List Nat) : bR l ++ bR m = bR (l ++ m) := by simp [bR]
theorem bR_one (n : Nat) : [[D.int .u8 (n : Int)]] = bR [n] := rfl

theorem lst_lt (z : Nat) : lst z < 128 := by
  induction z using Nat.strongRecOn with
  | _ z ih =>
    rw [lst]
    split
    · assumption
    · exact ih _ (by omega)
theorem hd_len : ∀ (k z : Nat), z < 128 ^ (k + 1) → (hd z).length ≤ k := by
  intro k
  induction k with
  | zero => intro z h; rw [hd, if_pos (by omega)]; simp
  | succ k ih =>
    intro z h
    rw [hd]
    split
    · simp
    · have := ih (z / 128) (by rw [Nat.pow_succ] at h; omega)
      simp only [List.length_cons]; omega

/-- The bytes of a number. -/
def vint (n : Int) : List Nat := hd (zz n) ++ [lst (zz n)]
theorem zz_lt {n : Int} (h0 : -9223372036854775808 ≤ n) (h1 : n < 9223372036854775808) : zz n < 18446744073709551616 := by unfold zz; split <;> omega
theorem vint_len {n : Int} (h0 : -9223372036854775808 ≤ n) (h1 : n < 9223372036854775808) : (vint n).length ≤ 10 := by
  have := hd_len 9 (zz n) (by have := zz_lt h0 h1; have : (128 : Nat) ^ 10 = 1180591620717411303424 := by decide
                              omega)
  simp only [vint, List.length_append, List.length_cons, List.length_nil]; omega

theorem c200 (E : Env) (hE : E.tbl 200 = some e200) (lo : Nat) (σ : St) (hlo : lo ≤ σ.length) (n : Int) (h0 : -9223372036854775808 ≤ n) (h1 : n < 9223372036854775808) :
    EvF E lo (.fn 200) [.d (.int .i64 n)] σ = some (.o 1 (bR (vint n)) σ.length, σ ++ [some (.tok 5 1 (vint n).length)]) := by
  rw [EvF_fn hE]
  have hz := zz_lt h0 h1
  have hz2 := lst_lt (zz n)
  have hl := vint_len h0 h1
  simp only [vint, List.length_append, List.length_cons, List.length_nil] at hl
  have e1 := zz_run n h0 h1
  have e2 := loop200 E lo σ hlo (zz n) [] hz (by simp; omega)
  have e3 : IntKind.u8.wrap ((lst (zz n) : Nat) : Int) = ((lst (zz n) : Nat) : Int) := by rw [u8_nat]; omega
  simp only [List.length_nil, Nat.zero_add, List.nil_append] at e2
  simp only [e200, List.replicate_succ, List.replicate_zero]
  simp (disch := omega) only [evs, evR, ev1, evOp, evO, setT, binC, binInt, unC, ↓reduceIte, keepT, C.one, toDss, toDs, toD, Nat.reduceAdd, Nat.reduceLT, Nat.reduceLeDiff, Int.reduceLT, Int.reduceLE, Nat.reduceEqDiff, endE, finE, resC, retC, finC, cutA, cut1, C.ltL, C.ltLL, tokOf, aggOf, Int.reduceEq, Nat.reduceBEq, stab, evW, bR_len, Nat.reduceSub, List.replicate_succ, List.replicate_zero, a200_r0, a200_r1, a200_r2, a200_r6, e1, e2, e3]
  simp only [vint, bR_one, bR_app, List.length_append, List.length_cons, List.length_nil]
end Go.Proofs.YtbecgpajbcafiaaGreat

set_option linter.unusedVariables false
set_option linter.unusedSimpArgs false
namespace Go.Proofs.YtbecgpajbcafiaaGreat
open Go.Av Go.RowKit

def iR (l : List Int) : List (List D) := l.map fun n => [.int .i64 n]
def vints (l : List Int) : List Nat := l.flatMap vint
def I64 (n : Int) : Prop := -9223372036854775808 ≤ n ∧ n < 9223372036854775808
theorem iR_len (l : List Int) : (iR l).length = l.length := by simp [iR]
theorem iR_at (pre : List Int) (n : Int) (post : List Int) : (iR (pre ++ n :: post)).getD pre.length [] = [.int .i64 n] := by simp [iR, List.getD_eq_getElem?_getD]
theorem vints_len {l : List Int} (h : ∀ n ∈ l, I64 n) : (vints l).length ≤ 10 * l.length := by
  induction l with
  | nil => simp [vints]
  | cons n l ih =>
    have h1 := vint_len (h n (List.mem_cons_self ..)).1 (h n (List.mem_cons_self ..)).2
    have h2 := ih fun m hm => h m (List.mem_cons_of_mem _ hm)
    simp only [vints, List.flatMap_cons, List.length_append, List.length_cons] at h2 ⊢
    omega

theorem loop199 (E : Env) (hE : E.tbl 200 = some e200) (lo : Nat) (σ : St) (hlo : lo ≤ σ.length) (x : C) (l : List Int) (hx : SlC σ.length 1 x (iR l)) (hl : l.length ≤ 1000000) (hi : ∀ n ∈ l, I64 n) : ∀ (post pre : List Int) (acc : List Nat), l = pre ++ post → acc.length ≤ 10 * pre.length + 10 →
    EvL E lo [false, true, false, false, false, true, false, false, false, false, false, true, true, true] [false, false, false, false, false, true] (σ.length + 2) l199_0 [U, .cl 200 [] [], U, U, U, .o 1 (bR acc) (σ.length + 1), U, U, U, U, U, x, .d (.int .i64 (l.length : Nat)), .d (.int .i64 (pre.length : Nat)), U, U, U, U, U, U, U, U, U, U] (σ ++ [some (.tok 5 1 0), some (.tok 5 1 acc.length)]) =
      some (.exit 0, [U, U, U, U, U, .o 1 (bR (acc ++ vints post)) (σ.length + 1), U, U, U, U, U, U, U, U, U, U, U, U, U, U, U, U, U, U], σ ++ [some (.tok 5 1 0), some (.tok 5 1 (acc ++ vints post).length)]) := by
  intro post
  induction post with
  | nil =>
    intro pre acc h ha
    rw [List.append_nil] at h; subst h
    have hcut := hx.cut (σ.length + 2) (by omega)
    rw [EvL_eq]
    simp (disch := omega) only [evs, evR, ev1, evOp, evO, setT, binC, binInt, unC, ↓reduceIte, keepT, C.one, toDss, toDs, toD, Nat.reduceAdd, Nat.reduceLT, Nat.reduceLeDiff, Int.reduceLT, Int.reduceLE, Nat.reduceEqDiff, endE, finE, resC, retC, finC, cutA, cut1, C.ltL, C.ltLL, tokOf, aggOf, Int.reduceEq, Nat.reduceBEq, stab, evW, l199_0, a199_r3, hcut]
    simp [vints]
  | cons n post ih =>
    intro pre acc h ha
    have ih := ih (pre ++ [n]) (acc ++ vint n) (by simp [h]) (by
      have := vint_len (hi n (by simp [h])).1 (hi n (by simp [h])).2
      simp only [List.length_append, List.length_cons, List.length_nil]; omega)
    have hn := hi n (by simp [h])
    have hvl := vint_len hn.1 hn.2
    have hln : l.length = pre.length + (post.length + 1) := by rw [h]; simp
    have hix := hx.ix (pre.length : Int) (by omega) (by rw [iR_len]; omega)
    have hat := iR_at pre n post
    rw [Int.toNat_natCast, h, hat] at hix
    have hcut := hx.cut (σ.length + 2) (by omega)
    have hw : IntKind.i64.wrap ((pre.length : Int) + 1) = ((pre.length + 1 : Nat) : Int) := by rw [IntKind.wrap_i64]; omega
    have c2 := c200 E hE lo (σ ++ [some (.tok 5 1 0), some (.tok 5 1 acc.length)]) (by rw [st_len]; omega) n hn.1 hn.2
    rw [EvL_eq]
    generalize hL : EvL E lo _ _ _ _ = L at ih ⊢
    simp (disch := omega) only [evs, evR, ev1, evOp, evO, setT, binC, binInt, unC, ↓reduceIte, keepT, C.one, toDss, toDs, toD, Nat.reduceAdd, Nat.reduceLT, Nat.reduceLeDiff, Int.reduceLT, Int.reduceLE, Nat.reduceEqDiff, endE, finE, resC, retC, finC, cutA, cut1, C.ltL, C.ltLL, tokOf, aggOf, Int.reduceEq, Nat.reduceBEq, stab, evW, l199_0, a199_r3, a199_r4, a199_r5, a199_r6, hix, hcut, c2, bR_len, bR_app, hw, List.drop_zero, List.length_append]
    simp only [List.length_append, List.length_cons, List.length_nil, Nat.zero_add] at ih
    rw [ih]
    simp [vints, Nat.add_assoc]

def encInts (l : List Int) : List Nat := vint l.length ++ vints l
theorem I64_len {α : Type} {l : List α} (h : l.length ≤ 1000000) : I64 (l.length : Int) := ⟨by omega, by omega⟩

theorem c199 (E : Env) (hE : E.tbl 200 = some e200) (hE2 : E.tbl 199 = some e199) (lo : Nat) (σ : St) (hlo : lo ≤ σ.length) (x : C) (l : List Int) (hx : SlC σ.length 1 x (iR l)) (hl : l.length ≤ 1000000) (hi : ∀ n ∈ l, I64 n) :
    EvF E lo (.fn 199) [x, .cl 200 [] []] σ = some (.o 1 (bR (encInts l)) σ.length, σ ++ [some (.tok 5 1 (encInts l).length)]) := by
  rw [EvF_fn hE2]
  have hb := I64_len hl
  have hv := vint_len hb.1 hb.2
  have c2 := c200 E hE lo (σ ++ [some (.tok 5 1 0)]) (by rw [st_len]; omega) (l.length : Int) hb.1 hb.2
  have e2 := loop199 E hE lo σ hlo x l hx hl hi l [] (vint l.length) rfl (by simp; omega)
  have hcut := hx.cut (σ.length + 2) (by omega)
  have hlen := hx.len
  rw [iR_len] at hlen
  have hz : ((List.length ([] : List Int) : Nat) : Int) = 0 := rfl
  rw [hz] at e2
  simp only [e199, List.replicate_succ, List.replicate_zero]
  simp (disch := omega) only [evs, evR, ev1, evOp, evO, setT, binC, binInt, unC, ↓reduceIte, keepT, C.one, toDss, toDs, toD, Nat.reduceAdd, Nat.reduceLT, Nat.reduceLeDiff, Int.reduceLT, Int.reduceLE, Nat.reduceEqDiff, endE, finE, resC, retC, finC, cutA, cut1, C.ltL, C.ltLL, tokOf, aggOf, Int.reduceEq, Nat.reduceBEq, stab, evW, Nat.reduceSub, List.replicate_succ, List.replicate_zero, a199_r0, a199_r1, a199_r2, a199_r7, c2, hlen, hcut, e2]
  rfl

theorem c117 (E : Env) (hE : E.tbl 200 = some e200) (hE2 : E.tbl 199 = some e199) (hE3 : E.tbl 117 = some e117) (lo : Nat) (σ : St) (hlo : lo ≤ σ.length) (x : C) (l : List Int) (hx : SlC σ.length 1 x (iR l)) (hl : l.length ≤ 1000000) (hi : ∀ n ∈ l, I64 n) :
    EvF E lo (.fn 117) [x] σ = some (.o 1 (bR (encInts l)) σ.length, σ ++ [some (.tok 5 1 (encInts l).length)]) := by
  rw [EvF_fn hE3]
  have c2 := c199 E hE hE2 lo (σ ++ [some (.tok 5 1 0)]) (by rw [st_len]; omega) x l (hx.mono (by rw [st_len]; omega)) hl hi
  simp only [e117, List.replicate_succ, List.replicate_zero]
  simp (disch := omega) only [evs, evR, ev1, evOp, evO, setT, binC, binInt, unC, ↓reduceIte, keepT, C.one, toDss, toDs, toD, Nat.reduceAdd, Nat.reduceLT, Nat.reduceLeDiff, Int.reduceLT, Int.reduceLE, Nat.reduceEqDiff, endE, finE, resC, retC, finC, cutA, cut1, C.ltL, C.ltLL, tokOf, aggOf, Int.reduceEq, Nat.reduceBEq, stab, evW, Nat.reduceSub, List.replicate_succ, List.replicate_zero, a117_r0, a117_r1, c2]
end Go.Proofs.YtbecgpajbcafiaaGreat

set_option linter.unusedVariables false
set_option linter.unusedSimpArgs false
namespace Go.Proofs.YtbecgpajbcafiaaGreat
open Go.Av Go.RowKit

def sb (s : ByteArray) : List Nat := s.data.toList.map (·.toNat)
theorem sb_len (s : ByteArray) : (sb s).length = s.size := by unfold sb; rw [List.length_map, Array.length_toList]; rfl
theorem rowsS_eq (s : ByteArray) : rowsS s = bR (sb s) := by simp [rowsS, bR, sb, List.map_map, Function.comp_def]
/-- The bytes of a string. -/
def vstr (s : ByteArray) : List Nat := vint s.size ++ sb s
def sR (l : List ByteArray) : List (List D) := l.map fun s => [.str s]
def vstrs (l : List ByteArray) : List Nat := l.flatMap vstr
theorem sR_len (l : List ByteArray) : (sR l).length = l.length := by simp [sR]
theorem sR_at (pre : List ByteArray) (n : ByteArray) (post : List ByteArray) : (sR (pre ++ n :: post)).getD pre.length [] = [.str n] := by simp [sR, List.getD_eq_getElem?_getD]
theorem vstr_len {s : ByteArray} (hs : s.size ≤ 1000000) : (vstr s).length ≤ s.size + 10 := by
  have := vint_len (n := (s.size : Int)) (by omega) (by omega)
  simp only [vstr, List.length_append, sb_len]; omega
def encStrs (l : List ByteArray) : List Nat := vint l.length ++ vstrs l

theorem c202 (E : Env) (hE : E.tbl 200 = some e200) (hE202 : E.tbl 202 = some e202) (lo : Nat) (σ : St) (hlo : lo ≤ σ.length) (s : ByteArray) (hs : s.size ≤ 1000000) :
    EvF E lo (.fn 202) [.d (.str s)] σ = some (.o 1 (bR (vstr s)) σ.length, σ ++ [some (.tok 5 1 (vstr s).length)]) := by
  rw [EvF_fn hE202]
  have hb : I64 (s.size : Int) := ⟨by omega, by omega⟩
  have hv := vint_len hb.1 hb.2
  have hsl := sb_len s
  have c2 := c200 E hE lo (σ ++ [some (.tok 5 1 0)]) (by rw [st_len]; omega) (s.size : Int) hb.1 hb.2
  simp only [e202, List.replicate_succ, List.replicate_zero]
  simp (disch := omega) only [evs, evR, ev1, evOp, evO, setT, binC, binInt, unC, ↓reduceIte, keepT, C.one, toDss, toDs, toD, Nat.reduceAdd, Nat.reduceLT, Nat.reduceLeDiff, Int.reduceLT, Int.reduceLE, Nat.reduceEqDiff, endE, finE, resC, retC, finC, cutA, cut1, C.ltL, C.ltLL, tokOf, aggOf, Int.reduceEq, Nat.reduceBEq, stab, evW, Nat.reduceSub, List.replicate_succ, List.replicate_zero, a202_r0, a202_r1, c2, rowsS_eq, bR_len, bR_app, sb_len]
  simp only [vstr, List.length_append, sb_len]

theorem loop201 (E : Env) (hE : E.tbl 200 = some e200) (hE202 : E.tbl 202 = some e202) (lo : Nat) (σ : St) (hlo : lo ≤ σ.length) (x : C) (l : List ByteArray) (hx : SlC σ.length 1 x (sR l)) (hl : l.length ≤ 1000000) (hi : ∀ n ∈ l, n.size ≤ 1000000) (M : Nat) (hM : M ≤ 1000000000000) : ∀ (post pre : List ByteArray) (acc : List Nat), l = pre ++ post → acc.length + (vstrs post).length ≤ M →
    EvL E lo [false, true, false, false, false, true, false, false, false, false, false, true, true, true] [false, false, false, false, false, true] (σ.length + 2) l201_0 [U, .cl 202 [] [], U, U, U, .o 1 (bR acc) (σ.length + 1), U, U, U, U, U, x, .d (.int .i64 (l.length : Nat)), .d (.int .i64 (pre.length : Nat)), U, U, U, U, U, U, U, U, U, U] (σ ++ [some (.tok 5 1 0), some (.tok 5 1 acc.length)]) =
      some (.exit 0, [U, U, U, U, U, .o 1 (bR (acc ++ vstrs post)) (σ.length + 1), U, U, U, U, U, U, U, U, U, U, U, U, U, U, U, U, U, U], σ ++ [some (.tok 5 1 0), some (.tok 5 1 (acc ++ vstrs post).length)]) := by
  have hlen := hx.len
  rw [sR_len] at hlen
  intro post
  induction post with
  | nil =>
    intro pre acc h ha
    rw [List.append_nil] at h; subst h
    have hcut := hx.cut (σ.length + 2) (by omega)
    rw [EvL_eq]
    simp (disch := omega) only [evs, evR, ev1, evOp, evO, setT, binC, binInt, unC, ↓reduceIte, keepT, C.one, toDss, toDs, toD, Nat.reduceAdd, Nat.reduceLT, Nat.reduceLeDiff, Int.reduceLT, Int.reduceLE, Nat.reduceEqDiff, endE, finE, resC, retC, finC, cutA, cut1, C.ltL, C.ltLL, tokOf, aggOf, Int.reduceEq, Nat.reduceBEq, stab, evW, l201_0, a201_r3, a201_r4, a201_r5, a201_r6, hcut, hlen]
    simp [vstrs]
  | cons n post ih =>
    intro pre acc h ha
    have hn := hi n (by simp [h])
    have ha' : acc.length + ((vstr n).length + (vstrs post).length) ≤ M := by simpa [vstrs] using ha
    have ih := ih (pre ++ [n]) (acc ++ vstr n) (by simp [h]) (by simp only [List.length_append]; omega)
    have hln : l.length = pre.length + (post.length + 1) := by rw [h]; simp
    have hix := hx.ix (pre.length : Int) (by omega) (by rw [sR_len]; omega)
    have hat := sR_at pre n post
    rw [Int.toNat_natCast, h, hat] at hix
    have hcut := hx.cut (σ.length + 2) (by omega)
    have hw : IntKind.i64.wrap ((pre.length : Int) + 1) = ((pre.length + 1 : Nat) : Int) := by rw [IntKind.wrap_i64]; omega
    have c2 := c202 E hE hE202 lo (σ ++ [some (.tok 5 1 0), some (.tok 5 1 acc.length)]) (by rw [st_len]; omega) n hn
    rw [EvL_eq]
    generalize hL : EvL E lo _ _ _ _ = L at ih ⊢
    simp (disch := omega) only [evs, evR, ev1, evOp, evO, setT, binC, binInt, unC, ↓reduceIte, keepT, C.one, toDss, toDs, toD, Nat.reduceAdd, Nat.reduceLT, Nat.reduceLeDiff, Int.reduceLT, Int.reduceLE, Nat.reduceEqDiff, endE, finE, resC, retC, finC, cutA, cut1, C.ltL, C.ltLL, tokOf, aggOf, Int.reduceEq, Nat.reduceBEq, stab, evW, l201_0, a201_r3, a201_r4, a201_r5, a201_r6, hix, hcut, hlen, c2, bR_len, bR_app, hw, List.length_append]
    simp only [List.length_append, List.length_cons, List.length_nil, Nat.zero_add] at ih
    rw [ih]
    simp [vstrs, Nat.add_assoc]

theorem c201 (E : Env) (hE : E.tbl 200 = some e200) (hE202 : E.tbl 202 = some e202) (hE201 : E.tbl 201 = some e201) (lo : Nat) (σ : St) (hlo : lo ≤ σ.length) (x : C) (l : List ByteArray) (hx : SlC σ.length 1 x (sR l)) (hl : l.length ≤ 1000000) (hi : ∀ n ∈ l, n.size ≤ 1000000) (hV : (vstrs l).length ≤ 100000000000) :
    EvF E lo (.fn 201) [x, .cl 202 [] []] σ = some (.o 1 (bR (encStrs l)) σ.length, σ ++ [some (.tok 5 1 (encStrs l).length)]) := by
  rw [EvF_fn hE201]
  have hb := I64_len hl
  have hv := vint_len hb.1 hb.2
  have c2 := c200 E hE lo (σ ++ [some (.tok 5 1 0)]) (by rw [st_len]; omega) (l.length : Int) hb.1 hb.2
  have e2 := loop201 E hE hE202 lo σ hlo x l hx hl hi 1000000000000 (Nat.le_refl _) l [] (vint l.length) rfl (by omega)
  have hcut := hx.cut (σ.length + 2) (by omega)
  have hlen := hx.len
  rw [sR_len] at hlen
  have hz : ((List.length ([] : List ByteArray) : Nat) : Int) = 0 := rfl
  rw [hz] at e2
  simp only [e201, List.replicate_succ, List.replicate_zero]
  simp (disch := omega) only [evs, evR, ev1, evOp, evO, setT, binC, binInt, unC, ↓reduceIte, keepT, C.one, toDss, toDs, toD, Nat.reduceAdd, Nat.reduceLT, Nat.reduceLeDiff, Int.reduceLT, Int.reduceLE, Nat.reduceEqDiff, endE, finE, resC, retC, finC, cutA, cut1, C.ltL, C.ltLL, tokOf, aggOf, Int.reduceEq, Nat.reduceBEq, stab, evW, Nat.reduceSub, List.replicate_succ, List.replicate_zero, a201_r0, a201_r1, a201_r2, a201_r7, c2, hlen, hcut, e2]
  rfl

theorem c118 (E : Env) (hE : E.tbl 200 = some e200) (hE202 : E.tbl 202 = some e202) (hE201 : E.tbl 201 = some e201) (hE118 : E.tbl 118 = some e118) (lo : Nat) (σ : St) (hlo : lo ≤ σ.length) (x : C) (l : List ByteArray) (hx : SlC σ.length 1 x (sR l)) (hl : l.length ≤ 1000000) (hi : ∀ n ∈ l, n.size ≤ 1000000) (hV : (vstrs l).length ≤ 100000000000) :
    EvF E lo (.fn 118) [x] σ = some (.o 1 (bR (encStrs l)) σ.length, σ ++ [some (.tok 5 1 (encStrs l).length)]) := by
  rw [EvF_fn hE118]
  have c2 := c201 E hE hE202 hE201 lo (σ ++ [some (.tok 5 1 0)]) (by rw [st_len]; omega) x l (hx.mono (by rw [st_len]; omega)) hl hi hV
  simp only [e118, List.replicate_succ, List.replicate_zero]
  simp (disch := omega) only [evs, evR, ev1, evOp, evO, setT, binC, binInt, unC, ↓reduceIte, keepT, C.one, toDss, toDs, toD, Nat.reduceAdd, Nat.reduceLT, Nat.reduceLeDiff, Int.reduceLT, Int.reduceLE, Nat.reduceEqDiff, endE, finE, resC, retC, finC, cutA, cut1, C.ltL, C.ltLL, tokOf, aggOf, Int.reduceEq, Nat.reduceBEq, stab, evW, Nat.reduceSub, List.replicate_succ, List.replicate_zero, a118_r0, a118_r1, c2]
end Go.Proofs.YtbecgpajbcafiaaGreat

set_option linter.unusedVariables false
set_option linter.unusedSimpArgs false
namespace Go.Proofs.YtbecgpajbcafiaaGreat
open Go.Av Go.RowKit

theorem loop211 (E : Env) (lo : Nat) (σ : St) (hlo : lo ≤ σ.length) : ∀ (z : Nat) (rows : List (List D)), z < 18446744073709551616 → rows.length + (hd z).length ≤ 1000000 →
    EvL E lo [false, false, false, true, true] [false, false, false, true, true] (σ.length + 2) l211_0
      [U, U, U, .d (.int .u64 z), .o 1 rows (σ.length + 1), U, U, U, U, U, U, U, U, U, U, U, U, U, U, U, U, U, U, U, U, U, U, U, U, U, U] (σ ++ [some (.tok 5 1 0), some (.tok 5 1 rows.length)]) =
    some (.exit 0, [U, U, U, .d (.int .u64 (lst z)), .o 1 (rows ++ bR (hd z)) (σ.length + 1), U, U, U, U, U, U, U, U, U, U, U, U, U, U, U, U, U, U, U, U, U, U, U, U, U, U], σ ++ [some (.tok 5 1 0), some (.tok 5 1 (rows.length + (hd z).length))]) := by
  intro z
  induction z using Nat.strongRecOn with
  | _ z ih =>
    intro rows hz hr
    rw [EvL_eq]
    generalize hL : EvL E lo _ _ _ _ = L at ih ⊢
    by_cases h : 128 ≤ (z : Int)
    · have e6 : IntKind.u8.wrap (IntKind.u8.wrap (Int.tmod (z : Int) 128) + 128) = ((z % 128 + 128 : Nat) : Int) := by
        rw [show Int.tmod (z : Int) 128 = ((z % 128 : Nat) : Int) from by rw [Int.tmod_eq_emod_of_nonneg (by omega)]; omega, u8_nat, IntKind.wrap_u8]; omega
      have e7 : IntKind.u64.wrap (Int.tdiv (z : Int) 128) = ((z / 128 : Nat) : Int) := by
        rw [show Int.tdiv (z : Int) 128 = ((z / 128 : Nat) : Int) from by rw [Int.tdiv_eq_ediv_of_nonneg (by omega)]; omega, u64_nat]; omega
      have hl : 128 ≤ z := by omega
      have hh : hd z = (z % 128 + 128) :: hd (z / 128) := by rw [hd, if_neg (by omega)]
      have hl' : lst z = lst (z / 128) := by rw [lst, if_neg (by omega)]
      rw [hh, List.length_cons] at hr
      simp (disch := omega) only [evs, evR, ev1, evOp, evO, setT, binC, binInt, unC, ↓reduceIte, keepT, C.one, toDss, toDs, toD, Nat.reduceAdd, Nat.reduceLT, Nat.reduceLeDiff, Int.reduceLT, Int.reduceLE, Nat.reduceEqDiff, endE, finE, resC, retC, finC, cutA, cut1, C.ltL, C.ltLL, tokOf, aggOf, Int.reduceEq, Nat.reduceBEq, stab, evW, l211_0, a211_r5, a211_r6, a211_r7, e6, e7]
      have := ih (z / 128) (by omega) (rows ++ [[D.int .u8 ((z % 128 + 128 : Nat) : Int)]]) (by omega) (by simp; omega)
      simp only [List.length_append, List.length_cons, List.length_nil, Nat.zero_add] at this
      rw [this, hh, hl']
      simp [bR, Nat.add_assoc, Nat.add_comm 1]
    · have hh : hd z = [] := by rw [hd, if_pos (by omega)]
      have hl' : lst z = z := by rw [lst, if_pos (by omega)]
      simp (disch := omega) only [evs, evR, ev1, evOp, evO, setT, binC, binInt, unC, ↓reduceIte, keepT, C.one, toDss, toDs, toD, Nat.reduceAdd, Nat.reduceLT, Nat.reduceLeDiff, Int.reduceLT, Int.reduceLE, Nat.reduceEqDiff, endE, finE, resC, retC, finC, cutA, cut1, C.ltL, C.ltLL, tokOf, aggOf, Int.reduceEq, Nat.reduceBEq, stab, evW, l211_0, a211_r5, a211_r6, a211_r7]
      simp [hh, hl', bR]

theorem c211 (E : Env) (hE : E.tbl 211 = some e211) (lo : Nat) (σ : St) (hlo : lo ≤ σ.length) (n : Int) (h0 : -9223372036854775808 ≤ n) (h1 : n < 9223372036854775808) :
    EvF E lo (.fn 211) [.d (.int .i64 n)] σ = some (.o 1 (bR (vint n)) σ.length, σ ++ [some (.tok 5 1 (vint n).length)]) := by
  rw [EvF_fn hE]
  have hz := zz_lt h0 h1
  have hz2 := lst_lt (zz n)
  have hl := vint_len h0 h1
  simp only [vint, List.length_append, List.length_cons, List.length_nil] at hl
  have e2 := loop211 E lo σ hlo (zz n) [] hz (by simp; omega)
  have e3 : IntKind.u8.wrap ((lst (zz n) : Nat) : Int) = ((lst (zz n) : Nat) : Int) := by rw [u8_nat]; omega
  simp only [List.length_nil, Nat.zero_add, List.nil_append] at e2
  simp only [e211, List.replicate_succ, List.replicate_zero]
  by_cases h : n < 0
  · have e1 : IntKind.u64.wrap (IntKind.u64.wrap (IntKind.u64.wrap (IntKind.i64.wrap (-1 - n)) * 2) + 1) = ((zz n : Nat) : Int) := by
      simp only [IntKind.wrap_u64, IntKind.wrap_i64]; unfold zz; split <;> omega
    simp (disch := omega) only [evs, evR, ev1, evOp, evO, setT, binC, binInt, unC, ↓reduceIte, keepT, C.one, toDss, toDs, toD, Nat.reduceAdd, Nat.reduceLT, Nat.reduceLeDiff, Int.reduceLT, Int.reduceLE, Nat.reduceEqDiff, endE, finE, resC, retC, finC, cutA, cut1, C.ltL, C.ltLL, tokOf, aggOf, Int.reduceEq, Nat.reduceBEq, stab, evW, bR_len, Nat.reduceSub, List.replicate_succ, List.replicate_zero, a211_r0, a211_r1, a211_r2, a211_r3, a211_r4, a211_r8, e1, e2, e3]
    simp only [vint, bR_one, bR_app, List.length_append, List.length_cons, List.length_nil]
  · have e1 : IntKind.u64.wrap (IntKind.u64.wrap n * 2) = ((zz n : Nat) : Int) := by
      simp only [IntKind.wrap_u64]; unfold zz; split <;> omega
    simp (disch := omega) only [evs, evR, ev1, evOp, evO, setT, binC, binInt, unC, ↓reduceIte, keepT, C.one, toDss, toDs, toD, Nat.reduceAdd, Nat.reduceLT, Nat.reduceLeDiff, Int.reduceLT, Int.reduceLE, Nat.reduceEqDiff, endE, finE, resC, retC, finC, cutA, cut1, C.ltL, C.ltLL, tokOf, aggOf, Int.reduceEq, Nat.reduceBEq, stab, evW, bR_len, Nat.reduceSub, List.replicate_succ, List.replicate_zero, a211_r0, a211_r1, a211_r2, a211_r3, a211_r4, a211_r8, e1, e2, e3]
    simp only [vint, bR_one, bR_app, List.length_append, List.length_cons, List.length_nil]

theorem c212 (E : Env) (hE : E.tbl 211 = some e211) (hE212 : E.tbl 212 = some e212) (lo : Nat) (σ : St) (hlo : lo ≤ σ.length) (s : ByteArray) (hs : s.size ≤ 1000000) :
    EvF E lo (.fn 212) [.d (.str s)] σ = some (.o 1 (bR (vstr s)) σ.length, σ ++ [some (.tok 5 1 (vstr s).length)]) := by
  rw [EvF_fn hE212]
  have hb : I64 (s.size : Int) := ⟨by omega, by omega⟩
  have hv := vint_len hb.1 hb.2
  have hsl := sb_len s
  have c2 := c211 E hE lo (σ ++ [some (.tok 5 1 0)]) (by rw [st_len]; omega) (s.size : Int) hb.1 hb.2
  simp only [e212, List.replicate_succ, List.replicate_zero]
  simp (disch := omega) only [evs, evR, ev1, evOp, evO, setT, binC, binInt, unC, ↓reduceIte, keepT, C.one, toDss, toDs, toD, Nat.reduceAdd, Nat.reduceLT, Nat.reduceLeDiff, Int.reduceLT, Int.reduceLE, Nat.reduceEqDiff, endE, finE, resC, retC, finC, cutA, cut1, C.ltL, C.ltLL, tokOf, aggOf, Int.reduceEq, Nat.reduceBEq, stab, evW, Nat.reduceSub, List.replicate_succ, List.replicate_zero, a212_r0, a212_r1, c2, rowsS_eq, bR_len, bR_app, sb_len]
  simp only [vstr, List.length_append, sb_len]

theorem loop128 (E : Env) (hE : E.tbl 211 = some e211) (lo : Nat) (σ : St) (hlo : lo ≤ σ.length) (x : C) (l : List Int) (hx : SlC σ.length 1 x (iR l)) (hl : l.length ≤ 1000000) (hi : ∀ n ∈ l, I64 n) (M : Nat) (hM : M ≤ 1000000000000) : ∀ (post pre : List Int) (acc : List Nat), l = pre ++ post → acc.length + (vints post).length ≤ M →
    EvL E lo [true, false, false, true, true] [false, false, false, true] (σ.length + 2) l128_0 [x, U, U, .o 1 (bR acc) (σ.length + 1), .d (.int .i64 (pre.length : Nat)), U, U, U, U, U, U, U, U, U, U, U, U, U, U, U, U, U] (σ ++ [some (.tok 5 1 0), some (.tok 5 1 acc.length)]) =
      some (.exit 0, [U, U, U, .o 1 (bR (acc ++ vints post)) (σ.length + 1), U, U, U, U, U, U, U, U, U, U, U, U, U, U, U, U, U, U], σ ++ [some (.tok 5 1 0), some (.tok 5 1 (acc ++ vints post).length)]) := by
  have hlen := hx.len
  rw [iR_len] at hlen
  intro post
  induction post with
  | nil =>
    intro pre acc h ha
    rw [List.append_nil] at h; subst h
    have hcut := hx.cut (σ.length + 2) (by omega)
    rw [EvL_eq]
    simp (disch := omega) only [evs, evR, ev1, evOp, evO, setT, binC, binInt, unC, ↓reduceIte, keepT, C.one, toDss, toDs, toD, Nat.reduceAdd, Nat.reduceLT, Nat.reduceLeDiff, Int.reduceLT, Int.reduceLE, Nat.reduceEqDiff, endE, finE, resC, retC, finC, cutA, cut1, C.ltL, C.ltLL, tokOf, aggOf, Int.reduceEq, Nat.reduceBEq, stab, evW, l128_0, a128_r3, a128_r4, a128_r5, hcut, hlen]
    simp [vints]
  | cons n post ih =>
    intro pre acc h ha
    have hn := hi n (by simp [h])
    have ha' : acc.length + ((vint n).length + (vints post).length) ≤ M := by simpa [vints] using ha
    have ih := ih (pre ++ [n]) (acc ++ vint n) (by simp [h]) (by simp only [List.length_append]; omega)
    have hln : l.length = pre.length + (post.length + 1) := by rw [h]; simp
    have hix := hx.ix (pre.length : Int) (by omega) (by rw [iR_len]; omega)
    have hat := iR_at pre n post
    rw [Int.toNat_natCast, h, hat] at hix
    have hcut := hx.cut (σ.length + 2) (by omega)
    have hw : IntKind.i64.wrap ((pre.length : Int) + 1) = ((pre.length + 1 : Nat) : Int) := by rw [IntKind.wrap_i64]; omega
    have c2 := c211 E hE lo (σ ++ [some (.tok 5 1 0), some (.tok 5 1 acc.length)]) (by rw [st_len]; omega) n hn.1 hn.2
    rw [EvL_eq]
    generalize hL : EvL E lo _ _ _ _ = L at ih ⊢
    simp (disch := omega) only [evs, evR, ev1, evOp, evO, setT, binC, binInt, unC, ↓reduceIte, keepT, C.one, toDss, toDs, toD, Nat.reduceAdd, Nat.reduceLT, Nat.reduceLeDiff, Int.reduceLT, Int.reduceLE, Nat.reduceEqDiff, endE, finE, resC, retC, finC, cutA, cut1, C.ltL, C.ltLL, tokOf, aggOf, Int.reduceEq, Nat.reduceBEq, stab, evW, l128_0, a128_r3, a128_r4, a128_r5, hix, hcut, hlen, c2, bR_len, bR_app, hw, List.length_append]
    simp only [List.length_append, List.length_cons, List.length_nil, Nat.zero_add] at ih
    rw [ih]
    simp [vints, Nat.add_assoc]

theorem c128 (E : Env) (hE : E.tbl 211 = some e211) (hE128 : E.tbl 128 = some e128) (lo : Nat) (σ : St) (hlo : lo ≤ σ.length) (x : C) (l : List Int) (hx : SlC σ.length 1 x (iR l)) (hl : l.length ≤ 1000000) (hi : ∀ n ∈ l, I64 n) (hV : (vints l).length ≤ 100000000000) :
    EvF E lo (.fn 128) [x] σ = some (.o 1 (bR (encInts l)) σ.length, σ ++ [some (.tok 5 1 (encInts l).length)]) := by
  rw [EvF_fn hE128]
  have hb := I64_len hl
  have hv := vint_len hb.1 hb.2
  have c2 := c211 E hE lo (σ ++ [some (.tok 5 1 0)]) (by rw [st_len]; omega) (l.length : Int) hb.1 hb.2
  have e2 := loop128 E hE lo σ hlo x l hx hl hi 1000000000000 (Nat.le_refl _) l [] (vint l.length) rfl (by omega)
  have hcut := hx.cut (σ.length + 2) (by omega)
  have hlen := hx.len
  rw [iR_len] at hlen
  have hz : ((List.length ([] : List Int) : Nat) : Int) = 0 := rfl
  rw [hz] at e2
  simp only [e128, List.replicate_succ, List.replicate_zero]
  simp (disch := omega) only [evs, evR, ev1, evOp, evO, setT, binC, binInt, unC, ↓reduceIte, keepT, C.one, toDss, toDs, toD, Nat.reduceAdd, Nat.reduceLT, Nat.reduceLeDiff, Int.reduceLT, Int.reduceLE, Nat.reduceEqDiff, endE, finE, resC, retC, finC, cutA, cut1, C.ltL, C.ltLL, tokOf, aggOf, Int.reduceEq, Nat.reduceBEq, stab, evW, Nat.reduceSub, List.replicate_succ, List.replicate_zero, a128_r0, a128_r1, a128_r2, a128_r6, c2, hlen, hcut, e2]
  rfl

theorem loop129 (E : Env) (hE : E.tbl 211 = some e211) (hE212 : E.tbl 212 = some e212) (lo : Nat) (σ : St) (hlo : lo ≤ σ.length) (x : C) (l : List ByteArray) (hx : SlC σ.length 1 x (sR l)) (hl : l.length ≤ 1000000) (hi : ∀ n ∈ l, n.size ≤ 1000000) (M : Nat) (hM : M ≤ 1000000000000) : ∀ (post pre : List ByteArray) (acc : List Nat), l = pre ++ post → acc.length + (vstrs post).length ≤ M →
    EvL E lo [true, false, false, true, true] [false, false, false, true] (σ.length + 2) l129_0 [x, U, U, .o 1 (bR acc) (σ.length + 1), .d (.int .i64 (pre.length : Nat)), U, U, U, U, U, U, U, U, U, U, U, U, U, U, U, U, U] (σ ++ [some (.tok 5 1 0), some (.tok 5 1 acc.length)]) =
      some (.exit 0, [U, U, U, .o 1 (bR (acc ++ vstrs post)) (σ.length + 1), U, U, U, U, U, U, U, U, U, U, U, U, U, U, U, U, U, U], σ ++ [some (.tok 5 1 0), some (.tok 5 1 (acc ++ vstrs post).length)]) := by
  have hlen := hx.len
  rw [sR_len] at hlen
  intro post
  induction post with
  | nil =>
    intro pre acc h ha
    rw [List.append_nil] at h; subst h
    have hcut := hx.cut (σ.length + 2) (by omega)
    rw [EvL_eq]
    simp (disch := omega) only [evs, evR, ev1, evOp, evO, setT, binC, binInt, unC, ↓reduceIte, keepT, C.one, toDss, toDs, toD, Nat.reduceAdd, Nat.reduceLT, Nat.reduceLeDiff, Int.reduceLT, Int.reduceLE, Nat.reduceEqDiff, endE, finE, resC, retC, finC, cutA, cut1, C.ltL, C.ltLL, tokOf, aggOf, Int.reduceEq, Nat.reduceBEq, stab, evW, l129_0, a129_r3, a129_r4, a129_r5, hcut, hlen]
    simp [vstrs]
  | cons n post ih =>
    intro pre acc h ha
    have hn := hi n (by simp [h])
    have ha' : acc.length + ((vstr n).length + (vstrs post).length) ≤ M := by simpa [vstrs] using ha
    have ih := ih (pre ++ [n]) (acc ++ vstr n) (by simp [h]) (by simp only [List.length_append]; omega)
    have hln : l.length = pre.length + (post.length + 1) := by rw [h]; simp
    have hix := hx.ix (pre.length : Int) (by omega) (by rw [sR_len]; omega)
    have hat := sR_at pre n post
    rw [Int.toNat_natCast, h, hat] at hix
    have hcut := hx.cut (σ.length + 2) (by omega)
    have hw : IntKind.i64.wrap ((pre.length : Int) + 1) = ((pre.length + 1 : Nat) : Int) := by rw [IntKind.wrap_i64]; omega
    have c2 := c212 E hE hE212 lo (σ ++ [some (.tok 5 1 0), some (.tok 5 1 acc.length)]) (by rw [st_len]; omega) n hn
    rw [EvL_eq]
    generalize hL : EvL E lo _ _ _ _ = L at ih ⊢
    simp (disch := omega) only [evs, evR, ev1, evOp, evO, setT, binC, binInt, unC, ↓reduceIte, keepT, C.one, toDss, toDs, toD, Nat.reduceAdd, Nat.reduceLT, Nat.reduceLeDiff, Int.reduceLT, Int.reduceLE, Nat.reduceEqDiff, endE, finE, resC, retC, finC, cutA, cut1, C.ltL, C.ltLL, tokOf, aggOf, Int.reduceEq, Nat.reduceBEq, stab, evW, l129_0, a129_r3, a129_r4, a129_r5, hix, hcut, hlen, c2, bR_len, bR_app, hw, List.length_append]
    simp only [List.length_append, List.length_cons, List.length_nil, Nat.zero_add] at ih
    rw [ih]
    simp [vstrs, Nat.add_assoc]

theorem c129 (E : Env) (hE : E.tbl 211 = some e211) (hE212 : E.tbl 212 = some e212) (hE129 : E.tbl 129 = some e129) (lo : Nat) (σ : St) (hlo : lo ≤ σ.length) (x : C) (l : List ByteArray) (hx : SlC σ.length 1 x (sR l)) (hl : l.length ≤ 1000000) (hi : ∀ n ∈ l, n.size ≤ 1000000) (hV : (vstrs l).length ≤ 100000000000) :
    EvF E lo (.fn 129) [x] σ = some (.o 1 (bR (encStrs l)) σ.length, σ ++ [some (.tok 5 1 (encStrs l).length)]) := by
  rw [EvF_fn hE129]
  have hb := I64_len hl
  have hv := vint_len hb.1 hb.2
  have c2 := c211 E hE lo (σ ++ [some (.tok 5 1 0)]) (by rw [st_len]; omega) (l.length : Int) hb.1 hb.2
  have e2 := loop129 E hE hE212 lo σ hlo x l hx hl hi 1000000000000 (Nat.le_refl _) l [] (vint l.length) rfl (by omega)
  have hcut := hx.cut (σ.length + 2) (by omega)
  have hlen := hx.len
  rw [sR_len] at hlen
  have hz : ((List.length ([] : List ByteArray) : Nat) : Int) = 0 := rfl
  rw [hz] at e2
  simp only [e129, List.replicate_succ, List.replicate_zero]
  simp (disch := omega) only [evs, evR, ev1, evOp, evO, setT, binC, binInt, unC, ↓reduceIte, keepT, C.one, toDss, toDs, toD, Nat.reduceAdd, Nat.reduceLT, Nat.reduceLeDiff, Int.reduceLT, Int.reduceLE, Nat.reduceEqDiff, endE, finE, resC, retC, finC, cutA, cut1, C.ltL, C.ltLL, tokOf, aggOf, Int.reduceEq, Nat.reduceBEq, stab, evW, Nat.reduceSub, List.replicate_succ, List.replicate_zero, a129_r0, a129_r1, a129_r2, a129_r6, c2, hlen, hcut, e2]
  rfl
end Go.Proofs.YtbecgpajbcafiaaGreat

set_option linter.unusedVariables false
set_option linter.unusedSimpArgs false
namespace Go.Proofs.YtbecgpajbcafiaaGreat
open Go.Av Go.RowKit

structure Fl where
  has : Int
  lo : Int
  hi : Int
  words : List ByteArray
structure Zs where
  count : Int
  lo : List Int
  hi : List Int
  shells : List (Int × Int)
  flo : Int
  fhi : Int
  thi : Int
  blo : Int
  bhi : Int
  fields : List Fl
def shR (l : List (Int × Int)) : List (List D) := l.map fun p => [.int .i64 p.1, .int .i64 p.2]
def flR (l : List Fl) : List (List D) := l.map fun f => [.int .i64 f.has, .int .i64 f.lo, .int .i64 f.hi, .sl 1 (sR f.words)]
abbrev zC (z : Zs) : List C := [.d (.int .i64 z.count), .d (.sl 1 (iR z.lo)), .d (.sl 1 (iR z.hi)), .d (.sl 2 (shR z.shells)), .d (.int .i64 z.flo), .d (.int .i64 z.fhi), .d (.int .i64 z.thi), .d (.int .i64 z.blo), .d (.int .i64 z.bhi), .d (.sl 4 (flR z.fields))]
def shN (l : List (Int × Int)) : List Int := l.flatMap fun p => [p.1, p.2]
def flN (l : List Fl) : List Int := l.flatMap fun f => [f.has, f.lo, f.hi, (f.words.length : Int)]
def flW (l : List Fl) : List ByteArray := l.flatMap Fl.words
theorem iR_app (l m : List Int) : iR (l ++ m) = iR l ++ iR m := by simp [iR]
theorem iR_cons (n : Int) (l : List Int) : iR (n :: l) = [.int .i64 n] :: iR l := rfl
theorem iR_nil : iR [] = [] := rfl
theorem sR_app (l m : List ByteArray) : sR (l ++ m) = sR l ++ sR m := by simp [sR]
theorem shR_len (l : List (Int × Int)) : (shR l).length = l.length := by simp [shR]
theorem flR_len (l : List Fl) : (flR l).length = l.length := by simp [flR]
theorem shR_at (pre : List (Int × Int)) (p : Int × Int) (post : List (Int × Int)) : (shR (pre ++ p :: post)).getD ((pre.length : Int)).toNat [] = [.int .i64 p.1, .int .i64 p.2] := by simp [shR, List.getD_eq_getElem?_getD]
theorem flR_at (pre : List Fl) (f : Fl) (post : List Fl) : (flR (pre ++ f :: post)).getD ((pre.length : Int)).toNat [] = [.int .i64 f.has, .int .i64 f.lo, .int .i64 f.hi, .sl 1 (sR f.words)] := by simp [flR, List.getD_eq_getElem?_getD]
theorem shN_len (l : List (Int × Int)) : (shN l).length = 2 * l.length := by
  induction l with
  | nil => rfl
  | cons p l ih => simp only [shN, List.flatMap_cons, List.length_append, List.length_cons, List.length_nil] at ih ⊢; omega
theorem flN_len (l : List Fl) : (flN l).length = 4 * l.length := by
  induction l with
  | nil => rfl
  | cons p l ih => simp only [flN, List.flatMap_cons, List.length_append, List.length_cons, List.length_nil] at ih ⊢; omega

theorem loop49_1 (E : Env) (lo : Nat) (σ : St) (hlo : lo ≤ σ.length) (z : Zs) (hl : z.shells.length ≤ 1000000) : ∀ (post pre : List (Int × Int)) (acc : List Int), z.shells = pre ++ post → acc.length + 2 * post.length ≤ 100000000 →
    EvL E lo [false, true, false, true, true] [false, true, false, true] (σ.length + 5) l49_1 (U :: .ref σ.length 0 :: U :: .o 1 (iR acc) (σ.length + 2) :: .d (.int .i64 (pre.length : Nat)) :: U :: U :: U :: U :: U :: U :: U :: U :: U :: U :: U :: U :: U :: U :: U :: U :: U :: U :: U :: U :: U :: U :: U :: U :: U :: U :: U :: U :: U :: U :: U :: U :: U :: U :: U :: U :: U :: U :: U :: U :: U :: U :: U :: U :: U :: U :: U :: U :: U :: U :: U :: U :: U :: U :: U :: U :: U :: U :: U :: U :: U :: U :: U :: U :: U :: U :: U :: U :: U :: U :: U :: U :: U :: U :: U :: U :: U :: U :: U :: U :: U :: U :: U :: U :: U :: U :: U :: U :: U :: U :: U :: U :: U :: U :: U :: U :: U :: U :: U :: U :: U :: U :: U :: U :: []) (σ ++ [some (.box 33 (zC z)), some (.tok 5 1 0), some (.tok 3 1 acc.length), some (.tok 3 1 1), some (.tok 3 1 1)]) =
      some (.exit 0, (U :: .ref σ.length 0 :: U :: .o 1 (iR (acc ++ shN post)) (σ.length + 2) :: U :: U :: U :: U :: U :: U :: U :: U :: U :: U :: U :: U :: U :: U :: U :: U :: U :: U :: U :: U :: U :: U :: U :: U :: U :: U :: U :: U :: U :: U :: U :: U :: U :: U :: U :: U :: U :: U :: U :: U :: U :: U :: U :: U :: U :: U :: U :: U :: U :: U :: U :: U :: U :: U :: U :: U :: U :: U :: U :: U :: U :: U :: U :: U :: U :: U :: U :: U :: U :: U :: U :: U :: U :: U :: U :: U :: U :: U :: U :: U :: U :: U :: U :: U :: U :: U :: U :: U :: U :: U :: U :: U :: U :: U :: U :: U :: U :: U :: U :: U :: U :: U :: U :: U :: U :: []), σ ++ [some (.box 33 (zC z)), some (.tok 5 1 0), some (.tok 3 1 (acc ++ shN post).length), some (.tok 3 1 1), some (.tok 3 1 1)]) := by
  intro post
  induction post with
  | nil =>
    intro pre acc h ha
    rw [List.append_nil] at h
    have hpl : z.shells.length = pre.length := by rw [h]
    rw [EvL_eq]
    simp (disch := omega) only [evs, evR, ev1, evOp, evO, setT, binC, binInt, unC, ↓reduceIte, keepT, C.one, toDss, toDs, toD, Nat.reduceAdd, Nat.reduceLT, Nat.reduceLeDiff, Int.reduceLT, Int.reduceLE, Nat.reduceEqDiff, endE, finE, resC, retC, finC, cutA, cut1, C.ltL, C.ltLL, tokOf, aggOf, Int.reduceEq, Nat.reduceBEq, stab, evW, l49_1, a49_r7, shR_len]
    simp [shN]
  | cons p post ih =>
    intro pre acc h ha
    simp only [List.length_cons] at ha
    have ih := ih (pre ++ [p]) (acc ++ [p.1, p.2]) (by simp [h]) (by simp; omega)
    have hpl : z.shells.length = pre.length + (post.length + 1) := by rw [h]; simp
    have hat := shR_at pre p post
    rw [← h] at hat
    have hw : IntKind.i64.wrap ((pre.length : Int) + 1) = ((pre.length + 1 : Nat) : Int) := by rw [IntKind.wrap_i64]; omega
    rw [EvL_eq]
    generalize hL : EvL E lo _ _ _ _ = L at ih ⊢
    simp (disch := omega) only [evs, evR, ev1, evOp, evO, setT, binC, binInt, unC, ↓reduceIte, keepT, C.one, toDss, toDs, toD, Nat.reduceAdd, Nat.reduceLT, Nat.reduceLeDiff, Int.reduceLT, Int.reduceLE, Nat.reduceEqDiff, endE, finE, resC, retC, finC, cutA, cut1, C.ltL, C.ltLL, tokOf, aggOf, Int.reduceEq, Nat.reduceBEq, stab, evW, l49_1, a49_r7, a49_r8, a49_r9, shR_len, iR_len, hat, hw]
    simp only [iR_app, iR_cons, iR_nil, List.length_append, List.length_cons, List.length_nil, Nat.zero_add, Nat.reduceAdd, Nat.add_assoc] at ih
    rw [ih]
    simp [shN, iR_app, iR_cons, Nat.add_assoc] <;> omega

theorem loop49_1m (E : Env) (lo : Nat) (σ : St) (hlo : lo ≤ σ.length) (z : Zs) (hl : z.shells.length ≤ 1000000) (post pre : List (Int × Int)) (acc : List Int) (h : z.shells = pre ++ post) (ha : acc.length + 2 * post.length ≤ 100000000) (m : Nat) (hm : m = acc.length) :
    EvL E lo [false, true, false, true, true] [false, true, false, true] (σ.length + 5) l49_1 (U :: .ref σ.length 0 :: U :: .o 1 (iR acc) (σ.length + 2) :: .d (.int .i64 (pre.length : Nat)) :: U :: U :: U :: U :: U :: U :: U :: U :: U :: U :: U :: U :: U :: U :: U :: U :: U :: U :: U :: U :: U :: U :: U :: U :: U :: U :: U :: U :: U :: U :: U :: U :: U :: U :: U :: U :: U :: U :: U :: U :: U :: U :: U :: U :: U :: U :: U :: U :: U :: U :: U :: U :: U :: U :: U :: U :: U :: U :: U :: U :: U :: U :: U :: U :: U :: U :: U :: U :: U :: U :: U :: U :: U :: U :: U :: U :: U :: U :: U :: U :: U :: U :: U :: U :: U :: U :: U :: U :: U :: U :: U :: U :: U :: U :: U :: U :: U :: U :: U :: U :: U :: U :: U :: U :: []) (σ ++ [some (.box 33 (zC z)), some (.tok 5 1 0), some (.tok 3 1 m), some (.tok 3 1 1), some (.tok 3 1 1)]) =
      some (.exit 0, (U :: .ref σ.length 0 :: U :: .o 1 (iR (acc ++ shN post)) (σ.length + 2) :: U :: U :: U :: U :: U :: U :: U :: U :: U :: U :: U :: U :: U :: U :: U :: U :: U :: U :: U :: U :: U :: U :: U :: U :: U :: U :: U :: U :: U :: U :: U :: U :: U :: U :: U :: U :: U :: U :: U :: U :: U :: U :: U :: U :: U :: U :: U :: U :: U :: U :: U :: U :: U :: U :: U :: U :: U :: U :: U :: U :: U :: U :: U :: U :: U :: U :: U :: U :: U :: U :: U :: U :: U :: U :: U :: U :: U :: U :: U :: U :: U :: U :: U :: U :: U :: U :: U :: U :: U :: U :: U :: U :: U :: U :: U :: U :: U :: U :: U :: U :: U :: U :: U :: U :: U :: []), σ ++ [some (.box 33 (zC z)), some (.tok 5 1 0), some (.tok 3 1 (acc ++ shN post).length), some (.tok 3 1 1), some (.tok 3 1 1)]) := by
  subst hm; exact loop49_1 E lo σ hlo z hl post pre acc h ha

theorem loop49_0 (E : Env) (lo : Nat) (σ : St) (hlo : lo ≤ σ.length) (z : Zs) (k : Nat) (hl : z.fields.length ≤ 1000000) : ∀ (post pre : List Fl) (acc : List Int) (ws : List ByteArray), z.fields = pre ++ post → acc.length + 4 * post.length ≤ 100000000 → ws.length + (flW post).length ≤ 100000000 →
    EvL E lo [false, true, false, true, false, true, true] [false, false, false, true, false, true] (σ.length + 7) l49_0 (U :: .ref σ.length 0 :: U :: .o 1 (iR acc) (σ.length + 2) :: U :: .o 1 (sR ws) (σ.length + 6) :: .d (.int .i64 (pre.length : Nat)) :: U :: U :: U :: U :: U :: U :: U :: U :: U :: U :: U :: U :: U :: U :: U :: U :: U :: U :: U :: U :: U :: U :: U :: U :: U :: U :: U :: U :: U :: U :: U :: U :: U :: U :: U :: U :: U :: U :: U :: U :: U :: U :: U :: U :: U :: U :: U :: U :: U :: U :: U :: U :: U :: U :: U :: U :: U :: U :: U :: U :: U :: U :: U :: U :: U :: U :: U :: U :: U :: U :: U :: U :: U :: U :: U :: U :: U :: U :: U :: U :: U :: U :: U :: U :: U :: U :: U :: U :: U :: U :: U :: U :: U :: U :: U :: U :: U :: U :: U :: U :: U :: U :: []) (σ ++ [some (.box 33 (zC z)), some (.tok 5 1 0), some (.tok 3 1 acc.length), some (.tok 3 1 1), some (.tok 3 1 1), some (.tok 3 1 1), some (.tok 9 1 ws.length)]) =
      some (.exit 2, (U :: U :: U :: .o 1 (iR (acc ++ flN post)) (σ.length + 2) :: U :: .o 1 (sR (ws ++ flW post)) (σ.length + 6) :: U :: U :: U :: U :: U :: U :: U :: U :: U :: U :: U :: U :: U :: U :: U :: U :: U :: U :: U :: U :: U :: U :: U :: U :: U :: U :: U :: U :: U :: U :: U :: U :: U :: U :: U :: U :: U :: U :: U :: U :: U :: U :: U :: U :: U :: U :: U :: U :: U :: U :: U :: U :: U :: U :: U :: U :: U :: U :: U :: U :: U :: U :: U :: U :: U :: U :: U :: U :: U :: U :: U :: U :: U :: U :: U :: U :: U :: U :: U :: U :: U :: U :: U :: U :: U :: U :: U :: U :: U :: U :: U :: U :: U :: U :: U :: U :: U :: U :: U :: U :: U :: U :: U :: []), σ ++ [some (.box 33 (zC z)), some (.tok 5 1 0), some (.tok 3 1 (acc ++ flN post).length), some (.tok 3 1 1), some (.tok 3 1 1), some (.tok 3 1 1), some (.tok 9 1 (ws ++ flW post).length)]) := by
  intro post
  induction post with
  | nil =>
    intro pre acc ws h ha hw
    rw [List.append_nil] at h
    have hpl : z.fields.length = pre.length := by rw [h]
    rw [EvL_eq]
    simp (disch := omega) only [evs, evR, ev1, evOp, evO, setT, binC, binInt, unC, ↓reduceIte, keepT, C.one, toDss, toDs, toD, Nat.reduceAdd, Nat.reduceLT, Nat.reduceLeDiff, Int.reduceLT, Int.reduceLE, Nat.reduceEqDiff, endE, finE, resC, retC, finC, cutA, cut1, C.ltL, C.ltLL, tokOf, aggOf, Int.reduceEq, Nat.reduceBEq, stab, evW, l49_0, a49_r13, flR_len]
    simp [flN, flW]
  | cons p post ih =>
    intro pre acc ws h ha hwl
    simp only [List.length_cons] at ha
    have hwl' : ws.length + (p.words.length + (flW post).length) ≤ 100000000 := by simpa [flW] using hwl
    have ih := ih (pre ++ [p]) (acc ++ [p.has, p.lo, p.hi, (p.words.length : Int)]) (ws ++ p.words) (by simp [h]) (by simp; omega) (by simp; omega)
    have hpl : z.fields.length = pre.length + (post.length + 1) := by rw [h]; simp
    have hat := flR_at pre p post
    rw [← h] at hat
    have hw : IntKind.i64.wrap ((pre.length : Int) + 1) = ((pre.length + 1 : Nat) : Int) := by rw [IntKind.wrap_i64]; omega
    rw [EvL_eq]
    generalize hL : EvL E lo _ _ _ _ = L at ih ⊢
    simp (disch := omega) only [evs, evR, ev1, evOp, evO, setT, binC, binInt, unC, ↓reduceIte, keepT, C.one, toDss, toDs, toD, Nat.reduceAdd, Nat.reduceLT, Nat.reduceLeDiff, Int.reduceLT, Int.reduceLE, Nat.reduceEqDiff, endE, finE, resC, retC, finC, cutA, cut1, C.ltL, C.ltLL, tokOf, aggOf, Int.reduceEq, Nat.reduceBEq, stab, evW, l49_0, a49_r13, a49_r14, a49_r15, a49_r16, a49_r17, flR_len, iR_len, sR_len, hat, hw]
    simp only [iR_app, iR_cons, iR_nil, sR_app, List.length_append, List.length_cons, List.length_nil, Nat.zero_add, Nat.reduceAdd, Nat.add_assoc] at ih
    rw [ih]
    simp [flN, flW, iR_app, iR_cons, sR_app, Nat.add_assoc] <;> omega

theorem loop49_0m (E : Env) (lo : Nat) (σ : St) (hlo : lo ≤ σ.length) (z : Zs) (hl : z.fields.length ≤ 1000000) (post pre : List Fl) (acc : List Int) (ws : List ByteArray) (h : z.fields = pre ++ post) (ha : acc.length + 4 * post.length ≤ 100000000) (hw : ws.length + (flW post).length ≤ 100000000) (m : Nat) (hm : m = acc.length) :
    EvL E lo [false, true, false, true, false, true, true] [false, false, false, true, false, true] (σ.length + 7) l49_0 (U :: .ref σ.length 0 :: U :: .o 1 (iR acc) (σ.length + 2) :: U :: .o 1 (sR ws) (σ.length + 6) :: .d (.int .i64 (pre.length : Nat)) :: U :: U :: U :: U :: U :: U :: U :: U :: U :: U :: U :: U :: U :: U :: U :: U :: U :: U :: U :: U :: U :: U :: U :: U :: U :: U :: U :: U :: U :: U :: U :: U :: U :: U :: U :: U :: U :: U :: U :: U :: U :: U :: U :: U :: U :: U :: U :: U :: U :: U :: U :: U :: U :: U :: U :: U :: U :: U :: U :: U :: U :: U :: U :: U :: U :: U :: U :: U :: U :: U :: U :: U :: U :: U :: U :: U :: U :: U :: U :: U :: U :: U :: U :: U :: U :: U :: U :: U :: U :: U :: U :: U :: U :: U :: U :: U :: U :: U :: U :: U :: U :: U :: []) (σ ++ [some (.box 33 (zC z)), some (.tok 5 1 0), some (.tok 3 1 m), some (.tok 3 1 1), some (.tok 3 1 1), some (.tok 3 1 1), some (.tok 9 1 ws.length)]) =
      some (.exit 2, (U :: U :: U :: .o 1 (iR (acc ++ flN post)) (σ.length + 2) :: U :: .o 1 (sR (ws ++ flW post)) (σ.length + 6) :: U :: U :: U :: U :: U :: U :: U :: U :: U :: U :: U :: U :: U :: U :: U :: U :: U :: U :: U :: U :: U :: U :: U :: U :: U :: U :: U :: U :: U :: U :: U :: U :: U :: U :: U :: U :: U :: U :: U :: U :: U :: U :: U :: U :: U :: U :: U :: U :: U :: U :: U :: U :: U :: U :: U :: U :: U :: U :: U :: U :: U :: U :: U :: U :: U :: U :: U :: U :: U :: U :: U :: U :: U :: U :: U :: U :: U :: U :: U :: U :: U :: U :: U :: U :: U :: U :: U :: U :: U :: U :: U :: U :: U :: U :: U :: U :: U :: U :: U :: U :: U :: U :: U :: []), σ ++ [some (.box 33 (zC z)), some (.tok 5 1 0), some (.tok 3 1 (acc ++ flN post).length), some (.tok 3 1 1), some (.tok 3 1 1), some (.tok 3 1 1), some (.tok 9 1 (ws ++ flW post).length)]) := by
  subst hm; exact loop49_0 E lo σ hlo z 0 hl post pre acc ws h ha hw
end Go.Proofs.YtbecgpajbcafiaaGreat

set_option linter.unusedVariables false
set_option linter.unusedSimpArgs false
namespace Go.Proofs.YtbecgpajbcafiaaGreat
open Go.Av Go.RowKit

def numsZ (z : Zs) : List Int := [z.count, z.flo, z.fhi, z.thi, z.blo, z.bhi, (z.lo.length : Int)] ++ z.lo ++ [(z.hi.length : Int)] ++ z.hi ++ [(z.shells.length : Int)] ++ shN z.shells ++ [(z.fields.length : Int)] ++ flN z.fields
def encZ (z : Zs) : List Nat := encInts (numsZ z) ++ encStrs (flW z.fields)
structure Small (z : Zs) : Prop where
  lo : z.lo.length ≤ 10000
  hi : z.hi.length ≤ 10000
  shells : z.shells.length ≤ 10000
  fields : z.fields.length ≤ 10000
  words : (flW z.fields).length ≤ 100000
  size : ∀ w ∈ flW z.fields, w.size ≤ 10000
  nums : ∀ n ∈ numsZ z, I64 n
theorem vstrs_len {l : List ByteArray} (h : ∀ w ∈ l, w.size ≤ 10000) : (vstrs l).length ≤ 10010 * l.length := by
  induction l with
  | nil => simp [vstrs]
  | cons n l ih =>
    have h0 := h n (List.mem_cons_self ..)
    have h1 := vstr_len (s := n) (by omega)
    have h2 := ih fun m hm => h m (List.mem_cons_of_mem _ hm)
    simp only [vstrs, List.flatMap_cons, List.length_append, List.length_cons] at h2 ⊢
    omega

theorem c49 (E : Env) (h49 : E.tbl 49 = some e49) (h128 : E.tbl 128 = some e128) (h129 : E.tbl 129 = some e129) (h211 : E.tbl 211 = some e211) (h212 : E.tbl 212 = some e212) (lo : Nat) (σ : St) (hlo : lo ≤ σ.length) (z : Zs) (hz : Small z) :
    EvF E lo (.fn 49) [.agg (zC z)] σ = some (.o 1 (bR (encZ z)) σ.length, σ ++ [some (.tok 5 1 (encZ z).length)]) := by
  rw [EvF_fn h49]
  obtain ⟨s1, s2, s3, s4, s5, s6, s7⟩ := hz
  have hv := vstrs_len s6
  have hnl : (numsZ z).length ≤ 100000 := by
    have := shN_len z.shells
    have := flN_len z.fields
    simp only [numsZ, List.length_append, List.length_cons, List.length_nil]; omega
  have hvi := vints_len s7
  have e1 := loop49_1m E lo σ hlo z (by omega) z.shells [] ([z.count, z.flo, z.fhi, z.thi, z.blo, z.bhi, (z.lo.length : Int)] ++ z.lo ++ [(z.hi.length : Int)] ++ z.hi ++ [(z.shells.length : Int)]) rfl (by simp; omega)
  have e2 := loop49_0m E lo σ hlo z (by omega) z.fields [] ([z.count, z.flo, z.fhi, z.thi, z.blo, z.bhi, (z.lo.length : Int)] ++ z.lo ++ [(z.hi.length : Int)] ++ z.hi ++ [(z.shells.length : Int)] ++ shN z.shells ++ [(z.fields.length : Int)]) [] rfl (by have := shN_len z.shells; simp only [List.length_append, List.length_cons, List.length_nil]; omega) (by simp; omega)
  have hz0 : ((List.length ([] : List (Int × Int)) : Nat) : Int) = 0 := rfl
  have hz1 : ((List.length ([] : List Fl) : Nat) : Int) = 0 := rfl
  rw [hz0] at e1
  rw [hz1] at e2
  simp only [iR_app, iR_cons, iR_nil, List.length_append, List.length_cons, List.length_nil, Nat.zero_add, Nat.reduceAdd, Nat.add_assoc, List.nil_append, List.append_assoc, List.cons_append] at e1 e2
  have hsh := shN_len z.shells
  have hfl := flN_len z.fields
  have hN : [D.int .i64 z.count] :: [D.int .i64 z.flo] :: [D.int .i64 z.fhi] :: [D.int .i64 z.thi] :: [D.int .i64 z.blo] :: [D.int .i64 z.bhi] :: [D.int .i64 (z.lo.length : Int)] :: (iR z.lo ++ [D.int .i64 (z.hi.length : Int)] :: (iR z.hi ++ [D.int .i64 (z.shells.length : Int)] :: (iR (shN z.shells) ++ [D.int .i64 (z.fields.length : Int)] :: iR (flN z.fields)))) = iR (numsZ z) := by
    simp [numsZ, iR_app, iR_cons, iR_nil]
  simp only [hN] at e2
  have c1 : ∀ σ' : St, lo ≤ σ'.length → σ.length + 2 < σ'.length → EvF E lo (.fn 128) [.o 1 (iR (numsZ z)) (σ.length + 2)] σ' = some (.o 1 (bR (encInts (numsZ z))) σ'.length, σ' ++ [some (.tok 5 1 (encInts (numsZ z)).length)]) := fun σ' h1 h2 => c128 E h211 h128 lo σ' h1 _ _ (SlC.o _ h2) (by omega) s7 (by omega)
  have c2 : ∀ σ' : St, lo ≤ σ'.length → σ.length + 6 < σ'.length → EvF E lo (.fn 129) [.o 1 (sR (flW z.fields)) (σ.length + 6)] σ' = some (.o 1 (bR (encStrs (flW z.fields))) σ'.length, σ' ++ [some (.tok 5 1 (encStrs (flW z.fields)).length)]) := fun σ' h1 h2 => c129 E h211 h212 h129 lo σ' h1 _ _ (SlC.o _ h2) (by omega) (fun n hn => by have := s6 n hn; omega) (by omega)
  have hE1 : (encInts (numsZ z)).length ≤ 2000000 := by
    have := vint_len (n := ((numsZ z).length : Int)) (by omega) (by omega)
    simp only [encInts, List.length_append]; omega
  have hE2 : (encStrs (flW z.fields)).length ≤ 2000000000 := by
    have := vint_len (n := ((flW z.fields).length : Int)) (by omega) (by omega)
    simp only [encStrs, List.length_append]; omega
  have hs0 : sR [] = [] := rfl
  rw [hs0] at e2
  simp only [e49, List.replicate_succ, List.replicate_zero]
  simp (disch := first | omega | (simp only [st_len, List.length_cons, List.length_nil]; omega)) only [evs, evR, ev1, evOp, evO, setT, binC, binInt, unC, ↓reduceIte, keepT, C.one, toDss, toDs, toD, Nat.reduceAdd, Nat.reduceLT, Nat.reduceLeDiff, Int.reduceLT, Int.reduceLE, Nat.reduceEqDiff, endE, finE, resC, retC, finC, cutA, cut1, C.ltL, C.ltLL, tokOf, aggOf, Int.reduceEq, Nat.reduceBEq, stab, evW, a49_r18, c1, c2, bR_len, bR_app, Nat.reduceSub, List.replicate_succ, List.replicate_zero, a49_r0, a49_r1, a49_r2, a49_r3, a49_r4, a49_r5, a49_r6, a49_r10, a49_r11, a49_r12, iR_len, sR_len, shR_len, flR_len, List.append_assoc, List.length_append, e1, e2]
  simp only [encZ, List.length_append]
end Go.Proofs.YtbecgpajbcafiaaGreat

set_option linter.unusedVariables false
set_option linter.unusedSimpArgs false
namespace Go.Proofs.YtbecgpajbcafiaaGreat
open Go.Av Go.RowKit

theorem loop46_2 (E : Env) (lo : Nat) (σ : St) (hlo : lo ≤ σ.length) (z : Zs) (h1 : z.lo.length ≤ 10000) (h2 : z.hi.length ≤ 10000) (acc : List Int) (ha : acc.length = 6) :
    EvL E lo [false, true, false, true, false, false, false, false, false, false, false, false, false, false, false, false, false, false, false, false, false, false, false, false, false, false, false, false, false, false, true, true, true] [false, true, false, true] (σ.length + 4) l46_2 (U :: .ref σ.length 0 :: U :: .o 1 (iR acc) (σ.length + 2) :: U :: U :: U :: U :: U :: U :: U :: U :: U :: U :: U :: U :: U :: U :: U :: U :: U :: U :: U :: U :: U :: U :: U :: U :: U :: U :: .o 1 [[.sl 1 (iR z.lo)], [.sl 1 (iR z.hi)]] (σ.length + 3) :: .d (.int .i64 2) :: .d (.int .i64 0) :: U :: U :: U :: U :: U :: U :: U :: U :: U :: U :: U :: U :: U :: U :: U :: U :: U :: U :: U :: U :: U :: U :: U :: U :: U :: U :: U :: U :: U :: U :: U :: U :: U :: U :: U :: U :: U :: U :: U :: U :: U :: U :: U :: U :: U :: U :: U :: U :: U :: U :: U :: U :: U :: U :: U :: U :: U :: U :: U :: U :: U :: U :: U :: U :: U :: U :: U :: []) (σ ++ [some (.box 33 (zC z)), some (.tok 5 1 0), some (.tok 3 1 6), some (.tok 27 1 2)]) =
      some (.exit 0, (U :: .ref σ.length 0 :: U :: .o 1 (iR (acc ++ ([(z.lo.length : Int)] ++ z.lo ++ [(z.hi.length : Int)] ++ z.hi))) (σ.length + 2) :: U :: U :: U :: U :: U :: U :: U :: U :: U :: U :: U :: U :: U :: U :: U :: U :: U :: U :: U :: U :: U :: U :: U :: U :: U :: U :: U :: U :: U :: U :: U :: U :: U :: U :: U :: U :: U :: U :: U :: U :: U :: U :: U :: U :: U :: U :: U :: U :: U :: U :: U :: U :: U :: U :: U :: U :: U :: U :: U :: U :: U :: U :: U :: U :: U :: U :: U :: U :: U :: U :: U :: U :: U :: U :: U :: U :: U :: U :: U :: U :: U :: U :: U :: U :: U :: U :: U :: U :: U :: U :: U :: U :: U :: U :: U :: U :: []), σ ++ [some (.box 33 (zC z)), some (.tok 5 1 0), some (.tok 3 1 (acc ++ ([(z.lo.length : Int)] ++ z.lo ++ [(z.hi.length : Int)] ++ z.hi)).length), some (.tok 27 1 2)]) := by
  have hL := fun T σ' => EvL_eq (E := E) (lo := lo) [false, true, false, true, false, false, false, false, false, false, false, false, false, false, false, false, false, false, false, false, false, false, false, false, false, false, false, false, false, false, true, true, true] [false, true, false, true] (σ.length + 4) l46_2 T σ'
  have w1 : IntKind.i64.wrap (0 + 1) = 1 := by decide
  have w2 : IntKind.i64.wrap (1 + 1) = 2 := by decide
  have t0 : (0 : Int).toNat = 0 := rfl
  have t1 : (1 : Int).toNat = 1 := rfl
  generalize EvL E lo _ _ _ _ = L at hL ⊢
  rw [hL]
  simp (disch := omega) only [evs, evR, ev1, evOp, evO, setT, binC, binInt, unC, ↓reduceIte, keepT, C.one, toDss, toDs, toD, Nat.reduceAdd, Nat.reduceLT, Nat.reduceLeDiff, Int.reduceLT, Int.reduceLE, Nat.reduceEqDiff, endE, finE, resC, retC, finC, cutA, cut1, C.ltL, C.ltLL, tokOf, aggOf, Int.reduceEq, Nat.reduceBEq, stab, evW, l46_2, a46_r3, a46_r4, a46_r5, a46_r6, iR_len, w1, w2, t0, t1, ha, List.length_append]
  rw [hL]
  simp (disch := omega) only [evs, evR, ev1, evOp, evO, setT, binC, binInt, unC, ↓reduceIte, keepT, C.one, toDss, toDs, toD, Nat.reduceAdd, Nat.reduceLT, Nat.reduceLeDiff, Int.reduceLT, Int.reduceLE, Nat.reduceEqDiff, endE, finE, resC, retC, finC, cutA, cut1, C.ltL, C.ltLL, tokOf, aggOf, Int.reduceEq, Nat.reduceBEq, stab, evW, l46_2, a46_r3, a46_r4, a46_r5, a46_r6, iR_len, w1, w2, t0, t1, ha, List.length_append]
  rw [hL]
  simp (disch := omega) only [evs, evR, ev1, evOp, evO, setT, binC, binInt, unC, ↓reduceIte, keepT, C.one, toDss, toDs, toD, Nat.reduceAdd, Nat.reduceLT, Nat.reduceLeDiff, Int.reduceLT, Int.reduceLE, Nat.reduceEqDiff, endE, finE, resC, retC, finC, cutA, cut1, C.ltL, C.ltLL, tokOf, aggOf, Int.reduceEq, Nat.reduceBEq, stab, evW, l46_2, a46_r3, a46_r4, a46_r5, a46_r6, iR_len, w1, w2, t0, t1, ha, List.length_append]
  simp [iR_app, iR_cons, iR_nil] <;> omega

theorem loop46_1 (E : Env) (lo : Nat) (σ : St) (hlo : lo ≤ σ.length) (z : Zs) (hl : z.shells.length ≤ 1000000) : ∀ (post pre : List (Int × Int)) (acc : List Int) (m : Nat), m = acc.length → z.shells = pre ++ post → acc.length + 2 * post.length ≤ 100000000 →
    EvL E lo [false, true, false, true, false, false, false, false, false, false, false, false, false, false, false, false, false, false, false, false, false, false, false, false, false, false, false, false, false, false, false, false, false, false, false, false, false, false, false, false, false, false, false, false, false, false, false, false, false, false, false, true, true, true] [false, true, false, true] (σ.length + 5) l46_1 (U :: .ref σ.length 0 :: U :: .o 1 (iR acc) (σ.length + 2) :: U :: U :: U :: U :: U :: U :: U :: U :: U :: U :: U :: U :: U :: U :: U :: U :: U :: U :: U :: U :: U :: U :: U :: U :: U :: U :: U :: U :: U :: U :: U :: U :: U :: U :: U :: U :: U :: U :: U :: U :: U :: U :: U :: U :: U :: U :: U :: .d (.sl 2 (shR z.shells)) :: .d (.int .i64 (z.shells.length : Nat)) :: .d (.int .i64 (pre.length : Nat)) :: U :: U :: U :: U :: U :: U :: U :: U :: U :: U :: U :: U :: U :: U :: U :: U :: U :: U :: U :: U :: U :: U :: U :: U :: U :: U :: U :: U :: U :: U :: U :: U :: U :: U :: U :: U :: U :: U :: U :: U :: U :: U :: U :: U :: U :: U :: []) (σ ++ [some (.box 33 (zC z)), some (.tok 5 1 0), some (.tok 3 1 m), some (.tok 27 1 2), some (.tok 3 1 1)]) =
      some (.exit 2, (U :: .ref σ.length 0 :: U :: .o 1 (iR (acc ++ shN post)) (σ.length + 2) :: U :: U :: U :: U :: U :: U :: U :: U :: U :: U :: U :: U :: U :: U :: U :: U :: U :: U :: U :: U :: U :: U :: U :: U :: U :: U :: U :: U :: U :: U :: U :: U :: U :: U :: U :: U :: U :: U :: U :: U :: U :: U :: U :: U :: U :: U :: U :: U :: U :: U :: U :: U :: U :: U :: U :: U :: U :: U :: U :: U :: U :: U :: U :: U :: U :: U :: U :: U :: U :: U :: U :: U :: U :: U :: U :: U :: U :: U :: U :: U :: U :: U :: U :: U :: U :: U :: U :: U :: U :: U :: U :: U :: U :: U :: U :: U :: []), σ ++ [some (.box 33 (zC z)), some (.tok 5 1 0), some (.tok 3 1 (acc ++ shN post).length), some (.tok 27 1 2), some (.tok 3 1 1)]) := by
  intro post
  induction post with
  | nil =>
    intro pre acc m hm h ha
    subst hm
    rw [List.append_nil] at h
    have hpl : z.shells.length = pre.length := by rw [h]
    rw [EvL_eq]
    simp (disch := omega) only [evs, evR, ev1, evOp, evO, setT, binC, binInt, unC, ↓reduceIte, keepT, C.one, toDss, toDs, toD, Nat.reduceAdd, Nat.reduceLT, Nat.reduceLeDiff, Int.reduceLT, Int.reduceLE, Nat.reduceEqDiff, endE, finE, resC, retC, finC, cutA, cut1, C.ltL, C.ltLL, tokOf, aggOf, Int.reduceEq, Nat.reduceBEq, stab, evW, l46_1, a46_r9, shR_len]
    simp [shN]
  | cons p post ih =>
    intro pre acc m hm h ha
    subst hm
    simp only [List.length_cons] at ha
    have ih := ih (pre ++ [p]) (acc ++ [p.1, p.2]) _ rfl (by simp [h]) (by simp; omega)
    have hpl : z.shells.length = pre.length + (post.length + 1) := by rw [h]; simp
    have hat := shR_at pre p post
    rw [← h] at hat
    have hw : IntKind.i64.wrap ((pre.length : Int) + 1) = ((pre.length + 1 : Nat) : Int) := by rw [IntKind.wrap_i64]; omega
    rw [EvL_eq]
    generalize hL : EvL E lo _ _ _ _ = L at ih ⊢
    simp (disch := omega) only [evs, evR, ev1, evOp, evO, setT, binC, binInt, unC, ↓reduceIte, keepT, C.one, toDss, toDs, toD, Nat.reduceAdd, Nat.reduceLT, Nat.reduceLeDiff, Int.reduceLT, Int.reduceLE, Nat.reduceEqDiff, endE, finE, resC, retC, finC, cutA, cut1, C.ltL, C.ltLL, tokOf, aggOf, Int.reduceEq, Nat.reduceBEq, stab, evW, l46_1, a46_r9, a46_r10, a46_r11, a46_r12, shR_len, iR_len, hat, hw]
    simp only [iR_app, iR_cons, iR_nil, List.length_append, List.length_cons, List.length_nil, Nat.zero_add, Nat.reduceAdd, Nat.add_assoc] at ih
    rw [ih]
    simp [shN, iR_app, iR_cons, Nat.add_assoc] <;> omega

theorem loop46_0 (E : Env) (lo : Nat) (σ : St) (hlo : lo ≤ σ.length) (z : Zs) (hl : z.fields.length ≤ 1000000) : ∀ (post pre : List Fl) (acc : List Int) (ws : List ByteArray) (m : Nat), m = acc.length → z.fields = pre ++ post → acc.length + 4 * post.length ≤ 100000000 → ws.length + (flW post).length ≤ 100000000 →
    EvL E lo [false, false, false, true, false, false, false, false, true, false, false, false, false, false, false, false, false, false, false, false, false, false, false, false, false, false, false, false, false, false, false, false, false, false, false, false, false, false, false, false, false, false, false, false, false, false, false, false, false, false, false, false, false, false, false, false, false, false, false, false, false, false, false, false, false, false, false, false, false, false, false, false, true, true, true] [false, false, false, true, false, false, false, false, true] (σ.length + 7) l46_0 (U :: U :: U :: .o 1 (iR acc) (σ.length + 2) :: U :: U :: U :: U :: .o 1 (sR ws) (σ.length + 6) :: U :: U :: U :: U :: U :: U :: U :: U :: U :: U :: U :: U :: U :: U :: U :: U :: U :: U :: U :: U :: U :: U :: U :: U :: U :: U :: U :: U :: U :: U :: U :: U :: U :: U :: U :: U :: U :: U :: U :: U :: U :: U :: U :: U :: U :: U :: U :: U :: U :: U :: U :: U :: U :: U :: U :: U :: U :: U :: U :: U :: U :: U :: U :: .d (.sl 4 (flR z.fields)) :: .d (.int .i64 (z.fields.length : Nat)) :: .d (.int .i64 (pre.length : Nat)) :: U :: U :: U :: U :: U :: U :: U :: U :: U :: U :: U :: U :: U :: U :: U :: U :: U :: U :: U :: U :: U :: U :: U :: U :: U :: []) (σ ++ [some (.box 33 (zC z)), some (.tok 5 1 0), some (.tok 3 1 m), some (.tok 27 1 2), some (.tok 3 1 1), some (.tok 3 1 1), some (.tok 9 1 ws.length)]) =
      some (.exit 4, (U :: U :: U :: .o 1 (iR (acc ++ flN post)) (σ.length + 2) :: U :: U :: U :: U :: .o 1 (sR (ws ++ flW post)) (σ.length + 6) :: U :: U :: U :: U :: U :: U :: U :: U :: U :: U :: U :: U :: U :: U :: U :: U :: U :: U :: U :: U :: U :: U :: U :: U :: U :: U :: U :: U :: U :: U :: U :: U :: U :: U :: U :: U :: U :: U :: U :: U :: U :: U :: U :: U :: U :: U :: U :: U :: U :: U :: U :: U :: U :: U :: U :: U :: U :: U :: U :: U :: U :: U :: U :: U :: U :: U :: U :: U :: U :: U :: U :: U :: U :: U :: U :: U :: U :: U :: U :: U :: U :: U :: U :: U :: U :: U :: U :: U :: U :: U :: U :: []), σ ++ [some (.box 33 (zC z)), some (.tok 5 1 0), some (.tok 3 1 (acc ++ flN post).length), some (.tok 27 1 2), some (.tok 3 1 1), some (.tok 3 1 1), some (.tok 9 1 (ws ++ flW post).length)]) := by
  intro post
  induction post with
  | nil =>
    intro pre acc ws m hm h ha hw
    subst hm
    rw [List.append_nil] at h
    have hpl : z.fields.length = pre.length := by rw [h]
    rw [EvL_eq]
    simp (disch := omega) only [evs, evR, ev1, evOp, evO, setT, binC, binInt, unC, ↓reduceIte, keepT, C.one, toDss, toDs, toD, Nat.reduceAdd, Nat.reduceLT, Nat.reduceLeDiff, Int.reduceLT, Int.reduceLE, Nat.reduceEqDiff, endE, finE, resC, retC, finC, cutA, cut1, C.ltL, C.ltLL, tokOf, aggOf, Int.reduceEq, Nat.reduceBEq, stab, evW, l46_0, a46_r16, flR_len]
    simp [flN, flW]
  | cons p post ih =>
    intro pre acc ws m hm h ha hwl
    subst hm
    simp only [List.length_cons] at ha
    have hwl' : ws.length + (p.words.length + (flW post).length) ≤ 100000000 := by simpa [flW] using hwl
    have ih := ih (pre ++ [p]) (acc ++ [p.has, p.lo, p.hi, (p.words.length : Int)]) (ws ++ p.words) _ rfl (by simp [h]) (by simp; omega) (by simp; omega)
    have hpl : z.fields.length = pre.length + (post.length + 1) := by rw [h]; simp
    have hat := flR_at pre p post
    rw [← h] at hat
    have hw : IntKind.i64.wrap ((pre.length : Int) + 1) = ((pre.length + 1 : Nat) : Int) := by rw [IntKind.wrap_i64]; omega
    rw [EvL_eq]
    generalize hL : EvL E lo _ _ _ _ = L at ih ⊢
    simp (disch := omega) only [evs, evR, ev1, evOp, evO, setT, binC, binInt, unC, ↓reduceIte, keepT, C.one, toDss, toDs, toD, Nat.reduceAdd, Nat.reduceLT, Nat.reduceLeDiff, Int.reduceLT, Int.reduceLE, Nat.reduceEqDiff, endE, finE, resC, retC, finC, cutA, cut1, C.ltL, C.ltLL, tokOf, aggOf, Int.reduceEq, Nat.reduceBEq, stab, evW, l46_0, a46_r16, a46_r17, a46_r18, a46_r19, a46_r20, flR_len, iR_len, sR_len, hat, hw]
    simp only [iR_app, iR_cons, iR_nil, sR_app, List.length_append, List.length_cons, List.length_nil, Nat.zero_add, Nat.reduceAdd, Nat.add_assoc] at ih
    rw [ih]
    simp [flN, flW, iR_app, iR_cons, sR_app, Nat.add_assoc] <;> omega
end Go.Proofs.YtbecgpajbcafiaaGreat

set_option linter.unusedVariables false
set_option linter.unusedSimpArgs false
namespace Go.Proofs.YtbecgpajbcafiaaGreat
open Go.Av Go.RowKit
theorem c46 (E : Env) (h46 : E.tbl 46 = some e46) (h117 : E.tbl 117 = some e117) (h118 : E.tbl 118 = some e118) (h199 : E.tbl 199 = some e199) (h200 : E.tbl 200 = some e200) (h201 : E.tbl 201 = some e201) (h202 : E.tbl 202 = some e202) (lo : Nat) (σ : St) (hlo : lo ≤ σ.length) (z : Zs) (hz : Small z) :
    EvF E lo (.fn 46) [.agg (zC z)] σ = some (.o 1 (bR (encZ z)) σ.length, σ ++ [some (.tok 5 1 (encZ z).length)]) := by
  rw [EvF_fn h46]
  obtain ⟨s1, s2, s3, s4, s5, s6, s7⟩ := hz
  have hv := vstrs_len s6
  have hnl : (numsZ z).length ≤ 100000 := by
    have := shN_len z.shells
    have := flN_len z.fields
    simp only [numsZ, List.length_append, List.length_cons, List.length_nil]; omega
  have hvi := vints_len s7
  have e0 := loop46_2 E lo σ hlo z s1 s2 [z.count, z.flo, z.fhi, z.thi, z.blo, z.bhi] rfl
  have e1 := fun m hm => loop46_1 E lo σ hlo z (by omega) z.shells [] ([z.count, z.flo, z.fhi, z.thi, z.blo, z.bhi, (z.lo.length : Int)] ++ z.lo ++ [(z.hi.length : Int)] ++ z.hi ++ [(z.shells.length : Int)]) m hm rfl (by simp; omega)
  have e2 := fun m hm => loop46_0 E lo σ hlo z (by omega) z.fields [] ([z.count, z.flo, z.fhi, z.thi, z.blo, z.bhi, (z.lo.length : Int)] ++ z.lo ++ [(z.hi.length : Int)] ++ z.hi ++ [(z.shells.length : Int)] ++ shN z.shells ++ [(z.fields.length : Int)]) [] m hm rfl (by have := shN_len z.shells; simp only [List.length_append, List.length_cons, List.length_nil]; omega) (by simp; omega)
  have hz0 : ((List.length ([] : List (Int × Int)) : Nat) : Int) = 0 := rfl
  have hz1 : ((List.length ([] : List Fl) : Nat) : Int) = 0 := rfl
  rw [hz0] at e1
  rw [hz1] at e2
  simp only [iR_app, iR_cons, iR_nil, List.length_append, List.length_cons, List.length_nil, Nat.zero_add, Nat.reduceAdd, Nat.add_assoc, List.nil_append, List.append_assoc, List.cons_append] at e0 e1 e2
  have hsh := shN_len z.shells
  have hfl := flN_len z.fields
  have hN : [D.int .i64 z.count] :: [D.int .i64 z.flo] :: [D.int .i64 z.fhi] :: [D.int .i64 z.thi] :: [D.int .i64 z.blo] :: [D.int .i64 z.bhi] :: [D.int .i64 (z.lo.length : Int)] :: (iR z.lo ++ [D.int .i64 (z.hi.length : Int)] :: (iR z.hi ++ [D.int .i64 (z.shells.length : Int)] :: (iR (shN z.shells) ++ [D.int .i64 (z.fields.length : Int)] :: iR (flN z.fields)))) = iR (numsZ z) := by
    simp [numsZ, iR_app, iR_cons, iR_nil]
  simp only [hN] at e2
  have c1 : ∀ σ' : St, lo ≤ σ'.length → σ.length + 2 < σ'.length → EvF E lo (.fn 117) [.o 1 (iR (numsZ z)) (σ.length + 2)] σ' = some (.o 1 (bR (encInts (numsZ z))) σ'.length, σ' ++ [some (.tok 5 1 (encInts (numsZ z)).length)]) := fun σ' h1 h2 => c117 E h200 h199 h117 lo σ' h1 _ _ (SlC.o _ h2) (by omega) s7
  have c2 : ∀ σ' : St, lo ≤ σ'.length → σ.length + 6 < σ'.length → EvF E lo (.fn 118) [.o 1 (sR (flW z.fields)) (σ.length + 6)] σ' = some (.o 1 (bR (encStrs (flW z.fields))) σ'.length, σ' ++ [some (.tok 5 1 (encStrs (flW z.fields)).length)]) := fun σ' h1 h2 => c118 E h200 h202 h201 h118 lo σ' h1 _ _ (SlC.o _ h2) (by omega) (fun n hn => by have := s6 n hn; omega) (by omega)
  have hE1 : (encInts (numsZ z)).length ≤ 2000000 := by
    have := vint_len (n := ((numsZ z).length : Int)) (by omega) (by omega)
    simp only [encInts, List.length_append]; omega
  have hE2 : (encStrs (flW z.fields)).length ≤ 2000000000 := by
    have := vint_len (n := ((flW z.fields).length : Int)) (by omega) (by omega)
    simp only [encStrs, List.length_append]; omega
  have hc2 : ((2 : Nat) : Int) = 2 := rfl
  have hs0 : sR [] = [] := rfl
  rw [hs0] at e2
  simp only [e46, List.replicate_succ, List.replicate_zero]
  simp (disch := first | omega | (simp only [st_len, List.length_cons, List.length_nil]; omega)) only [evs, evR, ev1, evOp, evO, setT, binC, binInt, unC, ↓reduceIte, keepT, C.one, toDss, toDs, toD, Nat.reduceAdd, Nat.reduceLT, Nat.reduceLeDiff, Int.reduceLT, Int.reduceLE, Nat.reduceEqDiff, endE, finE, resC, retC, finC, cutA, cut1, C.ltL, C.ltLL, tokOf, aggOf, Int.reduceEq, Nat.reduceBEq, stab, evW, a46_r21, c1, c2, bR_len, bR_app, Nat.reduceSub, List.replicate_succ, List.replicate_zero, a46_r0, a46_r1, a46_r2, a46_r7, a46_r8, a46_r13, a46_r14, a46_r15, iR_len, sR_len, shR_len, flR_len, List.append_assoc, List.length_append, hc2, e0, e1, e2]
  simp only [encZ, List.length_append]
end Go.Proofs.YtbecgpajbcafiaaGreat
