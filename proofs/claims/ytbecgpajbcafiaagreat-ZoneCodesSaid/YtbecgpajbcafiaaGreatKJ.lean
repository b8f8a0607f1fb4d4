/-
  The arguments of the law: what summaries and bytes that are well formed look like.
  Decoding of what is encoded, and encoding of what is decoded: numbers, strings, lists. Plain Lean.
  Both ways of building a summary find the one whose numbers and words they are. Plain Lean.
  Both decodings of bytes are one; what is encoded is decoded; what is decoded is encoded as it was. Plain Lean.
  ZoneCodes: for every summary and all bytes that are well formed, the law's function answers true.
-/
import Derived.Test.YtbecgpajbcafiaaGreatKI
import Derived.Test.YtbecgpajbcafiaaGreatKL
set_option linter.unusedVariables false
set_option linter.unusedSimpArgs false
namespace Go.Proofs.YtbecgpajbcafiaaGreat
open Go.Av Go.RowKit

theorem cells3 : Tryz.prog.cellsOf 3 = 1 := by kernel_rfl
theorem cells5 : Tryz.prog.cellsOf 5 = 1 := by kernel_rfl
theorem cells9 : Tryz.prog.cellsOf 9 = 1 := by kernel_rfl
theorem cells119 : Tryz.prog.cellsOf 119 = 2 := by kernel_rfl
theorem cells100 : Tryz.prog.cellsOf 100 = 4 := by kernel_rfl

theorem wf_int {k : Nat} {ds : List D} (h : Wf Tryz.prog k 3 ds) : ∃ n, ds = [.int .i64 n] ∧ I64 n := by
  cases k with
  | zero => exact h.elim
  | succ k =>
    simp only [Wf, Tryz.underlying3] at h
    obtain ⟨n, rfl, hw⟩ := h
    refine ⟨n, rfl, ?_⟩
    have e1 : IntKind.i64.min = -9223372036854775808 := by decide
    have e2 : IntKind.i64.max = 9223372036854775807 := by decide
    simp only [Lit.wf, e1, e2, Bool.and_eq_true, decide_eq_true_eq] at hw
    constructor <;> omega
theorem wf_byte {k : Nat} {ds : List D} (h : Wf Tryz.prog k 5 ds) : ∃ n : Nat, ds = [.int .u8 n] ∧ n < 256 := by
  cases k with
  | zero => exact h.elim
  | succ k =>
    simp only [Wf, Tryz.underlying5] at h
    obtain ⟨n, rfl, hw⟩ := h
    have e1 : IntKind.u8.min = 0 := by decide
    have e2 : IntKind.u8.max = 255 := by decide
    simp only [Lit.wf, e1, e2, Bool.and_eq_true, decide_eq_true_eq] at hw
    exact ⟨n.toNat, by rw [Int.toNat_of_nonneg (by omega)], by omega⟩
theorem wf_str {k : Nat} {ds : List D} (h : Wf Tryz.prog k 9 ds) : ∃ s, ds = [.str s] := by
  cases k with
  | zero => exact h.elim
  | succ k =>
    simp only [Wf, Tryz.underlying9] at h
    obtain ⟨s, h, _⟩ := h
    exact ⟨s, h⟩
theorem rows_map {α : Type} {f : α → List D} {Q : α → Prop} : ∀ {rows : List (List D)}, (∀ r ∈ rows, ∃ a, r = f a ∧ Q a) → ∃ l : List α, rows = l.map f ∧ ∀ a ∈ l, Q a
  | [], _ => ⟨[], rfl, fun a h => by cases h⟩
  | r :: rows, h => by
    obtain ⟨a, h1, h2⟩ := h r (List.mem_cons_self ..)
    obtain ⟨l, h3, h4⟩ := rows_map fun r hr => h r (List.mem_cons_of_mem _ hr)
    refine ⟨a :: l, by rw [h1, h3]; rfl, fun b hb => ?_⟩
    rcases List.mem_cons.1 hb with rfl | hb
    · exact h2
    · exact h4 b hb
theorem wf_ints {k : Nat} {ds : List D} (h : Wf Tryz.prog k 27 ds) : ∃ l : List Int, ds = [.sl 1 (iR l)] ∧ ∀ n ∈ l, I64 n := by
  cases k with
  | zero => exact h.elim
  | succ k =>
    simp only [Wf, Tryz.underlying27, cells3] at h
    obtain ⟨rows, rfl, _, h⟩ := h
    obtain ⟨l, rfl, hl⟩ := rows_map fun r hr => wf_int (h r hr)
    exact ⟨l, rfl, hl⟩
theorem wf_bytes {k : Nat} {ds : List D} (h : Wf Tryz.prog k 92 ds) : ∃ l : List Nat, ds = [.sl 1 (bR l)] ∧ By l := by
  cases k with
  | zero => exact h.elim
  | succ k =>
    simp only [Wf, Tryz.underlying92, cells5] at h
    obtain ⟨rows, rfl, _, h⟩ := h
    obtain ⟨l, rfl, hl⟩ := rows_map fun r hr => wf_byte (h r hr)
    exact ⟨l, rfl, hl⟩
theorem wf_strs {k : Nat} {ds : List D} (h : Wf Tryz.prog k 75 ds) : ∃ l : List ByteArray, ds = [.sl 1 (sR l)] := by
  cases k with
  | zero => exact h.elim
  | succ k =>
    simp only [Wf, Tryz.underlying75, cells9] at h
    obtain ⟨rows, rfl, _, h⟩ := h
    obtain ⟨l, rfl, hl⟩ := rows_map (Q := fun _ => True) fun r hr => let ⟨s, hs⟩ := wf_str (h r hr); ⟨s, hs, trivial⟩
    exact ⟨l, rfl⟩
theorem wf_shells {k : Nat} {ds : List D} (h : Wf Tryz.prog k 30 ds) : ∃ l : List (Int × Int), ds = [.sl 2 (shR l)] ∧ ∀ p ∈ l, I64 p.1 ∧ I64 p.2 := by
  cases k with
  | zero => exact h.elim
  | succ k =>
    simp only [Wf, Tryz.underlying30, cells119] at h
    obtain ⟨rows, rfl, _, h⟩ := h
    obtain ⟨l, rfl, hl⟩ := rows_map (f := fun p : Int × Int => [.int .i64 p.1, .int .i64 p.2]) (Q := fun p => I64 p.1 ∧ I64 p.2) fun r hr => by
      have := h r hr
      cases k with
      | zero => exact this.elim
      | succ k =>
        simp only [Wf, Tryz.underlying119, List.map_cons, List.map_nil, Wfs] at this
        obtain ⟨a, b, rfl, h1, c, d, rfl, h2, rfl⟩ := this
        obtain ⟨n, rfl, hn⟩ := wf_int h1
        obtain ⟨m, rfl, hm⟩ := wf_int h2
        exact ⟨(n, m), rfl, hn, hm⟩
    exact ⟨l, rfl, hl⟩
theorem wf_fields {k : Nat} {ds : List D} (h : Wf Tryz.prog k 31 ds) : ∃ l : List Fl, ds = [.sl 4 (flR l)] ∧ ∀ f ∈ l, I64 f.has ∧ I64 f.lo ∧ I64 f.hi := by
  cases k with
  | zero => exact h.elim
  | succ k =>
    simp only [Wf, Tryz.underlying31, cells100] at h
    obtain ⟨rows, rfl, _, h⟩ := h
    obtain ⟨l, rfl, hl⟩ := rows_map (f := fun f : Fl => [.int .i64 f.has, .int .i64 f.lo, .int .i64 f.hi, .sl 1 (sR f.words)]) (Q := fun f => I64 f.has ∧ I64 f.lo ∧ I64 f.hi) fun r hr => by
      have := h r hr
      cases k with
      | zero => exact this.elim
      | succ k =>
        simp only [Wf, Tryz.underlying100, List.map_cons, List.map_nil, Wfs] at this
        obtain ⟨a, b, rfl, h1, c, d, rfl, h2, e, f, rfl, h3, g, i, rfl, h4, rfl⟩ := this
        obtain ⟨n, rfl, hn⟩ := wf_int h1
        obtain ⟨m, rfl, hm⟩ := wf_int h2
        obtain ⟨o, rfl, ho⟩ := wf_int h3
        obtain ⟨s, rfl⟩ := wf_strs h4
        exact ⟨⟨n, m, o, s⟩, rfl, hn, hm, ho⟩
    exact ⟨l, rfl, hl⟩

/-- All numbers are of 64 bits. -/
structure ZW (z : Zs) : Prop where
  c : I64 z.count ∧ I64 z.flo ∧ I64 z.fhi ∧ I64 z.thi ∧ I64 z.blo ∧ I64 z.bhi
  lo : ∀ n ∈ z.lo, I64 n
  hi : ∀ n ∈ z.hi, I64 n
  sh : ∀ p ∈ z.shells, I64 p.1 ∧ I64 p.2
  fl : ∀ f ∈ z.fields, I64 f.has ∧ I64 f.lo ∧ I64 f.hi

theorem wf_sum {k : Nat} {ds : List D} (h : Wf Tryz.prog k 33 ds) : ∃ z : Zs, argC Tryz.prog 33 ds = .agg (zC z) ∧ ZW z := by
  cases k with
  | zero => exact h.elim
  | succ k =>
    simp only [Wf, Tryz.underlying33, List.map_cons, List.map_nil, Wfs] at h
    obtain ⟨a, b, rfl, h1, c, d, rfl, h2, e, f, rfl, h3, g, i, rfl, h4, j, l, rfl, h5, m, n, rfl, h6, o, p, rfl, h7, q, r, rfl, h8, s, t, rfl, h9, rfl⟩ := h
    obtain ⟨x1, rfl, y1⟩ := wf_int h1
    obtain ⟨x3, rfl, y3⟩ := wf_shells h3
    obtain ⟨x4, rfl, y4⟩ := wf_int h4
    obtain ⟨x5, rfl, y5⟩ := wf_int h5
    obtain ⟨x6, rfl, y6⟩ := wf_int h6
    obtain ⟨x7, rfl, y7⟩ := wf_int h7
    obtain ⟨x8, rfl, y8⟩ := wf_int h8
    obtain ⟨x9, rfl, y9⟩ := wf_fields h9
    cases k with
    | zero => exact h2.elim
    | succ k =>
      simp only [Wf, Tryz.underlying29, List.map_cons, List.map_nil, Wfs] at h2
      obtain ⟨u, v, rfl, h21, u2, v2, rfl, h22, rfl⟩ := h2
      obtain ⟨z1, rfl, w1⟩ := wf_ints h21
      obtain ⟨z2, rfl, w2⟩ := wf_ints h22
      refine ⟨⟨x1, z1, z2, x3, x4, x5, x6, x7, x8, x9⟩, ?_, ⟨y1, y4, y5, y6, y7, y8⟩, w1, w2, y3, y9⟩
      simp only [argC, Tryz.underlying33, List.cons_append, List.nil_append, List.map_cons, List.map_nil]
theorem wf_arr {k : Nat} {ds : List D} (h : Wf Tryz.prog k 92 ds) : ∃ l : List Nat, argC Tryz.prog 92 ds = .d (.sl 1 (bR l)) ∧ By l := by
  obtain ⟨l, rfl, hl⟩ := wf_bytes h
  exact ⟨l, by simp only [argC, Tryz.underlying92], hl⟩
end Go.Proofs.YtbecgpajbcafiaaGreat

set_option linter.unusedVariables false
set_option linter.unusedSimpArgs false
namespace Go.Proofs.YtbecgpajbcafiaaGreat
open Go.Av Go.RowKit

/-! ### Numbers -/

theorem gi_enc : ∀ (m k z : Nat) (rest : List Nat), m * 128 ^ k < 18446744073709551616 → (0 < k → 0 < m) → k ≤ 9 → gi k z (hd m ++ lst m :: rest) = (0, z + m * 128 ^ k, k + (hd m).length + 1) := by
  intro m
  induction m using Nat.strongRecOn with
  | _ m ih =>
    intro k z rest h1 h2 hk
    have h9 : k = 9 → m ≤ 1 := by
      intro h
      subst h
      have e : (128 : Nat) ^ 9 = 9223372036854775808 := by decide
      rw [e] at h1
      omega
    by_cases h : m < 128
    · have e1 : hd m = [] := by rw [hd, if_pos h]
      have e2 : lst m = m := by rw [lst, if_pos h]
      rw [e1, e2, List.nil_append, gi, if_neg (by omega), if_pos h, Nat.mod_eq_of_lt h]
      rfl
    · have e1 : hd m = (m % 128 + 128) :: hd (m / 128) := by rw [hd, if_neg h]
      have e2 : lst m = lst (m / 128) := by rw [lst, if_neg h]
      have hk8 : k ≤ 8 := by
        rcases Nat.lt_or_ge k 9 with h' | h'
        · omega
        · have := h9 (by omega); omega
      have e3 : m % 128 * 128 ^ k + m / 128 * 128 ^ (k + 1) = m * 128 ^ k := by
        rw [Nat.pow_succ, Nat.mul_comm (128 ^ k) 128, ← Nat.mul_assoc, ← Nat.add_mul]
        congr 1
        omega
      rw [e1, e2, List.cons_append, gi, if_neg (by omega), if_neg (by omega), ih (m / 128) (by omega) (k + 1) _ rest (by omega) (by omega) (by omega)]
      have e4 : (m % 128 + 128) % 128 = m % 128 := by omega
      rw [e4, List.length_cons]
      simp only [Prod.mk.injEq, true_and]
      exact ⟨by omega, by omega⟩

theorem gi_dec : ∀ (l : List Nat) (k z : Nat), By l → (gi k z l).1 = 0 → ∃ m, (gi k z l).2.1 = z + m * 128 ^ k ∧ l.take ((gi k z l).2.2 - k) = hd m ++ [lst m] ∧ (0 < k → 0 < m) ∧ k < (gi k z l).2.2
  | [], k, z, hB, h => by simp [gi] at h
  | c :: l, k, z, hB, h => by
    have hc := hB.head
    by_cases h1 : (k = 9 ∧ 1 < c) ∨ (0 < k ∧ c = 0)
    · rw [gi, if_pos h1] at h; simp at h
    · by_cases h2 : c < 128
      · rw [gi, if_neg h1, if_pos h2]
        refine ⟨c, by rw [Nat.mod_eq_of_lt h2], ?_, by omega, Nat.lt_succ_self k⟩
        have e : k + 1 - k = 1 := by omega
        simp only [e]
        rw [hd, if_pos h2, lst, if_pos h2]
        simp
      · have hg : gi k z (c :: l) = gi (k + 1) (z + c % 128 * 128 ^ k) l := by rw [gi, if_neg h1, if_neg h2]
        rw [hg] at h ⊢
        obtain ⟨m, e1, e2, e3, e4⟩ := gi_dec l (k + 1) _ hB.tail h
        have e3 := e3 (by omega)
        refine ⟨c % 128 + 128 * m, ?_, ?_, by omega, by omega⟩
        · rw [e1, Nat.pow_succ, Nat.add_mul, Nat.mul_comm (128 ^ k) 128, ← Nat.mul_assoc, Nat.mul_comm m 128, Nat.add_assoc]
        · have e5 : (gi (k + 1) (z + c % 128 * 128 ^ k) l).2.2 - k = (gi (k + 1) (z + c % 128 * 128 ^ k) l).2.2 - (k + 1) + 1 := by omega
          have hm : ¬ c % 128 + 128 * m < 128 := by omega
          have e6 : (c % 128 + 128 * m) % 128 + 128 = c := by omega
          have e7 : (c % 128 + 128 * m) / 128 = m := by omega
          have e8 : hd (c % 128 + 128 * m) = c :: hd m := by rw [hd, if_neg hm, e6, e7]
          have e9 : lst (c % 128 + 128 * m) = lst m := by rw [lst, if_neg hm, e7]
          rw [e5, List.take_succ_cons, e2, e8, e9]
          rfl

theorem unzz_zz {n : Int} : unzz (zz n) = n := by unfold unzz zz; split <;> split <;> omega
theorem zz_unzz {z : Nat} : zz (unzz z) = z := by unfold unzz zz; split <;> split <;> omega

theorem vint_pos (n : Int) : 0 < (vint n).length := by simp [vint]
theorem g_enc {n : Int} (h : I64 n) (rest : List Nat) : gE (vint n ++ rest) = 0 ∧ gV (vint n ++ rest) = n ∧ gU (vint n ++ rest) = (vint n).length := by
  have hz := zz_lt h.1 h.2
  have := gi_enc (zz n) 0 0 rest (by omega) (by omega) (by omega)
  have e : vint n ++ rest = hd (zz n) ++ lst (zz n) :: rest := by simp [vint]
  have h0 : gE (vint n ++ rest) = 0 := by unfold gE; rw [e, this]
  refine ⟨h0, ?_, ?_⟩
  · unfold gV; rw [if_pos h0, e, this]; simp [unzz_zz]
  · unfold gU; rw [e, this]; simp [vint]
theorem g_dec {l : List Nat} (hB : By l) (h : gE l = 0) : l.take (gU l) = vint (gV l) := by
  obtain ⟨m, e1, e2, _⟩ := gi_dec l 0 0 hB h
  unfold gU gV
  rw [if_pos h, e1]
  simp only [Nat.zero_add, Nat.pow_zero, Nat.mul_one, Nat.sub_zero] at e2 ⊢
  rw [e2, vint, zz_unzz]

/-! ### Strings -/

theorem push_toList (b : ByteArray) (x : UInt8) : (b.push x).data.toList = b.data.toList ++ [x] := by simp [ByteArray.push]
theorem bA_list (l : List Nat) : ∀ (b : ByteArray), ((l.map fun (b : Nat) => (b : Int)).foldl (fun r n => r.push (UInt8.ofNat n.toNat)) b).data.toList = b.data.toList ++ l.map UInt8.ofNat := by
  induction l with
  | nil => intro b; simp
  | cons c l ih =>
    intro b
    simp only [List.map_cons, List.foldl_cons]
    rw [ih, push_toList, Int.toNat_natCast]
    simp
theorem bA_toList (l : List Nat) : (bA l).data.toList = l.map UInt8.ofNat := by
  unfold bA
  rw [bA_list]
  simp
theorem bA_size (l : List Nat) : (bA l).size = l.length := by
  have := congrArg List.length (bA_toList l)
  rw [List.length_map, Array.length_toList] at this
  exact this
theorem sb_bA {l : List Nat} (hB : By l) : sb (bA l) = l := by
  unfold sb
  rw [bA_toList, List.map_map]
  refine List.ext_getElem (by simp) fun i h1 h2 => ?_
  simp only [List.getElem_map, Function.comp]
  have := hB l[i] (List.getElem_mem h2)
  exact UInt8.toNat_ofNat_of_lt' (by simpa using this)
theorem bA_sb (s : ByteArray) : bA (sb s) = s := by
  have h : (bA (sb s)).data = s.data := by
    apply Array.toList_inj.1
    rw [bA_toList]
    unfold sb
    rw [List.map_map]
    refine List.ext_getElem (by simp) fun i h1 h2 => ?_
    simp
  obtain ⟨d⟩ := s
  exact congrArg ByteArray.mk h
theorem strEq_refl (s : ByteArray) : strEq s s = true := by simp [strEq]

theorem l_enc {n : Nat} (hn : n ≤ 100000000) {rest : List Nat} (h : n ≤ rest.length) : lE (vint n ++ rest) = 0 ∧ lN (vint n ++ rest) = n ∧ lU (vint n ++ rest) = (vint n).length := by
  obtain ⟨e1, e2, e3⟩ := g_enc (n := (n : Int)) ⟨by omega, by omega⟩ rest
  have h0 : lE (vint n ++ rest) = 0 := by
    unfold lE
    rw [if_neg (by omega), if_neg (by omega), if_neg]
    rw [e2, e3, List.length_append]; omega
  refine ⟨h0, ?_, ?_⟩
  · unfold lN; rw [if_pos h0, e2]
  · unfold lU; rw [if_pos h0, e3]

theorem s_enc {s : ByteArray} (hs : s.size ≤ 100000000) (rest : List Nat) : eS (vstr s ++ rest) = (0, s, (vstr s).length) := by
  obtain ⟨e1, e2, e3⟩ := l_enc (n := s.size) hs (rest := sb s ++ rest) (by rw [List.length_append, sb_len]; omega)
  rw [← List.append_assoc] at e1 e2 e3
  have e : vint (s.size : Nat) ++ sb s = vstr s := rfl
  rw [e] at e1 e2 e3
  unfold eS sV sU
  rw [if_pos e1, if_pos e1, e1, e2, e3, Int.toNat_natCast]
  have hd : (vstr s ++ rest).drop (vint (s.size : Nat)).length = sb s ++ rest := by
    rw [← e, List.append_assoc, List.drop_left]
  rw [hd, List.take_append_of_le_length (by rw [sb_len]; exact Nat.le_refl _), List.take_of_length_le (by rw [sb_len]; exact Nat.le_refl _), bA_sb]
  simp [← e, sb_len]
theorem s_dec {l : List Nat} (hB : By l) (h : (eS l).1 = 0) : l.take (eS l).2.2 = vstr (eS l).2.1 := by
  simp only [eS] at h ⊢
  rcases l_cases l with ⟨e, h1, h2, h3, h4, h5, h6⟩ | ⟨e, _⟩
  · obtain ⟨n, hn⟩ : ∃ n : Nat, gV l = (n : Int) := ⟨(gV l).toNat, by omega⟩
    unfold sV sU
    rw [if_pos e, if_pos e, h2, h3, hn, Int.toNat_natCast, List.take_add, g_dec hB h1, hn]
    have hl : ((l.drop (gU l)).take n).length = n := by rw [List.length_take, List.length_drop]; omega
    unfold vstr
    rw [sb_bA (fun b hb => hB b (List.mem_of_mem_drop (List.mem_of_mem_take hb))), bA_size, hl]
  · exact absurd h e
theorem i_enc {n : Int} (h : I64 n) (rest : List Nat) : eI (vint n ++ rest) = (0, n, (vint n).length) := by
  obtain ⟨e1, e2, e3⟩ := g_enc h rest
  unfold eI; rw [e1, e2, e3]
theorem i_dec {l : List Nat} (hB : By l) (h : (eI l).1 = 0) : l.take (eI l).2.2 = vint (eI l).2.1 := g_dec hB h

/-! ### Lists -/

section
variable {α : Type} {e : List Nat → Nat × α × Nat} {enc : α → List Nat} {ok : α → Prop}

theorem gL_enc (hA : ∀ a rest, ok a → e (enc a ++ rest) = (0, a, (enc a).length)) (rest : List Nat) : ∀ (xs : List α), (∀ a ∈ xs, ok a) → gL e xs.length (xs.flatMap enc ++ rest) = (0, xs, (xs.flatMap enc).length)
  | [], _ => rfl
  | a :: xs, h => by
    have h1 := hA a (xs.flatMap enc ++ rest) (h a (List.mem_cons_self ..))
    have h2 := gL_enc hA rest xs fun b hb => h b (List.mem_cons_of_mem _ hb)
    have e1 : (a :: xs).flatMap enc ++ rest = enc a ++ (xs.flatMap enc ++ rest) := by simp
    rw [e1, List.length_cons, gL, h1, if_neg (by simp)]
    simp only [List.drop_left]
    rw [h2, if_neg (by simp)]
    simp

theorem gL_dec (he : ∀ l, (e l).1 = 0 → (e l).2.2 ≤ l.length) (hD : ∀ l, By l → (e l).1 = 0 → l.take (e l).2.2 = enc (e l).2.1) : ∀ (n : Nat) (l : List Nat), By l → (gL e n l).1 = 0 → l.take (gL e n l).2.2 = (gL e n l).2.1.flatMap enc
  | 0, l, hB, h => by simp [gL]
  | n + 1, l, hB, h => by
    rw [gL] at h ⊢
    by_cases h1 : (e l).1 = 0
    · rw [if_neg (fun h => h h1)] at h ⊢
      by_cases h2 : (gL e n (l.drop (e l).2.2)).1 = 0
      · rw [if_neg (fun h => h h2)] at h ⊢
        have h3 := gL_dec he hD n _ (hB.drop _) h2
        simp only [List.flatMap_cons]
        rw [List.take_add, hD l hB h1, h3]
      · rw [if_pos h2] at h
        exact absurd h h2
    · rw [if_pos h1] at h
      exact absurd h h1

theorem flat_len (hp : ∀ a, 0 < (enc a).length) : ∀ xs : List α, xs.length ≤ (xs.flatMap enc).length
  | [] => Nat.le_refl _
  | a :: xs => by
    have := hp a
    have := flat_len hp xs
    simp only [List.flatMap_cons, List.length_append, List.length_cons]
    omega

theorem dL_enc (hA : ∀ a rest, ok a → e (enc a ++ rest) = (0, a, (enc a).length)) (hp : ∀ a, 0 < (enc a).length) (rest : List Nat) (xs : List α) (h : ∀ a ∈ xs, ok a) (hl : xs.length ≤ 100000000) :
    dL e ((vint xs.length ++ xs.flatMap enc) ++ rest) = (0, xs, (vint xs.length ++ xs.flatMap enc).length) := by
  have := flat_len hp xs
  rw [List.append_assoc]
  obtain ⟨e1, e2, e3⟩ := l_enc hl (rest := xs.flatMap enc ++ rest) (by rw [List.length_append]; omega)
  unfold dL
  rw [if_neg (fun h => h e1), e2, e3, Int.toNat_natCast, List.drop_left, gL_enc hA rest xs h, if_neg (by simp)]
  simp
theorem dL_dec (he : ∀ l, (e l).1 = 0 → (e l).2.2 ≤ l.length) (hD : ∀ l, By l → (e l).1 = 0 → l.take (e l).2.2 = enc (e l).2.1) {l : List Nat} (hB : By l) (h : (dL e l).1 = 0) :
    l.take (dL e l).2.2 = vint (dL e l).2.1.length ++ (dL e l).2.1.flatMap enc := by
  unfold dL at h ⊢
  rcases l_cases l with ⟨k1, k2, k3, k4, k5, k6, k7⟩ | ⟨k1, _⟩
  · rw [if_neg (fun h => h k1)] at h ⊢
    by_cases h2 : (gL e (lN l).toNat (l.drop (lU l))).1 = 0
    · rw [if_neg (fun h => h h2)] at h ⊢
      obtain ⟨q1, q2⟩ := gL_used he _ _ h2
      have h3 := gL_dec he hD _ _ (hB.drop _) h2
      simp only []
      rw [List.take_add, h3, q2, k3, g_dec hB k2, k4, Int.toNat_of_nonneg k5]
    · rw [if_pos h2] at h
      exact absurd h h2
  · rw [if_pos k1] at h
    exact absurd h k1
end
end Go.Proofs.YtbecgpajbcafiaaGreat

set_option linter.unusedVariables false
set_option linter.unusedSimpArgs false
namespace Go.Proofs.YtbecgpajbcafiaaGreat
open Go.Av Go.RowKit

/-! ### The program's -/

theorem nxt_inv {p : P2} (h : (nxt p).2 = false) : p.2 = false ∧ p.1 = pX p :: (nxt p).1 := by
  obtain ⟨n, b⟩ := p
  simp only [nxt, nB, nN, pX, nX] at h ⊢
  cases b with
  | true => simp at h
  | false =>
    cases n with
    | nil => simp at h
    | cons x r => simp
theorem cnt_inv {p : P2} {m : Nat} (h : (cnt m p).2 = false) : p.2 = false ∧ p.1 = cntX m p :: (cnt m p).1 ∧ 0 ≤ cntX m p ∧ cntX m p ≤ m := by
  have hc : cB p.1 p.2 m = false := h
  have h1 : nB p.1 p.2 = false ∧ ¬ nX p.1 p.2 < 0 ∧ ¬ (m : Int) < nX p.1 p.2 := by
    simp only [cB, Bool.or_eq_false_iff, decide_eq_false_iff_not] at hc
    exact hc
  have hx : cntX m p = pX p := by unfold cntX cX; rw [hc]; rfl
  obtain ⟨h2, h3⟩ := nxt_inv (p := p) h1.1
  rw [hx]
  have : pX p = nX p.1 p.2 := rfl
  exact ⟨h2, h3, by omega, by omega⟩
theorem rep_inv : ∀ (k : Nat) (n : List Int) (b : Bool), (rep k n b).2.2 = false → b = false ∧ n = (rep k n b).1 ++ (rep k n b).2.1 ∧ (rep k n b).1.length = k
  | 0, n, b, h => ⟨h, rfl, rfl⟩
  | k + 1, n, b, h => by
    obtain ⟨h1, h2, h3⟩ := rep_inv k (nN n b) (nB n b) h
    obtain ⟨h4, h5⟩ := nxt_inv (p := (n, b)) h1
    refine ⟨h4, ?_, by simp only [rep, List.length_cons, h3]⟩
    simp only [rep, List.cons_append]
    rw [← h2]
    exact h5
theorem lstP_inv {p : P2} (h : (lstP p).2.2 = false) : p.2 = false ∧ p.1 = ((lstP p).1.length : Int) :: ((lstP p).1 ++ (lstP p).2.1) := by
  have h' : (rep (cntX p.1.length p).toNat (cnt p.1.length p).1 (cnt p.1.length p).2).2.2 = false := h
  obtain ⟨h1, h2, h3⟩ := rep_inv _ _ _ h'
  obtain ⟨h4, h5, h6, h7⟩ := cnt_inv h1
  have e : lstP p = rep (cntX p.1.length p).toNat (cnt p.1.length p).1 (cnt p.1.length p).2 := rfl
  refine ⟨h4, ?_⟩
  rw [e, ← h2, h3, Int.toNat_of_nonneg h6]
  exact h5
theorem rep2_inv : ∀ (k : Nat) (p : P2), (rep2 k p).2.2 = false → p.2 = false ∧ p.1 = shN (rep2 k p).1 ++ (rep2 k p).2.1 ∧ (rep2 k p).1.length = k
  | 0, p, h => ⟨h, rfl, rfl⟩
  | k + 1, p, h => by
    obtain ⟨h1, h2, h3⟩ := rep2_inv k (nxt (nxt p)) h
    obtain ⟨h4, h5⟩ := nxt_inv h1
    obtain ⟨h6, h7⟩ := nxt_inv h4
    refine ⟨h6, ?_, by simp only [rep2, List.length_cons, h3]⟩
    have e : shN (rep2 (k + 1) p).1 = pX p :: pX (nxt p) :: shN (rep2 k (nxt (nxt p))).1 := by simp [rep2, shN]
    rw [e, h7, h5]
    simp only [rep2, List.cons_append]
    rw [← h2]
theorem repF_inv : ∀ (k : Nat) (p : P2) (w : List ByteArray), (repF k p w).2.1.2 = false → p.2 = false ∧ p.1 = flN (repF k p w).1 ++ (repF k p w).2.1.1 ∧ w = flW (repF k p w).1 ++ (repF k p w).2.2 ∧ (repF k p w).1.length = k
  | 0, p, w, h => ⟨h, rfl, rfl, rfl⟩
  | k + 1, p, w, h => by
    obtain ⟨h1, h2, h3, h4⟩ := repF_inv k (cnt w.length (nxt (nxt (nxt p)))) (w.drop (cntX w.length (nxt (nxt (nxt p)))).toNat) h
    obtain ⟨h5, h6, h7, h8⟩ := cnt_inv h1
    obtain ⟨h9, h10⟩ := nxt_inv h5
    obtain ⟨h11, h12⟩ := nxt_inv h9
    obtain ⟨h13, h14⟩ := nxt_inv h11
    obtain ⟨c, hc⟩ : ∃ c : Nat, cntX w.length (nxt (nxt (nxt p))) = (c : Int) := ⟨(cntX w.length (nxt (nxt (nxt p)))).toNat, by omega⟩
    have hl : (w.take c).length = c := by rw [List.length_take]; omega
    have e : (cntX w.length (nxt (nxt (nxt p)))).toNat = c := by rw [hc, Int.toNat_natCast]
    rw [e] at h2 h3 h4
    have u : repF (k + 1) p w = (⟨pX p, pX (nxt p), pX (nxt (nxt p)), w.take c⟩ :: (repF k (cnt w.length (nxt (nxt (nxt p)))) (w.drop c)).1, (repF k (cnt w.length (nxt (nxt (nxt p)))) (w.drop c)).2) := by rw [repF, e]
    rw [u]
    refine ⟨h13, ?_, ?_, by simp only [List.length_cons, h4]⟩
    · rw [h14, h12, h10, h6, hc, h2]
      simp [flN, hl]
    · simp only [flW, List.flatMap_cons, List.append_assoc] at h3 ⊢
      rw [← h3, List.take_append_drop]

theorem bldP_inv {p : P2} {w : List ByteArray} (h : (bldP p w).1 = 0) : p.2 = false ∧ p.1 = numsZ (bldP p w).2 ∧ w = flW (bldP p w).2.fields := by
  unfold bldP at h ⊢
  dsimp only at h ⊢
  split at h
  · cases h
  · rename_i hn
    simp only [not_or, Nat.not_lt, Nat.le_zero] at hn
    obtain ⟨h1, h2⟩ := hn
    rw [if_neg (by rintro (h | h); · exact h1 h
                   · omega)]
    obtain ⟨f1, f2, f3, f4⟩ := repF_inv _ _ _ (Bool.eq_false_iff.2 h1)
    obtain ⟨c1, c2, c3, c4⟩ := cnt_inv f1
    obtain ⟨s1, s2, s3⟩ := rep2_inv _ _ c1
    obtain ⟨d1, d2, d3, d4⟩ := cnt_inv s1
    obtain ⟨l1, l2⟩ := lstP_inv d1
    obtain ⟨m1, m2⟩ := lstP_inv l1
    obtain ⟨n1, n2⟩ := nxt_inv m1
    obtain ⟨n3, n4⟩ := nxt_inv n1
    obtain ⟨n5, n6⟩ := nxt_inv n3
    obtain ⟨n7, n8⟩ := nxt_inv n5
    obtain ⟨n9, n10⟩ := nxt_inv n7
    obtain ⟨n11, n12⟩ := nxt_inv n9
    generalize hl1 : lstP (nxt (nxt (nxt (nxt (nxt (nxt p)))))) = L1 at *
    generalize hl2 : lstP L1.2 = L2 at *
    generalize hs : rep2 (cntX L2.2.1.length L2.2).toNat (cnt L2.2.1.length L2.2) = S at *
    generalize hf : repF (cntX S.2.1.length S.2).toNat (cnt S.2.1.length S.2) w = F at *
    have z1 : F.2.1.1 = [] := List.length_eq_zero_iff.1 (by omega)
    have z2 : F.2.2 = [] := List.length_eq_zero_iff.1 (by omega)
    rw [z1, List.append_nil] at f2
    rw [z2, List.append_nil] at f3
    have k1 : cntX L2.2.1.length L2.2 = (S.1.length : Int) := by rw [s3, Int.toNat_of_nonneg d3]
    have k2 : cntX S.2.1.length S.2 = (F.1.length : Int) := by rw [f4, Int.toNat_of_nonneg c3]
    rw [k1] at d2
    rw [k2] at c2
    refine ⟨n11, ?_, f3⟩
    rw [n12, n10, n8, n6, n4, n2, m2, l2, d2, s2, c2, f2]
    simp [numsZ]

theorem nxt_cons (x : Int) (r : List Int) : nxt (x :: r, false) = (r, false) := rfl
theorem pX_cons (x : Int) (r : List Int) : pX (x :: r, false) = x := rfl
theorem cnt_cons {x : Int} (r : List Int) {m : Nat} (h0 : 0 ≤ x) (h1 : x ≤ m) : cnt m (x :: r, false) = (r, false) ∧ cntX m (x :: r, false) = x := by
  have hc : cB (x :: r) false m = false := by
    simp only [cB, nB, nX, Bool.or_eq_false_iff, decide_eq_false_iff_not]
    refine ⟨by simp, ?_, ?_⟩ <;> simp <;> omega
  refine ⟨?_, ?_⟩
  · unfold cnt; rw [hc]; rfl
  · unfold cntX cX; rw [hc]; rfl
theorem rep_app : ∀ (l r : List Int), rep l.length (l ++ r) false = (l, r, false)
  | [], r => rfl
  | x :: l, r => by
    have := rep_app l r
    simp only [List.length_cons, List.cons_append, rep]
    have e1 : nN (x :: (l ++ r)) false = l ++ r := rfl
    have e2 : nB (x :: (l ++ r)) false = false := rfl
    have e3 : nX (x :: (l ++ r)) false = x := rfl
    rw [e1, e2, e3, this]
theorem lstP_app (l r : List Int) : lstP ((l.length : Int) :: (l ++ r), false) = (l, r, false) := by
  obtain ⟨h1, h2⟩ := cnt_cons (x := (l.length : Int)) (l ++ r) (m := ((l.length : Int) :: (l ++ r)).length) (by omega) (by simp; omega)
  have e : lstP ((l.length : Int) :: (l ++ r), false) = rep (cntX (((l.length : Int) :: (l ++ r)).length : Nat) ((l.length : Int) :: (l ++ r), false)).toNat (cnt (((l.length : Int) :: (l ++ r)).length : Nat) ((l.length : Int) :: (l ++ r), false)).1 (cnt (((l.length : Int) :: (l ++ r)).length : Nat) ((l.length : Int) :: (l ++ r), false)).2 := rfl
  rw [e, h1, h2, Int.toNat_natCast]
  exact rep_app l r
theorem rep2_app : ∀ (l : List (Int × Int)) (r : List Int), rep2 l.length (shN l ++ r, false) = (l, r, false)
  | [], r => rfl
  | q :: l, r => by
    have e : shN (q :: l) ++ r = q.1 :: q.2 :: (shN l ++ r) := by simp [shN]
    have := rep2_app l r
    rw [e, List.length_cons, rep2, nxt_cons, nxt_cons, this]
    rfl
theorem repF_app : ∀ (l : List Fl) (r : List Int) (v : List ByteArray), repF l.length (flN l ++ r, false) (flW l ++ v) = (l, (r, false), v)
  | [], r, v => rfl
  | f :: l, r, v => by
    have e : flN (f :: l) ++ r = f.has :: f.lo :: f.hi :: (f.words.length : Int) :: (flN l ++ r) := by simp [flN]
    have e2 : flW (f :: l) ++ v = f.words ++ (flW l ++ v) := by simp [flW]
    have := repF_app l r v
    obtain ⟨h1, h2⟩ := cnt_cons (x := (f.words.length : Int)) (flN l ++ r) (m := (f.words ++ (flW l ++ v)).length) (by omega) (by simp only [List.length_append]; omega)
    rw [e, e2, List.length_cons, repF, nxt_cons, nxt_cons, nxt_cons, h1, h2, Int.toNat_natCast, List.take_left, List.drop_left, this]
    rfl

theorem bldP_nums (z : Zs) : bldP (numsZ z, false) (flW z.fields) = (0, z) := by
  have e : numsZ z = z.count :: z.flo :: z.fhi :: z.thi :: z.blo :: z.bhi :: (z.lo.length : Int) :: (z.lo ++ ((z.hi.length : Int) :: (z.hi ++ ((z.shells.length : Int) :: (shN z.shells ++ ((z.fields.length : Int) :: (flN z.fields ++ []))))))) := by simp [numsZ]
  unfold bldP
  rw [e]
  simp only [nxt_cons, pX_cons, lstP_app]
  have hsl := shN_len z.shells
  have hfl := flN_len z.fields
  obtain ⟨a1, a2⟩ := cnt_cons (x := (z.shells.length : Int)) (shN z.shells ++ ((z.fields.length : Int) :: (flN z.fields ++ []))) (m := ((z.shells.length : Int) :: (shN z.shells ++ ((z.fields.length : Int) :: (flN z.fields ++ [])))).length) (by omega) (by simp only [List.length_cons, List.length_append]; omega)
  rw [a1, a2, Int.toNat_natCast, rep2_app]
  obtain ⟨b1, b2⟩ := cnt_cons (x := (z.fields.length : Int)) (flN z.fields ++ []) (m := ((z.fields.length : Int) :: (flN z.fields ++ [])).length) (by omega) (by simp only [List.length_cons, List.length_append]; omega)
  simp only []
  rw [b1, b2, Int.toNat_natCast]
  have := repF_app z.fields [] []
  rw [List.append_nil (flW z.fields)] at this
  rw [this]
  simp

/-! ### The reference's -/

theorem ct_inv {n : List Int} {t : Nat} (ht : 0 < t) (h : ctO n t = true) : ∃ k : Nat, n = (k : Int) :: (ctA n t ++ ctB n t) ∧ (ctA n t).length = t * k := by
  unfold ctA ctB
  rw [if_pos h, if_pos h]
  cases n with
  | nil => simp [ctO] at h
  | cons x r =>
    simp only [ctO, Bool.and_eq_true, decide_eq_true_eq] at h
    simp only [List.headD_cons, List.tail_cons] at h
    obtain ⟨_, h1, h2, h3⟩ := h
    obtain ⟨k, rfl⟩ : ∃ k : Nat, x = (k : Int) := ⟨x.toNat, by omega⟩
    refine ⟨k, ?_, ?_⟩
    · simp only [List.headD_cons, List.tail_cons, List.take_append_drop]
    · simp only [List.headD_cons, List.tail_cons]
      rw [← Int.natCast_mul] at h3 ⊢
      rw [Int.toNat_natCast, List.length_take, Nat.mul_comm t]
      omega
theorem ct_app {a r : List Int} {t k : Nat} (ht : 0 < t) (ha : a.length = t * k) : ctO ((k : Int) :: (a ++ r)) t = true ∧ ctA ((k : Int) :: (a ++ r)) t = a ∧ ctB ((k : Int) :: (a ++ r)) t = r := by
  have hk : k ≤ t * k := Nat.le_mul_of_pos_left k ht
  have e : ((k : Int) * (t : Int)) = ((t * k : Nat) : Int) := by rw [Nat.mul_comm]; simp
  have hO : ctO ((k : Int) :: (a ++ r)) t = true := by
    simp only [ctO, Bool.and_eq_true, decide_eq_true_eq]
    simp only [List.headD_cons, List.tail_cons]
    refine ⟨rfl, by omega, ?_, ?_⟩
    · simp only [List.length_cons, List.length_append]; omega
    · rw [e, List.length_append]; omega
  refine ⟨hO, ?_, ?_⟩
  · unfold ctA; rw [if_pos hO]; simp only [List.headD_cons, List.tail_cons]
    rw [e, Int.toNat_natCast, ← ha, List.take_left]
  · unfold ctB; rw [if_pos hO]; simp only [List.headD_cons, List.tail_cons]
    rw [e, Int.toNat_natCast, ← ha, List.drop_left]

theorem tkF_inv : ∀ (qs : List (Int × Int × Int × Int)) (w : List ByteArray) (fs : List Fl) (v : List ByteArray), tkF qs w = some (fs, v) → q4 qs = flN fs ∧ w = flW fs ++ v ∧ fs.length = qs.length
  | [], w, fs, v, h => by
    simp only [tkF, Option.some.injEq, Prod.mk.injEq] at h
    obtain ⟨rfl, rfl⟩ := h
    exact ⟨rfl, rfl, rfl⟩
  | q :: qs, w, fs, v, h => by
    rw [tkF] at h
    split at h
    · cases h
    · rename_i hk
      obtain ⟨⟨fs', v'⟩, h1, h2⟩ := Option.map_eq_some_iff.1 h
      simp only [Prod.mk.injEq] at h2
      obtain ⟨rfl, rfl⟩ := h2
      obtain ⟨h3, h4, h5⟩ := tkF_inv qs _ _ _ h1
      obtain ⟨c, hc⟩ : ∃ c : Nat, q.2.2.2 = (c : Int) := ⟨q.2.2.2.toNat, by omega⟩
      have hl : (w.take c).length = c := by rw [List.length_take]; omega
      rw [hc, Int.toNat_natCast] at h4 ⊢
      refine ⟨?_, ?_, by simp [h5]⟩
      · have e1 : q4 (q :: qs) = [q.1, q.2.1, q.2.2.1, q.2.2.2] ++ q4 qs := rfl
        rw [e1, h3, hc]
        simp [flN, hl]
      · simp only [flW, List.flatMap_cons, List.append_assoc] at h4 ⊢
        rw [← h4, List.take_append_drop]
theorem tkF_app : ∀ (fs : List Fl) (v : List ByteArray), tkF (fs.map fun f => (f.has, f.lo, f.hi, (f.words.length : Int))) (flW fs ++ v) = some (fs, v)
  | [], v => rfl
  | f :: fs, v => by
    have e2 : flW (f :: fs) ++ v = f.words ++ (flW fs ++ v) := by simp [flW]
    have := tkF_app fs v
    rw [e2, List.map_cons, tkF, if_neg (by simp only [List.length_append]; omega), Int.toNat_natCast, List.take_left, List.drop_left, this]
    rfl
theorem flN_q4 (fs : List Fl) : flN fs = q4 (fs.map fun f => (f.has, f.lo, f.hi, (f.words.length : Int))) := by
  simp [flN, q4, List.flatMap_map]

theorem bldR_inv {n : List Int} {w : List ByteArray} (h : (bldR n w).1 = 0) : n = numsZ (bldR n w).2 ∧ w = flW (bldR n w).2.fields := by
  unfold bldR at h ⊢
  split at h
  · cases h
  · rename_i h6
    rw [if_neg h6]
    split at h
    · rename_i hc
      rw [if_pos hc]
      split at h
      · rename_i fs ht
        dsimp only
        simp only [Bool.and_eq_true, List.isEmpty_iff] at hc
        obtain ⟨⟨⟨⟨o1, o2⟩, o3⟩, o4⟩, o5⟩ := hc
        obtain ⟨x0, x1, x2, x3, x4, x5, r, rfl⟩ : ∃ x0 x1 x2 x3 x4 x5 r, n = x0 :: x1 :: x2 :: x3 :: x4 :: x5 :: r := by
          match n, h6 with
          | x0 :: x1 :: x2 :: x3 :: x4 :: x5 :: r, _ => exact ⟨x0, x1, x2, x3, x4, x5, r, rfl⟩
          | [], h | [_], h | [_, _], h | [_, _, _], h | [_, _, _, _], h | [_, _, _, _, _], h => exact absurd (by simp) h
        have hd : (x0 :: x1 :: x2 :: x3 :: x4 :: x5 :: r).drop 6 = r := rfl
        simp only [hd] at o1 o2 o3 o4 o5 ht ⊢
        obtain ⟨k1, e1, n1⟩ := ct_inv (t := 1) (by omega) o1
        obtain ⟨k2, e2, n2⟩ := ct_inv (t := 1) (by omega) o2
        obtain ⟨k3, e3, n3⟩ := ct_inv (t := 2) (by omega) o3
        obtain ⟨k4, e4, n4⟩ := ct_inv (t := 4) (by omega) o4
        obtain ⟨ps, hps⟩ := sh_of k3 _ n3
        obtain ⟨qs, hqs⟩ := q4_of k4 _ n4
        have c1 : ((1 : Nat) : Int) = 1 := rfl
        have c2 : ((2 : Nat) : Int) = 2 := rfl
        have c4 : ((4 : Nat) : Int) = 4 := rfl
        simp only [c1, c2, c4] at *
        generalize ctA r 1 = A1 at *
        generalize ctA (ctB r 1) 1 = A2 at *
        generalize ctA (ctB (ctB r 1) 1) 2 = A3 at *
        generalize ctA (ctB (ctB (ctB r 1) 1) 2) 4 = A4 at *
        generalize ctB (ctB (ctB (ctB r 1) 1) 2) 4 = B4 at *
        generalize ctB (ctB (ctB r 1) 1) 2 = B3 at *
        generalize ctB (ctB r 1) 1 = B2 at *
        generalize ctB r 1 = B1 at *
        subst hps hqs o5
        rw [quads_q4] at ht
        rw [pairs_sh]
        obtain ⟨t1, t2, t3⟩ := tkF_inv _ _ _ _ ht
        rw [List.append_nil] at t2
        refine ⟨?_, t2⟩
        have l1 : A1.length = k1 := by omega
        have l2 : A2.length = k2 := by omega
        have l3 : ps.length = k3 := by have := shN_len ps; omega
        have l4 : qs.length = k4 := by have := q4_len qs; omega
        rw [e1, e2, e3, e4, t1]
        simp [numsZ, l1, l2, l3, l4, t3]
      · cases h
    · cases h

theorem bldR_nums (z : Zs) : bldR (numsZ z) (flW z.fields) = (0, z) := by
  have e : numsZ z = z.count :: z.flo :: z.fhi :: z.thi :: z.blo :: z.bhi :: (z.lo.length : Int) :: (z.lo ++ ((z.hi.length : Int) :: (z.hi ++ ((z.shells.length : Int) :: (shN z.shells ++ ((z.fields.length : Int) :: (flN z.fields ++ []))))))) := by simp [numsZ]
  have hd : (numsZ z).drop 6 = (z.lo.length : Int) :: (z.lo ++ ((z.hi.length : Int) :: (z.hi ++ ((z.shells.length : Int) :: (shN z.shells ++ ((z.fields.length : Int) :: (flN z.fields ++ []))))))) := by rw [e]; rfl
  obtain ⟨a1, a2, a3⟩ := ct_app (a := z.lo) (r := (z.hi.length : Int) :: (z.hi ++ ((z.shells.length : Int) :: (shN z.shells ++ ((z.fields.length : Int) :: (flN z.fields ++ [])))))) (t := 1) (k := z.lo.length) (by omega) (by omega)
  obtain ⟨b1, b2, b3⟩ := ct_app (a := z.hi) (r := (z.shells.length : Int) :: (shN z.shells ++ ((z.fields.length : Int) :: (flN z.fields ++ [])))) (t := 1) (k := z.hi.length) (by omega) (by omega)
  obtain ⟨c1, c2, c3⟩ := ct_app (a := shN z.shells) (r := (z.fields.length : Int) :: (flN z.fields ++ [])) (t := 2) (k := z.shells.length) (by omega) (shN_len _)
  obtain ⟨d1, d2, d3⟩ := ct_app (a := flN z.fields) (r := []) (t := 4) (k := z.fields.length) (by omega) (flN_len _)
  have i1 : ((1 : Nat) : Int) = 1 := rfl
  have i2 : ((2 : Nat) : Int) = 2 := rfl
  have i4 : ((4 : Nat) : Int) = 4 := rfl
  simp only [i1, i2, i4] at *
  have h6 : ¬ (numsZ z).length < 6 := by rw [e]; simp only [List.length_cons]; omega
  unfold bldR
  rw [if_neg h6, hd, a1, a2, a3, b1, b2, b3, c1, c2, c3, d1, d2, d3, if_pos (show (true && true && true && true && ([] : List Int).isEmpty) = true from rfl), flN_q4, quads_q4, pairs_sh]
  have := tkF_app z.fields []
  rw [List.append_nil (flW z.fields)] at this
  rw [this]
  rfl

theorem bld_same (n : List Int) (w : List ByteArray) : bldP (n, false) w = bldR n w := by
  by_cases h : (bldP (n, false) w).1 = 0
  · obtain ⟨_, h2, h3⟩ := bldP_inv h
    simp only [] at h2
    have := bldR_nums (bldP (n, false) w).2
    rw [← h2, ← h3] at this
    rw [this]
    exact Prod.ext h rfl
  · have h1 : bldP (n, false) w = (11, z0s) := by
      unfold bldP at h ⊢
      dsimp only at h ⊢
      split
      · rfl
      · rename_i hn; rw [if_neg hn] at h; exact absurd rfl h
    by_cases h2 : (bldR n w).1 = 0
    · obtain ⟨h3, h4⟩ := bldR_inv h2
      have := bldP_nums (bldR n w).2
      rw [← h3, ← h4] at this
      rw [this] at h
      exact absurd rfl h
    · rw [h1]
      unfold bldR at h2 ⊢
      split
      · rfl
      · rename_i h6
        rw [if_neg h6] at h2
        split
        · rename_i hc
          rw [if_pos hc] at h2
          split
          · rename_i fs ht
            rw [ht] at h2
            exact absurd rfl h2
          · rfl
        · rfl
theorem bldP_true (n : List Int) (w : List ByteArray) : bldP (n, true) w = (11, z0s) := by
  by_cases h : (bldP (n, true) w).1 = 0
  · obtain ⟨h1, _⟩ := bldP_inv h
    cases h1
  · unfold bldP at h ⊢
    dsimp only at h ⊢
    split
    · rfl
    · rename_i hn; rw [if_neg hn] at h; exact absurd rfl h
end Go.Proofs.YtbecgpajbcafiaaGreat

set_option linter.unusedVariables false
set_option linter.unusedSimpArgs false
namespace Go.Proofs.YtbecgpajbcafiaaGreat
open Go.Av Go.RowKit

theorem vstr_pos (s : ByteArray) : 0 < (vstr s).length := by
  have := vint_pos (s.size : Nat)
  simp only [vstr, List.length_append]; omega
theorem dInts_enc (l : List Int) (hl : l.length ≤ 100000000) (hi : ∀ n ∈ l, I64 n) (rest : List Nat) : dL eI (encInts l ++ rest) = (0, l, (encInts l).length) :=
  dL_enc (ok := I64) (fun a rest h => i_enc h rest) vint_pos rest l hi hl
theorem dStrs_enc (l : List ByteArray) (hl : l.length ≤ 100000000) (hi : ∀ s ∈ l, s.size ≤ 100000000) (rest : List Nat) : dL eS (encStrs l ++ rest) = (0, l, (encStrs l).length) :=
  dL_enc (ok := fun s : ByteArray => s.size ≤ 100000000) (fun a rest h => s_enc h rest) vstr_pos rest l hi hl

theorem numsZ_len (z : Zs) : (numsZ z).length = 10 + z.lo.length + z.hi.length + 2 * z.shells.length + 4 * z.fields.length := by
  have := shN_len z.shells
  have := flN_len z.fields
  simp only [numsZ, List.length_append, List.length_cons, List.length_nil]; omega

theorem zdec_enc {z : Zs} (hz : Small z) : zdec (encZ z) = (0, z) := by
  have hn := numsZ_len z
  have e1 := dInts_enc (numsZ z) (by have := hz.lo; have := hz.hi; have := hz.shells; have := hz.fields; omega) hz.nums (encStrs (flW z.fields))
  have e2 := dStrs_enc (flW z.fields) (by have := hz.words; omega) (fun s hs => by have := hz.size s hs; omega) []
  rw [List.append_nil] at e2
  have e : encZ z = encInts (numsZ z) ++ encStrs (flW z.fields) := rfl
  unfold zdec
  rw [e, e1]
  simp only [List.drop_left]
  rw [e2, if_neg (by simp), if_neg (by simp), decide_eq_false (by simp), bldP_nums]

theorem zdec_rdec (l : List Nat) : zdec l = rdec l := by
  unfold zdec rdec
  split
  · rfl
  · split
    · rfl
    · split
      · rename_i h; rw [decide_eq_true h, bldP_true]
      · rename_i h; rw [decide_eq_false h, bld_same]

theorem zdec_err {l : List Nat} (h : (zdec l).1 ≠ 0) : (zdec l).2 = z0s := by
  unfold zdec at h ⊢
  split
  · rfl
  · rename_i h1
    rw [if_neg h1] at h
    split
    · rfl
    · rename_i h2
      rw [if_neg h2] at h
      unfold bldP at h ⊢
      dsimp only at h ⊢
      split
      · rfl
      · rename_i hn; rw [if_neg hn] at h; exact absurd rfl h

theorem gI_I64 : ∀ (n : Nat) (l : List Nat), ∀ x ∈ (gL eI n l).2.1, I64 x
  | 0, l, x, h => by simp [gL] at h
  | n + 1, l, x, h => by
    rw [gL] at h
    split at h
    · simp at h
    · split at h
      · simp at h
      · rcases List.mem_cons.1 h with rfl | h
        · exact gV_I64 l
        · exact gI_I64 n _ x h
theorem dI_I64 (l : List Nat) : ∀ x ∈ (dL eI l).2.1, I64 x := by
  intro x h
  unfold dL at h
  split at h
  · simp at h
  · split at h
    · simp at h
    · exact gI_I64 _ _ x h

theorem zdec_ok {l : List Nat} (hB : By l) (h : (zdec l).1 = 0) : encZ (zdec l).2 = l ∧ ∀ n ∈ numsZ (zdec l).2, I64 n := by
  unfold zdec at h ⊢
  split at h
  · rename_i h1; exact absurd h h1
  · rename_i h1
    rw [if_neg h1]
    split at h
    · rename_i h2; exact absurd h h2
    · rename_i h2
      rw [if_neg h2]
      have h1 : (dL eI l).1 = 0 := Decidable.not_not.1 h1
      have h2 : (dL eS (l.drop (dL eI l).2.2)).1 = 0 := Decidable.not_not.1 h2
      obtain ⟨b1, b2, b3⟩ := bldP_inv h
      simp only [decide_eq_false_iff_not, Decidable.not_not] at b1
      have d1 := dL_dec (e := eI) (enc := vint) (fun l h => eI_used h) (fun l hB h => i_dec hB h) hB h1
      have d2 := dL_dec (e := eS) (enc := vstr) (fun l h => eS_used h) (fun l hB h => s_dec hB h) (hB.drop _) h2
      have e1 : encZ (bldP ((dL eI l).2.1, decide ((dL eI l).2.2 + (dL eS (l.drop (dL eI l).2.2)).2.2 ≠ l.length)) (dL eS (l.drop (dL eI l).2.2)).2.1).2 = l.take (dL eI l).2.2 ++ (l.drop (dL eI l).2.2).take (dL eS (l.drop (dL eI l).2.2)).2.2 := by
        unfold encZ
        rw [← b2, ← b3, d1, d2]
        rfl
      refine ⟨?_, ?_⟩
      · rw [e1, ← List.take_add, b1, List.take_length]
      · rw [← b2]; exact dI_I64 l

theorem flat_mem {s : ByteArray} : ∀ {l : List ByteArray}, s ∈ l → s.size ≤ (vstrs l).length ∧ l.length ≤ (vstrs l).length
  | t :: l, h => by
    have hp := vstr_pos t
    have hl := flat_len vstr_pos l
    have e : (vstrs (t :: l)).length = (vstr t).length + (vstrs l).length := by simp [vstrs]
    have hl' : l.length ≤ (vstrs l).length := hl
    rw [e, List.length_cons]
    rcases List.mem_cons.1 h with rfl | h
    · have : s.size ≤ (vstr s).length := by simp [vstr, sb_len]
      exact ⟨by omega, by omega⟩
    · have := (flat_mem h).1
      exact ⟨by omega, by omega⟩

theorem z0s_small : Small z0s := ⟨by simp [z0s], by simp [z0s], by simp [z0s], by simp [z0s], by simp [z0s, flW], by simp [z0s, flW], by simp [z0s, numsZ, shN, flN, I64]⟩

theorem zdec_small {l : List Nat} (hB : By l) (hl : l.length ≤ 5000) : Small (zdec l).2 := by
  by_cases h : (zdec l).1 = 0
  · obtain ⟨h1, h2⟩ := zdec_ok hB h
    generalize (zdec l).2 = z at *
    have e : (encZ z).length = l.length := by rw [h1]
    have hn := flat_len vint_pos (numsZ z)
    have hw := flat_len vstr_pos (flW z.fields)
    have e2 : (encZ z).length = (vint (numsZ z).length).length + ((numsZ z).flatMap vint).length + ((vint (flW z.fields).length).length + ((flW z.fields).flatMap vstr).length) := by simp [encZ, encInts, encStrs, vints, vstrs, Nat.add_assoc]
    have h3 := numsZ_len z
    refine ⟨by omega, by omega, by omega, by omega, by omega, fun w hm => ?_, h2⟩
    have := (flat_mem hm).1
    simp only [vstrs] at this
    omega
  · rw [zdec_err h]; exact z0s_small

theorem flW_few : ∀ {l : List Fl}, (l.all fewF) = true → (flW l).length ≤ 60 * l.length ∧ ∀ w ∈ flW l, w.size ≤ 100
  | [], _ => ⟨by simp [flW], by simp [flW]⟩
  | f :: l, h => by
    simp only [List.all_cons, Bool.and_eq_true] at h
    obtain ⟨h1, h2⟩ := h
    obtain ⟨h3, h4⟩ := flW_few h2
    simp only [fewF, Bool.and_eq_true, decide_eq_true_eq, List.all_eq_true] at h1
    have e : flW (f :: l) = f.words ++ flW l := by simp [flW]
    rw [e]
    refine ⟨by rw [List.length_append, List.length_cons]; omega, fun w hw => ?_⟩
    rcases List.mem_append.1 hw with hw | hw
    · exact h1.2 w hw
    · exact h4 w hw

theorem few_small {z : Zs} (hw : ZW z) (h : fewZ z = true) : Small z := by
  simp only [fewZ, Bool.and_eq_true, decide_eq_true_eq] at h
  obtain ⟨h1, h2, h3, h4, h5⟩ := h
  obtain ⟨w1, w2⟩ := flW_few h5
  refine ⟨by omega, by omega, by omega, by omega, by omega, fun w hm => by have := w2 w hm; omega, fun n hn => ?_⟩
  have il : ∀ k : Nat, k ≤ 1000 → I64 (k : Int) := fun k hk => ⟨by omega, by omega⟩
  obtain ⟨c1, c2, c3, c4, c5, c6⟩ := hw.c
  simp only [numsZ, List.mem_append, List.mem_cons, List.not_mem_nil, or_false] at hn
  rcases hn with (((((((rfl | rfl | rfl | rfl | rfl | rfl | rfl) | hn) | rfl) | hn) | rfl) | hn) | rfl) | hn
  · exact c1
  · exact c2
  · exact c3
  · exact c4
  · exact c5
  · exact c6
  · exact il _ (by omega)
  · exact hw.lo n hn
  · exact il _ (by omega)
  · exact hw.hi n hn
  · exact il _ (by omega)
  · simp only [shN, List.mem_flatMap, List.mem_cons, List.not_mem_nil, or_false] at hn
    obtain ⟨p, hp, rfl | rfl⟩ := hn
    · exact (hw.sh p hp).1
    · exact (hw.sh p hp).2
  · exact il _ (by omega)
  · simp only [flN, List.mem_flatMap, List.mem_cons, List.not_mem_nil, or_false] at hn
    obtain ⟨f, hf, rfl | rfl | rfl | rfl⟩ := hn
    · exact (hw.fl f hf).1
    · exact (hw.fl f hf).2.1
    · exact (hw.fl f hf).2.2
    · have := List.all_eq_true.1 h5 f hf
      simp only [fewF, Bool.and_eq_true, decide_eq_true_eq] at this
      exact il _ (by omega)

theorem hd_by : ∀ (z : Nat), By (hd z) := by
  intro z
  induction z using Nat.strongRecOn with
  | _ z ih =>
    intro b hb
    rw [hd] at hb
    split at hb
    · cases hb
    · rcases List.mem_cons.1 hb with rfl | hb
      · omega
      · exact ih _ (by omega) b hb
theorem vint_by (n : Int) : By (vint n) := by
  intro b hb
  rcases List.mem_append.1 hb with hb | hb
  · exact hd_by _ b hb
  · have := lst_lt (zz n)
    simp only [List.mem_cons, List.not_mem_nil, or_false] at hb
    omega
theorem sb_by (s : ByteArray) : By (sb s) := by
  intro b hb
  simp only [sb, List.mem_map] at hb
  obtain ⟨u, _, rfl⟩ := hb
  exact u.toNat_lt
theorem by_app {l m : List Nat} (h1 : By l) (h2 : By m) : By (l ++ m) := fun b hb => by
  rcases List.mem_append.1 hb with hb | hb
  · exact h1 b hb
  · exact h2 b hb
theorem encZ_by {z : Zs} (h : Small z) : (encZ z).length ≤ 1200000000 ∧ By (encZ z) := by
  have hn := numsZ_len z
  have h1 := h.lo
  have h2 := h.hi
  have h3 := h.shells
  have h4 := h.fields
  have h5 := h.words
  refine ⟨?_, by_app (by_app (vint_by _) ?_) (by_app (vint_by _) ?_)⟩
  · have a1 := vints_len h.nums
    have a2 := vstrs_len h.size
    have a3 := vint_len (n := ((numsZ z).length : Int)) (by omega) (by omega)
    have a4 := vint_len (n := ((flW z.fields).length : Int)) (by omega) (by omega)
    simp only [encZ, encInts, encStrs, List.length_append]
    omega
  · intro b hb
    obtain ⟨n, _, hb⟩ := List.mem_flatMap.1 hb
    exact vint_by n b hb
  · intro b hb
    obtain ⟨s, _, hb⟩ := List.mem_flatMap.1 hb
    exact by_app (vint_by _) (sb_by s) b hb

theorem vstrs_len2 {l : List ByteArray} (h : ∀ w ∈ l, w.size ≤ 100) : (vstrs l).length ≤ 110 * l.length := by
  induction l with
  | nil => simp [vstrs]
  | cons n l ih =>
    have h0 := h n (List.mem_cons_self ..)
    have h1 := vstr_len (s := n) (by omega)
    have h2 := ih fun m hm => h m (List.mem_cons_of_mem _ hm)
    simp only [vstrs, List.flatMap_cons, List.length_append, List.length_cons] at h2 ⊢
    omega
theorem few_enc {z : Zs} (hw : ZW z) (h : fewZ z = true) : (encZ z).length ≤ 1000000 ∧ By (encZ z) := by
  have hs := few_small hw h
  refine ⟨?_, (encZ_by hs).2⟩
  simp only [fewZ, Bool.and_eq_true, decide_eq_true_eq] at h
  obtain ⟨h1, h2, h3, h4, h5⟩ := h
  obtain ⟨w1, w2⟩ := flW_few h5
  have hn := numsZ_len z
  have a1 := vints_len hs.nums
  have a2 := vstrs_len2 w2
  have a3 := vint_len (n := ((numsZ z).length : Int)) (by omega) (by omega)
  have a4 := vint_len (n := ((flW z.fields).length : Int)) (by omega) (by omega)
  simp only [encZ, encInts, encStrs, List.length_append]
  omega
end Go.Proofs.YtbecgpajbcafiaaGreat

set_option linter.unusedVariables false
set_option linter.unusedSimpArgs false
namespace Go.Proofs.YtbecgpajbcafiaaGreat
open Go.Av Go.RowKit

set_option maxRecDepth 20000 in
set_option maxHeartbeats 2000000 in
theorem c10 (σ : St) (z : Zs) (hz : ZW z) (b : List Nat) (hB : By b) : EvF env3 0 (.fn 10) [.agg (zC z), .d (.sl 1 (bR b))] σ = some (.d (.bool true), σ) := by
  have f14 : ∀ τ : St, EvF env3 0 (.fn 14) [] τ = some (.d (.bool true), τ) := fun τ => sanity3 0 τ
  have f13 : ∀ τ : St, EvF env3 0 (.fn 13) [.agg (zC z)] τ = some (.d (.bool (fewZ z)), τ) := fun τ => c13 env3 rfl 0 τ (Nat.zero_le _) z
  rw [EvF_fn (E := env3) (f := 10) (ef := e10) rfl]
  simp only [e10, List.replicate_succ, List.replicate_zero]
  cases hf : fewZ z with
  | false =>
    rw [hf] at f13
    simp (disch := first | omega | (simp only [st_len, List.length_cons, List.length_nil]; omega)) only [evs, evR, ev1, evOp, evO, setT, binC, binInt, unC, ↓reduceIte, keepT, C.one, toDss, toDs, toD, Nat.reduceAdd, Nat.reduceLT, Nat.reduceLeDiff, Int.reduceLT, Int.reduceLE, Nat.reduceEqDiff, endE, finE, resC, retC, finC, cutA, cut1, C.ltL, C.ltLL, tokOf, aggOf, Int.reduceEq, Nat.reduceBEq, stab, evW, Nat.reduceSub, List.replicate_succ, List.replicate_zero, a10_r0, a10_r1, a10_r2, a10_r3, a10_r4, a10_r5, a10_r6, a10_r7, a10_r8, a10_r9, f13, f14, gdec, bR_len]
  | true =>
    rw [hf] at f13
    by_cases hb : b.length ≤ 5000
    · have hs := few_small hz hf
      have hy := zdec_small hB hb
      have hok := fun h => (zdec_ok hB h).1
      have hcl : ∀ (τ : St) (rows : List (List D)), 0 ≤ τ.length → rows.length ≤ 1000000 → EvF env3 0 (.fn 124) [.d (.sl 1 rows)] τ = some (.o 1 rows τ.length, τ ++ [some (.tok 9 1 rows.length)]) := fun τ rows h1 h2 => clone3 0 τ h1 rows h2
      have f46 : ∀ (τ : St) (y : Zs), Small y → EvF env3 0 (.fn 46) [.agg (zC y)] τ = some (.o 1 (bR (encZ y)) τ.length, τ ++ [some (.tok 5 1 (encZ y).length)]) := fun τ y h => c46 env3 rfl rfl rfl rfl rfl rfl rfl 0 τ (Nat.zero_le _) y h
      have f49 : ∀ (τ : St) (y : Zs), Small y → EvF env3 0 (.fn 49) [.agg (zC y)] τ = some (.o 1 (bR (encZ y)) τ.length, τ ++ [some (.tok 5 1 (encZ y).length)]) := fun τ y h => c49 env3 rfl rfl rfl rfl rfl 0 τ (Nat.zero_le _) y h
      have f17 : ∀ (τ : St) (x y : Zs), Small x → Small y → EvF env3 0 (.fn 17) [.agg (zC x), .agg (zC y)] τ = some (.d (.bool (strEq (bA (encZ x)) (bA (encZ y)))), τ) := fun τ x y h1 h2 => c17 env3 rfl rfl rfl rfl rfl rfl 0 τ (Nat.zero_le _) x y h1 h2
      have g46 := fun τ => f46 τ z hs
      have g49 := fun τ => f49 τ z hs
      have g46y := fun τ => f46 τ (zdec b).2 hy
      have g17 := fun τ => f17 τ z z hs hs
      have g17y := fun τ => f17 τ (zdec b).2 (zdec b).2 hy hy
      rw [strEq_refl] at g17 g17y
      have hEB : (encZ z).length ≤ 1000000 ∧ By (encZ z) := few_enc hz hf
      have g47z : ∀ τ : St, σ.length + 1 < τ.length → EvF env3 0 (.fn 47) [.o 1 (bR (encZ z)) (σ.length + 1)] τ = some (.tup [.agg (zC z), .d (.int .i64 0)], τ) := fun τ h => by
        have := c47 env3 rfl rfl rfl rfl rfl rfl rfl rfl rfl rfl rfl 0 hcl τ (Nat.zero_le _) _ (encZ z) (.o _ h) hEB.1 hEB.2
        rw [zdec_enc hs] at this
        exact this
      have g47b : ∀ τ : St, EvF env3 0 (.fn 47) [.d (.sl 1 (bR b))] τ = some (.tup [.agg (zC (zdec b).2), .d (.int .i64 ((zdec b).1 : Nat))], τ) := fun τ =>
        c47 env3 rfl rfl rfl rfl rfl rfl rfl rfl rfl rfl rfl 0 hcl τ (Nat.zero_le _) _ b (.d _ _ _) (by omega) hB
      have g48b : ∀ τ : St, EvF env3 0 (.fn 48) [.d (.sl 1 (bR b))] τ = some (.agg (mC (zdec b)), τ) := fun τ => by
        have := c48 env3 rfl rfl rfl rfl rfl rfl rfl rfl rfl 0 τ (Nat.zero_le _) _ b (.d _ _ _) (by omega) hB
        rw [← zdec_rdec] at this
        exact this
      clear f46 f49 f17 hcl
      generalize zdec b = r at *
      obtain ⟨f, y⟩ := r
      simp only at *
      have hrr := strEq_refl (bA (encZ z))
      by_cases h0 : f = 0
      · subst h0
        have e1z : ((0 : Nat) : Int) = 0 := rfl
        have hbe : encZ y = b := hok rfl
        have hrb := strEq_refl (bA b)
        rw [hbe] at g46y
        simp only [e1z] at *
        simp (disch := first | omega | (simp only [st_len, List.length_cons, List.length_nil]; omega)) only [evs, evR, ev1, evOp, evO, setT, binC, binInt, unC, ↓reduceIte, keepT, C.one, toDss, toDs, toD, Nat.reduceAdd, Nat.reduceLT, Nat.reduceLeDiff, Int.reduceLT, Int.reduceLE, Nat.reduceEqDiff, endE, finE, resC, retC, finC, cutA, cut1, C.ltL, C.ltLL, tokOf, aggOf, Int.reduceEq, Nat.reduceBEq, stab, evW, Nat.reduceSub, List.replicate_succ, List.replicate_zero, a10_r0, a10_r1, a10_r2, a10_r3, a10_r4, a10_r5, a10_r6, a10_r7, a10_r8, a10_r9, f13, f14, gdec, bR_len, g46, g49, g46y, g17, g17y, g47z, g47b, g48b, hrr, hrb, bytesOf_bR, binStr, fillC, e1z]
      · simp (disch := first | omega | (simp only [st_len, List.length_cons, List.length_nil]; omega)) only [evs, evR, ev1, evOp, evO, setT, binC, binInt, unC, ↓reduceIte, keepT, C.one, toDss, toDs, toD, Nat.reduceAdd, Nat.reduceLT, Nat.reduceLeDiff, Int.reduceLT, Int.reduceLE, Nat.reduceEqDiff, endE, finE, resC, retC, finC, cutA, cut1, C.ltL, C.ltLL, tokOf, aggOf, Int.reduceEq, Nat.reduceBEq, stab, evW, Nat.reduceSub, List.replicate_succ, List.replicate_zero, a10_r0, a10_r1, a10_r2, a10_r3, a10_r4, a10_r5, a10_r6, a10_r7, a10_r8, a10_r9, f13, f14, gdec, bR_len, g46, g49, g17, g17y, g47z, g47b, g48b, hrr, bytesOf_bR, binStr, fillC]
    · simp (disch := first | omega | (simp only [st_len, List.length_cons, List.length_nil]; omega)) only [evs, evR, ev1, evOp, evO, setT, binC, binInt, unC, ↓reduceIte, keepT, C.one, toDss, toDs, toD, Nat.reduceAdd, Nat.reduceLT, Nat.reduceLeDiff, Int.reduceLT, Int.reduceLE, Nat.reduceEqDiff, endE, finE, resC, retC, finC, cutA, cut1, C.ltL, C.ltLL, tokOf, aggOf, Int.reduceEq, Nat.reduceBEq, stab, evW, Nat.reduceSub, List.replicate_succ, List.replicate_zero, a10_r0, a10_r1, a10_r2, a10_r3, a10_r4, a10_r5, a10_r6, a10_r7, a10_r8, a10_r9, f13, f14, gdec, bR_len]

theorem main : ∀ k0 ds0, Wf Tryz.prog k0 33 ds0 → ∀ k1 ds1, Wf Tryz.prog k1 92 ds1 → ∃ σ', EvF env3 0 (.fn 10) [argC Tryz.prog 33 ds0, argC Tryz.prog 92 ds1] [] = some (.d (.bool true), σ') := by
  intro k0 ds0 h0 k1 ds1 h1
  obtain ⟨z, e1, hz⟩ := wf_sum h0
  obtain ⟨b, e2, hb⟩ := wf_arr h1
  rw [e1, e2]
  exact ⟨_, c10 [] z hz b hb⟩
end Go.Proofs.YtbecgpajbcafiaaGreat
