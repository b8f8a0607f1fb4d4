/-
  Appends, slice literals and cuts: what the machine does is what the abstract store says. For every world in which the temporaries and the store are as said.
  New variables, tokens and literals: what the machine does is what the abstract store says. For every world in which the temporaries and the store are as said.
  Every operation that the small language has and that calls nothing: what it comes to is what the machine does. For every world in which the temporaries and the store are as said.
  The joint law: whatever operation of the small language, what it comes to is what the machine does. For every world in which the temporaries and the store are as said.
  Maps; iterators over strings; parts of values; elements of arrays. For every world in which the temporaries and the store are as said.
  The joint law: whatever operation of the small language, what it comes to is what the machine does. For every world in which the temporaries and the store are as said.
  Operations one after the other, calls among them. For every world in which the temporaries and the store are as said.
  Regions whose order is open, of operations that write nothing; code; functions. For every world in which the temporaries and the store are as said.
-/
import Derived.Test.YtbecgpajbcafiaaGreatKA
import Derived.Lib.AppendStr
import Derived.Laws.BytesString
import Derived.RangeFuncRecord
import Derived.MapKept
import Derived.Laws.StructEq
import Derived.LoopN
set_option linter.unusedVariables false
set_option linter.unusedSimpArgs false
namespace Go.Av
open Go.RowKit
variable [TheProg]
set_option linter.unusedSectionVars false

section
variable {P : Program} {B : Nat} {n0 : Fr} {o : Oper} {a : Act} {w : World} {γ : G} {σ σ' : St} {c : C} {T : List C}

theorem divmod_row {sz k : Nat} (hsz : 0 < sz) : k = k / sz * sz + k % sz ∧ k % sz < sz := by
  have h := Nat.div_add_mod k sz
  rw [Nat.mul_comm] at h
  exact ⟨h.symm, Nat.mod_lt _ hsz⟩

theorem div_lt_of {sz k n : Nat} (hsz : 0 < sz) (h : k < n * sz) : k / sz < n := by
  rw [Nat.div_lt_iff_lt_mul hsz]; exact h

/-- The cells of a slice that holds data. -/
theorem slice_cells {sz : Nat} {rows : List (List D)} {v : Value} (hsz : 0 < sz) (h : RepD w γ.im (.sl sz rows) v) :
    (rows = [] ∧ ∃ ad c, v = .slice ad 0 c) ∨ ∃ g o cap, ∃ news : List Value, v = .slice (some ⟨g, o, none⟩) rows.length cap ∧ news.length = rows.length * sz ∧
      (∀ j u, news[j]? = some u → w.cell? ⟨g, o + j, none⟩ = some u ∧ o + j < γ.im g ∧ u.oneCell' = true) ∧ ∀ i j d, at2 rows i j = some d → ∃ u, news[i * sz + j]? = some u ∧ RepD w γ.im d u ∧ j < sz ∧ i < rows.length := by
  cases h with
  | sl0 => exact .inl ⟨rfl, _, _, rfl⟩
  | sl _ _ g o cap val hcap hlen hcell hrep =>
    refine .inr ⟨g, o, cap, (List.range (rows.length * sz)).map (fun k => val (k / sz) (k % sz)), rfl, by simp, fun j u hu => ?_, fun i j d hd => ?_⟩
    · simp only [List.getElem?_map, Option.map_eq_some_iff] at hu
      obtain ⟨k, hk, rfl⟩ := hu
      have hj : j < rows.length * sz := by
        rcases Nat.lt_or_ge j (rows.length * sz) with h' | h'
        · exact h'
        · rw [List.getElem?_eq_none (by simpa using h')] at hk; cases hk
      have : k = j := by rw [List.getElem?_range hj] at hk; simpa using hk.symm
      subst this
      obtain ⟨e1, e2⟩ := divmod_row (k := k) hsz
      have hq := div_lt_of hsz hj
      have hrow := hlen _ _ (List.getElem?_eq_getElem hq)
      have hat : at2 rows (k / sz) (k % sz) = some (rows[k / sz]'hq)[k % sz] := by
        simp [at2, List.getElem?_eq_getElem hq, List.getElem?_eq_getElem (show k % sz < (rows[k / sz]'hq).length by omega)]
      obtain ⟨h1, h2⟩ := hcell _ _ _ hat
      have ha : o + k / sz * sz + k % sz = o + k := by omega
      rw [ha] at h1 h2
      exact ⟨h1, h2, (hrep _ _ _ hat).one⟩
    · have hi : i < rows.length := by
        rcases Nat.lt_or_ge i rows.length with h' | h'
        · exact h'
        · simp [at2, List.getElem?_eq_none h'] at hd
      have hrow := hlen i _ (List.getElem?_eq_getElem hi)
      have hj : j < sz := by
        simp only [at2, List.getElem?_eq_getElem hi, Option.bind_some] at hd
        have := (List.getElem?_eq_some_iff.1 hd).1
        omega
      have hk : i * sz + j < rows.length * sz := by
        have : (i + 1) * sz ≤ rows.length * sz := Nat.mul_le_mul_right _ hi
        rw [Nat.add_mul] at this
        omega
      refine ⟨val i j, ?_, hrep _ _ _ hd, hj, hi⟩
      rw [List.getElem?_map, List.getElem?_range hk]
      have e1 : (i * sz + j) / sz = i := by rw [Nat.mul_comm, Nat.mul_add_div hsz, Nat.div_eq_of_lt hj]; rfl
      have e2 : (i * sz + j) % sz = j := by rw [Nat.mul_comm, Nat.mul_add_mod, Nat.mod_eq_of_lt hj]
      simp [e1, e2]

theorem rowsOf_rep {A : Nat → Prop} {sz : Nat} {x : C} {rows : List (List D)} {v : Value} (h : rowsOf sz x = some rows) (hx : RepC w γ A x v) : RepD w γ.im (.sl sz rows) v := by
  unfold rowsOf at h
  split at h
  · split at h
    · rename_i e; subst e; simp only [Option.some.injEq] at h; subst h; cases hx with | d hx => exact hx
    · cases h
  · split at h
    · rename_i e; subst e; simp only [Option.some.injEq] at h; subst h; cases hx with | o hx => exact hx
    · cases h
  · simp only [Option.some.injEq] at h; subst h; cases hx with | nils => exact .sl0 _ _ _ (fun _ => rfl)
  · simp only [Option.some.injEq] at h; subst h; cases hx with | enn => exact .sl0 _ _ _ (fun h => by cases h)
  · cases h

theorem rows_len {im : Nat → Nat} {sz : Nat} {rows : List (List D)} {v : Value} (h : RepD w im (.sl sz rows) v) : ∀ (i : Nat) (row : List D), rows[i]? = some row → row.length = sz := by
  cases h with
  | sl0 => intro i row hr; simp at hr
  | sl _ _ g o cap val hcap hlen hcell hrep => exact hlen

/-- A slice made of rows that a block's first cells hold. -/
theorem repD_mk {im : Nat → Nat} {sz g cap : Nat} {rows : List (List D)} {xs : List Value} (hcap : rows.length ≤ cap) (hlen : ∀ (i : Nat) (row : List D), rows[i]? = some row → row.length = sz)
    (hc : ∀ k u, xs[k]? = some u → w.cell? ⟨g, k, none⟩ = some u ∧ k < im g) (hr : ∀ i j d, at2 rows i j = some d → ∃ u, xs[i * sz + j]? = some u ∧ RepD w im d u) :
    RepD w im (.sl sz rows) (.slice (some ⟨g, 0, none⟩) rows.length cap) := by
  refine .sl sz rows g 0 cap (fun i j => xs.getD (i * sz + j) undef) hcap hlen (fun i j d hd => ?_) (fun i j d hd => ?_)
  · obtain ⟨u, hu, _⟩ := hr i j d hd
    have := hc _ _ hu
    simpa [List.getD_eq_getElem?_getD, hu] using this
  · obtain ⟨u, hu, h⟩ := hr i j d hd
    simpa [List.getD_eq_getElem?_getD, hu] using h

theorem append_run_none {t ty e : TypeId} {i : TypeInfo} (ht : P.underlying t = some (.slice e)) (hi : P.info? e = some i) (base : Option Addr) (n cap : Nat) (hn : n ≤ cap) (ad : Option Addr) (c : Nat) :
    (Builtin.append_ #[t, t] ty #[.slice base n cap, .slice ad 0 c]).run P w = .ok (.slice base n cap) w := by
  have hf : (Builtin.firstCells i.size 0 (.slice ad 0 c)).run P w = .ok #[] w := by
    cases ad with
    | none => simp [Builtin.firstCells]
    | some x => simp [Builtin.firstCells, loadCells, loadCellsFrom]
  cases base with
  | none => simp [Builtin.append_, run_underlying ht, sizeOf, typeInfo, hi, Builtin.lenOf, hf, hn]
  | some x => simp [Builtin.append_, run_underlying ht, sizeOf, typeInfo, hi, Builtin.lenOf, hf, hn, storeCells]

/-- What is known of tokens turned. -/
def G.tok (γ : G) (a : Nat) (v : Value) (n : Nat) (g m : Nat) : G :=
  { γ with tk := fun x => if x = a then v else γ.tk x, len := fun x => if x = a then n else γ.len x, im := fun x => if x = g then m else γ.im x }

theorem at2_append {α : Type} {xs ys : List (List α)} {i j : Nat} {x : α} (h : at2 (xs ++ ys) i j = some x) : (i < xs.length ∧ at2 xs i j = some x) ∨ (xs.length ≤ i ∧ at2 ys (i - xs.length) j = some x) := by
  unfold at2 at *
  rcases Nat.lt_or_ge i xs.length with hi | hi
  · rw [List.getElem?_append_left hi] at h; exact .inl ⟨hi, h⟩
  · rw [List.getElem?_append_right hi] at h; exact .inr ⟨hi, h⟩

/-- The end of an append: the slice lies in block g, its cells are the old ones and the new ones. -/
theorem append_fin {e : TypeId} {sz : Nat} (hsz : 0 < sz) (hs : Sat B n0 w γ σ) {a : Nat} {rows ys : List (List D)} {v0 : Value} (hD : RepD w γ.im (.sl sz rows) v0) (hu : ∀ (i : Nat) (row : List D), ys[i]? = some row → row.length = sz)
    (ha : σ[a]? = some (some (.tok e sz rows.length))) (hn0 : n0.lo ≤ a) {w' : World} {g cap : Nat} {cur : Array Value} {olds news : List Value}
    (hol : olds.length = rows.length * sz) (hnl : news.length = ys.length * sz)
    (hold : ∀ i j d, at2 rows i j = some d → ∃ u, olds[i * sz + j]? = some u ∧ RepD w γ.im d u)
    (hnew : ∀ i j d, at2 ys i j = some d → ∃ u, news[i * sz + j]? = some u ∧ RepD w γ.im d u)
    (hg' : w'.heap[g]? = some (.cells cur e (0, 0))) (hncap : rows.length + ys.length ≤ cap) (hcap : cap ≤ maxLen) (hcs : cur.size = cap * sz)
    (htake : cur.toList.take ((rows.length + ys.length) * sz) = olds ++ news)
    (hos : w'.os = w.os) (htape : w'.tape = w.tape) (hout : w'.output = w.output) (hsize : w.heap.size ≤ w'.heap.size)
    (hblk : ∀ h, h < w.heap.size → h ≠ g → w'.heap[h]? = w.heap[h]?)
    (hgo : ownBlk γ a (some (.tok e sz rows.length)) = some g ∨ g = w.heap.size) (himg : γ.im g ≤ rows.length * sz)
    (himc : ∀ k, k < γ.im g → w'.cell? ⟨g, k, none⟩ = w.cell? ⟨g, k, none⟩) (hlt : g < w'.heap.size)
    (hm : 0 < ys.length ∨ γ.tk a = .slice (some ⟨g, 0, none⟩) rows.length cap) :
    ∃ γ', Fn B n0 w γ w' γ' ∧ Ext (Fil σ) w γ w' γ' ∧
      Sat B n0 w' γ' (σ.set a (some (.tok e sz (rows.length + ys.length)))) ∧ RepC w' γ' (Fil σ) (.o sz (rows ++ ys) a) (.slice (some ⟨g, 0, none⟩) (rows.length + ys.length) cap) := by
  have hal : a < σ.length := (List.getElem?_eq_some_iff.1 ha).1
  obtain ⟨hlen, htok⟩ := hs.inv.ob a _ ha
  have hmul : rows.length * sz ≤ (rows.length + ys.length) * sz := Nat.mul_le_mul_right _ (by omega)
  have hBg : B ≤ g := by
    rcases hgo with h | h
    · exact hs.own a _ g hn0 ha h
    · have := hs.B; omega
  refine ⟨γ.tok a (.slice (some ⟨g, 0, none⟩) (rows.length + ys.length) cap) (rows.length + ys.length) g ((rows.length + ys.length) * sz), ?_⟩
  have him : ∀ h, γ.im h ≤ (γ.tok a (.slice (some ⟨g, 0, none⟩) (rows.length + ys.length) cap) (rows.length + ys.length) g ((rows.length + ys.length) * sz)).im h := by
    intro h
    by_cases e1 : h = g
    · subst e1; simp only [G.tok, if_true]; omega
    · simp [G.tok, e1]
  have hext : ∀ A : Nat → Prop, Ext A w γ w' (γ.tok a (.slice (some ⟨g, 0, none⟩) (rows.length + ys.length) cap) (rows.length + ys.length) g ((rows.length + ys.length) * sz)) := by
    refine fun A => ⟨⟨fun h k hk => ?_, him⟩, fun _ _ => rfl, fun x hx => ?_, fun x hx hxe => ?_⟩
    · by_cases e1 : h = g
      · subst e1; exact himc k hk
      · rcases Nat.lt_or_ge h w.heap.size with h' | h'
        · exact World.cell?_of_block (w := w) (a := ⟨h, k, none⟩) (hblk h h' e1)
        · rw [hs.inv.lt h h'] at hk; omega
    · by_cases e1 : x = a
      · subst e1; simp only [G.tok, if_true]; omega
      · simp [G.tok, e1]
    · by_cases e1 : x = a
      · subst e1
        simp only [G.tok, if_true] at hxe ⊢
        rcases hm with hm | hm
        · omega
        · have : ys.length = 0 := by omega
          rw [hm, this, Nat.add_zero]
      · simp [G.tok, e1]
  have hcell' : ∀ k u, (olds ++ news)[k]? = some u → w'.cell? ⟨g, k, none⟩ = some u ∧ k < (rows.length + ys.length) * sz := by
    intro k u hk'
    rw [cell_of_row w' _ _ _ _ _ hg']
    have hkl : k < (olds ++ news).length := (List.getElem?_eq_some_iff.1 hk').1
    have hkl2 : k < (rows.length + ys.length) * sz := by rw [List.length_append, hol, hnl, ← Nat.add_mul] at hkl; exact hkl
    rw [← htake, List.getElem?_take, if_pos hkl2] at hk'
    exact ⟨by simpa using hk', hkl2⟩
  refine ⟨⟨hext _, ⟨hos, htape, hout, hsize, fun h hh => hblk h (by have := hs.B; omega) (by omega)⟩, fun h hh => ?_, fun x hx => ?_, fun r hr => (hblk r (heap_lt hr) ?_).trans hr, fun r x hr => ⟨x, (hblk r (heap_lt hr) ?_).trans hr⟩⟩, hext _, ?_, ?_⟩
  · have : h ≠ g := by omega
    simp [G.tok, this]
  · have : x ≠ a := by omega
    simp [G.tok, this]
  · rintro rfl
    rcases hgo with h1 | h1
    · rcases htok with ⟨h2, _⟩ | ⟨g2, cap2, cur2, h2, h3, _⟩
      · simp [ownBlk, h2, blkOf] at h1
      · simp only [ownBlk, h2, blkOf, Option.some.injEq] at h1
        subst h1
        rw [h3] at hr; cases hr
    · have := heap_lt hr; omega
  · rintro rfl
    rcases hgo with h1 | h1
    · rcases htok with ⟨h2, _⟩ | ⟨g2, cap2, cur2, h2, h3, _⟩
      · simp [ownBlk, h2, blkOf] at h1
      · simp only [ownBlk, h2, blkOf, Option.some.injEq] at h1
        subst h1
        rw [h3] at hr; cases hr
    · have := heap_lt hr; omega
  · refine (hs.upd (b' := .tok e sz (rows.length + ys.length)) ha hn0 (hext _) hsize (fun x _ hx => by simp [G.tok, hx]) (fun h hh hne => ?_) ?_ (fun h hh => ?_) (fun h hh => ?_)).1
    · have : h ≠ g := by
        rintro rfl
        rcases hgo with h1 | h1
        · exact hne h1
        · omega
      exact ⟨hblk h hh this, by simp [G.tok, this]⟩
    · refine ⟨by simp [G.tok], .inr ⟨g, cap, cur, by simp [G.tok], hg', hncap, hcap, hcs, by simp [G.tok]⟩⟩
    · simp only [ownBlk, G.tok, if_true, blkOf, Option.some.injEq] at hh
      subst hh
      rcases hgo with h1 | h1
      · exact .inl h1
      · exact .inr (by omega)
    · have : h ≠ g := by omega
      simp only [G.tok, this, if_false]
      exact hs.inv.lt h (by omega)
  · refine .o ?_ ⟨_, ha⟩ (by simp [G.tok]) (fun _ => by simp [G.tok])
    have hl2 : (rows ++ ys).length = rows.length + ys.length := by simp
    generalize hγ : γ.tok a (.slice (some ⟨g, 0, none⟩) (rows.length + ys.length) cap) (rows.length + ys.length) g ((rows.length + ys.length) * sz) = γ' at *
    have himg' : γ'.im g = (rows.length + ys.length) * sz := by rw [← hγ]; simp [G.tok]
    clear hγ
    rw [← hl2]
    refine repD_mk (xs := olds ++ news) (by simp; omega) (fun k row hk' => ?_) (fun k u hk' => ?_) (fun i j d hd => ?_)
    · rcases Nat.lt_or_ge k rows.length with h' | h'
      · rw [List.getElem?_append_left h'] at hk'; exact rows_len hD k row hk'
      · rw [List.getElem?_append_right h'] at hk'; exact hu _ row hk'
    · obtain ⟨h1, h2⟩ := hcell' k u hk'
      exact ⟨h1, by rw [himg']; exact h2⟩
    · rcases at2_append hd with ⟨hi, hd⟩ | ⟨hi, hd⟩
      · obtain ⟨u, h1, h2⟩ := hold i j d hd
        refine ⟨u, ?_, h2.ext (hext (Fil σ)).d⟩
        rw [List.getElem?_append_left (List.getElem?_eq_some_iff.1 h1).1]; exact h1
      · obtain ⟨u, h1, h2⟩ := hnew _ j d hd
        refine ⟨u, ?_, h2.ext (hext (Fil σ)).d⟩
        have : olds.length ≤ i * sz + j := by
          rw [hol]; have := Nat.mul_le_mul_right sz hi; omega
        rw [List.getElem?_append_right this, hol]
        rw [← h1]
        congr 1
        rw [Nat.sub_mul]
        have := Nat.mul_le_mul_right sz hi
        omega

/-- What an append has to do with its second argument. -/
structure AppArg (P : Program) (w : World) (e : TypeId) (i : TypeInfo) (z : Value) (im : Nat → Nat) (A : Value → Sem Value) (ys : List (List D)) (news : List Value) : Prop where
  hlen : ∀ (k : Nat) (row : List D), ys[k]? = some row → row.length = i.size
  hnl : news.length = ys.length * i.size
  hone : ∀ u ∈ news, u.oneCell' = true
  hnr : ∀ i' j d, at2 ys i' j = some d → ∃ u, news[i' * i.size + j]? = some u ∧ RepD w im d u
  none : ys.length = 0 → ∀ (base : Option Addr) (n cap : Nat), n ≤ cap → (A (.slice base n cap)).run P w = .ok (.slice base n cap) w
  nil : 0 < ys.length → ys.length * i.bytes ≤ 281474976710656 → ys.length ≤ 9223372036854775807 → (A (.slice Option.none 0 0)).run P w =
      .ok (.slice (some ⟨w.heap.size, 0, Option.none⟩) ys.length (grownCap w ys.length 0 e)) (w.drew.alloc (.cells (news.toArray ++ Builtin.zeroCells z.cells (grownCap w ys.length 0 e - ys.length)) e))
  room : ∀ (g sLen sCap : Nat) (cur : Array Value), 0 < ys.length → w.heap[g]? = some (.cells cur e (0, 0)) → sLen + ys.length ≤ sCap → sLen * i.size + news.length ≤ cur.size →
      (A (.slice (some ⟨g, 0, Option.none⟩) sLen sCap)).run P w = .ok (.slice (some ⟨g, 0, Option.none⟩) (sLen + ys.length) sCap) (w.setRow g (cur.toList.take (sLen * i.size) ++ news ++ cur.toList.drop (sLen * i.size + news.length)).toArray)
  grow : ∀ (g sLen sCap : Nat) (olds : List Value), 0 < ys.length → olds.length = sLen * i.size → (∀ j u, olds[j]? = some u → w.cell? ⟨g, j, Option.none⟩ = some u) → sCap < sLen + ys.length → sLen + ys.length ≤ 9223372036854775807 →
      Builtin.nextslicecap (sLen + ys.length) sCap * i.bytes ≤ 281474976710656 → (A (.slice (some ⟨g, 0, Option.none⟩) sLen sCap)).run P w =
      .ok (.slice (some ⟨w.heap.size, 0, Option.none⟩) (sLen + ys.length) (grownCap w (sLen + ys.length) sCap e))
        (w.drew.alloc (.cells (olds.toArray ++ news.toArray ++ Builtin.zeroCells z.cells (grownCap w (sLen + ys.length) sCap e - (sLen + ys.length))) e))

theorem append_gen {e : TypeId} {i : TypeInfo} {z : Value} {A : Value → Sem Value} {news : List Value} (hzs : z.cells.size = i.size) (hsz : 0 < i.size)
    (hs : Sat B n0 w γ σ) {a : Nat} {rows ys : List (List D)} {v : Value} (hv : RepC w γ (Fil σ) (.o i.size rows a) v) (hA : AppArg P w e i z γ.im A ys news)
    (ha : σ[a]? = some (some (.tok e i.size rows.length))) (hn0 : n0.lo ≤ a) (hb : (rows.length + ys.length) * i.bytes ≤ 140737488355328) (hb2 : rows.length + ys.length ≤ 140737488355328) :
    ∃ v' w' γ', (A v).run P w = .ok v' w' ∧ Fn B n0 w γ w' γ' ∧ Ext (Fil σ) w γ w' γ' ∧
      Sat B n0 w' γ' (σ.set a (some (.tok e i.size (rows.length + ys.length)))) ∧ RepC w' γ' (Fil σ) (.o i.size (rows ++ ys) a) v' := by
  have hal : a < σ.length := (List.getElem?_eq_some_iff.1 ha).1
  have hset0 : ys.length = 0 → σ.set a (some (.tok e i.size (rows.length + ys.length))) = σ := by
    intro hy
    rw [hy, Nat.add_zero]
    rw [List.getElem?_eq_some_iff] at ha
    obtain ⟨h1, h2⟩ := ha
    rw [← h2]; exact List.set_getElem_self h1
  cases hv with
  | o hD _ hl hk =>
  obtain ⟨hlen, htok⟩ := hs.inv.ob a _ ha
  have hv : v = γ.tk a := hk (by rw [hlen])
  obtain ⟨hu, hnl, hone, hnr', Hnone, Hnil, Hroom, Hgrow⟩ := hA
  by_cases hm : ys.length = 0
  · have hy : ys = [] := List.eq_nil_of_length_eq_zero hm
    have hr : (A v).run P w = .ok v w := by
      rcases htok with ⟨h1, h2⟩ | ⟨g, cap, cur, h1, h2, h3, _⟩
      · rw [hv, h1]; exact Hnone hm _ 0 0 (Nat.le_refl _)
      · rw [hv, h1]; exact Hnone hm _ _ cap h3
    exact ⟨v, w, γ, hr, .refl _ _ _ _, .refl _ _ _, by rw [hset0 hm]; exact hs, by rw [hy, List.append_nil]; exact .o hD ⟨_, ha⟩ hl hk⟩
  · have hpos : 0 < ys.length := by omega
    rcases htok with ⟨h1, h2⟩ | ⟨g, cap, cur, h1, h2, h3, h4, h5, h6⟩
    · -- a nil slice
      have hr0 : rows = [] := List.eq_nil_of_length_eq_zero h2
      subst hr0
      · have hr := Hnil hpos (by have hb' := hb; simp only [List.length_nil, Nat.zero_add] at hb'; omega) (by omega)
        have hge := grownCap_ge w ys.length 0 e
        have hcm := grownCap_le_maxLen w ys.length 0 e (by simp only [maxLen]; omega)
        obtain ⟨γ', k1, k2, k3, k4⟩ := append_fin (w' := w.drew.alloc (.cells (news.toArray ++ Builtin.zeroCells z.cells (grownCap w ys.length 0 e - ys.length)) e)) (g := w.heap.size) (cap := grownCap w ys.length 0 e)
          (olds := []) (news := news) hsz hs hD hu ha hn0 (by simp) hnl (fun i' j d hd => by simp [at2] at hd) hnr' (heap_alloc_new w.drew _) (by simpa using hge) hcm
          (by simp only [Array.size_append, List.size_toArray, size_zeroCells, hzs, hnl, ← Nat.add_mul]; congr 1; omega)
          (by simp only [List.length_nil, Nat.zero_add, Array.toList_append, List.nil_append]; rw [← hnl]; exact List.take_left)
          rfl rfl rfl (by simp) (fun h hh _ => heap_alloc_old w.drew _ h hh) (.inr rfl) (by rw [hs.inv.lt _ (Nat.le_refl _)]; exact Nat.zero_le _) (fun k hk => by rw [hs.inv.lt _ (Nat.le_refl _)] at hk; omega) (by simp) (.inl (by omega))
        refine ⟨_, _, γ', by rw [hv, h1]; exact hr, k1, k2, k3, ?_⟩
        simpa using k4
    · have hle : rows.length * i.size ≤ cur.size := by rw [h5]; exact Nat.mul_le_mul_right _ h3
      have hol : (cur.toList.take (rows.length * i.size)).length = rows.length * i.size := by simp; omega
      have hoc : ∀ j u, (cur.toList.take (rows.length * i.size))[j]? = some u → w.cell? ⟨g, j, none⟩ = some u := by
        intro j u hu
        rw [cell_of_row w _ _ _ _ _ h2]
        rw [List.getElem?_take] at hu
        split at hu
        · simpa using hu
        · cases hu
      have hold : ∀ i' j d, at2 rows i' j = some d → ∃ u, (cur.toList.take (rows.length * i.size))[i' * i.size + j]? = some u ∧ RepD w γ.im d u := by
        intro i' j d hd
        rcases slice_cells hsz hD with ⟨hy, _⟩ | ⟨g3, o3, cap3, old, hv3, _, hoc3, hor⟩
        · subst hy; simp [at2] at hd
        · obtain ⟨u, hu, hru, hj, hi'⟩ := hor i' j d hd
          refine ⟨u, ?_, hru⟩
          have hc3 := (hoc3 _ _ hu).1
          rw [hv, h1] at hv3
          simp only [Value.slice.injEq, Option.some.injEq, Addr.mk.injEq] at hv3
          obtain ⟨⟨rfl, rfl, _⟩, _, _⟩ := hv3
          rw [cell_of_row w _ _ _ _ _ h2, Nat.zero_add] at hc3
          have hlt : i' * i.size + j < rows.length * i.size := by
            have : (i' + 1) * i.size ≤ rows.length * i.size := Nat.mul_le_mul_right _ hi'
            rw [Nat.add_mul] at this; omega
          rw [List.getElem?_take, if_pos hlt]
          simpa using hc3
      have hown : ownBlk γ a (some (.tok e i.size rows.length)) = some g := by simp [ownBlk, h1, blkOf]
      have hgl := heap_lt h2
      by_cases hroom : rows.length + ys.length ≤ cap
      · have hfit : rows.length * i.size + news.length ≤ cur.size := by rw [hnl, h5, ← Nat.add_mul]; exact Nat.mul_le_mul_right _ hroom
        have hr := Hroom g rows.length cap cur hpos h2 hroom hfit
        have hlen2 : (cur.toList.take (rows.length * i.size) ++ news).length = (rows.length + ys.length) * i.size := by rw [List.length_append, hol, hnl, Nat.add_mul]
        obtain ⟨γ', k1, k2, k3, k4⟩ := append_fin (w' := w.setRow g (cur.toList.take (rows.length * i.size) ++ news ++ cur.toList.drop (rows.length * i.size + news.length)).toArray) (g := g) (cap := cap)
          (olds := cur.toList.take (rows.length * i.size)) (news := news) hsz hs hD hu ha hn0 hol hnl hold hnr' (setRow_heap w g cur _ e _ h2) hroom h4
          (by simp only [List.size_toArray, List.length_append, List.length_drop, hol, Array.length_toList]; omega)
          (by rw [← hlen2]; exact List.take_left) rfl rfl rfl (by simp) (fun h _ hh => setRow_other w g h _ hh) (.inl hown) (by rw [h6]; exact Nat.le_refl _)
          (fun k hk => by
            rw [cell_setRow_same w g k cur _ e _ h2, cell_of_row w _ _ _ _ _ h2]
            have hk' : k < (cur.toList.take (rows.length * i.size)).length := by rw [hol]; omega
            rw [List.getElem?_toArray, List.append_assoc, List.getElem?_append_left hk', List.getElem?_take, if_pos (by omega)]
            simp) (by simpa using hgl) (.inr h1)
        exact ⟨_, _, γ', by rw [hv, h1]; exact hr, k1, k2, k3, k4⟩
      · have hr := Hgrow g rows.length cap (cur.toList.take (rows.length * i.size)) hpos hol hoc (by omega) (by omega) (growslice_fits (by omega) hb)
        have hge := grownCap_ge w (rows.length + ys.length) cap e
        have hcm := grownCap_le_maxLen w (rows.length + ys.length) cap e (by simp only [maxLen]; omega)
        have hlen2 : (cur.toList.take (rows.length * i.size) ++ news).length = (rows.length + ys.length) * i.size := by rw [List.length_append, hol, hnl, Nat.add_mul]
        have hym : 0 < ys.length := by omega
        obtain ⟨γ', k1, k2, k3, k4⟩ := append_fin (w' := w.drew.alloc (.cells ((cur.toList.take (rows.length * i.size)).toArray ++ news.toArray ++ Builtin.zeroCells z.cells (grownCap w (rows.length + ys.length) cap e - (rows.length + ys.length))) e))
          (g := w.heap.size) (cap := grownCap w (rows.length + ys.length) cap e) (olds := cur.toList.take (rows.length * i.size)) (news := news) hsz hs hD hu ha hn0 hol hnl hold hnr' (heap_alloc_new w.drew _) hge hcm
          (by simp only [Array.size_append, List.size_toArray, size_zeroCells, hzs, hnl, hol, ← Nat.add_mul]; congr 1; omega)
          (by simp only [Array.toList_append, List.append_assoc]; rw [← List.append_assoc, ← hlen2]; exact List.take_left)
          rfl rfl rfl (by simp) (fun h hh _ => heap_alloc_old w.drew _ h hh) (.inr rfl) (by rw [hs.inv.lt _ (Nat.le_refl _)]; exact Nat.zero_le _) (fun k hk => by rw [hs.inv.lt _ (Nat.le_refl _)] at hk; omega) (by simp) (.inl hym)
        exact ⟨_, _, γ', by rw [hv, h1]; exact hr, k1, k2, k3, k4⟩


/-- The second argument is a slice of data. -/
theorem appArg_sl {t ty e : TypeId} {i : TypeInfo} {z : Value} (ht : P.underlying t = some (.slice e)) (hi : P.info? e = some i) (hz : i.zero = some z) (hsz : 0 < i.size) {ys : List (List D)} {u : Value} (hu : RepD w γ.im (.sl i.size ys) u) :
    ∃ news, AppArg P w e i z γ.im (fun v => Builtin.append_ #[t, t] ty #[v, u]) ys news := by
  rcases slice_cells hsz hu with ⟨hy, ad, cc, rfl⟩ | ⟨g2, o2, cap2, news, rfl, hnl, hnc, hnr⟩
  · subst hy
    exact ⟨[], by simp, by simp, by simp, fun i' j d hd => by simp [at2] at hd,
      fun _ base n cap hn => append_run_none ht hi base n cap hn ad cc, fun h => by simp at h, fun _ _ _ _ h => by simp at h, fun _ _ _ _ h => by simp at h⟩
  · have hnews : ∀ j u, news[j]? = some u → w.cell? ((⟨g2, o2, none⟩ : Addr).add j) = some u := fun j u hu => by rw [add_pl]; exact (hnc j u hu).1
    have hone : ∀ u ∈ news, u.oneCell' = true := fun u hu => by obtain ⟨j, hj, rfl⟩ := List.mem_iff_getElem.1 hu; exact (hnc j _ (List.getElem?_eq_getElem hj)).2.2
    exact ⟨news, rows_len hu, hnl, hone, fun i' j d hd => by obtain ⟨u, h1, h2, _⟩ := hnr i' j d hd; exact ⟨u, h1, h2⟩,
        fun h base n cap hn => by rw [h]; exact append_run_none ht hi base n cap hn _ _,
        fun h1 h2 h3 => run_append_nil (P := P) w t ty e i z ht hi hz ⟨g2, o2, none⟩ ys.length cap2 news hnl hnews h1 (by omega) h2,
        fun g sLen sCap cur _ hg hroom hfit => run_append_room (P := P) w t ty e i ht hi g sLen sCap cur hg ⟨g2, o2, none⟩ ys.length cap2 news hnl hnews hone hroom hfit,
        fun g sLen sCap olds _ hol hoc hgr h63 hfits => run_append_grow (P := P) w t ty e i z ht hi hz ⟨g, 0, none⟩ sLen sCap olds hol (fun j u hu => by rw [add_pl, Nat.zero_add]; exact hoc j u hu)
          ⟨g2, o2, none⟩ ys.length cap2 news hnl hnews hgr (by omega) hfits⟩

open Go.Lib in
/-- The second argument is a string. -/
theorem appArg_str {t u ty e : TypeId} {i : TypeInfo} {z : Value} (ht : P.underlying t = some (.slice e)) (hu : P.underlying u = some .string) (hi : P.info? e = some i) (hz : i.zero = some z) (hs1 : i.size = 1) (s : ByteArray) (im : Nat → Nat) :
    ∃ news, AppArg P w e i z im (fun v => Builtin.append_ #[t, u] ty #[v, .string s]) (rowsS s) news := by
  have hl : (rowsS s).length = s.size := by rw [rowsS, List.length_map, Array.length_toList]; rfl
  have hnl : (strCells s).length = s.size := strCells_length s
  have hat : ∀ i' j d, at2 (rowsS s) i' j = some d → ∃ u, (strCells s)[i' * i.size + j]? = some u ∧ RepD w im d u := by
    intro i' j d hd
    obtain ⟨row, h1, h2⟩ := Option.bind_eq_some_iff.1 hd
    simp only [rowsS, List.getElem?_map, Option.map_eq_some_iff] at h1
    obtain ⟨b, h3, rfl⟩ := h1
    cases j with
    | zero =>
      simp at h2
      subst h2
      refine ⟨.int .u8 b.toNat, ?_, .int _ _⟩
      rw [hs1]
      simp only [strCells, Nat.mul_one, Nat.add_zero]
      simp [h3]
    | succ j => simp at h2
  refine ⟨strCells s, fun k row hk => by
        simp only [rowsS, List.getElem?_map, Option.map_eq_some_iff] at hk
        obtain ⟨b, _, rfl⟩ := hk
        rw [hs1]; rfl,
      by rw [hnl, hl, hs1, Nat.mul_one], strCells_oneCell s, hat, fun h base n cap hn => ?_, fun h1 h2 h3 => ?_, fun g sLen sCap cur hp hg hroom hfit => ?_, fun g sLen sCap olds hp hol hoc hgr h63 hfits => ?_⟩
  · have h0 : s.size = 0 := by rw [← hl]; exact h
    have hn' : n + 0 ≤ cap := by omega
    have hf := run_firstCells_string (P := P) (w := w) i.size s
    have hnil : strCells s = [] := List.eq_nil_of_length_eq_zero (by rw [hnl, h0])
    rw [h0, hnil] at hf
    cases base <;> simp [Builtin.append_, run_underlying ht, run_underlying hu, sizeOf, typeInfo, hi, Builtin.lenOf, h0, hn, hf, storeCells]
  · have := run_append_nil_string (P := P) (w := w) t u ty e i z ht hu hi hz s (by omega) (by omega) (by rw [hl] at h2; exact h2)
    rw [hl]
    rw [this]
    congr 3
    congr 1
    apply Array.ext'
    simp [strCells]
  · have := run_append_room_string (P := P) (w := w) t u ty e i ht hu hi hs1 g sLen sCap cur hg s (by omega) (by rw [hnl, hs1] at hfit; omega)
    rw [hl, hnl, hs1, Nat.mul_one]
    exact this
  · have := run_append_grow_string (P := P) (w := w) t u ty e i z ht hu hi hz ⟨g, 0, none⟩ sLen sCap olds hol (fun j u hu => by rw [add_pl, Nat.zero_add]; exact hoc j u hu) s (by omega) (by omega) (by rw [hl] at hfits; exact hfits)
    rw [hl]
    exact this

end
end Go.Av

set_option linter.unusedVariables false
set_option linter.unusedSimpArgs false
namespace Go.Av
open Go.RowKit
variable [TheProg]
set_option linter.unusedSectionVars false

section
variable {P : Program} {B : Nat} {n0 : Fr} {o : Oper} {a : Act} {w : World} {γ : G} {σ σ' : St} {c : C} {T : List C}

/-- What was there has not turned, and no block has come. -/
theorem keep_same (hs : Sat B n0 w γ σ) (γ' : G) (s : Nat) (hn0 : n0.hi ≤ s) (hS : ¬ Fil σ s) (him : ∀ g, γ'.im g = γ.im g) (hmu : ∀ n, n ≠ s → γ'.mu n = γ.mu n) (hlen : ∀ n, n ≠ s → γ'.len n = γ.len n)
    (htk : ∀ n, n ≠ s → γ'.tk n = γ.tk n) : Keep σ w γ w γ' ∧ Fn B n0 w γ w γ' := by
  have hne : ∀ n, Fil σ n → n ≠ s := fun n h e => hS (e ▸ h)
  have hlt : ∀ n, n < n0.hi → n ≠ s := fun n hn => by omega
  have hle := n0.le
  have hd : ExtD w γ.im w γ'.im := ⟨fun _ _ _ => rfl, fun g => by rw [him g]; exact Nat.le_refl _⟩
  exact ⟨⟨⟨hd, fun n hn => hmu n (hne n hn), fun n hn => by rw [hlen n (hne n hn)]; exact Nat.le_refl _, fun n hn _ => htk n (hne n hn)⟩, .refl _ _, fun g _ => him g, fun n hn => hlen n (hne n hn)⟩,
    ⟨⟨hd, fun n hn => hmu n (hlt n hn), fun n hn => by rw [hlen n (hlt n hn)]; exact Nat.le_refl _, fun n hn _ => htk n (hlt n hn)⟩, .refl _ _, fun g _ => him g, fun n hn => ⟨hlen n (hlt n (by omega)), htk n (hlt n (by omega))⟩, fun _ h => h, fun _ x h => ⟨x, h⟩⟩⟩

/-- A nil slice, with a token. -/
theorem nil_new (hs : Sat B n0 w γ σ) {s : Nat} (hh : σ[s]? = some none) (hn0 : n0.hi ≤ s) (e : TypeId) (sz : Nat) :
    ∃ γ', Fn B n0 w γ w γ' ∧ Ext (Fil σ) w γ w γ' ∧ Sat B n0 w γ' (σ.set s (some (.tok e sz 0))) ∧ RepC w γ' (Fil (σ.set s (some (.tok e sz 0)))) (.o sz [] s) (.slice none 0 0) := by
  have hS := hole_not_fil hh
  have hsl : s < σ.length := (List.getElem?_eq_some_iff.1 hh).1
  have him : ∀ g, (γ.tok s (.slice none 0 0) 0 w.heap.size 0).im g = γ.im g := by
    intro g
    by_cases h : g = w.heap.size
    · subst h; simp [G.tok, hs.inv.lt _ (Nat.le_refl _)]
    · simp [G.tok, h]
  obtain ⟨hk, hf⟩ := keep_same hs (γ.tok s (.slice none 0 0) 0 w.heap.size 0) s hn0 hS him (fun _ _ => rfl) (fun n hn => by simp [G.tok, hn]) (fun n hn => by simp [G.tok, hn])
  have hsat := hs.after hk (fun g hg => by rw [him]; exact hs.inv.lt g hg)
  exact ⟨_, hf, hk.ext, hsat.fill hh _ ⟨by simp [G.tok], .inl ⟨by simp [G.tok], rfl⟩⟩ (fun g hg => by simp [ownBlk, G.tok, blkOf] at hg), .o (.sl0 _ _ _ (fun _ => rfl)) ((fil_set hsl s).2 (.inl rfl)) (by simp) (fun _ => by simp [G.tok])⟩

/-- A new row of data, with a token. -/
theorem row_new (hs : Sat B n0 w γ σ) {s : Nat} (hh : σ[s]? = some none) (hn0 : n0.hi ≤ s) {e : TypeId} {sz : Nat} (hsz : 0 < sz) {rows : List (List D)} {xs : List Value} (hlen : ∀ (i : Nat) (row : List D), rows[i]? = some row → row.length = sz) (hxl : xs.length = rows.length * sz)
    (hr : ∀ i j d, at2 rows i j = some d → ∃ u, xs[i * sz + j]? = some u ∧ RepD w γ.im d u) (hm : rows.length ≤ maxLen) :
    ∃ γ', Fn B n0 w γ (w.alloc (.cells xs.toArray e)) γ' ∧ Ext (Fil σ) w γ (w.alloc (.cells xs.toArray e)) γ' ∧ Sat B n0 (w.alloc (.cells xs.toArray e)) γ' (σ.set s (some (.tok e sz rows.length))) ∧
      RepC (w.alloc (.cells xs.toArray e)) γ' (Fil (σ.set s (some (.tok e sz rows.length)))) (.o sz rows s) (.slice (some ⟨w.heap.size, 0, none⟩) rows.length rows.length) := by
  have hS := hole_not_fil hh
  have hsl : s < σ.length := (List.getElem?_eq_some_iff.1 hh).1
  generalize hγ : γ.tok s (.slice (some ⟨w.heap.size, 0, none⟩) rows.length rows.length) rows.length w.heap.size (rows.length * sz) = γ'
  have him : ∀ g, g ≠ w.heap.size → γ'.im g = γ.im g := by intro g h; rw [← hγ]; simp [G.tok, h]
  have himg : γ'.im w.heap.size = rows.length * sz := by rw [← hγ]; simp [G.tok]
  have hlen' : ∀ n, n ≠ s → γ'.len n = γ.len n ∧ γ'.tk n = γ.tk n := by intro n hn; rw [← hγ]; simp [G.tok, hn]
  have hmu : ∀ n, γ'.mu n = γ.mu n := by intro n; rw [← hγ]; rfl
  have htk : γ'.tk s = .slice (some ⟨w.heap.size, 0, none⟩) rows.length rows.length := by rw [← hγ]; simp [G.tok]
  have hln : γ'.len s = rows.length := by rw [← hγ]; simp [G.tok]
  clear hγ
  obtain ⟨hk, hf⟩ := keep_alloc hs (.cells xs.toArray e) γ' s hn0 hS (fun g hg => him g (by omega)) (fun n _ => hmu n) (fun n hn => (hlen' n hn).1) (fun n hn => (hlen' n hn).2)
  have hsat := hs.after hk (fun g hg => by simp at hg; rw [him g (by omega)]; exact hs.inv.lt g (by omega))
  have hcell : ∀ k u, xs[k]? = some u → (w.alloc (.cells xs.toArray e)).cell? ⟨w.heap.size, k, none⟩ = some u ∧ k < γ'.im w.heap.size := by
    intro k u hk
    refine ⟨by rw [World.cell?_alloc_new]; simpa using hk, ?_⟩
    rw [himg, ← hxl]; exact (List.getElem?_eq_some_iff.1 hk).1
  refine ⟨γ', hf, hk.ext, hsat.fill hh _ ?_ (fun g hg => ?_), .o (repD_mk (Nat.le_refl _) hlen hcell (fun i j d hd => ?_)) ((fil_set hsl s).2 (.inl rfl)) (by rw [hln]; exact Nat.le_refl _) (fun _ => htk.symm)⟩
  · exact ⟨hln, .inr ⟨w.heap.size, rows.length, xs.toArray, htk, heap_alloc_new w _, Nat.le_refl _, hm, by simp [hxl], himg⟩⟩
  · simp only [ownBlk, htk, blkOf, Option.some.injEq] at hg
    subst hg
    refine ⟨hs.B, fun n c' hn hg => ?_⟩
    rw [ownBlk_congr _ ⟨c', hn⟩ hk.ext (hk.out n ⟨c', hn⟩)] at hg
    have := (hs.inv.ob n c' hn).blk_lt hg
    omega
  · obtain ⟨u, h1, h2⟩ := hr i j d hd
    exact ⟨u, h1, h2.ext hk.ext.d⟩

/-- A new row of what is no data. -/
theorem crow_new (hs : Sat B n0 w γ σ) {e : TypeId} {sz : Nat} {rows : List (List C)} {xs : List Value} (hlen : ∀ (i : Nat) (row : List C), rows[i]? = some row → row.length = sz) (hxl : xs.length = rows.length * sz)
    (hr : ∀ i j c, at2 rows i j = some c → ∃ u, xs[i * sz + j]? = some u ∧ RepC w γ (Fil σ) c u) :
    ∃ γ', Fn B n0 w γ (w.alloc (.cells xs.toArray e)) γ' ∧ Ext (Fil σ) w γ (w.alloc (.cells xs.toArray e)) γ' ∧ Sat B n0 (w.alloc (.cells xs.toArray e)) γ' σ ∧
      RepC (w.alloc (.cells xs.toArray e)) γ' (Fil σ) (.csl sz rows) (.slice (some ⟨w.heap.size, 0, none⟩) rows.length rows.length) := by
  generalize hγ : ({ γ with im := fun g => if g = w.heap.size then rows.length * sz else γ.im g } : G) = γ'
  have him : ∀ g, g ≠ w.heap.size → γ'.im g = γ.im g := by intro g h; rw [← hγ]; simp [h]
  have himg : γ'.im w.heap.size = rows.length * sz := by rw [← hγ]; simp
  have hlen' : ∀ n, γ'.len n = γ.len n ∧ γ'.tk n = γ.tk n ∧ γ'.mu n = γ.mu n := by intro n; rw [← hγ]; exact ⟨rfl, rfl, rfl⟩
  clear hγ
  obtain ⟨hk, hf⟩ := keep_alloc hs (.cells xs.toArray e) γ' σ.length hs.n0 (fun h => Nat.lt_irrefl _ h.lt) (fun g hg => him g (by omega)) (fun n _ => (hlen' n).2.2) (fun n _ => (hlen' n).1) (fun n _ => (hlen' n).2.1)
  have hsat := hs.after hk (fun g hg => by simp at hg; rw [him g (by omega)]; exact hs.inv.lt g (by omega))
  refine ⟨γ', hf, hk.ext, hsat, .csl (fun i j => xs.getD (i * sz + j) undef) hlen (fun i j c hc => ?_) (fun i j c hc => ?_)⟩
  · obtain ⟨u, h1, h2⟩ := hr i j c hc
    rw [World.cell?_alloc_new, himg]
    have := (List.getElem?_eq_some_iff.1 h1).1
    refine ⟨?_, by omega⟩
    simp [List.getD_eq_getElem?_getD, h1]
  · obtain ⟨u, h1, h2⟩ := hr i j c hc
    simp only [List.getD_eq_getElem?_getD, h1, Option.getD_some]
    exact h2.ext hk.ext

/-! ### A slice's literal -/

theorem flatten_get {α : Type} {sz : Nat} : ∀ {rows : List (List α)}, (∀ (i : Nat) (row : List α), rows[i]? = some row → row.length = sz) → rows.flatten.length = rows.length * sz ∧
    ∀ i j x, at2 rows i j = some x → rows.flatten[i * sz + j]? = some x
  | [], h => ⟨by simp, fun i j x hx => by simp [at2] at hx⟩
  | r :: rows, h => by
    have h0 := h 0 r rfl
    obtain ⟨k1, k2⟩ := flatten_get (rows := rows) (fun i row hr => h (i + 1) row (by simpa using hr))
    refine ⟨by simp only [List.flatten_cons, List.length_append, List.length_cons, k1, h0, Nat.add_mul]; omega, fun i j x hx => ?_⟩
    cases i with
    | zero =>
      have hx' : r[j]? = some x := by simpa [at2] using hx
      have hj := (List.getElem?_eq_some_iff.1 hx').1
      rw [List.flatten_cons, List.getElem?_append_left (by omega)]
      simpa using hx'
    | succ i =>
      have hx' : at2 rows i j = some x := by simpa [at2] using hx
      rw [List.flatten_cons, List.getElem?_append_right (by rw [h0, Nat.add_mul]; omega), h0]
      rw [← k2 i j x hx']
      congr 1
      rw [Nat.add_mul]; omega

theorem fillC_flat {sz : Nat} : ∀ (rows : List (List C)) (k : Nat) (cs : List C), (∀ row ∈ rows, row.length = sz) → cs.length = (k + rows.length) * sz →
    fillC cs ((rows.zipIdx k).map fun (r, i) => (i * sz, r)) = some (cs.take (k * sz) ++ rows.flatten)
  | [], k, cs, h, hl => by
    simp only [List.zipIdx_nil, List.map_nil, fillC, List.flatten_nil, List.append_nil]
    rw [List.take_of_length_le (by rw [hl]; simp)]
  | r :: rows, k, cs, h, hl => by
    have h0 : r.length = sz := h r (by simp)
    simp only [List.zipIdx_cons, List.map_cons, fillC]
    have hk : k * sz + sz ≤ cs.length := by
      rw [hl, List.length_cons, show k + (rows.length + 1) = (k + 1) + rows.length by omega, Nat.add_mul, Nat.add_mul]; omega
    rw [if_pos (by omega), fillC_flat rows (k + 1) _ (fun row hr => h row (by simp [hr]))]
    · congr 1
      have e1 : (cs.take (k * sz) ++ r).length = (k + 1) * sz := by simp [h0, Nat.add_mul]; omega
      rw [← e1, List.take_left, List.flatten_cons, List.append_assoc]
    · simp only [List.length_append, List.length_take, List.length_drop, h0]
      rw [hl]
      simp only [List.length_cons] at hl ⊢
      have : (k + (rows.length + 1)) * sz = (k + 1 + rows.length) * sz := by congr 1; omega
      omega

end
end Go.Av

set_option linter.unusedVariables false
set_option linter.unusedSimpArgs false
namespace Go.Av
open Go.RowKit
variable [TheProg]
set_option linter.unusedSectionVars false

section
variable {P : Program} {B : Nat} {n0 : Fr} {o : Oper} {a : Act} {w : World} {γ : G} {σ σ' : St} {c : C} {T : List C}

theorem elemT_under {t e : TypeId} (h : elemT P t = some e) : P.underlying t = some (.slice e) := by
  unfold elemT at h
  split at h
  · rename_i e' h'; simp only [Option.some.injEq] at h; subst h; exact h'
  · cases h

theorem mapM_get {α β : Type} {f : α → Option β} : ∀ {l : List α} {r : List β}, l.mapM f = some r → r.length = l.length ∧ ∀ (i : Nat) (x : α), l[i]? = some x → ∃ y, f x = some y ∧ r[i]? = some y
  | [], r, h => by simp at h; subst h; exact ⟨rfl, fun i x hx => by simp at hx⟩
  | x :: xs, r, h => by
    simp only [List.mapM_cons, Option.bind_eq_bind, Option.pure_def, Option.bind_eq_some_iff] at h
    obtain ⟨y, hy, ys, hys, h⟩ := h
    simp only [Option.some.injEq] at h; subst h
    obtain ⟨k1, k2⟩ := mapM_get hys
    refine ⟨by simp [k1], fun i z hz => ?_⟩
    cases i with
    | zero => simp at hz; subst hz; exact ⟨y, hy, rfl⟩
    | succ i => exact k2 i z (by simpa using hz)

/-! ### Single operations -/

theorem slice_run {t e : TypeId} {sz : Nat} (ht : P.underlying t = some (.slice e)) (hsz : szT P e = some sz) {rows : List (List D)} {v : Value} (hv : RepD w γ.im (.sl sz rows) v)
    (lo hi : Option Value) (l h : Int) (hlo : (lo = none ∧ l = 0) ∨ ∃ k, lo = some (.int k l)) (hhi : (hi = none ∧ h = rows.length) ∨ ∃ k, hi = some (.int k h)) (h0 : 0 ≤ l) (h1 : l ≤ h) (h2 : h ≤ rows.length) :
    ∃ u, (Instr.sliceAt t v lo hi none).run P w = .ok u w ∧ RepD w γ.im (.sl sz ((rows.drop l.toNat).take (h.toNat - l.toNat))) u := by
  have core : ∀ (ad : Option Addr) (n cap : Nat), v = .slice ad n cap → n = rows.length → n ≤ cap → ∃ ad', (Instr.sliceAt t v lo hi none).run P w = .ok (.slice ad' (h.toNat - l.toNat) (cap - l.toNat)) w ∧ (ad' = ad ∧ cap = l.toNat ∨ ad' = ad.map (·.add (l.toNat * sz))) := by
    intro ad n cap hv hn hcap
    have hb : (Instr.sliceBounds true n cap lo hi none).run P w = .ok (l.toNat, h.toNat, cap) w := by
      have e1 : (h.toNat : Int) = h := Int.toNat_of_nonneg (by omega)
      rcases hlo with ⟨rfl, rfl⟩ | ⟨k, rfl⟩ <;> rcases hhi with ⟨rfl, rfl⟩ | ⟨k', rfl⟩
      · simp [Instr.sliceBounds, hn]
      · simp [Instr.sliceBounds, run_sliceBound (P := P) (w := w) k' h cap _ (by omega) (by omega)]
      · simp [Instr.sliceBounds, run_sliceBound (P := P) (w := w) k l n _ (by omega) (by omega), hn]
        rw [← hn, run_sliceBound (P := P) (w := w) k l n _ (by omega) (by omega)]
        simp
      · simp [Instr.sliceBounds, run_sliceBound (P := P) (w := w) k' h cap _ (by omega) (by omega), run_sliceBound (P := P) (w := w) k l h.toNat _ (by omega) (by omega)]
    subst hv
    refine ⟨if cap = l.toNat then ad else ad.map (·.add (l.toNat * sz)), ?_, ?_⟩
    · simp [Instr.sliceAt, Instr.slice, run_underlying ht, hb, sizeOf_run hsz]
    · split
      · exact .inl ⟨rfl, by assumption⟩
      · exact .inr rfl
  have hempty : (rows.drop l.toNat).take (h.toNat - l.toNat) = [] → ∀ (ad : Option Addr) (cap : Nat), (ad = none → cap = 0) → RepD w γ.im (.sl sz ((rows.drop l.toNat).take (h.toNat - l.toNat))) (.slice ad (h.toNat - l.toNat) cap) := by
    intro he ad cap hnc
    have hl : ((rows.drop l.toNat).take (h.toNat - l.toNat)).length = h.toNat - l.toNat := by simp; omega
    rw [he] at hl ⊢
    simp only [List.length_nil] at hl
    rw [← hl]
    exact .sl0 _ _ _ hnc
  cases hv with
  | sl0 _ ad cap hc =>
    obtain ⟨ad', hr, had⟩ := core ad 0 cap rfl rfl (Nat.zero_le _)
    exact ⟨_, hr, hempty (by simp) _ _ (fun hn => by
      rcases had with ⟨rfl, _⟩ | rfl
      · have := hc hn; omega
      · have := hc (by simpa using hn); omega)⟩
  | sl _ _ g o cap val hcap hlen hcell hrep =>
    obtain ⟨ad', hr, had⟩ := core (some ⟨g, o, none⟩) rows.length cap rfl rfl hcap
    refine ⟨_, hr, ?_⟩
    by_cases he : (rows.drop l.toNat).take (h.toNat - l.toNat) = []
    · exact hempty he _ _ (fun hn => by rcases had with ⟨rfl, _⟩ | rfl <;> simp at hn)
    · have hl : ((rows.drop l.toNat).take (h.toNat - l.toNat)).length = h.toNat - l.toNat := by simp; omega
      have hpos : 0 < h.toNat - l.toNat := by rw [← hl]; exact List.length_pos_iff.2 he
      rcases had with ⟨_, hc⟩ | had
      · omega
      · subst had
        simp only [Option.map_some, add_pl]
        have hat : ∀ i j d, at2 ((rows.drop l.toNat).take (h.toNat - l.toNat)) i j = some d → at2 rows (l.toNat + i) j = some d := by
          intro i j d hd
          simp only [at2, Option.bind_eq_some_iff] at hd ⊢
          obtain ⟨row, h1, h2⟩ := hd
          obtain ⟨_, h3⟩ := get_drop_take _ _ _ _ _ h1
          exact ⟨row, h3, h2⟩
        have hrows : ∀ (i : Nat) (row : List D), ((rows.drop l.toNat).take (h.toNat - l.toNat))[i]? = some row → row.length = sz := fun i row hrow => hlen _ _ (get_drop_take _ _ _ _ _ hrow).2
        generalize (rows.drop l.toNat).take (h.toNat - l.toNat) = rs at *
        rw [← hl]
        refine .sl sz rs g (o + l.toNat * sz) (cap - l.toNat) (fun i j => val (l.toNat + i) j) (by rw [hl]; omega) hrows (fun i j d hd => ?_) (fun i j d hd => hrep _ _ _ (hat i j d hd))
        have := hcell _ _ _ (hat i j d hd)
        rw [Nat.add_mul, ← Nat.add_assoc] at this
        exact this

theorem slices_run {t : TypeId} (ht : P.underlying t = some .string) {s : ByteArray} (lo hi : Option Value) (l h : Int) (hlo : (lo = none ∧ l = 0) ∨ ∃ k, lo = some (.int k l)) (hhi : (hi = none ∧ h = s.size) ∨ ∃ k, hi = some (.int k h))
    (h0 : 0 ≤ l) (h1 : l ≤ h) (h2 : h ≤ s.size) : (Instr.sliceAt t (.string s) lo hi none).run P w = .ok (.string (s.extract l.toNat h.toNat)) w := by
  have e1 : (h.toNat : Int) = h := Int.toNat_of_nonneg (by omega)
  have hb : (Instr.sliceBounds false s.size s.size lo hi none).run P w = .ok (l.toNat, h.toNat, s.size) w := by
    rcases hlo with ⟨rfl, rfl⟩ | ⟨k, rfl⟩ <;> rcases hhi with ⟨rfl, rfl⟩ | ⟨k', rfl⟩
    · simp [Instr.sliceBounds]
    · simp [Instr.sliceBounds, run_sliceBound (P := P) (w := w) k' h s.size _ (by omega) (by omega)]
    · simp [Instr.sliceBounds, run_sliceBound (P := P) (w := w) k l s.size _ (by omega) (by omega)]
    · simp [Instr.sliceBounds, run_sliceBound (P := P) (w := w) k' h s.size _ (by omega) (by omega), run_sliceBound (P := P) (w := w) k l h.toNat _ (by omega) (by omega)]
  simp [Instr.sliceAt, Instr.slice, run_underlying ht, hb]

theorem optO_run {x : Option Operand} {y : Option Opd} (h : optO P x = some y) {A : Nat → Prop} (hT : RepT w γ A T a.tmps) {d n : Int} (hn : boundN T d y = some n) :
    ((x.map a.eval) = none ∧ n = d) ∨ ∃ k, (x.map a.eval) = some (.int k n) := by
  cases x with
  | none => simp only [optO, Option.some.injEq] at h; subst h; simp [boundN] at hn; exact .inl ⟨rfl, hn.symm⟩
  | some x =>
    simp only [optO, Option.map_eq_some_iff] at h
    obtain ⟨z, hz, rfl⟩ := h
    obtain ⟨k, hk⟩ := natOf_rep hn (linkO_rep hz hT)
    exact .inr ⟨k, by simp [hk]⟩

theorem index_run {t : TypeId} (ht : P.underlying t = some .string) {s : ByteArray} {k : IntKind} {n : Int} (h : 0 ≤ n ∧ n.toNat < s.size) :
    (Instr.index t (.string s) (.int k n)).run P w = .ok (.int .u8 (s[n.toNat]'h.2).toNat) w := by
  simp [Instr.index, asIntOf, run_underlying ht, h.1, h.2]

theorem field_run {s : TypeId} {fs : Array Field} {i : Nat} {f : Field} {n : Nat} (hs : P.underlying s = some (.struct fs)) (hf : fs[i]? = some f) (hn : szT P f.type = some n) (hn0 : n ≠ 0) (b off : Nat) :
    (Instr.fieldAt s (.pointer (some ⟨b, off, none⟩)) i).run P w = .ok (.pointer (some ⟨b, off + f.offset, none⟩)) w := by
  simp [Instr.fieldAt, run_underlying hs, hf, Instr.sureAddr, fieldPlace, sizeOf_run hn, hn0, add_pl]

theorem fld_rep {A : Nat → Prop} {x c : C} {off : Nat} {v : Value} (h : (match x with | .ref m o => some (C.ref m (o + off)) | .elt row o => some (C.elt row (o + off)) | .celt row o => some (C.celt row (o + off)) | _ => none) = some c)
    (hx : RepC w γ A x v) : ∃ b k, v = .pointer (some ⟨b, k, none⟩) ∧ RepC w γ A c (.pointer (some ⟨b, k + off, none⟩)) := by
  cases hx with
  | ref hn => simp only [Option.some.injEq] at h; subst h; exact ⟨_, _, rfl, .ref hn⟩
  | elt hr => simp only [Option.some.injEq] at h; subst h; exact ⟨_, _, rfl, by rw [Nat.add_assoc]; exact .elt hr⟩
  | celt val h1 h2 => simp only [Option.some.injEq] at h; subst h; exact ⟨_, _, rfl, by rw [Nat.add_assoc]; exact .celt val h1 h2⟩
  | _ => simp at h

theorem alloc_run {t : TypeId} {i : TypeInfo} {z : Value} (hi : P.info? t = some i) (hz : i.zero = some z) : (Instr.alloc t true (.tuple #[])).run P w = .ok (.pointer (some ⟨w.heap.size, 0, none⟩)) (w.alloc (.cells z.cells t)) := by
  simp [Instr.alloc, zeroValue, typeInfo_run hi, hz, newVar, newRow]

theorem cvi_run {s d : TypeId} {k0 k k' : IntKind} {n : Int} (hs : P.underlying s = some (.int k0)) (hd : P.underlying d = some (.int k)) : (convert s d (.int k' n)).run P w = .ok (.int k (k.wrap n)) w := by
  simp [convert, run_underlying hs, run_underlying hd, Conv.intToInt]

theorem cvid_run {s d : TypeId} {x : ByteArray} (hs : P.underlying s = some .string) (hd : P.underlying d = some .string) : (convert s d (.string x)).run P w = .ok (.string x) w := by
  simp [convert, run_underlying hs, run_underlying hd]

theorem byteOf_some {row : List D} {n : Int} (h : byteOf row = some n) : row = [.int .u8 n] := by
  unfold byteOf at h
  split at h
  · simp only [Option.some.injEq] at h; rw [h]
  · cases h

theorem cvs_run {s d e : TypeId} (hs : P.underlying s = some (.slice e)) (hd : P.underlying d = some .string) (he : P.underlying e = some (.int .u8)) {rows : List (List D)} {v : Value} (hv : RepD w γ.im (.sl 1 rows) v)
    {b : ByteArray} (hb : bytesOf rows = some b) : (convert s d v).run P w = .ok (.string b) w := by
  obtain ⟨ns, hns, rfl⟩ := Option.map_eq_some_iff.1 hb
  obtain ⟨hl, hget⟩ := mapM_get hns
  rcases slice_cells (by omega) hv with ⟨hy, ad, cc, rfl⟩ | ⟨g, o, cap, news, rfl, hnl, hnc, hnr⟩
  · subst hy
    have : ns = [] := List.eq_nil_of_length_eq_zero (by simpa using hl)
    subst this
    cases ad with
    | none => simp [convert, run_underlying hs, run_underlying hd, run_underlying he, Conv.bytesToString]
    | some x =>
      have h0 : (loadCells x 0).run P w = .ok ((([] : List Int).map (Value.int .u8)).toArray) w := by
        have := run_loadCells_list (P := P) (w := w) x [] (fun j v h => by simp at h)
        simpa using this
      have := run_bytesToString (P := P) w x 0 cc [] h0
      simp only [convert, Sem.run_bind, run_underlying hs, run_underlying hd, run_underlying he, Result.andThen_ok, this]
  · have hnews : news = ns.map (Value.int .u8) := by
      apply List.ext_getElem?
      intro j
      by_cases hj : j < rows.length
      · obtain ⟨n, h1, h2⟩ := hget j rows[j] (List.getElem?_eq_getElem hj)
        have hrow := byteOf_some h1
        obtain ⟨u, hu, hr, _⟩ := hnr j 0 (.int .u8 n) (by simp [at2, List.getElem?_eq_getElem hj, hrow])
        simp only [Nat.mul_one, Nat.add_zero] at hu
        rw [hu, List.getElem?_map, h2]
        cases hr
        rfl
      · rw [List.getElem?_eq_none (by rw [hnl]; omega), List.getElem?_eq_none (by simp; omega)]
    have h0 : (loadCells ⟨g, o, none⟩ rows.length).run P w = .ok ((ns.map (Value.int .u8)).toArray) w := by
      have := run_loadCells_list (P := P) (w := w) ⟨g, o, none⟩ news (fun j u hu => by rw [add_pl]; exact (hnc j u hu).1)
      rw [hnl, Nat.mul_one, hnews] at this
      exact this
    have := run_bytesToString (P := P) w ⟨g, o, none⟩ rows.length cap ns h0
    simp only [convert, Sem.run_bind, run_underlying hs, run_underlying hd, run_underlying he, Result.andThen_ok, this]

theorem fold_run {f : Value → Value → Sem Value} {u : Value} {us : List Value} {r : Value} (h : (us.foldlM f u).run P w = .ok r w) : ((us.foldlM f u)).run P w = .ok r w := h

end
end Go.Av

set_option linter.unusedVariables false
set_option linter.unusedSimpArgs false
namespace Go.Av
open Go.RowKit
variable [TheProg]
set_option linter.unusedSectionVars false

section
variable {P : Program} {B : Nat} {n0 : Fr} {o : Oper} {a : Act} {w : World} {γ : G} {σ σ' : St} {c : C} {T : List C}

theorem ok_pure {q : Bool} {v : Value} (hs : Sat B n0 w γ σ) (hr : (execOp a.eval o).run P w = .ok (.value v) w) (hc : RepC w γ (Fil σ) c v) (he : σ' = σ) : OpOk P B n0 o a w γ σ c σ' q := by
  subst he; exact .pure hs hr hc

theorem OpOk.seq {b : Ob} (h : OpOk P B n0 o a w γ (σ ++ [none]) c ((σ ++ [none]).set σ.length (some b)) false) : OpOk P B n0 o a w γ σ c (σ ++ [some b]) false := by
  obtain ⟨v, w', γ', k1, k2, k3, k4, k5, k6, _⟩ := h
  have e : (σ ++ [none]).set σ.length (some b) = σ ++ [some b] := by simp
  rw [e] at k4 k5 k6
  have hf : ∀ n, Fil σ n → Fil (σ ++ [none]) n := fun n ⟨b, hb⟩ => ⟨b, by rw [List.getElem?_append_left (List.getElem?_eq_some_iff.1 hb).1]; exact hb⟩
  exact ⟨v, w', γ', k1, k2, k3.mono hf, k4, fun n hn => k5 n (hf n hn), k6, fun h => by cases h⟩

theorem hole_last (σ : St) : (σ ++ [(none : Option Ob)])[σ.length]? = some none := by simp

theorem fil_mono_set {s : Nat} (hh : σ[s]? = some none) (b : Ob) : ∀ n, Fil σ n → Fil (σ.set s (some b)) n := fun n hn => (fil_set (List.getElem?_eq_some_iff.1 hh).1 n).2 (.inr hn)

theorem box_okS {s : Nat} (hh : σ[s]? = some none) (hn0 : n0.hi ≤ s) {t : TypeId} {cs : List C} {vs : Array Value} (hs : Sat B n0 w γ σ) (hr : RepL w γ (Low (Fil σ) s) cs vs) (h1 : ∀ i, i < vs.size → (vs.getD i undef).oneCell' = true)
    (hx : (execOp a.eval o).run P w = .ok (.value (.pointer (some ⟨w.heap.size, 0, none⟩))) (w.alloc (.cells vs t))) : OpOk P B n0 o a w γ σ (.ref s 0) (σ.set s (some (.box t cs))) false := by
  obtain ⟨γ', k1, k2, k3, k4⟩ := box_new hs hh hn0 (t := t) hr.1 hr.2 h1
  refine ⟨_, _, γ', .inl hx, k1, k2, k3, fil_mono_set hh _, ?_, fun h => by cases h⟩
  rw [← k4]
  exact .ref ((fil_set (List.getElem?_eq_some_iff.1 hh).1 s).2 (.inl rfl))

theorem nil_okS {s : Nat} (hh : σ[s]? = some none) (hn0 : n0.hi ≤ s) {e : TypeId} {sz : Nat} (hs : Sat B n0 w γ σ) (hx : (execOp a.eval o).run P w = .ok (.value (.slice none 0 0)) w) :
    OpOk P B n0 o a w γ σ (.o sz [] s) (σ.set s (some (.tok e sz 0))) false := by
  obtain ⟨γ', k1, k2, k3, k4⟩ := nil_new hs hh hn0 e sz
  exact ⟨_, w, γ', .inl hx, k1, k2, k3, fil_mono_set hh _, k4, fun h => by cases h⟩

theorem row_okS {s : Nat} (hh : σ[s]? = some none) (hn0 : n0.hi ≤ s) (hs : Sat B n0 w γ σ) {e : TypeId} {sz : Nat} (hsz : 0 < sz) {rows : List (List D)} {xs : List Value} (hlen : ∀ (i : Nat) (row : List D), rows[i]? = some row → row.length = sz) (hxl : xs.length = rows.length * sz)
    (hr : ∀ i j d, at2 rows i j = some d → ∃ u, xs[i * sz + j]? = some u ∧ RepD w γ.im d u) (hm : rows.length ≤ maxLen)
    (hx : (execOp a.eval o).run P w = .ok (.value (.slice (some ⟨w.heap.size, 0, none⟩) rows.length rows.length)) (w.alloc (.cells xs.toArray e))) :
    OpOk P B n0 o a w γ σ (.o sz rows s) (σ.set s (some (.tok e sz rows.length))) false := by
  obtain ⟨γ', k1, k2, k3, k4⟩ := row_new hs hh hn0 (e := e) hsz hlen hxl hr hm
  exact ⟨_, _, γ', .inl hx, k1, k2, k3, fil_mono_set hh _, k4, fun h => by cases h⟩

theorem low_of_fil (n : Nat) (h : Fil σ n) : Low (Fil (σ ++ [none])) σ.length n := ⟨h.lt, by obtain ⟨b, hb⟩ := h; exact ⟨b, by rw [List.getElem?_append_left (List.getElem?_eq_some_iff.1 hb).1]; exact hb⟩⟩

theorem box_ok {t : TypeId} {cs : List C} {vs : Array Value} (hs : Sat B n0 w γ σ) (hr : RepL w γ (Fil σ) cs vs) (h1 : ∀ i, i < vs.size → (vs.getD i undef).oneCell' = true)
    (hx : (execOp a.eval o).run P w = .ok (.value (.pointer (some ⟨w.heap.size, 0, none⟩))) (w.alloc (.cells vs t))) : OpOk P B n0 o a w γ σ (.ref σ.length 0) (σ ++ [some (.box t cs)]) false :=
  (box_okS (hole_last σ) hs.n0 hs.hole.1 ⟨hr.1, fun i c hc => (hr.2 i c hc).mono low_of_fil⟩ h1 hx).seq

theorem nil_ok {e : TypeId} {sz : Nat} (hs : Sat B n0 w γ σ) (hx : (execOp a.eval o).run P w = .ok (.value (.slice none 0 0)) w) : OpOk P B n0 o a w γ σ (.o sz [] σ.length) (σ ++ [some (.tok e sz 0)]) false :=
  (nil_okS (hole_last σ) hs.n0 hs.hole.1 hx).seq

theorem row_ok (hs : Sat B n0 w γ σ) {e : TypeId} {sz : Nat} (hsz : 0 < sz) {rows : List (List D)} {xs : List Value} (hlen : ∀ (i : Nat) (row : List D), rows[i]? = some row → row.length = sz) (hxl : xs.length = rows.length * sz)
    (hr : ∀ i j d, at2 rows i j = some d → ∃ u, xs[i * sz + j]? = some u ∧ RepD w γ.im d u) (hm : rows.length ≤ maxLen)
    (hx : (execOp a.eval o).run P w = .ok (.value (.slice (some ⟨w.heap.size, 0, none⟩) rows.length rows.length)) (w.alloc (.cells xs.toArray e))) :
    OpOk P B n0 o a w γ σ (.o sz rows σ.length) (σ ++ [some (.tok e sz rows.length)]) false :=
  (row_okS (hole_last σ) hs.n0 hs.hole.1 hsz hlen hxl hr hm hx).seq

theorem all_one {A : Nat → Prop} {cs : List C} {vs : Array Value} (h : RepL w γ A cs vs) (h1 : cs.all C.one = true) : ∀ i, i < vs.size → (vs.getD i undef).oneCell' = true := by
  intro i hi
  have hi' : i < cs.length := by rw [← h.1]; exact hi
  exact (h.2 i cs[i] (List.getElem?_eq_getElem hi')).one (List.all_eq_true.1 h1 _ (List.getElem_mem hi'))

theorem parts_rep {A : Nat → Prop} (hT : RepT w γ A T a.tmps) {fs : Array Field} {places : List (Nat × Nat)} (hpl : fs.toList.mapM (fun f => (P.info? f.type).map fun i => (f.offset, i.size)) = some places) :
    ∀ {parts : List (Nat × Operand)} {ps : List (Nat × Nat × Opd)} {qs : List (Nat × List C)}, linkParts P fs parts = some ps →
      ps.mapM (fun (off, n, x) => match evO T x with
        | .agg cs => if cs.length = n then some (off, cs) else none
        | .tup _ => none
        | c => if n = 1 && c.one then some (off, [c]) else none) = some qs →
      RepP w γ A (places.toArray[·]?) (parts.map fun (i, x) => (i, a.eval x)) qs
  | [], ps, qs, h, hq => by
    simp only [linkParts, Option.some.injEq] at h; subst h
    simp at hq; subst hq; exact .nil
  | (i, x) :: parts, ps, qs, h, hq => by
    simp only [linkParts] at h
    split at h
    · rename_i f hf
      split at h
      · rename_i y n ys h1 h2 h3
        simp only [Option.some.injEq] at h; subst h
        simp only [List.mapM_cons, Option.bind_eq_bind, Option.pure_def, Option.bind_eq_some_iff] at hq
        obtain ⟨q, hq1, qs', hq2, hq3⟩ := hq
        simp only [Option.some.injEq] at hq3; subst hq3
        have hx := linkO_rep h1 hT
        obtain ⟨i', hi', hsz⟩ := Option.map_eq_some_iff.1 h2
        have hplace : ∀ m, m = n → (places.toArray)[i]? = some (f.offset, m) := by
          intro m hm
          have hf' : fs.toList[i]? = some f := by simpa using hf
          obtain ⟨p, hp1, hp2⟩ := (mapM_get hpl).2 i f hf'
          simp only [hi', Option.map_some, Option.some.injEq] at hp1
          rw [hm, ← hsz, hp1]; simpa using hp2
        split at hq1
        · rename_i cs he
          split at hq1
          · rename_i hl
            simp only [Option.some.injEq] at hq1; subst hq1
            rw [he] at hx
            exact .cons (hplace _ hl) (agg_repL hx) (parts_rep hT hpl h3 hq2)
          · cases hq1
        · cases hq1
        · split at hq1
          · rename_i hl
            simp only [Bool.and_eq_true, decide_eq_true_eq] at hl
            simp only [Option.some.injEq] at hq1; subst hq1
            exact .cons (hplace _ (by simp [hl.1])) (one_repL hx (hx.one hl.2)) (parts_rep hT hpl h3 hq2)
          · cases hq1
      · cases h
    · cases h

theorem elems_rep {A : Nat → Prop} (hT : RepT w γ A T a.tmps) {e : TypeId} {sz : Nat} :
    ∀ {parts : List (Nat × Operand)} {k : Nat} {xs : List Opd} {rows : List (List C)}, linkElems P e k parts = some xs →
      xs.mapM (fun x => match evO T x with
        | .agg cs => if cs.length = sz && cs.all C.one then some cs else none
        | c => if sz = 1 && c.one then some [c] else none) = some rows →
      xs.length = parts.length ∧ (∀ row ∈ rows, row.length = sz ∧ row.all C.one = true) ∧ RepP w γ A (fun i => some (i * sz, sz)) (parts.map fun (i, x) => (i, a.eval x)) ((rows.zipIdx k).map fun (r, i) => (i * sz, r)) ∧ rows.length = parts.length
  | [], k, xs, rows, h, hq => by
    simp only [linkElems, Option.some.injEq] at h; subst h
    simp at hq; subst hq; exact ⟨rfl, fun row hr => by simp at hr, .nil, rfl⟩
  | (j, x) :: parts, k, xs, rows, h, hq => by
    simp only [linkElems] at h
    split at h
    · rename_i hkj
      subst hkj
      split at h
      · rename_i y ys h1 h2
        simp only [Option.some.injEq] at h; subst h
        simp only [List.mapM_cons, Option.bind_eq_bind, Option.pure_def, Option.bind_eq_some_iff] at hq
        obtain ⟨q, hq1, qs', hq2, hq3⟩ := hq
        simp only [Option.some.injEq] at hq3; subst hq3
        have hx := linkO_rep h1 hT
        obtain ⟨k1, k2, k3, k4⟩ := elems_rep hT h2 hq2
        have fin : RepL w γ A q (a.eval x).cells → q.length = sz → q.all C.one = true → (y :: ys).length = ((k, x) :: parts).length ∧ (∀ row ∈ q :: qs', row.length = sz ∧ row.all C.one = true) ∧
            RepP w γ A (fun i => some (i * sz, sz)) (((k, x) :: parts).map fun (i, x) => (i, a.eval x)) (((q :: qs').zipIdx k).map fun (r, i) => (i * sz, r)) ∧ (q :: qs').length = ((k, x) :: parts).length := by
          intro hr hl ho
          refine ⟨by simp [k1], fun row hrow => ?_, .cons (by rw [hl]) hr k3, by simp [k4]⟩
          rcases List.mem_cons.1 hrow with rfl | hrow
          · exact ⟨hl, ho⟩
          · exact k2 row hrow
        split at hq1
        · rename_i cs he
          split at hq1
          · rename_i hl
            simp only [Bool.and_eq_true, decide_eq_true_eq] at hl
            simp only [Option.some.injEq] at hq1; subst hq1
            rw [he] at hx
            exact fin (agg_repL hx) hl.1 hl.2
          · cases hq1
        · split at hq1
          · rename_i hl
            simp only [Bool.and_eq_true, decide_eq_true_eq] at hl
            simp only [Option.some.injEq] at hq1; subst hq1
            exact fin (one_repL hx (hx.one hl.2)) (by simp [hl.1]) (by simp [hl.2])
          · cases hq1
      · cases h
    · cases h

theorem bsl_run {t e : TypeId} {sz len : Nat} {i : TypeInfo} {z : Value} {parts : Array (Nat × Value)} {cells : Array Value} (ht : P.underlying t = some (.slice e)) (hi : P.info? e = some i) (hsz : i.size = sz) (hz : i.zero = some z)
    (hle : len * sz ≤ 16777216) (hf : Instr.fill (fun i => some (i * sz, sz)) ((Array.range (len * sz)).map (fun k => (if len * sz = 0 then #[] else z.cells)[k % (if len * sz = 0 then #[] else z.cells).size]!)) parts.toList = some cells) :
    (Instr.buildSlice t len parts).run P w = .ok (.slice (some ⟨w.heap.size, 0, none⟩) len len) (w.alloc (.cells cells e)) := by
  have hn : ¬ (len * sz > 2 ^ 24) := by omega
  subst hsz
  by_cases h0 : len * i.size = 0
  · rw [if_pos h0] at hf
    unfold Instr.buildSlice
    simp only [Sem.run_bind, run_underlying ht, Result.andThen_ok, sizeOf, typeInfo_run hi, Sem.run_pure, if_neg hn, if_pos h0]
    rw [hf]
    simp [newRow]
  · rw [if_neg h0] at hf
    unfold Instr.buildSlice
    simp only [Sem.run_bind, run_underlying ht, Result.andThen_ok, sizeOf, typeInfo_run hi, Sem.run_pure, if_neg hn, if_neg h0, zeroValue, hz]
    rw [hf]
    simp [newRow]

theorem store_val {A : Nat → Prop} {x : C} {xs : List C} {v : Value} (h : (match x with | .agg xs => some xs | .tup _ => none | c => some [c]) = some xs) (h1 : xs.all C.one = true) (hx : RepC w γ A x v) : RepL w γ A xs v.cells := by
  cases x with
  | agg cs => simp only [Option.some.injEq] at h; subst h; exact agg_repL hx
  | tup cs => simp at h
  | _ =>
    simp only [Option.some.injEq] at h; subst h
    simp only [List.all_cons, List.all_nil, Bool.and_true] at h1
    exact one_repL hx (hx.one h1)

end
end Go.Av

set_option linter.unusedVariables false
set_option linter.unusedSimpArgs false
namespace Go.Av
open Go.RowKit
variable [TheProg]
set_option linter.unusedSectionVars false

theorem strEq_beq (a b : ByteArray) : strEq a b = (a == b) := by
  show (a.data.toList == b.data.toList) = (a.data == b.data)
  rw [Bool.eq_iff_iff, beq_iff_eq, beq_iff_eq]
  exact Array.toList_inj

section
variable {P : Program} {B : Nat} {n0 : Fr} {o : Oper} {a : Act} {w w0 : World} {γ γ0 : G} {σ σ' : St} {c : C} {T : List C}

/-- An object that is no row of cells is made. -/
theorem ctl_new (hs : Sat B n0 w γ σ) (ob : Obj) (b : Ob) (hob : ∀ γ' : G, ownBlk γ' σ.length (some b) = some (γ'.mu σ.length))
    (hinv : ∀ γ' : G, γ'.im (γ'.mu σ.length) = 0 → γ'.mu σ.length = w.heap.size → InvOb (w.alloc ob) γ' (Fil (σ ++ [some b])) σ.length b) :
    ∃ γ', Fn B n0 w γ (w.alloc ob) γ' ∧ Ext (Fil σ) w γ (w.alloc ob) γ' ∧ Sat B n0 (w.alloc ob) γ' (σ ++ [some b]) ∧ γ'.mu σ.length = w.heap.size := by
  obtain ⟨hs1, hfil⟩ := hs.hole
  have hh : (σ ++ [none])[σ.length]? = some none := hole_last σ
  have hS := hole_not_fil hh
  obtain ⟨hk, hf⟩ := keep_alloc hs1 ob (γ.name σ.length w.heap.size) σ.length hs.n0 hS (fun _ _ => rfl) (fun n hn => by simp [G.name, hn]) (fun _ _ => rfl) (fun _ _ => rfl)
  have hsat := hs1.after hk (fun g hg => by have := hs.inv.lt g (by simp at hg; omega); exact this)
  have hmu : (γ.name σ.length w.heap.size).mu σ.length = w.heap.size := by simp [G.name]
  have e1 : ∀ b : Ob, (σ ++ [none]).set σ.length (some b) = σ ++ [some b] := fun b => by simp
  have hsl : σ.length < (σ ++ [none] : St).length := by simp
  refine ⟨γ.name σ.length w.heap.size, hf, hk.ext.mono fun n h => (hfil n).2 h, ?_, hmu⟩
  rw [← e1]
  refine hsat.fill hh _ ?_ (fun g hg => ?_)
  · rw [e1]
    exact hinv _ (by rw [hmu]; exact hs.inv.lt _ (Nat.le_refl _)) hmu
  · rw [hob, hmu] at hg
    simp only [Option.some.injEq] at hg
    subst hg
    refine ⟨hs.B, fun n c' hn hg => ?_⟩
    rw [ownBlk_congr _ ⟨c', hn⟩ hk.ext (hk.out n ⟨c', hn⟩)] at hg
    have := (hs1.inv.ob n c' hn).blk_lt hg
    omega

/-- Such an object is turned. -/
theorem ctl_upd (hs : Sat B n0 w γ σ) {m : Nat} {b b' : Ob} (hm : σ[m]? = some (some b)) (hn0 : n0.lo ≤ m) (hob : ownBlk γ m (some b) = some (γ.mu m)) (hob' : ownBlk γ m (some b') = some (γ.mu m)) (h0 : γ.im (γ.mu m) = 0)
    {ob ob' : Obj} (hr : w.heap[γ.mu m]? = some ob) (hnd : ∀ ds, ob ≠ .deferred ds) (hnl : ∀ l, ob ≠ .loop l)
    (hnew : (∀ A : Nat → Prop, Ext A w γ (w.putObj (γ.mu m) ob') γ) → (w.putObj (γ.mu m) ob').heap[γ.mu m]? = some ob' → InvOb (w.putObj (γ.mu m) ob') γ (Fil σ) m b') :
    Fn B n0 w γ (w.putObj (γ.mu m) ob') γ ∧ Ext (Fil σ) w γ (w.putObj (γ.mu m) ob') γ ∧ Sat B n0 (w.putObj (γ.mu m) ob') γ (σ.set m (some b')) ∧ ∀ k, Fil (σ.set m (some b')) k ↔ Fil σ k := by
  have hl := heap_lt hr
  have hblk : ∀ k, k ≠ γ.mu m → (w.putObj (γ.mu m) ob').heap[k]? = w.heap[k]? := fun k hk => World.putObj_heap_other hk
  have hsame : (w.putObj (γ.mu m) ob').heap[γ.mu m]? = some ob' := World.putObj_heap_same hl
  have hext : ∀ A : Nat → Prop, Ext A w γ (w.putObj (γ.mu m) ob') γ := by
    refine fun A => ⟨⟨fun g i hi => ?_, fun _ => Nat.le_refl _⟩, fun _ _ => rfl, fun _ _ => Nat.le_refl _, fun _ _ _ => rfl⟩
    have : g ≠ γ.mu m := by rintro rfl; omega
    exact World.cell?_of_block (w := w) (a := ⟨g, i, none⟩) (hblk g this)
  have hBm : B ≤ γ.mu m := hs.own m _ _ hn0 hm hob
  have hfn : Fn B n0 w γ (w.putObj (γ.mu m) ob') γ := ⟨hext _, ⟨rfl, rfl, rfl, by simp, fun k hk => hblk k (by omega)⟩, fun _ _ => rfl, fun _ _ => ⟨rfl, rfl⟩,
    fun k hk => (hblk k (by rintro rfl; rw [hr] at hk; exact hnd _ (Option.some.inj hk))).trans hk, fun k x hk => ⟨x, (hblk k (by rintro rfl; rw [hr] at hk; exact hnl _ (Option.some.inj hk))).trans hk⟩⟩
  obtain ⟨j1, j2⟩ := hs.upd (b' := b') hm hn0 (hext _) (by simp) (fun _ _ _ => rfl) (fun g hg hne => ⟨hblk g (fun e => hne (by rw [hob, e])), rfl⟩)
    (hnew hext hsame) (fun g hg => .inl (by rw [hob, ← hg, hob'])) (fun g hg => hs.inv.lt g (by simpa using hg))
  exact ⟨hfn, hext _, j1, j2⟩

/-! ### Maps -/

/-- Entries. -/
def RepE (w : World) (γ : G) (A : Nat → Prop) (es : List (D × C)) (ms : List MapEntry) : Prop :=
  ms.length = es.length ∧ ∀ (i : Nat) (k : D) (c : C), es[i]? = some (k, c) → ∃ e, ms[i]? = some e ∧ RepD w γ.im k e.key ∧ RepC w γ A c e.val

theorem repE_of {A : Nat → Prop} {es : List (D × C)} {ms : Array MapEntry} (hl : ms.size = es.length) (h : ∀ (i : Nat) (k : D) (c : C), es[i]? = some (k, c) → RepD w γ.im k ((ms.getD i default).key) ∧ RepC w γ A c ((ms.getD i default).val)) :
    RepE w γ A es ms.toList := by
  refine ⟨by simpa using hl, fun i k c hc => ?_⟩
  have hi : i < ms.size := by rw [hl]; exact (List.getElem?_eq_some_iff.1 hc).1
  have := h i k c hc
  refine ⟨ms[i], by simp [hi], ?_⟩
  simpa [Array.getD_eq_getD_getElem?, hi] using this

/-- The kind of keys. -/
def kindOf (ki : Bool) (kind : TypeDesc) : Prop := (ki = true ∧ ∃ q, kind = .int q) ∨ (ki = false ∧ kind = .string)

theorem sameNow_of {ki : Bool} {kind : TypeDesc} {im : Nat → Nat} {k k' : D} {v v' : Value} {t : Bool} (hk : kindOf ki kind) (hi : isKey ki k = true) (h : keyEq k k' = some t) (h1 : RepD w im k v) (h2 : RepD w im k' v') :
    Instr.sameNow kind v v' = some t := by
  rcases hk with ⟨rfl, q0, rfl⟩ | ⟨rfl, rfl⟩
  · cases k <;> simp [isKey] at hi
    cases k' <;> simp only [keyEq] at h <;> try (cases h; done)
    cases h1; cases h2
    exact h
  · cases k <;> simp [isKey] at hi
    cases k' <;> simp only [keyEq] at h <;> try (cases h; done)
    cases h1; cases h2
    simp only [Instr.sameNow, ← h, strEq_beq]

theorem keyEq_sym {k k' : D} {t : Bool} {ki : Bool} (hi : isKey ki k = true) (h : keyEq k k' = some t) : isKey ki k' = true := by
  cases ki <;> cases k <;> simp [isKey] at hi <;> cases k' <;> simp [keyEq] at h <;> rfl

theorem findNow_of {ki : Bool} {kind : TypeDesc} {A : Nat → Prop} {k : D} {v : Value} (hk : kindOf ki kind) (hi : isKey ki k = true) (h1 : RepD w γ.im k v) :
    ∀ (es : List (D × C)) (ms : List MapEntry) (i : Nat) (r : Option (Nat × C)), RepE w γ A es ms → findK es k i = some r →
      ∃ r', Instr.findNow kind v ms i = some r' ∧ (match r, r' with
        | none, none => True
        | some (j, c), some (j', u) => j' = j ∧ RepC w γ A c u ∧ ∃ k0 e, i ≤ j ∧ es[j - i]? = some (k0, c) ∧ keyEq k k0 = some true ∧ ms[j - i]? = some e ∧ RepD w γ.im k0 e.key
        | _, _ => False)
  | [], ms, i, r, hr, h => by
    have : ms = [] := by simpa using hr.1
    subst this
    simp only [findK, Option.some.injEq] at h
    subst h
    exact ⟨none, rfl, trivial⟩
  | (k', c) :: es, ms, i, r, hr, h => by
    obtain ⟨hl, hr⟩ := hr
    cases ms with
    | nil => simp at hl
    | cons e ms =>
      obtain ⟨e', he, hd, hc⟩ := hr 0 k' c rfl
      simp at he; subst he
      simp only [findK] at h
      split at h
      · rename_i hq
        simp only [Option.some.injEq] at h
        subst h
        have := sameNow_of hk hi hq h1 hd
        exact ⟨some (i, e.val), by simp only [Instr.findNow, this], rfl, hc, k', e, Nat.le_refl _, by simp, hq, by simp, hd⟩
      · rename_i hq
        have := sameNow_of hk hi hq h1 hd
        obtain ⟨r', q1, q2⟩ := findNow_of (A := A) hk hi h1 es ms (i + 1) r ⟨by simpa using hl, fun j k2 c2 hj => hr (j + 1) k2 c2 (by simpa using hj)⟩ h
        refine ⟨r', by simp only [Instr.findNow, this]; exact q1, ?_⟩
        rcases r with _ | ⟨j, c2⟩ <;> rcases r' with _ | ⟨j', u⟩ <;> try exact q2
        obtain ⟨q3, q4, k0, e0, q5, q6, q7, q8, q9⟩ := q2
        have e9 : j - i = (j - (i + 1)) + 1 := by omega
        exact ⟨q3, q4, k0, e0, by omega, by rw [e9]; simpa using q6, q7, by rw [e9]; simpa using q8, q9⟩
      · cases h

theorem keyT_kind {kt : TypeId} {ki : Bool} (h : keyT P kt = some ki) : ∃ kind, P.underlying kt = some kind ∧ kindOf ki kind := by
  unfold keyT at h
  split at h
  · rename_i q hq; simp only [Option.some.injEq] at h; subst h; exact ⟨_, hq, .inl ⟨rfl, q, rfl⟩⟩
  · rename_i hq; simp only [Option.some.injEq] at h; subst h; exact ⟨_, hq, .inr ⟨rfl, rfl⟩⟩
  · cases h

theorem checkKey_run {ki : Bool} {kt : TypeId} {kind : TypeDesc} (h : P.underlying kt = some kind) (hk : kindOf ki kind) (e : Bool) (v : Value) : (Instr.checkKey e 10000 kt v).run P w = .ok () w := by
  show (Instr.checkKey e (9999 + 1) kt v).run P w = .ok () w
  unfold Instr.checkKey
  simp only [Sem.run_bind, run_underlying h, Result.andThen_ok]
  rcases hk with ⟨_, q, rfl⟩ | ⟨_, rfl⟩ <;> simp

theorem findKey_run {ki : Bool} {kt : TypeId} {kind : TypeDesc} (h : P.underlying kt = some kind) {k : Value} {es : List MapEntry} {r : Option (Nat × Value)} (hf : Instr.findNow kind k es 0 = some r) : (Instr.findKey kt k es).run P w = .ok r w := by
  unfold Instr.findKey
  simp only [Sem.run_bind, run_underlying h, Result.andThen_ok, hf, Sem.run_pure]

theorem sameBits_key {ki : Bool} {k k0 : D} {v v0 : Value} {im : Nat → Nat} (hi : isKey ki k = true) (h : keyEq k k0 = some true) (h1 : RepD w im k v) (h2 : RepD w im k0 v0) : Instr.sameBits 10000 v0 v = true := by
  show Instr.sameBits (9999 + 1) v0 v = true
  cases ki <;> cases k <;> simp [isKey] at hi <;> cases k0 <;> simp [keyEq] at h <;> cases h1 <;> cases h2
  · simp only [Instr.sameBits]
    unfold strEq at h
    rename_i s s0
    have : s = s0 := ByteArray.ext (Array.toList_inj.mp (by simpa using h))
    subst this
    show (s.data == s.data) = true
    simp
  · obtain ⟨rfl, rfl⟩ := h
    simp [Instr.sameBits]

theorem obj_map {n : Nat} {es : List (D × C)} (hi : Inv w γ σ) (hm : σ[n]? = some (some (.map es))) :
    γ.im (γ.mu n) = 0 ∧ ∃ (ms : Array MapEntry) (ck : Nat), w.heap[γ.mu n]? = some (.map ms ck) ∧ ms.size = es.length ∧ MapKept.Stamped ms ck ∧ RepE w γ (Low (Fil σ) n) es ms.toList := by
  obtain ⟨h0, ms, ck, h1, h2, hst, h3⟩ := hi.ob n _ hm
  exact ⟨h0, ms, ck, h1, h2, hst, repE_of h2 h3⟩

theorem keyEq_ne {im : Nat → Nat} {k k0 : D} {v v0 : Value} (h : keyEq k k0 = some false) (h1 : RepD w im k v) (h2 : RepD w im k0 v0) : v0 ≠ v := by
  unfold keyEq at h
  split at h
  · split at h
    · cases h1; cases h2
      simp only [Option.some.injEq, beq_eq_false_iff_ne] at h
      intro e; simp only [Value.int.injEq] at e; exact h e.2.symm
    · cases h
  · cases h1; cases h2
    simp only [Option.some.injEq, strEq, beq_eq_false_iff_ne] at h
    intro e; simp only [Value.string.injEq] at e; exact h (by rw [e])
  · cases h

theorem keyEq_eq {im : Nat → Nat} {k k0 : D} {v v0 : Value} (h : keyEq k k0 = some true) (h1 : RepD w im k v) (h2 : RepD w im k0 v0) : v = v0 := by
  unfold keyEq at h
  split at h
  · split at h
    · rename_i e; subst e; cases h1; cases h2
      simp only [Option.some.injEq, beq_iff_eq] at h
      rw [h]
    · cases h
  · cases h1; cases h2
    simp only [Option.some.injEq, strEq, beq_iff_eq] at h
    rename_i a b
    obtain ⟨⟨a⟩⟩ := a
    obtain ⟨⟨b⟩⟩ := b
    simp only at h
    rw [h]
  · cases h

theorem keys_ne {A : Nat → Prop} {k : D} {v : Value} (h1 : RepD w γ.im k v) : ∀ (es : List (D × C)) (ms : List MapEntry) (i : Nat), RepE w γ A es ms → findK es k i = some none → ∀ x ∈ ms, x.key ≠ v
  | [], ms, i, hr, _, x, hx => by
    have : ms = [] := by simpa using hr.1
    subst this; cases hx
  | (k', c) :: es, ms, i, hr, h, x, hx => by
    obtain ⟨hl, hr⟩ := hr
    cases ms with
    | nil => cases hx
    | cons e ms =>
      obtain ⟨e', he, hd, hc⟩ := hr 0 k' c rfl
      simp at he; subst he
      simp only [findK] at h
      split at h
      · cases h
      · rename_i hq
        rcases List.mem_cons.1 hx with rfl | hx
        · exact keyEq_ne hq h1 hd
        · exact keys_ne (A := A) h1 es ms (i + 1) ⟨by simpa using hl, fun j k2 c2 hj => hr (j + 1) k2 c2 (by simpa using hj)⟩ h x hx
      · cases h

theorem getMap_run {r : Nat} {es : Array MapEntry} {ck : Nat} (h : w.heap[r]? = some (.map es ck)) : (getObj r).run P w = .ok (.map es ck) w := by simp [getObj, Sem.run, h]
theorem setMap_run {r : Nat} {es : Array MapEntry} {ck : Nat} (ob : Obj) (h : w.heap[r]? = some (.map es ck)) : (setObj r ob).run P w = .ok () (w.putObj r ob) := by simp [setObj, Sem.run, h, World.putObj]

theorem look_run {ki ok : Bool} {t kt et : TypeId} {kd : D} {kv z : Value} {i0 : TypeInfo} {n : Nat} {es : List (D × C)} {r : Option (Nat × C)} (ht : P.underlying t = some (.map kt et)) (hk : keyT P kt = some ki) (hz : P.info? et = some i0) (hz1 : i0.zero = some z)
    (hi : Inv w γ σ) (hm : σ[n]? = some (some (.map es))) (hf : findK es kd 0 = some r) (hki : isKey ki kd = true) (hkv : RepD w γ.im kd kv) {zc : C} (hzc : RepC w γ (Fil σ) zc z) :
    ∃ v, (Instr.lookup t (.map (some (γ.mu n))) kv ok).run P w = .ok v w ∧ RepC w γ (Fil σ) (lookC ok zc r) v := by
  obtain ⟨h0, ms, ck, h1, h2, hst, h3⟩ := obj_map hi hm
  obtain ⟨kind, hkk, hkind⟩ := keyT_kind hk
  obtain ⟨r', hf', hr⟩ := findNow_of hkind hki hkv es ms.toList 0 r h3 hf
  have hfk := findKey_run (ki := ki) (w := w) hkk hf'
  unfold Instr.lookup
  simp only [Sem.run_bind, run_underlying ht, Result.andThen_ok, getMap_run h1, Sem.run_pure, checkKey_run hkk hkind, hfk]
  rcases r with _ | ⟨j, c⟩ <;> rcases r' with _ | ⟨j', u⟩ <;> try exact hr.elim
  · simp only [Sem.run_bind, zeroValue, typeInfo_run hz, Result.andThen_ok, hz1, Sem.run_pure]
    cases ok
    · exact ⟨_, rfl, hzc⟩
    · refine ⟨_, rfl, .tup _ rfl fun i c hc => ?_⟩
      match i with
      | 0 => simp at hc; subst hc; exact hzc
      | 1 => simp at hc; subst hc; exact .d (.bool _)
      | i + 2 => simp at hc
  · obtain ⟨_, hc, _⟩ := hr
    have hc := hc.mono (A' := Fil σ) fun _ h => h.2
    simp only [Sem.run_pure, Result.andThen_ok]
    cases ok
    · exact ⟨_, rfl, hc⟩
    · refine ⟨_, rfl, .tup _ rfl fun i c hc' => ?_⟩
      match i with
      | 0 => simp at hc'; subst hc'; exact hc
      | 1 => simp at hc'; subst hc'; exact .d (.bool _)
      | i + 2 => simp at hc'

theorem mset_run {ki : Bool} {t kt et : TypeId} {kd : D} {kv xv : Value} {n : Nat} {es : List (D × C)} {r : Option (Nat × C)} {x : C} (ht : P.underlying t = some (.map kt et)) (hk : keyT P kt = some ki)
    (hs : Sat B n0 w γ σ) (hm : σ[n]? = some (some (.map es))) (hn0 : n0.lo ≤ n) (hf : findK es kd 0 = some r) (hki : isKey ki kd = true) (hkv : RepD w γ.im kd kv) (hx : RepC w γ (Fil σ) x xv) (hlt : C.lt n x = true) :
    ∃ w', (Instr.mapUpdate t (.map (some (γ.mu n))) kv xv).run P w = .ok () w' ∧ Fn B n0 w γ w' γ ∧ Ext (Fil σ) w γ w' γ ∧ Sat B n0 w' γ (σ.set n (some (.map (putK es kd x r)))) ∧ ∀ k, Fil (σ.set n (some (.map (putK es kd x r)))) k ↔ Fil σ k := by
  obtain ⟨h0, ms, ck, h1, h2, hst, h3⟩ := obj_map hs.inv hm
  obtain ⟨kind, hkk, hkind⟩ := keyT_kind hk
  obtain ⟨r', hf', hr⟩ := findNow_of hkind hki hkv es ms.toList 0 r h3 hf
  have hfk := findKey_run (ki := ki) (w := w) hkk hf'
  have hxl := hx.lt hlt
  have fin : ∀ (ms' : Array MapEntry) (ck' : Nat), ms'.size = (putK es kd x r).length → MapKept.Stamped ms' ck' → RepE w γ (Low (Fil σ) n) (putK es kd x r) ms'.toList →
      Fn B n0 w γ (w.putObj (γ.mu n) (.map ms' ck')) γ ∧ Ext (Fil σ) w γ (w.putObj (γ.mu n) (.map ms' ck')) γ ∧ Sat B n0 (w.putObj (γ.mu n) (.map ms' ck')) γ (σ.set n (some (.map (putK es kd x r)))) ∧ ∀ k, Fil (σ.set n (some (.map (putK es kd x r)))) k ↔ Fil σ k := by
    intro ms' ck' hl hst' hE
    refine ctl_upd hs hm hn0 rfl rfl h0 h1 (by intro _ h; cases h) (by intro _ h; cases h) (fun hext hh => ⟨h0, ms', ck', hh, hl, hst', fun i k c hc => ?_⟩)
    obtain ⟨e, he, hd, hcc⟩ := hE.2 i k c hc
    have hi : i < ms'.size := by
      have := (List.getElem?_eq_some_iff.1 he).1; simpa using this
    have he' : ms'[i] = e := by simpa [hi] using he
    have : ms'.getD i default = e := by simp [Array.getD_eq_getD_getElem?, hi, he']
    rw [this]
    exact ⟨hd.ext (hext (Fil σ)).d, hcc.ext (hext _)⟩
  unfold Instr.mapUpdate
  simp only [Sem.run_bind, run_underlying ht, Result.andThen_ok, getMap_run h1, checkKey_run hkk hkind, hfk]
  rcases r with _ | ⟨j, c⟩ <;> rcases r' with _ | ⟨j', u⟩ <;> try exact hr.elim
  · refine ⟨w.putObj (γ.mu n) (.map (ms.push { key := kv, val := xv, born := ck }) (ck + 1)), by simp [setMap_run _ h1], fin _ _ (by simp [putK, h2]) (MapKept.stamped_push hst (keys_ne hkv es ms.toList 0 h3 hf)) ⟨by simp [putK, h3.1, h2], fun i k c hc => ?_⟩⟩
    simp only [putK] at hc
    rcases Nat.lt_or_ge i es.length with hi | hi
    · rw [List.getElem?_append_left hi] at hc
      obtain ⟨e, he, hd, hcc⟩ := h3.2 i k c hc
      refine ⟨e, ?_, hd, hcc⟩
      rw [Array.toList_push, List.getElem?_append_left (by simpa [h2] using hi)]
      exact he
    · rw [List.getElem?_append_right hi] at hc
      have : i = es.length := by
        have := (List.getElem?_eq_some_iff.1 hc).1; simp at this; omega
      subst this
      simp at hc
      obtain ⟨rfl, rfl⟩ := hc
      exact ⟨⟨kv, xv, ck⟩, by simp [← h2], hkv, hxl⟩
  · obtain ⟨rfl, hc, k0, e0, _, q1, q2, q3, q4⟩ := hr
    simp only [Nat.sub_zero] at q1 q3
    have hjl : j' < ms.size := by have := (List.getElem?_eq_some_iff.1 q3).1; simpa using this
    have hej : ms[j'] = e0 := by simpa [hjl] using q3
    have hsb := sameBits_key hki q2 hkv q4
    refine ⟨w.putObj (γ.mu n) (.map (ms.modify j' fun e => { e with key := kv, val := xv }) ck), ?_, fin _ _ (by simp [putK, h2]) (MapKept.stamped_modify hst _ _ (fun _ _ => rfl) (fun e1 _ he1 => by
      have h9 : ms[j']? = some e0 := by simpa using q3
      rw [h9] at he1; cases he1
      exact keyEq_eq q2 hkv q4)) ⟨by simp [putK, h2], fun i k c' hc' => ?_⟩⟩
    · simp [Instr.keyThatStays, hjl, hej, hsb, setMap_run _ h1]
    · simp only [putK] at hc'
      by_cases e : j' = i
      · subst e
        rw [List.getElem?_set_self (by rw [← h2]; exact hjl)] at hc'
        simp only [Option.some.injEq, Prod.mk.injEq] at hc'
        obtain ⟨rfl, rfl⟩ := hc'
        exact ⟨{ ms[j'] with key := kv, val := xv }, by simp [Array.getElem?_modify, hjl], hkv, hxl⟩
      · rw [List.getElem?_set_ne e] at hc'
        obtain ⟨e1, he, hd, hcc⟩ := h3.2 i k c' hc'
        refine ⟨e1, ?_, hd, hcc⟩
        have : ms.toList[i]? = ms[i]? := by simp
        rw [this] at he
        simp [Array.getElem?_modify, e, he]

/-! ### Parts of values; elements of arrays -/

theorem part_run {t : TypeId} {g : Bool} {n off : Nat} (hg : aggT P t = some g) (hn : szT P t = some n) (hgn : g = true ∨ n = 1) {A : Nat → Prop} {cs : List C} {vs : Array Value} (h : RepL w γ A cs vs) (hle : off + n ≤ cs.length)
    (hc : aggOf g ((cs.drop off).take n) = some c) : ∃ v, (part t vs off).run P w = .ok v w ∧ RepC w γ A c v := by
  unfold part
  simp only [Sem.run_bind, isAgg_run hg, Result.andThen_ok]
  cases g with
  | true =>
    simp only [if_true, Sem.run_bind, sizeOf_run hn, Result.andThen_ok, Sem.run_pure]
    simp only [aggOf, if_true, Option.some.injEq] at hc
    subst hc
    have hvl : off + n ≤ vs.size := by rw [h.1]; exact hle
    refine ⟨_, rfl, .agg _ (by simp; omega) fun i c hc => ?_⟩
    obtain ⟨h1, h2⟩ := get_drop_take _ _ _ _ _ hc
    have := h.2 _ _ h2
    have e1 : off + i < vs.size := by omega
    have e2 : (vs.extract off (off + n))[i]? = some vs[off + i] := by
      rw [Array.getElem?_extract]
      rw [if_pos (by omega)]
      simp [e1]
    simpa [Array.getD_eq_getD_getElem?, e1, e2] using this
  | false =>
    have hn1 : n = 1 := by rcases hgn with h | h; · cases h
                           · exact h
    subst hn1
    simp only [aggOf, Bool.false_eq_true, if_false] at hc
    split at hc
    · rename_i c' hcc
      simp only [Option.some.injEq] at hc
      subst hc
      have h0 : ((cs.drop off).take 1)[0]? = some c' := by rw [hcc]; rfl
      obtain ⟨_, h2⟩ := get_drop_take _ _ _ _ _ h0
      have e1 : off < vs.size := by rw [h.1]; omega
      have := h.2 _ _ h2
      simp only [Bool.false_eq_true, if_false]
      refine ⟨vs[off], by simp [e1], ?_⟩
      simpa [Array.getD_eq_getD_getElem?, e1] using this
    · cases hc

theorem fldC_rep {A : Nat → Prop} {x c : C} {off : Nat} {v : Value} (h : fldC off x = some c) (hx : RepC w γ A x v) : ∃ b k, v = .pointer (some ⟨b, k, none⟩) ∧ RepC w γ A c (.pointer (some ⟨b, k + off, none⟩)) := by
  cases hx with
  | ref hn => simp only [fldC, Option.some.injEq] at h; subst h; exact ⟨_, _, rfl, .ref hn⟩
  | elt hr => simp only [fldC, Option.some.injEq] at h; subst h; exact ⟨_, _, rfl, by rw [Nat.add_assoc]; exact .elt hr⟩
  | celt val h1 h2 => simp only [fldC, Option.some.injEq] at h; subst h; exact ⟨_, _, rfl, by rw [Nat.add_assoc]; exact .celt val h1 h2⟩
  | _ => simp [fldC] at h

theorem indexA_run {t e : TypeId} {len sz : Nat} (ht : P.underlying t = some (.array len e)) (hsz : szT P e = some sz) {q : IntKind} {k : Int} (h0 : 0 ≤ k ∧ k < len) (b off : Nat) :
    (Instr.indexAt t (.pointer (some ⟨b, off, none⟩)) (.int q k)).run P w = .ok (.pointer (some ⟨b, off + k.toNat * sz, none⟩)) w := by
  simp [Instr.indexAt, asIntOf, run_underlying ht, Instr.sureAddr, h0.1, h0.2, sizeOf_run hsz, add_pl]

theorem partsA_rep {A : Nat → Prop} (hT : RepT w γ A T a.tmps) {e : TypeId} {n : Nat} :
    ∀ {parts : List (Nat × Operand)} {xs : List (Nat × Opd)} {qs : List (Nat × List C)}, linkElemsA P e parts = some xs →
      (xs.map fun x => (x.1 * n, n, x.2)).mapM (fun (off, n, x) => match evO T x with
        | .agg cs => if cs.length = n then some (off, cs) else none
        | .tup _ => none
        | c => if n = 1 && c.one then some (off, [c]) else none) = some qs →
      RepP w γ A (fun i => some (i * n, n)) (parts.map fun (i, x) => (i, a.eval x)) qs
  | [], xs, qs, h, hq => by
    simp only [linkElemsA, Option.some.injEq] at h; subst h
    simp at hq; subst hq; exact .nil
  | (i, x) :: parts, xs, qs, h, hq => by
    simp only [linkElemsA] at h
    split at h
    · rename_i y ys h1 h3
      simp only [Option.some.injEq] at h; subst h
      simp only [List.map_cons, List.mapM_cons, Option.bind_eq_bind, Option.pure_def, Option.bind_eq_some_iff] at hq
      obtain ⟨q, hq1, qs', hq2, hq3⟩ := hq
      simp only [Option.some.injEq] at hq3; subst hq3
      have hx := linkO_rep h1 hT
      split at hq1
      · rename_i cs he
        split at hq1
        · rename_i hl
          simp only [Option.some.injEq] at hq1; subst hq1
          rw [he] at hx
          exact .cons (by rw [hl]) (agg_repL hx) (partsA_rep hT h3 hq2)
        · cases hq1
      · cases hq1
      · split at hq1
        · rename_i hl
          simp only [Bool.and_eq_true, decide_eq_true_eq] at hl
          simp only [Option.some.injEq] at hq1; subst hq1
          exact .cons (by simp [hl.1]) (one_repL hx (hx.one hl.2)) (partsA_rep hT h3 hq2)
        · cases hq1
    · cases h

/-! ### Strings, rune by rune -/

theorem nxt_run {n : Nat} {s : ByteArray} {pos : Nat} (hs : Sat B n0 w γ σ) (hm : σ[n]? = some (some (.siter s pos))) (hn0 : n0.lo ≤ n) (hp : pos < s.size) (t : TypeId) :
    ∃ w', (Instr.next (.pointer (some ⟨γ.mu n, 0, none⟩)) true t).run P w = .ok (.tuple #[.bool true, .int .i64 pos, .int .i32 (Utf8.decode s pos).1]) w' ∧ Fn B n0 w γ w' γ ∧ Ext (Fil σ) w γ w' γ ∧
      Sat B n0 w' γ (σ.set n (some (.siter s (pos + (Utf8.decode s pos).2)))) ∧ ∀ k, Fil (σ.set n (some (.siter s (pos + (Utf8.decode s pos).2)))) k ↔ Fil σ k := by
  obtain ⟨h0, h1⟩ := hs.inv.ob n _ hm
  obtain ⟨u1, u2, u3, u4⟩ := ctl_upd hs (b' := .siter s (pos + (Utf8.decode s pos).2)) (ob' := .stringIter s (pos + (Utf8.decode s pos).2)) hm hn0 rfl rfl h0 h1 (by intro _ h; cases h) (by intro _ h; cases h) (fun hext hh => ⟨h0, hh⟩)
  refine ⟨_, ?_, u1, u2, u3, u4⟩
  have hg : (getObj (γ.mu n)).run P w = .ok (.stringIter s pos) w := by simp [getObj, Sem.run, h1]
  have hse : ∀ ob : Obj, (setObj (γ.mu n) ob).run P w = .ok () (w.putObj (γ.mu n) ob) := fun ob => by simp [setObj, Sem.run, h1, World.putObj]
  unfold Instr.next
  simp only [Sem.run_bind, hg, Result.andThen_ok]
  rw [if_pos hp]
  simp [hse, goInt]

theorem over_run {n : Nat} {s : ByteArray} {pos : Nat} (hi : Inv w γ σ) (hm : σ[n]? = some (some (.siter s pos))) (hp : ¬ pos < s.size) (t : TypeId) :
    (Instr.next (.pointer (some ⟨γ.mu n, 0, none⟩)) true t).run P w = .ok (.tuple #[.bool false]) w := by
  obtain ⟨h0, h1⟩ := hi.ob n _ hm
  have hg : (getObj (γ.mu n)).run P w = .ok (.stringIter s pos) w := by simp [getObj, Sem.run, h1]
  unfold Instr.next
  simp only [Sem.run_bind, hg, Result.andThen_ok]
  rw [if_neg hp]
  simp

/-! ### Equality -/

theorem nilC_rep {A : Nat → Prop} {x : C} {v : Value} {b : Bool} (h : nilC x = some b) (hx : RepC w γ A x v) : ∃ p n c, v = .slice p n c ∧ p.isNone = b := by
  unfold nilC at h
  split at h
  · simp only [Option.some.injEq] at h; subst h; cases hx; exact ⟨_, _, _, rfl, rfl⟩
  · simp only [Option.some.injEq] at h; subst h; cases hx; exact ⟨_, _, _, rfl, rfl⟩
  · simp only [Option.some.injEq] at h; subst h; cases hx with | d hx => cases hx; exact ⟨_, _, _, rfl, rfl⟩
  · simp only [Option.some.injEq] at h; subst h; cases hx with | o hx => cases hx; exact ⟨_, _, _, rfl, rfl⟩
  · cases h

theorem isn_run {t e : TypeId} (ht : P.underlying t = some (.slice e)) (neg : Bool) (p : Option Addr) (n c : Nat) (x y : Operand) :
    (do eqGuard (if neg then .neq else .eql) t x y (.slice p n c) (.slice none 0 0); binOp (if neg then .neq else .eql) t (.slice p n c) (.slice none 0 0) : Sem Value).run P w = .ok (.bool (p.isNone != neg)) w := by
  have he : (Op.equal t (.slice p n c) (.slice none 0 0)).run P w = .ok p.isNone w := by
    show (Op.equalIn (9999 + 1) t (.slice p n c) (.slice none 0 0)).run P w = _
    unfold Op.equalIn
    simp only [Sem.run_bind, run_underlying ht, Result.andThen_ok]
    cases p <;> simp
  cases neg
  · simp [eqGuard, binOp, he]
  · simp [eqGuard, binOp, he]

theorem eqCell_run {A : Nat → Prop} {k : Nat} {c d : C} {u v : Value} {b : Bool} {t : TypeId} (h : eqCell k c d = some b) (hk : (k = 0 ∧ ∃ q, P.underlying t = some (.int q)) ∨ (k = 1 ∧ P.underlying t = some .string) ∨ (k = 2 ∧ P.underlying t = some .bool))
    (hc : RepC w γ A c u) (hd : RepC w γ A d v) (n : Nat) : (Op.equalIn (n + 1) t u v).run P w = .ok b w := by
  rcases hk with ⟨rfl, q, hq⟩ | ⟨rfl, hq⟩ | ⟨rfl, hq⟩
  · unfold eqCell at h
    split at h <;> try (cases h; done)
    · rename_i k1 a k2 b'
      split at h
      · rename_i e
        subst e
        simp only [Option.some.injEq] at h
        subst h
        cases hc with | d hc => cases hd with | d hd => cases hc; cases hd; exact run_equalIn_int w n t _ q _ _ hq
      · cases h
    all_goals simp_all
  · unfold eqCell at h
    split at h <;> try (cases h; done)
    all_goals try (simp_all; done)
    rename_i a b' _ 
    simp only [Option.some.injEq] at h
    subst h
    cases hc with | d hc => cases hd with | d hd => cases hc; cases hd; rw [run_equalIn_string w n t _ _ hq]; simp [strEq, ByteArray.toList_eq]
  · unfold eqCell at h
    split at h <;> try (cases h; done)
    all_goals try (simp_all; done)
    simp only [Option.some.injEq] at h
    subst h
    cases hc with | d hc => cases hd with | d hd => cases hc; cases hd; exact run_equalIn_bool' w n t _ _ hq

theorem eqFields_run {A : Nat → Prop} {cs0 ds0 : List C} {us vs : Array Value} (hu : RepL w γ A cs0 us) (hv : RepL w γ A ds0 vs) (n : Nat) : ∀ (fs : List Field) (i : Nat) (ks : List Nat) (cs ds : List C) (b : Bool), flatT P i fs = some ks → cs0.drop i = cs → ds0.drop i = ds → eqCells ks cs ds = some b →
    (Op.eqFields (n + 1) us vs fs).run P w = .ok b w
  | [], i, ks, cs, ds, b, hf, hc, hd, h => by
    simp only [flatT, Option.some.injEq] at hf
    subst hf
    cases cs <;> cases ds <;> simp [eqCells] at h
    subst h
    simp [Op.eqFields]
  | f :: fs, i, ks, cs, ds, b, hf, hc, hd, h => by
    simp only [flatT] at hf
    split at hf
    · rename_i hfo
      obtain ⟨hoff, hname⟩ := hfo
      obtain ⟨k, ks', rfl, hk, hks⟩ : ∃ k ks', ks = k :: ks' ∧ ((k = 0 ∧ ∃ q, P.underlying f.type = some (.int q)) ∨ (k = 1 ∧ P.underlying f.type = some .string) ∨ (k = 2 ∧ P.underlying f.type = some .bool)) ∧ flatT P (i + 1) fs = some ks' := by
        split at hf
        · rename_i q ks' h1 h2; simp only [Option.some.injEq] at hf; exact ⟨0, ks', hf.symm, .inl ⟨rfl, q, h1⟩, h2⟩
        · rename_i ks' h1 h2; simp only [Option.some.injEq] at hf; exact ⟨1, ks', hf.symm, .inr (.inl ⟨rfl, h1⟩), h2⟩
        · rename_i ks' h1 h2; simp only [Option.some.injEq] at hf; exact ⟨2, ks', hf.symm, .inr (.inr ⟨rfl, h1⟩), h2⟩
        · cases hf
      cases cs with
      | nil => simp [eqCells] at h
      | cons c cs =>
        cases ds with
        | nil => simp [eqCells] at h
        | cons d ds =>
          simp only [eqCells] at h
          split at h
          · rename_i a b' h1 h2
            simp only [Option.some.injEq] at h
            have hci : cs0[i]? = some c := by
              have := congrArg (·[0]?) hc; simpa using this
            have hdi : ds0[i]? = some d := by
              have := congrArg (·[0]?) hd; simpa using this
            have hci' : cs0.drop (i + 1) = cs := by rw [← List.tail_drop, hc]; rfl
            have hdi' : ds0.drop (i + 1) = ds := by rw [← List.tail_drop, hd]; rfl
            have hul : i < us.size := by rw [hu.1]; exact (List.getElem?_eq_some_iff.1 hci).1
            have hvl : i < vs.size := by rw [hv.1]; exact (List.getElem?_eq_some_iff.1 hdi).1
            have hcu := hu.2 i c hci
            have hdv := hv.2 i d hdi
            have hg : aggT P f.type = some false := by
              rcases hk with ⟨_, q, hq⟩ | ⟨_, hq⟩ | ⟨_, hq⟩ <;> simp [aggT, hq]
            have hp1 : (part f.type us f.offset).run P w = .ok (us.getD i undef) w := by
              unfold part
              simp only [Sem.run_bind, isAgg_run hg, Result.andThen_ok, Bool.false_eq_true, if_false, hoff]
              simp [Array.getD_eq_getD_getElem?, hul]
            have hp2 : (part f.type vs f.offset).run P w = .ok (vs.getD i undef) w := by
              unfold part
              simp only [Sem.run_bind, isAgg_run hg, Result.andThen_ok, Bool.false_eq_true, if_false, hoff]
              simp [Array.getD_eq_getD_getElem?, hvl]
            have he := eqCell_run (P := P) (t := f.type) h1 hk hcu hdv n
            have ih := eqFields_run hu hv n fs (i + 1) ks' cs ds b' hks hci' hdi' h2
            simp only [Op.eqFields]
            rw [if_pos hname]
            simp only [Sem.run_bind, hp1, hp2, he, Result.andThen_ok]
            cases a
            · simp at h; subst h; simp
            · simp at h; subst h; simpa using ih
          · cases h
    · cases hf

theorem eqa_run {A : Nat → Prop} {t : TypeId} {fs : Array Field} {ks : List Nat} {cs ds : List C} {us vs : Array Value} {b : Bool} (ht : P.underlying t = some (.struct fs)) (h1 : P.stoodInHeld t = false) (h2 : P.eqGuardType P.depth t = false) (hf : flatT P 0 fs.toList = some ks)
    (hu : RepL w γ A cs us) (hv : RepL w γ A ds vs) (h : eqCells ks cs ds = some b) (neg : Bool) (x y : Operand) :
    (do eqGuard (if neg then .neq else .eql) t x y (.agg us) (.agg vs); binOp (if neg then .neq else .eql) t (.agg us) (.agg vs) : Sem Value).run P w = .ok (.bool (b != neg)) w := by
  have hfs : P.fieldsOf t = fs := by simp [Program.fieldsOf, ht]
  have he : (Op.equalIn 10000 t (.agg us) (.agg vs)).run P w = .ok b w := by
    show (Op.equalIn (9999 + 1) t (.agg us) (.agg vs)).run P w = _
    rw [run_equalIn_struct w 9999 t us vs (by rw [hfs]; exact ht) h1, hfs]
    exact eqFields_run hu hv 9998 fs.toList 0 ks cs ds b hf rfl rfl h
  simp only [Sem.run_bind, run_eqGuard_agg w _ t x y us vs h2, Result.andThen_ok]
  cases neg
  · simp only [Bool.false_eq_true, if_false, run_eql_struct, he, Result.andThen_ok]; simp
  · simp only [if_true, run_neq_struct, he, Result.andThen_ok]; simp

theorem eqb_run {t : TypeId} (ht : P.underlying t = some .bool) (neg u v : Bool) (x y : Operand) :
    (do eqGuard (if neg then .neq else .eql) t x y (.bool u) (.bool v); binOp (if neg then .neq else .eql) t (.bool u) (.bool v) : Sem Value).run P w = .ok (.bool ((u == v) != neg)) w := by
  have he : (Op.equal t (.bool u) (.bool v)).run P w = .ok (u == v) w := by
    show (Op.equalIn (9999 + 1) t (.bool u) (.bool v)).run P w = _
    exact run_equalIn_bool' w 9999 t u v ht
  cases neg
  · simp [eqGuard, binOp, he]
  · simp [eqGuard, binOp, he]

end
end Go.Av

set_option linter.unusedVariables false
set_option linter.unusedSimpArgs false
namespace Go.Av
open Go.RowKit
variable [TheProg]
set_option linter.unusedSectionVars false

section
variable {P : Program} {B : Nat} {n0 : Fr} {o : Oper} {a : Act} {w : World} {γ : G} {σ σ' : St} {c : C} {T : List C}

/-- What an append is read from. -/
theorem linkOp_app {str : Bool} {e : TypeId} {sz bytes : Nat} {px py : Opd} (h : linkOp P o = some (.app str e sz bytes px py)) :
    ∃ (x y : Operand) (t t' : TypeId) (i : TypeInfo) (z : Value), o.op = .call { callee := .builtin .append, args := #[x, y], argTypes := #[t, t'] } ∧ P.underlying t = some (.slice e) ∧ P.info? e = some i ∧ i.zero = some z ∧ z.cells.size = i.size ∧ sz = i.size ∧ bytes = i.bytes ∧
      linkO P t x = some px ∧ linkO P t' y = some py ∧ ((str = false ∧ t = t') ∨ (str = true ∧ P.underlying t' = some .string ∧ i.size = 1)) := by
  obtain ⟨cl, hop⟩ : ∃ cl, o.op = .call cl := by
    unfold linkOp at h
    split at h <;> first
      | exact ⟨_, by assumption⟩
      | (exfalso; revert h; repeat' split
         all_goals simp)
      | (exfalso; simp at h; done)
      | (exfalso; obtain ⟨_, _, he⟩ := Option.map_eq_some_iff.1 h; cases he)
  simp only [linkOp, hop] at h
  split at h
  · exfalso; revert h; repeat' split
    all_goals simp
  · exfalso; obtain ⟨_, _, he⟩ := Option.map_eq_some_iff.1 h; cases he
  · exfalso; obtain ⟨_, _, he⟩ := Option.map_eq_some_iff.1 h; cases he
  · rename_i hcal
    split at h
    · rename_i ox oy t t' hargs htys
      have hcl : cl = { callee := .builtin .append, args := #[ox, oy], argTypes := #[t, t'] } := by
        cases cl
        simp only [Call.mk.injEq]
        simp only at hcal hargs htys
        exact ⟨hcal, by rw [← hargs], by rw [← htys]⟩
      split at h
      · rename_i e1 ht
        split at h
        · rename_i i px py hi hx hy
          split at h
          · rename_i zv hz
            split at h
            · rename_i hzs
              split at h
              · rename_i htt
                simp only [Option.some.injEq, AOp.app.injEq] at h
                obtain ⟨rfl, rfl, rfl, rfl, rfl, rfl⟩ := h
                exact ⟨ox, oy, t, t', i, zv, by rw [hop, hcl], ht, hi, hz, hzs, rfl, rfl, hx, hy, .inl ⟨rfl, htt⟩⟩
              · split at h
                · rename_i hstr
                  split at h
                  · rename_i hs1
                    simp only [Option.some.injEq, AOp.app.injEq] at h
                    obtain ⟨rfl, rfl, rfl, rfl, rfl, rfl⟩ := h
                    exact ⟨ox, oy, t, t', i, zv, by rw [hop, hcl], ht, hi, hz, hzs, rfl, rfl, hx, hy, .inr ⟨rfl, hstr, hs1⟩⟩
                  · cases h
                · cases h
            · cases h
          · cases h
        · cases h
      · cases h
    · cases h
  · cases h
  · cases h
  · exfalso; revert h; repeat' split
    all_goals simp
  · cases h

/-- What is appended, for the machine. -/
theorem appArg_of {str : Bool} {y : Operand} {t t' e : TypeId} {i : TypeInfo} {z : Value} {py : Opd} {ys : List (List D)} (ht : P.underlying t = some (.slice e)) (hi : P.info? e = some i) (hz : i.zero = some z) (hsz : 0 < i.size)
    (hy : linkO P t' y = some py) (hs : (str = false ∧ t = t') ∨ (str = true ∧ P.underlying t' = some .string ∧ i.size = 1)) (hys : rowsY str i.size (evO T py) = some ys) (hT : RepT w γ (Fil σ) T a.tmps) (γ' : G) (he : ExtD w γ.im w γ'.im) :
    ∃ news, AppArg P w e i z γ'.im (fun v => Builtin.append_ #[t, t'] o.type #[v, a.eval y]) ys news := by
  have hvy := linkO_rep hy hT
  rcases hs with ⟨rfl, rfl⟩ | ⟨rfl, hstr, hs1⟩
  · have hu := rowsOf_rep (hys : rowsOf i.size (evO T py) = some ys) hvy
    exact appArg_sl ht hi hz hsz (hu.ext he)
  · rw [hs1] at hys
    generalize evO T py = c at hys hvy
    cases c with
    | d x =>
      cases x with
      | str s =>
        simp only [rowsY, Option.some.injEq] at hys
        subst hys
        rw [rep_str hvy]
        exact appArg_str ht hstr hi hz hs1 s γ'.im
      | _ => simp [rowsY] at hys
    | _ => simp [rowsY] at hys

/-- An append to the nil slice. -/
theorem app_nilS {A : Value → Sem Value} {x : Value} {e : TypeId} {i : TypeInfo} {z : Value} (he : ∀ (v' : Value) (w' : World), (A x).run P w = .ok v' w' → OpRun P o a w v' w') {s : Nat} (hh : σ[s]? = some none) (hn0 : n0.hi ≤ s) (hs : Sat B n0 w γ σ)
    (hzs : z.cells.size = i.size) (h6 : 0 < i.size) (hv0 : x = .slice none 0 0) {ys : List (List D)} (hA : ∀ γ' : G, ExtD w γ.im w γ'.im → ∃ news, AppArg P w e i z γ'.im A ys news)
    (h7 : ys.length * i.bytes ≤ 140737488355328) (h8 : ys.length ≤ 140737488355328) : OpOk P B n0 o a w γ σ (.o i.size ys s) (σ.set s (some (.tok e i.size ys.length))) false := by
  obtain ⟨γ1, j1, j2, j3, j4⟩ := nil_new hs hh hn0 e i.size
  have hsl : s < σ.length := (List.getElem?_eq_some_iff.1 hh).1
  obtain ⟨news, hA1⟩ := hA γ1 j2.d
  obtain ⟨v', w', γ', k1, k2, k3, k4, k5⟩ := append_gen (P := P) hzs h6 j3 (rows := []) (ys := ys) (a := s) j4 hA1 (by simp [hsl]) (Nat.le_trans n0.le hn0) (by simpa using h7) (by simpa using h8)
  rw [← hv0] at k1
  have hset : (σ.set s (some (Ob.tok e i.size 0))).set s (some (.tok e i.size (([] : List (List D)).length + ys.length))) = σ.set s (some (.tok e i.size ys.length)) := by simp
  rw [hset] at k4
  refine ⟨v', w', γ', he _ _ k1, j1.trans k2, j2.trans (k3.mono (fil_mono_set hh _)), k4, fil_mono_set hh _, ?_, fun h => by cases h⟩
  exact k5.mono fun n hn => by rw [fil_set hsl] at hn ⊢; exact hn

/-- The token of a nil slice is a token. -/
theorem sat_ntok (hs : Sat B n0 w γ σ) {b : Nat} {e : TypeId} {sz len : Nat} (h : tokOf σ[b]? = some (e, sz, len)) (hn0 : n0.lo ≤ b) : ∃ σ1 : St, Sat B n0 w γ σ1 ∧ (∀ n, Fil σ1 n ↔ Fil σ n) ∧ σ1[b]? = some (some (.tok e sz len)) ∧ ∀ x, σ1.set b x = σ.set b x := by
  unfold tokOf at h
  split at h
  · rename_i hb
    simp only [Option.some.injEq, Prod.mk.injEq] at h
    obtain ⟨rfl, rfl, rfl⟩ := h
    exact ⟨σ, hs, fun _ => .rfl, hb, fun _ => rfl⟩
  · rename_i hb
    simp only [Option.some.injEq, Prod.mk.injEq] at h
    obtain ⟨rfl, rfl, rfl⟩ := h
    obtain ⟨h1, h2⟩ := hs.inv.ob b _ hb
    obtain ⟨k1, k2⟩ := hs.upd (w' := w) (γ' := γ) (b' := .tok _ _ 0) hb hn0 (.refl _ _ _) (Nat.le_refl _) (fun _ _ _ => rfl) (fun g hg hne => ⟨rfl, rfl⟩) ⟨h1, .inl ⟨h2, rfl⟩⟩ (fun g hg => .inl hg) hs.inv.lt
    exact ⟨_, k1, k2, by rw [List.getElem?_set_self (List.getElem?_eq_some_iff.1 hb).1], fun x => by rw [List.set_set]⟩
  · cases h

theorem putC_one {m : Nat} {old c : C} (h : c.one = true) : (putC σ m old c).one = true := by
  unfold putC
  repeat' split
  all_goals first
    | rfl
    | exact h

theorem putC_rep (hi : Inv w γ σ) {τ : St} (hτ : τ = σ ∨ τ = []) {m : Nat} {old : C} {v : Value} (h : RepC w γ (Fil σ) c v) : RepC w γ (Fil σ) (putC τ m old c) v := by
  unfold putC
  split
  · split
    · exact h
    · cases h with | o h => exact .d h
  · split
    · split
      · rename_i hb
        split
        · rcases hτ with rfl | rfl
          · obtain ⟨h1, h2⟩ := hi.ob _ _ hb
            cases h
            exact .o (.sl0 _ _ _ (fun _ => rfl)) ⟨_, hb⟩ (Nat.zero_le _) (fun _ => h2.symm)
          · simp at hb
        · exact h
      · exact h
    · exact h
  · exact h

theorem putCs_rep (hi : Inv w γ σ) {τ : St} (hτ : τ = σ ∨ τ = []) {m : Nat} : ∀ (olds cs : List C), (putCs τ m olds cs).length = cs.length ∧ (cs.all C.one = true → (putCs τ m olds cs).all C.one = true) ∧
    ∀ (vs : Array Value), (∀ (i : Nat) (c : C), cs[i]? = some c → RepC w γ (Fil σ) c (vs.getD i undef)) → ∀ (i : Nat) (c : C), (putCs τ m olds cs)[i]? = some c → RepC w γ (Fil σ) c (vs.getD i undef) := by
  have key : ∀ (k : Nat) (olds cs : List C), (putCs τ m olds cs).length = cs.length ∧ (cs.all C.one = true → (putCs τ m olds cs).all C.one = true) ∧
      ∀ (vs : Array Value), (∀ (i : Nat) (c : C), cs[i]? = some c → RepC w γ (Fil σ) c (vs.getD (k + i) undef)) → ∀ (i : Nat) (c : C), (putCs τ m olds cs)[i]? = some c → RepC w γ (Fil σ) c (vs.getD (k + i) undef) := by
    intro k olds cs
    induction cs generalizing olds k with
    | nil => cases olds <;> exact ⟨rfl, fun _ => rfl, fun vs h i c hc => by simp [putCs] at hc⟩
    | cons c cs ih =>
      have step : ∀ (old : C) (olds' : List C), putCs τ m olds (c :: cs) = putC τ m old c :: putCs τ m olds' cs → (putCs τ m olds (c :: cs)).length = (c :: cs).length ∧ ((c :: cs).all C.one = true → (putCs τ m olds (c :: cs)).all C.one = true) ∧
          ∀ (vs : Array Value), (∀ (i : Nat) (x : C), (c :: cs)[i]? = some x → RepC w γ (Fil σ) x (vs.getD (k + i) undef)) → ∀ (i : Nat) (x : C), (putCs τ m olds (c :: cs))[i]? = some x → RepC w γ (Fil σ) x (vs.getD (k + i) undef) := by
        intro old olds' he
        obtain ⟨h1, h2, h3⟩ := ih (k + 1) olds'
        rw [he]
        refine ⟨by simp [h1], fun h => ?_, fun vs h i x hx => ?_⟩
        · simp only [List.all_cons, Bool.and_eq_true] at h ⊢
          exact ⟨putC_one h.1, h2 h.2⟩
        · cases i with
          | zero => simp at hx; subst hx; exact putC_rep hi hτ (h 0 c rfl)
          | succ i =>
            have := h3 vs (fun j y hy => by have := h (j + 1) y (by simpa using hy); rwa [Nat.add_assoc, Nat.add_comm 1 j]) i x (by simpa using hx)
            rwa [Nat.add_assoc, Nat.add_comm 1 i] at this
      cases olds with
      | nil => exact step .undef [] rfl
      | cons old olds => exact step old olds rfl
  intro olds cs
  obtain ⟨h1, h2, h3⟩ := key 0 olds cs
  exact ⟨h1, h2, fun vs h i c hc => by simpa using h3 vs (by simpa using h) i c hc⟩

/-- A store. -/
theorem store_ok {n : Nat} {px py : Opd} (h : linkOp P o = some (.store n px py)) (hs : Sat B n0 w γ σ) (hT : RepT w γ (Fil σ) T a.tmps) {τ : St} (hτ : τ = σ ∨ τ = []) {m off : Nat} {ty : TypeId} {cs xs : List C} (hm : evO T px = .ref m off)
    (hcs : σ[m]? = some (some (.box ty cs))) (hxs : valsC (evO T py) = some xs) (hc : (decide (n0.lo ≤ m) && xs.length == n && xs.all C.one && C.ltL m (putCs τ m ((cs.drop off).take n) xs) && decide (off + n ≤ cs.length)) = true) :
    OpOk P B n0 o a w γ σ .undef (σ.set m (some (.box ty (cs.take off ++ putCs τ m ((cs.drop off).take n) xs ++ cs.drop (off + n))))) false := by
  obtain ⟨t, x, y, hop⟩ : ∃ t x y, o.op = .store t x y := by
    unfold linkOp at h
    split at h <;> first
      | exact ⟨_, _, _, by assumption⟩
      | (exfalso; revert h; repeat' split
         all_goals simp)
      | (exfalso; simp at h; done)
      | (exfalso; obtain ⟨_, _, he⟩ := Option.map_eq_some_iff.1 h; cases he)
  simp only [linkOp, hop] at h
  split at h
  · rename_i n' px' py' hn hx hy
    simp only [Option.some.injEq, AOp.store.injEq] at h
    obtain ⟨rfl, rfl, rfl⟩ := h
    simp only [Bool.and_eq_true, decide_eq_true_eq, beq_iff_eq] at hc
    obtain ⟨⟨⟨⟨h1, h2⟩, h3⟩, h4⟩, h5⟩ := hc
    have hv := linkO_rep hx hT
    rw [hm] at hv
    have hp : a.eval x = .pointer (some ⟨γ.mu m, off, none⟩) := by generalize a.eval x = v at hv; cases hv; rfl
    have hval := store_val (xs := xs) (x := evO T py') (by generalize evO T py' = c at hxs; cases c <;> exact hxs) h3 (linkO_rep hy hT)
    obtain ⟨q1, q2, q3⟩ := putCs_rep hs.inv hτ (m := m) ((cs.drop off).take n') xs
    obtain ⟨w', γ', k1, k2, k3, k4⟩ := store_sound (t := t) (xs := putCs τ m ((cs.drop off).take n') xs) hs hcs h1 hn ⟨by rw [q1]; exact hval.1, q3 _ hval.2⟩ (by rw [q1]; exact h2) (q2 h3) h4 h5
    refine ⟨undef, w', γ', .inr ⟨?_, rfl⟩, k2, k3, k4, fun n hn => (fil_set (List.getElem?_eq_some_iff.1 hcs).1 n).2 (.inr hn), .undef _, fun h => by cases h⟩
    simp [execOp, hop, Instr.storeAt, hp, Instr.sureAddr, k1]
  · cases h

/-- First a step beside the world. -/
theorem OpOk.pre {q : Bool} {γ1 : G} {σ1 : St} (hf : Fn B n0 w γ w γ1) (he : Ext (Fil σ) w γ w γ1) (hm : ∀ n, Fil σ n → Fil σ1 n) (h : OpOk P B n0 o a w γ1 σ1 c σ' q) : OpOk P B n0 o a w γ σ c σ' false := by
  obtain ⟨v, w', γ', k1, k2, k3, k4, k5, k6, _⟩ := h
  exact ⟨v, w', γ', k1, hf.trans k2, he.trans (k3.mono hm), k4, fun n hn => k5 n (hm n hn), k6, fun h => by cases h⟩

theorem tokC_sound : ∀ (cs : List C) (vs : List Value) (γ : G) (σ : St), Sat B n0 w γ σ → vs.length = cs.length → (∀ (i : Nat) (c : C), cs[i]? = some c → RepC w γ (Fil σ) c (vs.getD i undef)) →
    ∃ γ', Fn B n0 w γ w γ' ∧ Ext (Fil σ) w γ w γ' ∧ Sat B n0 w γ' (σ ++ toksC cs) ∧ (∀ n, Fil σ n → Fil (σ ++ toksC cs) n) ∧ (tokC σ.length cs).length = cs.length ∧
      ∀ (i : Nat) (c : C), (tokC σ.length cs)[i]? = some c → RepC w γ' (Fil (σ ++ toksC cs)) c (vs.getD i undef)
  | [], vs, γ, σ, hs, hl, hr => ⟨γ, .refl _ _ _ _, .refl _ _ _, by simpa [toksC] using hs, fun n hn => by simpa [toksC] using hn, rfl, fun i c hc => by simp [tokC] at hc⟩
  | c :: cs, [], γ, σ, hs, hl, hr => by simp at hl
  | c :: cs, v :: vs, γ, σ, hs, hl, hr => by
    by_cases hn : ∃ e sz, c = .nils e sz
    · obtain ⟨e, sz, rfl⟩ := hn
      have hv : v = .slice none 0 0 := by
        have := hr 0 _ rfl
        simp at this
        cases this; rfl
      obtain ⟨γ1, f1, e1, s1, r1⟩ := nil_new hs.hole.1 (hole_last σ) hs.n0 e sz
      have e2 : ∀ b : Ob, (σ ++ [none]).set σ.length (some b) = σ ++ [some b] := fun b => by simp
      rw [e2] at s1 r1
      -- the token is that of a nil slice
      have hb : (σ ++ [some (Ob.tok e sz 0)])[σ.length]? = some (some (.tok e sz 0)) := by simp
      have htk : γ1.len σ.length = 0 ∧ γ1.tk σ.length = .slice none 0 0 := by
        obtain ⟨h1, h2⟩ := s1.inv.ob _ _ hb
        refine ⟨h1, ?_⟩
        cases r1 with | o _ _ _ h => exact (h h1.symm).symm
      have e3 : ∀ x : Ob, (σ ++ [some (Ob.tok e sz 0)]).set σ.length (some x) = σ ++ [some x] := fun x => by simp
      obtain ⟨s2, i2⟩ := s1.upd (w' := w) (γ' := γ1) (b' := .ntok e sz) hb (Nat.le_trans n0.le hs.n0) (.refl _ _ _) (Nat.le_refl _) (fun _ _ _ => rfl) (fun g hg hne => ⟨rfl, rfl⟩) htk (fun g hg => .inl hg) s1.inv.lt
      rw [e3] at s2 i2
      have hm1 : ∀ n, Fil σ n → Fil (σ ++ [some (Ob.ntok e sz)]) n := fun n ⟨b, hb⟩ => ⟨b, by rw [List.getElem?_append_left (List.getElem?_eq_some_iff.1 hb).1]; exact hb⟩
      have e1' : Ext (Fil σ) w γ w γ1 := e1.mono fun n h => (hs.hole.2 n).2 h
      obtain ⟨γ2, f2, e4, s3, m3, l3, r3⟩ := tokC_sound cs vs γ1 (σ ++ [some (.ntok e sz)]) s2 (by simpa using hl) (fun i c hc => ((hr (i + 1) c (by simpa using hc)).ext e1').mono hm1)
      have e5 : σ ++ toksC (.nils e sz :: cs) = σ ++ [some (.ntok e sz)] ++ toksC cs := by simp [toksC]
      have e6 : (σ ++ [some (Ob.ntok e sz)]).length = σ.length + 1 := by simp
      rw [e5]
      rw [e6] at r3 l3
      refine ⟨γ2, f1.trans f2, e1'.trans (e4.mono hm1), s3, fun n hn => m3 n (hm1 n hn), by simp [tokC, l3], fun i c hc => ?_⟩
      cases i with
      | zero =>
        simp [tokC] at hc
        subst hc hv
        exact ((r1.mono fun n h => (i2 n).2 h).ext e4).mono m3
      | succ i => exact r3 i c (by simpa [tokC] using hc)
    · have e1 : toksC (c :: cs) = toksC cs := by
        cases c <;> first
          | rfl
          | exact absurd ⟨_, _, rfl⟩ hn
      have e2 : tokC σ.length (c :: cs) = c :: tokC σ.length cs := by
        cases c <;> first
          | rfl
          | exact absurd ⟨_, _, rfl⟩ hn
      obtain ⟨γ2, f2, e4, s3, m3, l3, r3⟩ := tokC_sound cs vs γ σ hs (by simpa using hl) (fun i c hc => hr (i + 1) c (by simpa using hc))
      rw [e1, e2]
      refine ⟨γ2, f2, e4, s3, m3, by simp [l3], fun i x hx => ?_⟩
      cases i with
      | zero =>
        simp at hx
        subst hx
        exact ((hr 0 c rfl).ext e4).mono m3
      | succ i => exact r3 i x (by simpa using hx)

theorem app_ok {str : Bool} {e : TypeId} {sz bytes : Nat} {px py : Opd} (hl : linkOp P o = some (.app str e sz bytes px py))
    (hev : evOp n0.lo T σ (.app str e sz bytes px py) = some (c, σ')) (hs : Sat B n0 w γ σ) (hT : RepT w γ (Fil σ) T a.tmps) : OpOk P B n0 o a w γ σ c σ' false := by
  obtain ⟨x, y, t, t', i, z, ho, ht, hi, hz, hzs, rfl, rfl, hx, hy, hcase⟩ := linkOp_app hl
  have he : ∀ (v' : Value) (w' : World), (Builtin.append_ #[t, t'] o.type #[a.eval x, a.eval y]).run P w = .ok v' w' → OpRun P o a w v' w' := by
    intro v' w' hr
    refine .inl ?_
    unfold execOp
    simp only [ho, resolve, invoke, builtin, Sem.run_bind, Sem.run_pure, Result.andThen_ok, List.map_toArray, List.map_cons, List.map_nil, hr]
  have hvx := linkO_rep hx hT
  simp only [evOp] at hev
  split at hev
  · cases hev
  · rename_i ys hys
    split at hev
    · rename_i s rows b hex
      rw [hex] at hvx
      split at hev
      · rename_i e' s' len hb
        split at hev
        · rename_i hc
          obtain ⟨h1, rfl, rfl, rfl, rfl, h6, h7, h8⟩ := hc
          simp only [Option.some.injEq, Prod.mk.injEq] at hev
          obtain ⟨rfl, rfl⟩ := hev
          obtain ⟨σ1, s1, i1, hb, hset⟩ := sat_ntok hs hb h1
          rw [← hset]
          obtain ⟨news, hA⟩ := appArg_of (P := P) (o := o) ht hi hz h6 hy hcase hys hT γ (.refl _ _)
          obtain ⟨v', w', γ', k1, k2, k3, k4, k5⟩ := append_gen (P := P) hzs h6 s1 (hvx.mono fun n h => (i1 n).2 h) hA hb h1 h7 h8
          exact ⟨v', w', γ', he _ _ k1, k2, k3.mono (fun n h => (i1 n).2 h), k4, fun n hn => (fil_set (List.getElem?_eq_some_iff.1 hb).1 n).2 (.inr ((i1 n).2 hn)), k5.mono fun n hn => (fil_set (List.getElem?_eq_some_iff.1 hb).1 n).2 (.inr hn), fun h => by cases h⟩
        · cases hev
      · cases hev
    · rename_i s hex
      rw [hex] at hvx
      split at hev
      · rename_i hc
        obtain ⟨rfl, h6, h7, h8⟩ := hc
        simp only [Option.some.injEq, Prod.mk.injEq] at hev
        obtain ⟨rfl, rfl⟩ := hev
        have hv0 : a.eval x = .slice none 0 0 := by generalize a.eval x = v at hvx; cases hvx; rfl
        refine OpOk.seq ?_
        exact app_nilS (A := fun v => Builtin.append_ #[t, t'] o.type #[v, a.eval y]) he (hole_last σ) hs.n0 hs.hole.1 hzs h6 hv0 (fun γ' hg => appArg_of (P := P) (o := o) ht hi hz h6 hy hcase hys hT γ' hg) h7 h8
      · cases hev
    · cases hev

theorem mx_run {xs : List C} {us : List Value} {A : Nat → Prop} (h : maxI xs = some c) (hl : xs.length = us.length) (hr : ∀ (i : Nat) (y : C), xs[i]? = some y → RepC w γ A y (us.getD i undef)) :
    ∃ r, (∀ ts ty (args : Array Value), args.toList = us → (Builtin.max_ ts ty args).run P w = .ok r w) ∧ RepC w γ A c r := by
  unfold maxI at h
  split at h
  · rename_i k x rest
    match us, hl with
    | u :: us, hl =>
      have h0 := rep_int (hr 0 _ rfl)
      simp only [List.getD_cons_zero] at h0
      subst h0
      obtain ⟨r, h1, h2⟩ := maxFold (P := P) rest us k x c A (by simpa using hl) (fun i y hy => by simpa using hr (i + 1) y (by simpa using hy)) h
      exact ⟨r, fun ts ty args ha => by unfold Builtin.max_; rw [ha]; exact h1, h2⟩
  · cases h

theorem mn_run {xs : List C} {us : List Value} {A : Nat → Prop} (h : minI xs = some c) (hl : xs.length = us.length) (hr : ∀ (i : Nat) (y : C), xs[i]? = some y → RepC w γ A y (us.getD i undef)) :
    ∃ r, (∀ ts ty (args : Array Value), args.toList = us → (Builtin.min_ ts ty args).run P w = .ok r w) ∧ RepC w γ A c r := by
  unfold minI at h
  split at h
  · rename_i k x rest
    match us, hl with
    | u :: us, hl =>
      have h0 := rep_int (hr 0 _ rfl)
      simp only [List.getD_cons_zero] at h0
      subst h0
      obtain ⟨r, h1, h2⟩ := minFold (P := P) rest us k x c A (by simpa using hl) (fun i y hy => by simpa using hr (i + 1) y (by simpa using hy)) h
      exact ⟨r, fun ts ty args ha => by unfold Builtin.min_; rw [ha]; exact h1, h2⟩
  · cases h

/-- The joint law. -/
theorem evOp_sound {p : AOp} (h : linkOp P o = some p) (hev : evOp n0.lo T σ p = some (c, σ')) (hs : Sat B n0 w γ σ) (hT : RepT w γ (Fil σ) T a.tmps) : OpOk P B n0 o a w γ σ c σ' (quietOp p) := by
  have mv : ∀ (x : Operand) (t : TypeId) (q : Opd), linkO P t x = some q → evOp n0.lo T σ (.mv q) = some (c, σ') → (execOp a.eval o).run P w = .ok (.value (a.eval x)) w → OpOk P B n0 o a w γ σ c σ' true := by
    intro x t q hl he hr
    simp only [evOp, Option.some.injEq, Prod.mk.injEq] at he
    exact ok_pure hs hr (he.1 ▸ linkO_rep hl hT) he.2.symm
  have nilc : ∀ (e : TypeId) (sz : Nat), evOp n0.lo T σ (.nilsl e sz) = some (c, σ') → (execOp a.eval o).run P w = .ok (.value (.slice none 0 0)) w → OpOk P B n0 o a w γ σ c σ' false := by
    intro e sz he hr
    simp only [evOp, Option.some.injEq, Prod.mk.injEq] at he
    obtain ⟨rfl, rfl⟩ := he
    exact nil_ok hs hr
  have mvs : ∀ (x : Operand), (match x with
    | .const (.slice none 0 0) => match elemT P o.type with
      | some e => match szT P e with
        | some sz => some (AOp.nilsl e sz)
        | none => none
      | none => none
    | .const (.map none) => some (.mv (.k .undef))
    | x => (linkO P o.type x).map .mv) = some p → (execOp a.eval o).run P w = .ok (.value (a.eval x)) w → OpOk P B n0 o a w γ σ c σ' (quietOp p) := by
    intro x hl hr
    split at hl
    · split at hl
      · split at hl
        · simp only [Option.some.injEq] at hl; subst hl; exact nilc _ _ hev hr
        · cases hl
      · cases hl
    · simp only [Option.some.injEq] at hl; subst hl
      simp only [evOp, evO, Option.some.injEq, Prod.mk.injEq] at hev
      exact ok_pure hs hr (hev.1 ▸ .undef _) hev.2.symm
    · obtain ⟨q, hq, rfl⟩ := Option.map_eq_some_iff.1 hl
      exact mv _ _ q hq hev hr
  have mset : ∀ (t : TypeId) (m k x : Operand), (match P.underlying t with
    | some (.map kt et) => match keyT P kt, linkO P t m, linkO P kt k, linkO P et x with
      | some ki, some m, some k, some x => some (AOp.mset ki m k x)
      | _, _, _, _ => none
    | _ => none) = some p → execOp a.eval o = (do Instr.mapUpdate t (a.eval m) (a.eval k) (a.eval x); pure .skip) → OpOk P B n0 o a w γ σ c σ' (quietOp p) := by
    intro t m k x h he
    split at h
    · rename_i kt et ht
      split at h
      · rename_i ki pm pk px hk hm hkk hx
        simp only [Option.some.injEq] at h; subst h
        simp only [evOp] at hev
        split at hev
        · rename_i n kd hpm hpk
          split at hev
          · rename_i es hes
            split at hev
            · rename_i r hf
              split at hev
              · rename_i hc
                simp only [Bool.and_eq_true, decide_eq_true_eq] at hc
                simp only [Option.some.injEq, Prod.mk.injEq] at hev
                obtain ⟨rfl, rfl⟩ := hev
                have hmv : a.eval m = .map (some (γ.mu n)) := by
                  have := hpm ▸ linkO_rep hm hT
                  generalize a.eval m = v at this
                  cases this; rfl
                have hkv : RepD w γ.im kd (a.eval k) := by
                  have := hpk ▸ linkO_rep hkk hT
                  cases this with | d h => exact h
                obtain ⟨w', hr, f1, e1, s1, i1⟩ := mset_run (P := P) ht hk hs hes hc.1.1 hf hc.1.2 hkv (linkO_rep hx hT) hc.2
                refine ⟨undef, w', γ, .inr ⟨?_, rfl⟩, f1, e1, s1, fun n hn => (i1 n).2 hn, .undef _, fun h => by cases h⟩
                rw [he]
                simp only [Sem.run_bind, hmv, hr, Result.andThen_ok, Sem.run_pure]
              · cases hev
            · cases hev
          · cases hev
        · cases hev
      · cases h
    · cases h
  cases hop : o.op with
  | move x => simp only [linkOp, hop] at h; exact mvs x h (by simp [execOp, hop])
  | assign x => simp only [linkOp, hop] at h; exact mvs x h (by simp [execOp, hop])
  | pick x y z =>
    simp only [linkOp, hop] at h
    split at h
    · rename_i px py pz hx hy hz
      simp only [Option.some.injEq] at h; subst h
      simp only [evOp] at hev
      split at hev
      · rename_i b hb
        simp only [Option.some.injEq, Prod.mk.injEq] at hev
        have hxb := rep_bool (hb ▸ linkO_rep hx hT)
        refine ok_pure (v := if b then a.eval y else a.eval z) hs (by simp [execOp, hop, hxb, asBool]) ?_ hev.2.symm
        rw [← hev.1]
        cases b
        · exact linkO_rep hz hT
        · exact linkO_rep hy hT
      · cases hev
    · cases h
  | alloc t =>
    simp only [linkOp, hop] at h
    obtain ⟨zs, hz, rfl⟩ := Option.map_eq_some_iff.1 h
    simp only [evOp] at hev
    split at hev
    · rename_i hc
      simp only [Bool.and_eq_true] at hc
      simp only [Option.some.injEq, Prod.mk.injEq] at hev
      obtain ⟨rfl, rfl⟩ := hev
      obtain ⟨i, z, hi, hiz, hr⟩ := zeroT_repL hz w γ (Fil σ)
      have ho := all_one hr hc.1
      obtain ⟨γ1, f1, e1, s1, m1, l1, r1⟩ := tokC_sound zs z.cells.toList γ σ hs (by simpa using hr.1) (fun i c hc => by
        have := hr.2 i c hc
        simpa [Array.getD_eq_getD_getElem?, List.getD_eq_getElem?_getD] using this)
      have := box_ok (P := P) (o := o) (a := a) (t := t) s1 (cs := tokC σ.length zs) (vs := z.cells) ⟨by rw [l1]; exact hr.1, fun i c hc => by
        have := r1 i c hc
        simpa [Array.getD_eq_getD_getElem?, List.getD_eq_getElem?_getD] using this⟩ ho (by simp [execOp, hop, alloc_run hi hiz])
      rw [List.length_append] at this
      exact OpOk.pre f1 e1 m1 this
    · cases hev
  | box t x =>
    simp only [linkOp, hop] at h
    split at h
    · rename_i g n px hg hn hx
      simp only [Option.some.injEq] at h; subst h
      simp only [evOp] at hev
      split at hev
      · rename_i cs hcs
        simp only [Option.some.injEq, Prod.mk.injEq] at hev
        obtain ⟨rfl, rfl⟩ := hev
        obtain ⟨k1, k2, k3, k4⟩ := cellsOf_sound hcs (linkO_rep hx hT)
        obtain ⟨γ1, f1, e1, s1, m1, l1, r1⟩ := tokC_sound cs (a.eval x).cells.toList γ σ hs (by simpa using k1) (fun i c hc => by
          have := k3 i c hc
          simpa [Array.getD_eq_getD_getElem?, List.getD_eq_getElem?_getD] using this)
        have := box_ok (P := P) (o := o) (a := a) (t := t) s1 (cs := tokC σ.length cs) (vs := (a.eval x).cells) ⟨by rw [l1]; exact k1, fun i c hc => by
          have := r1 i c hc
          simpa [Array.getD_eq_getD_getElem?, List.getD_eq_getElem?_getD] using this⟩ k4 (by simp [execOp, hop, Instr.box, newVar, newRow])
        rw [List.length_append] at this
        exact OpOk.pre f1 e1 m1 this
      · cases hev
    · cases h
  | build t parts =>
    simp only [linkOp, hop] at h
    split at h
    · rename_i fs hfs
      split at h
      · rename_i z ps hz hps
        split at h
        · rename_i hpl
          obtain ⟨places, hpl⟩ := Option.isSome_iff_exists.1 hpl
          simp only [Option.some.injEq] at h; subst h
          simp only [evOp] at hev
          split at hev
          · rename_i qs hqs
            obtain ⟨cs, hcs, he⟩ := Option.map_eq_some_iff.1 hev
            simp only [Prod.mk.injEq] at he
            obtain ⟨rfl, rfl⟩ := he
            obtain ⟨i, zv, hi, hiz, hzr⟩ := zeroT_repL hz w γ (Fil σ)
            have hrep := parts_rep hT hpl hps hqs
            obtain ⟨cells', hf, hr⟩ := fill_sound hrep hzr hcs
            have hb : P.built t (parts.map fun (i, x) => (i, a.eval x)).toList = some cells' := by
              simp only [Program.built, hi, hfs, hiz, hpl, Array.toList_map]
              exact hf
            refine .pure hs ?_ (.agg cells' hr.1 hr.2)
            simp only [execOp, hop, Sem.run_bind, run_build w t _ cells' hb, Result.andThen_ok, Sem.run_pure]
          · cases hev
        · cases h
      · cases h
    · rename_i len e hfs
      split at h
      · rename_i z n xs hz hn hxs
        simp only [Option.some.injEq] at h; subst h
        simp only [evOp] at hev
        split at hev
        · rename_i qs hqs
          obtain ⟨cs, hcs, he⟩ := Option.map_eq_some_iff.1 hev
          simp only [Prod.mk.injEq] at he
          obtain ⟨rfl, rfl⟩ := he
          obtain ⟨i, zv, hi, hiz, hzr⟩ := zeroT_repL hz w γ (Fil σ)
          obtain ⟨ie, hie, hsz⟩ := Option.map_eq_some_iff.1 hn
          have hrep := partsA_rep hT hxs hqs
          obtain ⟨cells', hf, hr⟩ := fill_sound hrep hzr hcs
          have hb : P.built t (parts.map fun (i, x) => (i, a.eval x)).toList = some cells' := by
            simp only [Program.built, hi, hfs, hiz, hie, hsz, Array.toList_map]
            exact hf
          refine .pure hs ?_ (.agg cells' hr.1 hr.2)
          simp only [execOp, hop, Sem.run_bind, run_build w t _ cells' hb, Result.andThen_ok, Sem.run_pure]
        · cases hev
      · cases h
    · cases h
  | buildSlice t len parts =>
    simp only [linkOp, hop] at h
    split at h
    · rename_i e he
      split at h
      · rename_i sz xs z hsz hxs hz
        split at h
        · rename_i hc
          obtain ⟨hxl, hzs, hsz0, hle⟩ := hc
          simp only [Option.some.injEq] at h; subst h
          obtain ⟨i, hi, hiz⟩ := Option.bind_eq_some_iff.1 hz
          obtain ⟨i', hi', hisz⟩ := Option.map_eq_some_iff.1 hsz
          have : i' = i := by rw [hi] at hi'; exact (Option.some.inj hi').symm
          subst this
          simp only [evOp] at hev
          split at hev
          · rename_i rows hrows
            obtain ⟨k1, k2, k3, k4⟩ := elems_rep hT hxs hrows
            have hrl : rows.length = len := by rw [k4, ← k1, hxl]
            have hlen : ∀ (i : Nat) (row : List C), rows[i]? = some row → row.length = sz := fun i row hr => (k2 row (List.mem_of_getElem? hr)).1
            obtain ⟨f1, f2⟩ := flatten_get hlen
            have hfill := fillC_flat rows 0 (List.replicate (len * sz) C.undef) (fun row hr => (k2 row hr).1) (by simp [hrl])
            simp only [Nat.zero_mul, List.take_zero, List.nil_append] at hfill
            have hinit : RepL w γ (Fil σ) (List.replicate (len * sz) C.undef) ((Array.range (len * sz)).map (fun k => (if len * sz = 0 then #[] else z.cells)[k % (if len * sz = 0 then #[] else z.cells).size]!)) := by
              refine ⟨by simp, fun k c hk => ?_⟩
              rw [List.getElem?_replicate] at hk
              split at hk
              · simp only [Option.some.injEq] at hk; subst hk; exact .undef _
              · cases hk
            obtain ⟨cells', hf, hr⟩ := fill_sound k3 hinit hfill
            have hrun := bsl_run (P := P) (w := w) (parts := parts.map fun (i, x) => (i, a.eval x)) (elemT_under he) hi hisz hiz hle (by simpa using hf)
            have hx : (execOp a.eval o).run P w = .ok (.value (.slice (some ⟨w.heap.size, 0, none⟩) rows.length rows.length)) (w.alloc (.cells cells'.toList.toArray e)) := by
              simp only [execOp, hop, Sem.run_bind, hrun, Result.andThen_ok, Sem.run_pure, hrl]
            have hcl : cells'.toList.length = rows.length * sz := by simp [hr.1, f1]
            have hrC : ∀ i j c, at2 rows i j = some c → ∃ u, cells'.toList[i * sz + j]? = some u ∧ RepC w γ (Fil σ) c u := by
              intro i j c hc
              have h1 := f2 i j c hc
              have h2 := hr.2 _ _ h1
              have h3 := (List.getElem?_eq_some_iff.1 h1).1
              have h4 : i * sz + j < cells'.size := by rw [hr.1]; exact h3
              refine ⟨cells'[i * sz + j], by simp [h4], ?_⟩
              simpa [Array.getD_eq_getD_getElem?, h4] using h2
            split at hev
            · rename_i ds hds
              simp only [Option.some.injEq, Prod.mk.injEq] at hev
              obtain ⟨rfl, rfl⟩ := hev
              obtain ⟨d1, d2⟩ := toDss_get hds
              have hm : ds.length ≤ maxLen := by
                have : ds.length * 1 ≤ ds.length * sz := Nat.mul_le_mul_left _ hsz0
                rw [← d1, hrl] at this
                rw [← d1, hrl]
                simp only [maxLen]; omega
              refine row_ok hs (e := e) hsz0 (rows := ds) (xs := cells'.toList) (fun i row hr' => by
                obtain ⟨cs, e1, e2⟩ := d2 i row hr'
                rw [← (toDs_get e2).1]; exact hlen i cs e1) (by rw [hcl, d1]) (fun i j d hd => by
                obtain ⟨row, e1, e2⟩ := Option.bind_eq_some_iff.1 hd
                obtain ⟨cs, e3, e4⟩ := d2 i row e1
                obtain ⟨c, e5, e6⟩ := (toDs_get e4).2 j d e2
                obtain ⟨u, e7, e8⟩ := hrC i j c (by simp [at2, e3, e5])
                exact ⟨u, e7, toD_rep e6 e8⟩) hm (by rw [← d1]; exact hx)
            · simp only [Option.some.injEq, Prod.mk.injEq] at hev
              obtain ⟨rfl, rfl⟩ := hev
              obtain ⟨γ', j1, j2, j3, j4⟩ := crow_new hs (e := e) (rows := rows) (xs := cells'.toList) hlen hcl hrC
              exact ⟨_, _, γ', .inl hx, j1, j2, j3, fun _ h => h, j4, fun h => by cases h⟩
          · cases hev
        · cases h
      · cases h
    · cases h
  | load t x =>
    simp only [linkOp, hop] at h
    split at h
    · rename_i g n px hg hn hx
      split at h
      · rename_i hgn
        simp only [Option.some.injEq] at h; subst h
        simp only [evOp] at hev
        obtain ⟨c', hc', he⟩ := Option.map_eq_some_iff.1 hev
        simp only [Prod.mk.injEq] at he
        obtain ⟨rfl, rfl⟩ := he
        obtain ⟨u, hu, hr⟩ := loadC_sound hg hn hgn hs.inv (linkO_rep hx hT) hc'
        exact .pure hs (by simp [execOp, hop, hu]) hr
      · cases h
    · cases h
  | store t x y =>
    obtain ⟨n, px, py, rfl⟩ : ∃ n px py, p = .store n px py := by
      simp only [linkOp, hop] at h
      split at h
      · simp only [Option.some.injEq] at h; exact ⟨_, _, _, h.symm⟩
      · cases h
    simp only [evOp] at hev
    split at hev
    · rename_i m off hm
      split at hev
      · rename_i ty cs hcs
        split at hev
        · rename_i xs hxs
          split at hev
          · rename_i hc
            simp only [Option.some.injEq, Prod.mk.injEq] at hev
            obtain ⟨rfl, rfl⟩ := hev
            exact store_ok h hs hT (.inl rfl) hm hcs hxs hc
          · cases hev
        · cases hev
      · cases hev
    · cases hev
  | fieldAddr s x i =>
    simp only [linkOp, hop] at h
    split at h
    · rename_i fs hfs
      split at h
      · rename_i f hf
        split at h
        · rename_i px n hx hn
          split at h
          · cases h
          · rename_i hn0
            simp only [Option.some.injEq] at h; subst h
            have hev2 : (match evO T px with | .ref m o => some (C.ref m (o + f.offset)) | .elt row o => some (C.elt row (o + f.offset)) | .celt row o => some (C.celt row (o + f.offset)) | _ => none) = some c ∧ σ' = σ := by
              simp only [evOp] at hev
              split at hev
              · rename_i e1; simp only [Option.some.injEq, Prod.mk.injEq] at hev; rw [e1]; exact ⟨by rw [← hev.1], hev.2.symm⟩
              · rename_i e1; simp only [Option.some.injEq, Prod.mk.injEq] at hev; rw [e1]; exact ⟨by rw [← hev.1], hev.2.symm⟩
              · rename_i e1; simp only [Option.some.injEq, Prod.mk.injEq] at hev; rw [e1]; exact ⟨by rw [← hev.1], hev.2.symm⟩
              · cases hev
            obtain ⟨b, k, hp, hr⟩ := fld_rep hev2.1 (linkO_rep hx hT)
            exact ok_pure hs (by simp only [execOp, hop, hp, Sem.run_bind, field_run hfs hf hn hn0, Result.andThen_ok, Sem.run_pure]) hr hev2.2
        · cases h
      · cases h
    · cases h
  | indexAddr t x i =>
    simp only [linkOp, hop] at h
    split at h
    · rename_i e he
      split at h
      · rename_i sz px pi hsz hx hi
        simp only [Option.some.injEq] at h; subst h
        simp only [evOp] at hev
        split at hev
        · rename_i n hn
          obtain ⟨c', hc', he'⟩ := Option.map_eq_some_iff.1 hev
          simp only [Prod.mk.injEq] at he'
          obtain ⟨rfl, rfl⟩ := he'
          obtain ⟨k, hk⟩ := natOf_rep hn (linkO_rep hi hT)
          obtain ⟨r, hr, hc⟩ := ixC_run (P := P) (k := k) he hsz hc' (linkO_rep hx hT)
          exact .pure hs (by simp only [execOp, hop, hk, Sem.run_bind, hr, Result.andThen_ok, Sem.run_pure]) hc
        · cases hev
      · cases h
    · split at h
      · rename_i len e he
        split at h
        · rename_i sz px pi hsz hx hi
          simp only [Option.some.injEq] at h; subst h
          simp only [evOp] at hev
          split at hev
          · rename_i n hn
            split at hev
            · rename_i hb
              obtain ⟨c', hc', he'⟩ := Option.map_eq_some_iff.1 hev
              simp only [Prod.mk.injEq] at he'
              obtain ⟨rfl, rfl⟩ := he'
              obtain ⟨k, hk⟩ := natOf_rep hn (linkO_rep hi hT)
              obtain ⟨b, off, hp, hc⟩ := fldC_rep hc' (linkO_rep hx hT)
              exact .pure hs (by simp only [execOp, hop, hk, hp, Sem.run_bind, indexA_run he hsz hb, Result.andThen_ok, Sem.run_pure]) hc
            · cases hev
          · cases hev
        · cases h
      · cases h
  | index t x i =>
    simp only [linkOp, hop] at h
    split at h
    · rename_i len e he
      split at h
      · rename_i g sz px pi hg hsz hx hi
        split at h
        · rename_i hgn
          simp only [Option.some.injEq] at h; subst h
          simp only [evOp] at hev
          split at hev
          · rename_i cs n hcs hn
            split at hev
            · rename_i hb
              obtain ⟨c', hc', he'⟩ := Option.map_eq_some_iff.1 hev
              simp only [Prod.mk.injEq] at he'
              obtain ⟨rfl, rfl⟩ := he'
              obtain ⟨k, hk⟩ := natOf_rep hn (linkO_rep hi hT)
              have hv := linkO_rep hx hT
              rw [hcs] at hv
              obtain ⟨vs, hvs, hL⟩ : ∃ vs, a.eval x = .agg vs ∧ RepL w γ (Fil σ) cs vs := by
                generalize a.eval x = v at hv
                cases hv with | agg vs h1 h2 => exact ⟨vs, rfl, h1, h2⟩
              obtain ⟨v, hr, hc⟩ := part_run (P := P) hg hsz hgn hL hb.2.2 hc'
              refine .pure hs (v := v) ?_ hc
              simp only [execOp, hop, hk, hvs, Instr.index, asIntOf, Sem.run_bind, Sem.run_pure, Result.andThen_ok, run_underlying he]
              rw [if_pos ⟨hb.1, hb.2.1⟩]
              simp only [Sem.run_bind, sizeOf_run hsz, Result.andThen_ok, hr, Sem.run_pure]
            · cases hev
          · cases hev
        · cases h
      · cases h
    · rename_i ht
      split at h
      · rename_i px pi hx hi
        simp only [Option.some.injEq] at h; subst h
        simp only [evOp] at hev
        split at hev
        · rename_i s n hsx hn
          split at hev
          · rename_i hb
            simp only [Option.some.injEq, Prod.mk.injEq] at hev
            obtain ⟨rfl, rfl⟩ := hev
            obtain ⟨k, hk⟩ := natOf_rep hn (linkO_rep hi hT)
            have hsv := rep_str (hsx ▸ linkO_rep hx hT)
            exact .pure hs (by simp only [execOp, hop, hk, hsv, Sem.run_bind, index_run ht hb, Result.andThen_ok, Sem.run_pure]) (.d (.int _ _))
          · cases hev
        · cases hev
      · cases h
    · cases h
  | binOp op t x y t' =>
    simp only [linkOp, hop] at h
    split at h
    · rename_i e ht
      split at h
      · have fin : ∀ (neg : Bool) (q : Opd), linkO P t x = some q → op = (if neg then .neq else .eql) → evOp n0.lo T σ (.isn neg q) = some (c, σ') → OpOk P B n0 o a w γ σ c σ' true := by
          intro neg q hx hop' he
          simp only [evOp] at he
          obtain ⟨b, hb, he'⟩ := Option.map_eq_some_iff.1 he
          simp only [Prod.mk.injEq] at he'
          obtain ⟨rfl, rfl⟩ := he'
          obtain ⟨p, n, cc, hv, hp⟩ := nilC_rep hb (linkO_rep hx hT)
          have hr := isn_run (P := P) (w := w) ht neg p n cc x (.const (.slice none 0 0))
          rw [hp] at hr
          exact ok_v (s := do eqGuard op t x (.const (.slice none 0 0)) (a.eval x) (a.eval (.const (.slice none 0 0))); binOp op t (a.eval x) (a.eval (.const (.slice none 0 0)))) hs (by simp only [execOp, hop]) (by rw [hv, hop']; exact hr) (.d (.bool _))
        split at h
        · obtain ⟨q, hq, rfl⟩ := Option.map_eq_some_iff.1 h
          exact fin false q hq rfl hev
        · obtain ⟨q, hq, rfl⟩ := Option.map_eq_some_iff.1 h
          exact fin true q hq rfl hev
        · cases h
      · cases h
    · rename_i ht
      split at h
      · rename_i px py hx hy
        have fin : ∀ (neg : Bool), op = (if neg then .neq else .eql) → evOp n0.lo T σ (.eqb neg px py) = some (c, σ') → OpOk P B n0 o a w γ σ c σ' true := by
          intro neg hop' he
          simp only [evOp] at he
          split at he
          · rename_i u v hu hv
            simp only [Option.some.injEq, Prod.mk.injEq] at he
            obtain ⟨rfl, rfl⟩ := he
            have hvx := rep_bool (hu ▸ linkO_rep hx hT)
            have hvy := rep_bool (hv ▸ linkO_rep hy hT)
            have hr := eqb_run (P := P) (w := w) ht neg u v x y
            exact ok_v (s := do eqGuard op t x y (a.eval x) (a.eval y); binOp op t (a.eval x) (a.eval y)) hs (by simp only [execOp, hop]) (by rw [hvx, hvy, hop']; exact hr) (.d (.bool _))
          · cases he
        split at h
        · simp only [Option.some.injEq] at h; subst h
          exact fin false rfl hev
        · simp only [Option.some.injEq] at h; subst h
          exact fin true rfl hev
        · cases h
      · cases h
    · rename_i fs ht
      split at h
      · rename_i hc
        split at h
        · rename_i ks px py hf hx hy
          have fin : ∀ (neg : Bool), op = (if neg then .neq else .eql) → evOp n0.lo T σ (.eqa neg ks px py) = some (c, σ') → OpOk P B n0 o a w γ σ c σ' true := by
            intro neg hop' he
            simp only [evOp] at he
            split at he
            · rename_i cs ds hcs hds
              obtain ⟨b, hb, he'⟩ := Option.map_eq_some_iff.1 he
              simp only [Prod.mk.injEq] at he'
              obtain ⟨rfl, rfl⟩ := he'
              have hvx := hcs ▸ linkO_rep hx hT
              have hvy := hds ▸ linkO_rep hy hT
              obtain ⟨us, hus, hU⟩ : ∃ us, a.eval x = .agg us ∧ RepL w γ (Fil σ) cs us := by
                generalize a.eval x = v at hvx
                cases hvx with | agg vs h1 h2 => exact ⟨vs, rfl, h1, h2⟩
              obtain ⟨vs, hvs, hV⟩ : ∃ us, a.eval y = .agg us ∧ RepL w γ (Fil σ) ds us := by
                generalize a.eval y = v at hvy
                cases hvy with | agg vs h1 h2 => exact ⟨vs, rfl, h1, h2⟩
              have hr := eqa_run (P := P) ht hc.1 hc.2 hf hU hV hb neg x y
              exact ok_v (s := do eqGuard op t x y (a.eval x) (a.eval y); binOp op t (a.eval x) (a.eval y)) hs (by simp only [execOp, hop]) (by rw [hus, hvs, hop']; exact hr) (.d (.bool _))
            · cases he
          split at h
          · simp only [Option.some.injEq] at h; subst h
            exact fin false rfl hev
          · simp only [Option.some.injEq] at h; subst h
            exact fin true rfl hev
          · cases h
        · cases h
      · cases h
    · split at h
      · rename_i px py hx hy
        simp only [Option.some.injEq] at h; subst h
        simp only [evOp] at hev
        obtain ⟨c', hc', he'⟩ := Option.map_eq_some_iff.1 hev
        simp only [Prod.mk.injEq] at he'
        obtain ⟨rfl, rfl⟩ := he'
        obtain ⟨r, hr, hc⟩ := binC_run (P := P) hc' (linkO_rep hx hT) (linkO_rep hy hT) t x y
        exact ok_v hs (by simp only [execOp, hop]) hr hc
      · cases h
  | unOp op t x =>
    simp only [linkOp, hop] at h
    obtain ⟨px, hx, rfl⟩ := Option.map_eq_some_iff.1 h
    simp only [evOp] at hev
    obtain ⟨c', hc', he'⟩ := Option.map_eq_some_iff.1 hev
    simp only [Prod.mk.injEq] at he'
    obtain ⟨rfl, rfl⟩ := he'
    obtain ⟨r, hr, hc⟩ := unC_run (P := P) hc' (linkO_rep hx hT)
    exact ok_v hs (by simp only [execOp, hop]) hr hc
  | extract x i =>
    simp only [linkOp, hop] at h
    obtain ⟨px, hx, rfl⟩ := Option.map_eq_some_iff.1 h
    simp only [evOp] at hev
    split at hev
    · rename_i cs hcs
      obtain ⟨c', hc', he'⟩ := Option.map_eq_some_iff.1 hev
      simp only [Prod.mk.injEq] at he'
      obtain ⟨rfl, rfl⟩ := he'
      have hv := linkO_rep hx hT
      rw [hcs] at hv
      obtain ⟨vs, hvs, h1, h2⟩ : ∃ vs : Array Value, a.eval x = .tuple vs ∧ vs.size = cs.length ∧ ∀ (i : Nat) (c : C), cs[i]? = some c → RepC w γ (Fil σ) c (vs.getD i undef) := by
        generalize a.eval x = v at hv
        cases hv with | tup vs h1 h2 => exact ⟨vs, rfl, h1, h2⟩
      have hil : i < vs.size := by rw [h1]; exact (List.getElem?_eq_some_iff.1 hc').1
      refine .pure hs (v := vs.getD i undef) ?_ (h2 i _ hc')
      have hget : vs[i]? = some (vs.getD i undef) := by simp [Array.getD_eq_getD_getElem?, hil]
      simp only [execOp, hop, hvs, Instr.extract, hget, Sem.run_bind, Sem.run_pure, Result.andThen_ok]
    · cases hev
  | makeFunc fn first caps =>
    cases fn with
    | func f =>
      simp only [linkOp, hop] at h
      split at h
      · rename_i fs cs hf hc
        simp only [Option.some.injEq] at h; subst h
        simp only [evOp, Option.some.injEq, Prod.mk.injEq] at hev
        obtain ⟨rfl, rfl⟩ := hev
        obtain ⟨k1, k2⟩ := linkOs_map hT hf
        obtain ⟨k3, k4⟩ := linkOs_map hT hc
        exact .pure hs (by simp only [execOp, hop, Instr.makeFunc, Sem.run_bind, Sem.run_pure, Result.andThen_ok]) (.cl _ _ k1 k3 k2 k4)
      · cases h
    | _ => simp [linkOp, hop] at h
  | nilCheck x =>
    simp only [linkOp, hop] at h
    obtain ⟨px, hx, rfl⟩ := Option.map_eq_some_iff.1 h
    have hv := linkO_rep hx hT
    have key : ∀ (b : Nat) (k : Nat), a.eval x = .pointer (some ⟨b, k, none⟩) → (execOp a.eval o).run P w = .ok (.value (a.eval x)) w := by
      intro b k hp
      simp [execOp, hop, hp]
    simp only [evOp] at hev
    split at hev
    · rename_i e1
      simp only [Option.some.injEq, Prod.mk.injEq] at hev
      obtain ⟨rfl, rfl⟩ := hev
      rw [e1] at hv
      obtain ⟨b, k, hp⟩ : ∃ b k, a.eval x = .pointer (some ⟨b, k, none⟩) := by generalize a.eval x = v at hv; cases hv; exact ⟨_, _, rfl⟩
      exact .pure hs (key _ _ hp) hv
    · rename_i e1
      simp only [Option.some.injEq, Prod.mk.injEq] at hev
      obtain ⟨rfl, rfl⟩ := hev
      rw [e1] at hv
      obtain ⟨b, k, hp⟩ : ∃ b k, a.eval x = .pointer (some ⟨b, k, none⟩) := by generalize a.eval x = v at hv; cases hv; exact ⟨_, _, rfl⟩
      exact .pure hs (key _ _ hp) hv
    · rename_i e1
      simp only [Option.some.injEq, Prod.mk.injEq] at hev
      obtain ⟨rfl, rfl⟩ := hev
      rw [e1] at hv
      obtain ⟨b, k, hp⟩ : ∃ b k, a.eval x = .pointer (some ⟨b, k, none⟩) := by generalize a.eval x = v at hv; cases hv; exact ⟨_, _, rfl⟩
      exact .pure hs (key _ _ hp) hv
    · cases hev
  | convert s d x =>
    simp only [linkOp, hop] at h
    split at h
    · rename_i k0 k px hs' hd hx
      simp only [Option.some.injEq] at h; subst h
      simp only [evOp] at hev
      split at hev
      · rename_i k' n hn
        simp only [Option.some.injEq, Prod.mk.injEq] at hev
        obtain ⟨rfl, rfl⟩ := hev
        have hv := rep_int (hn ▸ linkO_rep hx hT)
        exact .pure hs (by simp only [execOp, hop, hv, Sem.run_bind, cvi_run hs' hd, Result.andThen_ok, Sem.run_pure]) (.d (.int _ _))
      · cases hev
    · rename_i px hs' hd hx
      simp only [Option.some.injEq] at h; subst h
      simp only [evOp] at hev
      split at hev
      · rename_i s' hn
        simp only [Option.some.injEq, Prod.mk.injEq] at hev
        obtain ⟨rfl, rfl⟩ := hev
        have hv := rep_str (hn ▸ linkO_rep hx hT)
        exact .pure hs (by simp only [execOp, hop, hv, Sem.run_bind, cvid_run hs' hd, Result.andThen_ok, Sem.run_pure]) (.d (.str _))
      · cases hev
    · rename_i e px hs' hd hx
      split at h
      · rename_i he hz
        simp only [Option.some.injEq] at h; subst h
        simp only [evOp] at hev
        split at hev
        · rename_i rows hrows
          obtain ⟨b, hb, he'⟩ := Option.map_eq_some_iff.1 hev
          simp only [Prod.mk.injEq] at he'
          obtain ⟨rfl, rfl⟩ := he'
          exact .pure hs (by simp only [execOp, hop, Sem.run_bind, cvs_run hs' hd he (rowsOf_rep hrows (linkO_rep hx hT)) hb, Result.andThen_ok, Sem.run_pure]) (.d (.str _))
        · cases hev
      · cases h
    · cases h
  | slice t x lo hi mx =>
    cases mx with
    | some m => simp [linkOp, hop] at h
    | none =>
      simp only [linkOp, hop] at h
      split at h
      · rename_i e he
        split at h
        · rename_i sz px plo phi hsz hx hlo hhi
          simp only [Option.some.injEq] at h; subst h
          simp only [evOp] at hev
          split at hev
          · rename_i rows hrows
            split at hev
            · rename_i l h' hl hh
              split at hev
              · rename_i hc
                simp only [Option.some.injEq, Prod.mk.injEq] at hev
                obtain ⟨rfl, rfl⟩ := hev
                obtain ⟨u, hu, hr⟩ := slice_run (P := P) he hsz (rowsOf_rep hrows (linkO_rep hx hT)) (lo.map a.eval) (hi.map a.eval) l h' (optO_run hlo hT hl) (optO_run hhi hT hh) hc.1 hc.2.1 hc.2.2
                exact .pure hs (by simp only [execOp, hop, Sem.run_bind, Option.map_none, hu, Result.andThen_ok, Sem.run_pure]) (.d hr)
              · cases hev
            · cases hev
          · cases hev
        · cases h
      · rename_i he
        split at h
        · rename_i px plo phi hx hlo hhi
          simp only [Option.some.injEq] at h; subst h
          simp only [evOp] at hev
          split at hev
          · rename_i s hsx
            split at hev
            · rename_i l h' hl hh
              split at hev
              · rename_i hc
                simp only [Option.some.injEq, Prod.mk.injEq] at hev
                obtain ⟨rfl, rfl⟩ := hev
                have hv := rep_str (hsx ▸ linkO_rep hx hT)
                have hu := slices_run (P := P) (w := w) he (s := s) (lo.map a.eval) (hi.map a.eval) l h' (optO_run hlo hT hl) (optO_run hhi hT hh) hc.1 hc.2.1 hc.2.2
                exact .pure hs (by simp only [execOp, hop, hv, Sem.run_bind, Option.map_none, hu, Result.andThen_ok, Sem.run_pure]) (.d (.str _))
              · cases hev
            · cases hev
          · cases hev
        · cases h
      · cases h
  | call cl =>
    obtain ⟨callee, args, argTypes⟩ := cl
    cases callee with
    | value f =>
      simp only [linkOp, hop] at h
      split at h
      · simp only [Option.some.injEq] at h; subst h; simp [evOp] at hev
      · cases h
    | invoke r m => simp [linkOp, hop] at h
    | builtin b =>
      have bi : ∀ (s : Sem Value) (v : Value), (∀ cs, builtin b argTypes o.type cs (args.map a.eval) = (do pure (.value (← s)) : Sem Next)) → s.run P w = .ok v w → (execOp a.eval o).run P w = .ok (.value v) w := by
        intro s v hb hr
        simp only [execOp, hop, resolve, Sem.run_bind, Sem.run_pure, Result.andThen_ok, invoke, hb, hr]
      cases b with
      | len =>
        simp only [linkOp, hop] at h
        split at h
        · rename_i x t ha ht
          have hlen : ∀ g px, linkO P t x = some px → p = .len g px → ((g = true ∧ P.underlying t = some .string) ∨ (g = false ∧ ∃ e, P.underlying t = some (.slice e))) → OpOk P B n0 o a w γ σ c σ' (quietOp p) := by
            intro g px hx hp hu
            subst hp
            simp only [evOp] at hev
            obtain ⟨n, hn, he⟩ := Option.map_eq_some_iff.1 hev
            simp only [Prod.mk.injEq] at he
            obtain ⟨rfl, rfl⟩ := he
            have hargs : args = #[x] := by apply Array.ext'; simpa using ha
            have htys : argTypes = #[t] := by apply Array.ext'; simpa using ht
            have hr := lenC_run (P := P) hn (linkO_rep hx hT) t o.type hu
            exact .pure hs (bi _ _ (fun _ => rfl) (by rw [hargs, htys]; simpa using hr)) (.d (.int _ _))
          split at h
          · obtain ⟨px, hx, hp⟩ := Option.map_eq_some_iff.1 h
            exact hlen _ px hx hp.symm (.inl ⟨rfl, by assumption⟩)
          · obtain ⟨px, hx, hp⟩ := Option.map_eq_some_iff.1 h
            exact hlen _ px hx hp.symm (.inr ⟨rfl, _, by assumption⟩)
          · cases h
        · cases h
      | max =>
        simp only [linkOp, hop] at h
        obtain ⟨xs, hxs, rfl⟩ := Option.map_eq_some_iff.1 h
        simp only [evOp] at hev
        obtain ⟨c', hc', he⟩ := Option.map_eq_some_iff.1 hev
        simp only [Prod.mk.injEq] at he
        obtain ⟨rfl, rfl⟩ := he
        obtain ⟨k1, k2⟩ := linkOs_map hT hxs
        obtain ⟨r, hr, hrep⟩ := mx_run (P := P) hc' (us := (args.map a.eval).toList) (by simpa using k1.symm) (fun i y hy => by simpa [Array.getD_eq_getD_getElem?, List.getD_eq_getElem?_getD] using k2 i y hy)
        exact .pure hs (bi _ _ (fun _ => rfl) (hr _ _ _ rfl)) hrep
      | min =>
        simp only [linkOp, hop] at h
        obtain ⟨xs, hxs, rfl⟩ := Option.map_eq_some_iff.1 h
        simp only [evOp] at hev
        obtain ⟨c', hc', he⟩ := Option.map_eq_some_iff.1 hev
        simp only [Prod.mk.injEq] at he
        obtain ⟨rfl, rfl⟩ := he
        obtain ⟨k1, k2⟩ := linkOs_map hT hxs
        obtain ⟨r, hr, hrep⟩ := mn_run (P := P) hc' (us := (args.map a.eval).toList) (by simpa using k1.symm) (fun i y hy => by simpa [Array.getD_eq_getD_getElem?, List.getD_eq_getElem?_getD] using k2 i y hy)
        exact .pure hs (bi _ _ (fun _ => rfl) (hr _ _ _ rfl)) hrep
      | append =>
        obtain ⟨str, e, sz, bytes, px, py, rfl⟩ : ∃ str e sz bytes px py, p = .app str e sz bytes px py := by
          simp only [linkOp, hop] at h
          repeat' split at h
          all_goals first
            | (simp only [Option.some.injEq] at h; exact ⟨_, _, _, _, _, _, h.symm⟩)
            | cases h
        exact app_ok h hev hs hT
      | cap | copy => simp only [linkOp, hop, Option.some.injEq] at h; subst h; simp [evOp] at hev
      | _ => simp [linkOp, hop] at h
  | field t x i =>
    simp only [linkOp, hop] at h
    split at h
    · rename_i fs hfs
      split at h
      · rename_i f hf
        split at h
        · rename_i g n px hg hn hx
          split at h
          · rename_i hgn
            simp only [Option.some.injEq] at h; subst h
            simp only [evOp] at hev
            split at hev
            · rename_i cs hcs
              split at hev
              · rename_i hb
                obtain ⟨c', hc', he'⟩ := Option.map_eq_some_iff.1 hev
                simp only [Prod.mk.injEq] at he'
                obtain ⟨rfl, rfl⟩ := he'
                have hv := linkO_rep hx hT
                rw [hcs] at hv
                obtain ⟨vs, hvs, hL⟩ : ∃ vs, a.eval x = .agg vs ∧ RepL w γ (Fil σ) cs vs := by
                  generalize a.eval x = v at hv
                  cases hv with | agg vs h1 h2 => exact ⟨vs, rfl, h1, h2⟩
                obtain ⟨v, hr, hc⟩ := part_run (P := P) hg hn hgn hL hb hc'
                refine .pure hs (v := v) ?_ hc
                simp only [execOp, hop, hvs, Instr.field, Sem.run_bind, Result.andThen_ok, run_underlying hfs, hf, asAgg, Sem.run_pure, hr]
              · cases hev
            · cases hev
          · cases h
        · cases h
      · cases h
    · cases h
  | makeMap t r =>
    cases r with
    | some r => simp [linkOp, hop] at h
    | none =>
      simp only [linkOp, hop] at h
      split at h
      · simp only [Option.some.injEq] at h; subst h
        simp only [evOp, Option.some.injEq, Prod.mk.injEq] at hev
        obtain ⟨rfl, rfl⟩ := hev
        obtain ⟨γ', f1, e1, s1, m1⟩ := ctl_new hs (.map #[] 0) (.map []) (fun _ => rfl) (fun γ' h0 hm => ⟨h0, #[], 0, by rw [hm]; exact heap_alloc_new w _, rfl, MapKept.stamped_empty _, fun i k c hc => by simp at hc⟩)
        refine ⟨.map (some w.heap.size), _, γ', .inl ?_, f1, e1, s1, fun n hn => by
          obtain ⟨b, hb⟩ := hn
          exact ⟨b, by rw [List.getElem?_append_left (List.getElem?_eq_some_iff.1 hb).1]; exact hb⟩, by rw [← m1]; exact .map ⟨.map [], by simp⟩, fun h => by cases h⟩
        simp [execOp, hop, Instr.makeMap]
      · cases h
  | insert t m k x =>
    simp only [linkOp, hop] at h
    exact mset t m k x h (by simp [execOp, hop])
  | mapUpdate t m k x =>
    simp only [linkOp, hop] at h
    exact mset t m k x h (by simp [execOp, hop])
  | lookup t m k ok =>
    simp only [linkOp, hop] at h
    split at h
    · rename_i kt et ht
      split at h
      · rename_i ki pm pk z hk hm hkk hz
        simp only [Option.some.injEq] at h; subst h
        simp only [evOp] at hev
        split at hev
        · rename_i n kd hpm hpk
          split at hev
          · rename_i es hes
            split at hev
            · rename_i r hf
              split at hev
              · rename_i hki
                simp only [Option.some.injEq, Prod.mk.injEq] at hev
                obtain ⟨i0, hi0, hz0⟩ := Option.bind_eq_some_iff.1 hz
                have hmv : a.eval m = .map (some (γ.mu n)) := by
                  have := hpm ▸ linkO_rep hm hT
                  generalize a.eval m = v at this
                  cases this; rfl
                have hkv : RepD w γ.im kd (a.eval k) := by
                  have := hpk ▸ linkO_rep hkk hT
                  cases this with | d h => exact h
                obtain ⟨v, hr, hc⟩ := look_run (P := P) (ok := ok) ht hk hi0 hz0 hs.inv hes hf hki hkv (rep_cOfT P et w γ (Fil σ) z)
                exact ok_pure hs (by simp only [execOp, hop, hmv, Sem.run_bind, hr, Result.andThen_ok, Sem.run_pure]) (hev.1 ▸ hc) hev.2.symm
              · cases hev
            · cases hev
          · cases hev
        · cases hev
      · cases h
    · cases h
  | range t x =>
    simp only [linkOp, hop] at h
    split at h
    · rename_i ht
      obtain ⟨px, hx, rfl⟩ := Option.map_eq_some_iff.1 h
      simp only [evOp] at hev
      split at hev
      · rename_i s hpx
        simp only [Option.some.injEq, Prod.mk.injEq] at hev
        obtain ⟨rfl, rfl⟩ := hev
        have hv := rep_str (hpx ▸ linkO_rep hx hT)
        obtain ⟨γ', f1, e1, s1, m1⟩ := ctl_new hs (.stringIter s 0) (.siter s 0) (fun _ => rfl) (fun γ' h0 hm => ⟨h0, by rw [hm]; exact heap_alloc_new w _⟩)
        refine ⟨.pointer (some ⟨w.heap.size, 0, none⟩), _, γ', .inl ?_, f1, e1, s1, fun n hn => by
          obtain ⟨b, hb⟩ := hn
          exact ⟨b, by rw [List.getElem?_append_left (List.getElem?_eq_some_iff.1 hb).1]; exact hb⟩, by rw [← m1]; exact .ref ⟨.siter s 0, by simp⟩, fun h => by cases h⟩
        simp [execOp, hop, hv, Instr.range, run_underlying ht]
      · cases hev
    · cases h
  | next x b =>
    cases b with
    | false => simp only [linkOp, hop, Option.some.injEq] at h; subst h; simp [evOp] at hev
    | true =>
      simp only [linkOp, hop] at h
      obtain ⟨px, hx, rfl⟩ := Option.map_eq_some_iff.1 h
      simp only [evOp] at hev
      split at hev
      · rename_i n hpx
        have hv : a.eval x = .pointer (some ⟨γ.mu n, 0, none⟩) := by
          have := hpx ▸ linkO_rep hx hT
          generalize a.eval x = v at this
          cases this; rfl
        split at hev
        · rename_i s pos hob
          split at hev
          · rename_i hp
            split at hev
            · rename_i hn0
              simp only [Option.some.injEq, Prod.mk.injEq] at hev
              obtain ⟨rfl, rfl⟩ := hev
              obtain ⟨w', hr, f1, e1, s1, i1⟩ := nxt_run (P := P) hs hob hn0 hp o.type
              refine ⟨.tuple #[.bool true, .int .i64 pos, .int .i32 (Utf8.decode s pos).1], w', γ, .inl ?_, f1, e1, s1, fun n hn => (i1 n).2 hn, .tup _ rfl fun i c hc => ?_, fun h => by cases h⟩
              · simp only [execOp, hop, hv, Sem.run_bind, hr, Result.andThen_ok, Sem.run_pure]
              · match i with
                | 0 => simp at hc; subst hc; exact .d (.bool _)
                | 1 => simp at hc; subst hc; exact .d (.int _ _)
                | 2 => simp at hc; subst hc; exact .d (.int _ _)
                | i + 3 => simp at hc
            · cases hev
          · rename_i hp
            simp only [Option.some.injEq, Prod.mk.injEq] at hev
            obtain ⟨rfl, rfl⟩ := hev
            refine .pure hs (v := .tuple #[.bool false]) ?_ (.tup _ rfl fun i c hc => ?_)
            · simp only [execOp, hop, hv, Sem.run_bind, over_run hs.inv hob hp, Result.andThen_ok, Sem.run_pure]
            · match i with
              | 0 => simp at hc; subst hc; exact .d (.bool _)
              | i + 1 => simp at hc
        · cases hev
      · cases hev
  | panic _ | makeInterface _ _ | typeAssert _ _ _ _ | go _ | send _ _ | recv _ _ _ | select _ _ | entry _ | makeSlice _ _ _ => simp only [linkOp, hop, Option.some.injEq] at h; subst h; simp [evOp] at hev
  | _ => simp [linkOp, hop] at h

end
end Go.Av

set_option linter.unusedVariables false
set_option linter.unusedSimpArgs false
namespace Go.Av
open Go.RowKit
variable [TheProg]
set_option linter.unusedSectionVars false

def setT (T : List C) : Option Nat → C → List C
  | some i, c => T.set i c
  | none, _ => T

/-- A call's result comes in. -/
def land (T : List C) (σ : St) (dst : Option Nat) (r : C) (K : List C → St → Prop) : Prop :=
  match r with
  | .fr e sz rows => K (setT T dst (.o sz rows σ.length)) (σ ++ [some (.tok e sz rows.length)])
  | .frm _ _ => False
  | r => K (setT T dst r) σ

def wpO (P : Program) (n0 : Fr) (dst : Option Nat) (p : AOp) (T : List C) (σ : St) (K : List C → St → Prop) : Prop :=
  match p with
  | .call f args => match evO T f with
    | .cl fid first caps => (∃ r, CallQ P fid (first ++ args.map (evO T) ++ caps) σ r ∧ land T σ dst r K) ∨ CallX P n0 fid (first ++ args.map (evO T) ++ caps) σ fun r σ' => K (setT T dst r) σ'
    | .yl n => CallY P n0 n (args.map (evO T)) σ fun r σ' => K (setT T dst r) σ'
    | _ => False
  | p => match evOp n0.lo T σ p with
    | some (c, σ') => K (setT T dst c) σ'
    | none => False

def wpG (P : Program) (n0 : Fr) (o : AOper) (T : List C) (σ : St) (K : List C → St → Prop) : Prop :=
  match o.guard with
  | none => wpO P n0 o.dst o.op T σ K
  | some (g, want) => match gdec T g want with
    | some true => wpO P n0 o.dst o.op T σ K
    | some false => K (setT T o.dst nwC) σ
    | none => False

def wpS (P : Program) (n0 : Fr) : List AOper → List C → St → (List C → St → Prop) → Prop
  | [], T, σ, K => K T σ
  | o :: os, T, σ, K => wpG P n0 o T σ fun T' σ' => wpS P n0 os T' σ' K

section
variable {P : Program} {B : Nat} {n0 : Fr} {o : Oper} {a : Act} {w w0 : World} {γ γ0 : G} {σ σ' : St} {c : C} {T : List C}

/-- Where the machine stands. -/
def At (B : Nat) (n0 : Fr) (w0 : World) (γ0 : G) (K : List C → St → Prop) (a : Act) (w : World) : Prop :=
  ∃ T σ γ, DefOk n0.D w a.defers ∧ Fn B n0 w0 γ0 w γ ∧ Sat B n0 w γ σ ∧ RepT w γ (Fil σ) T a.tmps ∧ K T σ

theorem RepT.put {A : Nat → Prop} {tmps : Array Value} {T : List C} (h : RepT w γ A T tmps) {i : Nat} {c : C} {v : Value} (hc : RepC w γ A c v) : RepT w γ A (T.set i c) (tmps.setIfInBounds i v) := by
  refine ⟨by simp [h.size], fun j x hx => ?_⟩
  by_cases e : i = j
  · subst e
    have hl : i < T.length := by
      rcases Nat.lt_or_ge i T.length with h' | h'
      · exact h'
      · rw [List.getElem?_eq_none (by simpa using h')] at hx; cases hx
    rw [List.getElem?_set_self hl] at hx
    simp only [Option.some.injEq] at hx
    subst hx
    have : i < tmps.size := by rw [h.size]; exact hl
    simp [Array.getD_eq_getD_getElem?, this, hc]
  · rw [List.getElem?_set_ne e] at hx
    have := h.get j x hx
    simpa [Array.getD_eq_getD_getElem?, Array.getElem?_setIfInBounds, e] using this

theorem put_defers (a : Act) (d : Option Nat) (v : Value) : (a.put d v).defers = a.defers := by cases d <;> rfl

theorem repT_put {A : Nat → Prop} {T : List C} (h : RepT w γ A T a.tmps) (d : Option Nat) {c : C} {v : Value} (hc : RepC w γ A c v) : RepT w γ A (setT T d c) (a.put d v).tmps := by
  cases d with
  | none => exact h
  | some i => exact h.put hc

theorem link_nd {p : AOp} (h : linkOp P o = some p) (c : Call) : o.op ≠ .defer c := by
  intro e
  simp [linkOp, e] at h

theorem wpIn_of {ro : Option Nat} {p : AOp} {K : Act → World → Prop} {Q : Exit → Act → World → Prop} (h : linkOp P o = some p) (hu : o.uponIn (Fo ro) 0 P a K Q ((execOp a.eval o).run P w)) : o.wpIn (Fo ro) 0 P a w K Q := by
  refine ⟨fun _ _ => trivial, ?_⟩
  rw [Oper.semAt_eq _ _ _ (link_nd h)]
  exact hu

theorem fo_depth {ro : Option Nat} : (Fo ro).depth.isSome = true → 1 ≤ 0 := by
  intro h; simp [Fo, Fence.wide] at h

theorem fo_calls {ro : Option Nat} {f : FuncId} {args : Array Value} {R : Ending → World → Prop} (h : Calls P f args w R) : CallsIn (Fo ro) 0 P f args w R := (callsIn_wide (n := 0)).2 h

/-- Behind an operation that calls nothing. -/
theorem at_ok {ro : Option Nat} {p : AOp} {q : Bool} {K : List C → St → Prop} (hl : linkOp P o = some p) (hd : DefOk n0.D w a.defers) (hf : Fn B n0 w0 γ0 w γ) (hT : RepT w γ (Fil σ) T a.tmps) (h : OpOk P B n0 o a w γ σ c σ' q) (hK : K (setT T o.dst c) σ') {Q : Exit → Act → World → Prop} :
    o.wpIn (Fo ro) 0 P a w (At B n0 w0 γ0 K) Q := by
  obtain ⟨v, w', γ', hr, k1, k2, k3, k4, k5, _⟩ := h
  have hat : At B n0 w0 γ0 K (a.put o.dst v) w' := ⟨_, _, γ', by rw [put_defers]; exact hd.step k1, hf.trans k1, k3, repT_put ((hT.ext k2).mono k4) o.dst k5, hK⟩
  refine wpIn_of hl ?_
  rcases hr with hr | ⟨hr, rfl⟩
  · rw [hr]; exact hat
  · rw [hr]; exact hat

theorem repL_append {A : Nat → Prop} {xs ys : List C} {us vs : Array Value} (h : RepL w γ A xs us) (k : RepL w γ A ys vs) : RepL w γ A (xs ++ ys) (us ++ vs) := by
  refine ⟨by simp [h.1, k.1], fun i c hc => ?_⟩
  rcases Nat.lt_or_ge i xs.length with hi | hi
  · rw [List.getElem?_append_left hi] at hc
    have h1 : i < us.size := by rw [h.1]; exact hi
    have := h.2 i c hc
    simpa [Array.getD_eq_getD_getElem?, Array.getElem?_append_left h1] using this
  · rw [List.getElem?_append_right hi] at hc
    have h1 : us.size ≤ i := by rw [h.1]; exact hi
    have := k.2 _ c hc
    simpa [Array.getD_eq_getD_getElem?, Array.getElem?_append_right h1, h.1] using this

/-- A slice that a call has made. -/
theorem fr_land {w' : World} {γ' : G} (hs : Sat B n0 w γ σ) {s : Nat} (hh : σ[s]? = some none) (hn0 : n0.hi ≤ s) {N : Nat} (hN : ∀ n, n < σ.length → n ≠ s → n < N) (hf : Fn w.heap.size (.all N) w γ w' γ') (hlt : ∀ g, w'.heap.size ≤ g → γ'.im g = 0) {e : TypeId} {sz : Nat} {rows : List (List D)} {v : Value} (h : RepD w' γ'.im (.sl sz rows) v)
    (hv : v = .slice none 0 0 ∨ ∃ g cap cur, v = .slice (some ⟨g, 0, none⟩) rows.length cap ∧ w.heap.size ≤ g ∧ w'.heap[g]? = some (.cells cur e (0, 0)) ∧ rows.length ≤ cap ∧ cap ≤ maxLen ∧ cur.size = cap * sz ∧ γ'.im g = rows.length * sz) :
    ∃ γ'', Fn B n0 w γ w' γ'' ∧ Ext (Fil σ) w γ w' γ'' ∧ Sat B n0 w' γ'' (σ.set s (some (.tok e sz rows.length))) ∧ RepC w' γ'' (Fil (σ.set s (some (.tok e sz rows.length)))) (.o sz rows s) v := by
  have hS := hole_not_fil hh
  have hsl : s < σ.length := (List.getElem?_eq_some_iff.1 hh).1
  have hne : ∀ n, Fil σ n → n ≠ s := fun n h e => hS (e ▸ h)
  have hle := n0.le
  have hlt0 : ∀ n, n < n0.hi → n ≠ s := fun n hn => by omega
  generalize hγ : ({ γ' with tk := fun x => if x = s then v else γ'.tk x, len := fun x => if x = s then rows.length else γ'.len x } : G) = γ''
  have him : ∀ g, γ''.im g = γ'.im g := by intro g; rw [← hγ]
  have hmu : ∀ n, γ''.mu n = γ'.mu n := by intro n; rw [← hγ]
  have hln : ∀ n, n ≠ s → γ''.len n = γ'.len n ∧ γ''.tk n = γ'.tk n := by intro n hn; rw [← hγ]; simp [hn]
  have htk : γ''.tk s = v ∧ γ''.len s = rows.length := by rw [← hγ]; simp
  have himf : γ''.im = γ'.im := funext him
  clear hγ
  have hext : ∀ A : Nat → Prop, (∀ n, A n → n ≠ s ∧ n < σ.length) → Ext A w γ w' γ'' := fun A hA =>
    ⟨by rw [himf]; exact hf.ext.d, fun n hn => (hmu n).trans (hf.ext.mu n (hN n (hA n hn).2 (hA n hn).1)), fun n hn => by rw [(hln n (hA n hn).1).1]; exact hf.ext.len n (hN n (hA n hn).2 (hA n hn).1), fun n hn he => by
      rw [(hln n (hA n hn).1).2]; exact hf.ext.tk n (hN n (hA n hn).2 (hA n hn).1) (by rw [← (hln n (hA n hn).1).1]; exact he)⟩
  have hk : Keep σ w γ w' γ'' := ⟨hext _ fun n hn => ⟨hne n hn, hn.lt⟩, hf.below, fun g hg => (him g).trans (hf.im g hg), fun n hn => (hln n (hne n hn)).1.trans (hf.out n (hN n hn.lt (hne n hn))).1⟩
  have hfn : Fn B n0 w γ w' γ'' := ⟨hext _ fun n hn => ⟨hlt0 n hn, Nat.lt_of_lt_of_le hn hs.n0⟩, hf.below.mono hs.B, fun g hg => (him g).trans (hf.im g (by have := hs.B; omega)), fun n hn => by
    have hn := Nat.lt_of_lt_of_le hn hle
    have h1 := hln n (hlt0 n hn)
    have h2 := hf.out n (hN n (Nat.lt_of_lt_of_le hn hs.n0) (hlt0 n hn))
    exact ⟨h1.1.trans h2.1, h1.2.trans h2.2⟩, hf.dfr, hf.lps⟩
  have hsat := hs.after hk (fun g hg => (him g).trans (hlt g hg))
  refine ⟨γ'', hfn, hk.ext, hsat.fill hh _ ?_ ?_, .o (by rw [himf]; exact h) ((fil_set hsl s).2 (.inl rfl)) (by rw [htk.2]; exact Nat.le_refl _) (fun _ => htk.1.symm)⟩
  · rcases hv with rfl | ⟨g, cap, cur, rfl, h1, h2, h3, h4, h5, h6⟩
    · have hr0 : rows.length = 0 := by cases h; rfl
      exact ⟨htk.2, .inl ⟨htk.1, hr0⟩⟩
    · exact ⟨htk.2, .inr ⟨g, cap, cur, htk.1, h2, h3, h4, h5, (him g).trans h6⟩⟩
  · intro g' hg
    rcases hv with rfl | ⟨g, cap, cur, rfl, h1, h2, h3, h4, h5, h6⟩
    · simp [ownBlk, htk.1, blkOf] at hg
    · simp only [ownBlk, htk.1, blkOf, Option.some.injEq] at hg
      subst hg
      refine ⟨Nat.le_trans hs.B h1, fun n c' hn hg => ?_⟩
      rw [ownBlk_congr _ ⟨c', hn⟩ hk.ext (hk.out n ⟨c', hn⟩)] at hg
      have := (hs.inv.ob n c' hn).blk_lt hg
      omega

/-- A map that a call has made. -/
theorem frm_land {w' : World} {γ' : G} (hs : Sat B n0 w γ σ) {s : Nat} (hh : σ[s]? = some none) (hn0 : n0.hi ≤ s) {N : Nat} (hN : ∀ n, n < σ.length → n ≠ s → n < N) (hf : Fn w.heap.size (.all N) w γ w' γ') (hlt : ∀ g, w'.heap.size ≤ g → γ'.im g = 0)
    {ks : List D} {cs : List C} {g ck : Nat} {ms : Array MapEntry} (hB : w.heap.size ≤ g) (hg : w'.heap[g]? = some (.map ms ck)) (hst : MapKept.Stamped ms ck) (h1 : ms.size = cs.length) (h2 : ks.length = cs.length) (h0 : γ'.im g = 0)
    (he : ∀ (i : Nat) (k : D) (c : C), ks[i]? = some k → cs[i]? = some c → RepD w' γ'.im k (ms.getD i default).key ∧ RepC w' γ' (fun _ => False) c (ms.getD i default).val) :
    ∃ γ'', Fn B n0 w γ w' γ'' ∧ Ext (Fil σ) w γ w' γ'' ∧ Sat B n0 w' γ'' (σ.set s (some (.map (ks.zip cs)))) ∧ RepC w' γ'' (Fil (σ.set s (some (.map (ks.zip cs))))) (.map s) (.map (some g)) := by
  have hS := hole_not_fil hh
  have hsl : s < σ.length := (List.getElem?_eq_some_iff.1 hh).1
  have hne : ∀ n, Fil σ n → n ≠ s := fun n h e => hS (e ▸ h)
  have hle := n0.le
  have hlt0 : ∀ n, n < n0.hi → n ≠ s := fun n hn => by omega
  generalize hγ : ({ γ' with mu := fun x => if x = s then g else γ'.mu x } : G) = γ''
  have him : ∀ g, γ''.im g = γ'.im g := by intro g; rw [← hγ]
  have hmu : ∀ n, n ≠ s → γ''.mu n = γ'.mu n := by intro n hn; rw [← hγ]; simp [hn]
  have hln : ∀ n, γ''.len n = γ'.len n ∧ γ''.tk n = γ'.tk n := by intro n; rw [← hγ]; simp
  have hms : γ''.mu s = g := by rw [← hγ]; simp
  have himf : γ''.im = γ'.im := funext him
  clear hγ
  have hext : ∀ A : Nat → Prop, (∀ n, A n → n ≠ s ∧ n < σ.length) → Ext A w γ w' γ'' := fun A hA =>
    ⟨by rw [himf]; exact hf.ext.d, fun n hn => (hmu n (hA n hn).1).trans (hf.ext.mu n (hN n (hA n hn).2 (hA n hn).1)), fun n hn => by rw [(hln n).1]; exact hf.ext.len n (hN n (hA n hn).2 (hA n hn).1), fun n hn he => by
      rw [(hln n).2]; exact hf.ext.tk n (hN n (hA n hn).2 (hA n hn).1) (by rw [← (hln n).1]; exact he)⟩
  have hk : Keep σ w γ w' γ'' := ⟨hext _ fun n hn => ⟨hne n hn, hn.lt⟩, hf.below, fun g hg => (him g).trans (hf.im g hg), fun n hn => (hln n).1.trans (hf.out n (hN n hn.lt (hne n hn))).1⟩
  have hfn : Fn B n0 w γ w' γ'' := ⟨hext _ fun n hn => ⟨hlt0 n hn, Nat.lt_of_lt_of_le hn hs.n0⟩, hf.below.mono hs.B, fun g hg => (him g).trans (hf.im g (by have := hs.B; omega)), fun n hn => by
    have hn := Nat.lt_of_lt_of_le hn hle
    have h1 := hln n
    have h2 := hf.out n (hN n (Nat.lt_of_lt_of_le hn hs.n0) (hlt0 n hn))
    exact ⟨h1.1.trans h2.1, h1.2.trans h2.2⟩, hf.dfr, hf.lps⟩
  have hsat := hs.after hk (fun g hg => (him g).trans (hlt g hg))
  refine ⟨γ'', hfn, hk.ext, hsat.fill hh _ ?_ ?_, by rw [← hms]; exact .map ((fil_set hsl s).2 (.inl rfl))⟩
  · refine ⟨by rw [hms, him]; exact h0, ms, ck, by rw [hms]; exact hg, by simp [h1, h2], hst, fun i k c hc => ?_⟩
    obtain ⟨q1, q2⟩ : ks[i]? = some k ∧ cs[i]? = some c := by
      rw [List.getElem?_zip_eq_some] at hc; exact hc
    obtain ⟨r1, r2⟩ := he i k c q1 q2
    have hx : Ext (fun _ => False) w' γ' w' γ'' := ⟨⟨fun _ _ _ => rfl, fun g => by rw [him]; exact Nat.le_refl _⟩, fun _ h => h.elim, fun _ h => h.elim, fun _ h => h.elim⟩
    exact ⟨by rw [himf]; exact r1, (r2.ext hx).mono fun _ h => h.elim⟩
  · intro g' hg'
    simp only [ownBlk, hms, Option.some.injEq] at hg'
    subst hg'
    refine ⟨Nat.le_trans hs.B hB, fun n c' hn hg => ?_⟩
    rw [ownBlk_congr _ ⟨c', hn⟩ hk.ext (hk.out n ⟨c', hn⟩)] at hg
    have := (hs.inv.ob n c' hn).blk_lt hg
    omega

theorem wpO_sound {ro : Option Nat} {p : AOp} {K : List C → St → Prop} (h : linkOp P o = some p) (hw : wpO P n0 o.dst p T σ K) (hd : DefOk n0.D w a.defers) (hf : Fn B n0 w0 γ0 w γ) (hs : Sat B n0 w γ σ) (hT : RepT w γ (Fil σ) T a.tmps) {Q : Exit → Act → World → Prop} :
    o.wpIn (Fo ro) 0 P a w (At B n0 w0 γ0 K) Q := by
  by_cases hc : ∃ f args, p = .call f args
  · obtain ⟨f, args, rfl⟩ := hc
    simp only [wpO] at hw
    split at hw
    · rename_i fid first caps hfe
      have hent : Enters P fid := by
        rcases hw with ⟨r, h, _⟩ | h
        · exact h.1
        · exact h.1
      obtain ⟨fn, hfn, hbody, hname⟩ := hent
      obtain ⟨cl, hop⟩ : ∃ cl, o.op = .call cl := by
        unfold linkOp at h
        split at h <;> first
          | exact ⟨_, by assumption⟩
          | (exfalso; revert h; repeat' split
             all_goals simp)
          | (exfalso; simp at h; done)
          | (exfalso; obtain ⟨_, _, he⟩ := Option.map_eq_some_iff.1 h; cases he)
      obtain ⟨fo, hcal, hfo, has⟩ : ∃ fo, cl.callee = .value fo ∧ linkO P 0 fo = some f ∧ linkOs P cl.argTypes.toList cl.args.toList = some args := by
        simp only [linkOp, hop] at h
        split at h
        · exfalso; revert h; repeat' split
          all_goals simp
        · exfalso; obtain ⟨_, _, he⟩ := Option.map_eq_some_iff.1 h; cases he
        · exfalso; obtain ⟨_, _, he⟩ := Option.map_eq_some_iff.1 h; cases he
        · exfalso; revert h; repeat' split
          all_goals simp
        · cases h
        · cases h
        · rename_i fo hcal
          split at h
          · rename_i f' xs h1 h2
            simp only [Option.some.injEq, AOp.call.injEq] at h
            obtain ⟨rfl, rfl⟩ := h
            exact ⟨fo, hcal, h1, h2⟩
          · cases h
        · cases h
      have hv := linkO_rep hfo hT
      rw [hfe] at hv
      obtain ⟨fs, cs, hval, hfs, hcs⟩ : ∃ fs cs, a.eval fo = .func (.func fid) fs cs ∧ RepL w γ (Fil σ) first fs ∧ RepL w γ (Fil σ) caps cs := by
        generalize a.eval fo = v at hv
        cases hv with | cl fs cs h1 h2 h3 h4 => exact ⟨fs, cs, rfl, ⟨h1, h3⟩, ⟨h2, h4⟩⟩
      have hargs : RepL w γ (Fil σ) (first ++ args.map (evO T) ++ caps) (fs ++ cl.args.map a.eval ++ cs) := repL_append (repL_append hfs (linkOs_map hT has)) hcs
      have hrun : (execOp a.eval o).run P w = .ok (.enter fid (fs ++ cl.args.map a.eval ++ cs)) w := by
        have hb : fn.body.isNone = false := hbody
        simp only [execOp, hop, resolve, hcal, hval, Deferred.ofValue, Sem.run_bind, Sem.run_pure, Result.andThen_ok, invoke, callFunc, run_program, hfn, hname, hb]
        simp
      refine wpIn_of h ?_
      rw [hrun]
      refine ⟨fo_depth, fo_calls ?_⟩
      rcases hw with ⟨r, ⟨_, hq⟩, hl⟩ | ⟨_, hq⟩
      rotate_left
      · refine (hq B w γ _ hs hargs.1 hargs.2).mono ?_
        rintro e w' ⟨v, γ', r, σ', rfl, k1, k2, k3, k4, k5⟩
        show At B n0 w0 γ0 K (a.put o.dst v) w'
        have hx : Ext (Fil σ) w γ w' γ' := k1.ext.mono fun n hn => hn.lt
        refine ⟨_, _, γ', by rw [put_defers]; exact hd.step k1, hf.trans (k1.mono (Nat.le_refl _) (Nat.le_refl _) hs.n0), ⟨k3.inv, k3.own, Nat.le_trans hs.n0 k3.n0, k3.B⟩, repT_put ((hT.ext hx).mono k2) o.dst k4, k5⟩
      refine (hq w γ _ hs.inv hargs.1 hargs.2).mono ?_
      rintro e w' ⟨v, γ', rfl, k1, k2, k3⟩
      show At B n0 w0 γ0 K (a.put o.dst v) w'
      have hf1 : Fn B n0 w γ w' γ' := k1.mono hs.B (Nat.le_trans n0.le hs.n0) hs.n0
      cases k3 with
      | c hr =>
        have hK : K (setT T o.dst r) σ := by
          unfold land at hl
          split at hl
          · cases hr
          · exact hl.elim
          · exact hl
        exact ⟨_, _, γ', by rw [put_defers]; exact hd.step hf1, hf.trans hf1, hs.after k1.keep k2, repT_put (hT.ext k1.keep.ext) o.dst hr, hK⟩
      | fr hrD hrv =>
        simp only [land] at hl
        obtain ⟨γ'', j1, j2, j3, j4⟩ := fr_land hs.hole.1 (hole_last σ) hs.n0 (fun n h1 h2 => by simp at h1; omega) k1 k2 hrD hrv
        have e1 : ∀ b : Ob, (σ ++ [none]).set σ.length (some b) = σ ++ [some b] := fun b => by simp
        rw [e1] at j3 j4
        have hm : ∀ (b : Ob) n, Fil σ n → Fil (σ ++ [some b]) n := fun b n ⟨c, hc⟩ => ⟨c, by rw [List.getElem?_append_left (List.getElem?_eq_some_iff.1 hc).1]; exact hc⟩
        exact ⟨_, _, γ'', by rw [put_defers]; exact hd.step j1, hf.trans j1, j3, repT_put ((hT.ext (j2.mono fun n h => (hs.hole.2 n).2 h)).mono (hm _)) o.dst j4, hl⟩
      | frm => exact hl.elim
    · rename_i n hfe
      obtain ⟨cl, hop⟩ : ∃ cl, o.op = .call cl := by
        unfold linkOp at h
        split at h <;> first
          | exact ⟨_, by assumption⟩
          | (exfalso; revert h; repeat' split
             all_goals simp)
          | (exfalso; simp at h; done)
          | (exfalso; obtain ⟨_, _, he⟩ := Option.map_eq_some_iff.1 h; cases he)
      obtain ⟨fo, hcal, hfo, has⟩ : ∃ fo, cl.callee = .value fo ∧ linkO P 0 fo = some f ∧ linkOs P cl.argTypes.toList cl.args.toList = some args := by
        simp only [linkOp, hop] at h
        split at h
        · exfalso; revert h; repeat' split
          all_goals simp
        · exfalso; obtain ⟨_, _, he⟩ := Option.map_eq_some_iff.1 h; cases he
        · exfalso; obtain ⟨_, _, he⟩ := Option.map_eq_some_iff.1 h; cases he
        · exfalso; revert h; repeat' split
          all_goals simp
        · cases h
        · cases h
        · rename_i fo hcal
          split at h
          · rename_i f' xs h1 h2
            simp only [Option.some.injEq, AOp.call.injEq] at h
            obtain ⟨rfl, rfl⟩ := h
            exact ⟨fo, hcal, h1, h2⟩
          · cases h
        · cases h
      have hv := linkO_rep hfo hT
      rw [hfe] at hv
      have hval : a.eval fo = .func (.yield (γ.mu n)) #[] #[] := by
        generalize a.eval fo = v at hv
        cases hv; rfl
      have hargs : RepL w γ (Fil σ) (args.map (evO T)) (cl.args.map a.eval) := linkOs_map hT has
      obtain ⟨l, fn, tmps, asg, body, hy, hR⟩ := hw ro B w γ _ hs hargs.1 hargs.2
      have hrun : (execOp a.eval o).run P w = .ok (.round l fn tmps asg body) w := by
        simp only [execOp, hop, resolve, hcal, hval, Deferred.ofValue, Sem.run_bind, Sem.run_pure, Result.andThen_ok, invoke]
        simpa using hy
      refine wpIn_of h ?_
      rw [hrun]
      refine ⟨fo_depth, hR.mono ?_⟩
      rintro e w' ⟨v, γ', r, σ', rfl, k1, k2, k3, k4, k5⟩
      show At B n0 w0 γ0 K (a.put o.dst v) w'
      have hx : Ext (Fil σ) w γ w' γ' := k1.ext.mono fun n hn => hn.lt
      exact ⟨_, _, γ', by rw [put_defers]; exact hd.step k1, hf.trans (k1.mono (Nat.le_refl _) (Nat.le_refl _) hs.n0), ⟨k3.inv, k3.own, Nat.le_trans hs.n0 k3.n0, k3.B⟩, repT_put ((hT.ext hx).mono k2) o.dst k4, k5⟩
    · exact hw.elim
  · have hw' : ∃ c' σ', evOp n0.lo T σ p = some (c', σ') ∧ K (setT T o.dst c') σ' := by
      cases p <;> simp only [wpO] at hw <;> first
        | exact absurd ⟨_, _, rfl⟩ hc
        | (split at hw
           · exact ⟨_, _, by assumption, hw⟩
           · exact hw.elim)
    obtain ⟨c', σ', he, hK⟩ := hw'
    exact at_ok h hd hf hT (evOp_sound h he hs hT) hK

theorem undef_put {A : Nat → Prop} (hT : RepT w γ A T a.tmps) (d : Option Nat) : RepT w γ A (setT T d nwC) (a.put d undef).tmps := repT_put hT d (.tup #[] rfl fun i c hc => by simp at hc)

theorem linkOper_spec {ops : Array Oper} {q : AOper} (h : linkOper P ops o = some q) : linkOp P o = some q.op ∧ q.dst = o.dst ∧
    ((o.guard = none ∧ q.guard = none) ∨ ∃ j want t, o.guard = some (j, want) ∧ (ops[j]?).bind (·.dst) = some t ∧ q.guard = some (t, want)) := by
  unfold linkOper at h
  split at h
  · rename_i p hp
    split at h
    · rename_i hg
      simp only [Option.some.injEq] at h; subst h; exact ⟨hp, rfl, .inl ⟨hg, rfl⟩⟩
    · rename_i j want hg
      split at h
      · rename_i t ht
        simp only [Option.some.injEq] at h; subst h; exact ⟨hp, rfl, .inr ⟨j, want, t, hg, ht, rfl⟩⟩
      · cases h
  · cases h

/-- Whether an operation is wanted. -/
theorem wanted_of {ops : Array Oper} {q : AOper} (h : linkOper P ops o = some q) {A : Nat → Prop} (hT : RepT w γ A T a.tmps) :
    (q.guard = none → Region.wanted o (yielded ops a.tmps) = true) ∧
    ∀ g want b, q.guard = some (g, want) → gdec T g want = some b → Region.wanted o (yielded ops a.tmps) = b := by
  obtain ⟨_, _, hg⟩ := linkOper_spec h
  refine ⟨fun h0 => ?_, fun g want b h0 hb => ?_⟩
  · rcases hg with ⟨hg, _⟩ | ⟨j, want, t, _, _, hq⟩
    · simp [Region.wanted, hg]
    · rw [h0] at hq; cases hq
  · rcases hg with ⟨_, hq⟩ | ⟨j, want', t, hg, ht, hq⟩
    · rw [h0] at hq; cases hq
    · rw [h0] at hq
      simp only [Option.some.injEq, Prod.mk.injEq] at hq
      obtain ⟨rfl, rfl⟩ := hq
      have hv := hT.eval (a := a) g
      unfold gdec at hb
      split at hb
      · rename_i b0 hb0
        simp only [Option.some.injEq] at hb
        subst hb
        rw [hb0] at hv
        have hv' := rep_bool hv
        have hget : a.tmps[g]? = some (.bool b0) := by
          have hv2 : a.tmps.getD g undef = .bool b0 := hv'
          rw [Array.getD_eq_getD_getElem?] at hv2
          cases hx : a.tmps[g]? with
          | none => rw [hx] at hv2; simp [undef] at hv2
          | some x => rw [hx] at hv2; simpa using hv2
        simp only [Region.wanted, hg, yielded, ht, Option.bind_some, hget]
        cases b0 <;> cases want <;> rfl
      · rename_i hb0
        simp only [Option.some.injEq] at hb
        subst hb
        rw [hb0] at hv
        have hv2 : ∃ vs, a.tmps.getD g undef = .tuple vs := by
          have : a.eval (.tmp g) = a.tmps.getD g undef := rfl
          rw [this] at hv
          generalize a.tmps.getD g undef = v at hv
          cases hv; exact ⟨_, rfl⟩
        obtain ⟨vs, hv2⟩ := hv2
        simp only [Region.wanted, hg, yielded, ht, Option.bind_some]
        rw [Array.getD_eq_getD_getElem?] at hv2
        cases hx : a.tmps[g]? with
        | none => rfl
        | some x => rw [hx] at hv2; simp at hv2; subst hv2; rfl
      · cases hb

theorem wpG_sound {ro : Option Nat} {ops : Array Oper} {q : AOper} {K : List C → St → Prop} (h : linkOper P ops o = some q) (hw : wpG P n0 q T σ K) (hd : DefOk n0.D w a.defers) (hf : Fn B n0 w0 γ0 w γ) (hs : Sat B n0 w γ σ) (hT : RepT w γ (Fil σ) T a.tmps) {Q : Exit → Act → World → Prop}
    {i : Nat} (hi : ops[i]? = some o) : wpOpIn (Fo ro) 0 P ops Q i (At B n0 w0 γ0 K) a w := by
  obtain ⟨hl, hdst, _⟩ := linkOper_spec h
  obtain ⟨hw1, hw2⟩ := wanted_of h hT
  unfold wpOpIn
  rw [hi]
  simp only []
  unfold wpG at hw
  split at hw
  · rename_i hg
    rw [if_pos (hw1 hg)]
    rw [hdst] at hw
    exact wpO_sound hl hw hd hf hs hT
  · rename_i g want hg
    split at hw
    · rename_i hb
      rw [hw2 g want _ hg hb, if_pos rfl]
      rw [hdst] at hw
      exact wpO_sound hl hw hd hf hs hT
    · rename_i hb
      rw [hw2 g want _ hg hb, if_neg (by simp)]
      rw [hdst] at hw
      exact ⟨fun _ _ => trivial, _, _, γ, by rw [put_defers]; exact hd, hf, hs, undef_put hT o.dst, hw⟩
    · exact hw.elim

theorem linkOpers_get {ops : Array Oper} : ∀ {l : List Oper} {qs : List AOper}, linkOpers P ops l = some qs → qs.length = l.length ∧ ∀ (i : Nat) (o : Oper), l[i]? = some o → ∃ q, qs[i]? = some q ∧ linkOper P ops o = some q
  | [], qs, h => by simp only [linkOpers, Option.some.injEq] at h; subst h; exact ⟨rfl, fun i o ho => by simp at ho⟩
  | x :: xs, qs, h => by
    simp only [linkOpers] at h
    split at h
    · rename_i p ps h1 h2
      simp only [Option.some.injEq] at h; subst h
      obtain ⟨k1, k2⟩ := linkOpers_get h2
      refine ⟨by simp [k1], fun i o ho => ?_⟩
      cases i with
      | zero => simp at ho; subst ho; exact ⟨p, rfl, h1⟩
      | succ i => exact k2 i o (by simpa using ho)
    · cases h

/-- A region whose order is fixed. -/
theorem wpS_sound {ro : Option Nat} {ops : Array Oper} {qs : List AOper} (h : linkOpers P ops ops.toList = some qs) {K : List C → St → Prop} {Q : Exit → Act → World → Prop} (hQ : ∀ a w, At B n0 w0 γ0 K a w → Q .normal a w) :
    ∀ (m k : Nat) (T : List C) (σ : St) (γ : G) (a : Act) (w : World), k + m = ops.size → wpS P n0 (qs.drop k) T σ K → DefOk n0.D w a.defers → Fn B n0 w0 γ0 w γ → Sat B n0 w γ σ → RepT w γ (Fil σ) T a.tmps →
      wpOpsIn (Fo ro) 0 P ops Q ((List.range ops.size).drop k) a w := by
  obtain ⟨hlen, hget⟩ := linkOpers_get h
  have hlen' : qs.length = ops.size := by simpa using hlen
  intro m
  induction m with
  | zero =>
    intro k T σ γ a w hk hw hd hf hs hT
    rw [List.drop_of_length_le (by simp; omega)]
    rw [List.drop_of_length_le (by omega)] at hw
    exact hQ _ _ ⟨T, σ, γ, hd, hf, hs, hT, hw⟩
  | succ m ih =>
    intro k T σ γ a w hk hw hd hf hs hT
    have hkl : k < ops.size := by omega
    rw [List.drop_eq_getElem_cons (by simpa using hkl)]
    simp only [List.getElem_range]
    rw [wpOpsIn_cons]
    obtain ⟨q, hq, hlq⟩ := hget k ops[k] (by simp [hkl])
    have hkq : k < qs.length := by omega
    rw [List.drop_eq_getElem_cons hkq] at hw
    have hqk : qs[k] = q := by rw [List.getElem?_eq_getElem hkq] at hq; exact Option.some.inj hq
    rw [hqk] at hw
    simp only [wpS] at hw
    refine wpOpIn_mono (fun a' w' hat => ?_) (wpG_sound hlq hw hd hf hs hT (i := k) (by simp [hkl]))
    obtain ⟨T', σ', γ', k1, k2, k3, k4, k5⟩ := hat
    exact ih (k + 1) T' σ' γ' a' w' (by omega) k5 k1 k2 k3 k4

end
end Go.Av

set_option linter.unusedVariables false
set_option linter.unusedSimpArgs false
namespace Go.Av
open Go.RowKit
variable [TheProg]
set_option linter.unusedSectionVars false

section
variable {P : Program} {B : Nat} {n0 : Fr} {o : Oper} {a : Act} {w w0 : World} {γ γ0 : G} {σ σ' : St} {c : C} {T : List C}

/-- A quiet operation leaves the store. -/
theorem quiet_store {p : AOp} (he : evOp n0.lo T σ p = some (c, σ')) (hq : quietOp p = true) : σ' = σ := by
  cases p <;> first
    | (simp [quietOp] at hq; done)
    | (simp only [evOp] at he
       first
         | (simp only [Option.some.injEq, Prod.mk.injEq] at he; exact he.2.symm)
         | (obtain ⟨_, _, h⟩ := Option.map_eq_some_iff.1 he
            simp only [Prod.mk.injEq] at h; exact h.2.symm)
         | (revert he
            repeat' split
            all_goals first
              | (intro he; cases he; done)
              | (intro he; simp only [Option.some.injEq, Prod.mk.injEq] at he; exact he.2.symm)
              | (intro he; obtain ⟨_, _, h⟩ := Option.map_eq_some_iff.1 he; simp only [Prod.mk.injEq] at h; exact h.2.symm)))

theorem quiet_fil {p : AOp} (he : evOp n0.lo T σ p = some (c, σ')) (hq : quietOp p = true) {v : Value} (h : RepC w γ (Fil σ') c v) : RepC w γ (Fil σ) c v := by
  rw [quiet_store he hq] at h; exact h

end
end Go.Av
