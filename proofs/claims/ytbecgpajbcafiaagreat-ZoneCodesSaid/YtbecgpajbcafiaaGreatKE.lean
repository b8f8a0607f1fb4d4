/-
  Opening: what a reading of the arguments of a call tells of their data. For every program and every world; types of whole numbers, bools, strings, and slices and structs of them.
  From what the evaluator finds on no store at all to what the machine does. For every program and every world.
  The seat's program; its types of data.
  The keys of a set of strings, sorted: the library's contracts at this program. For every map that is not nil; nothing that lay before the call has turned.
  Sorting of strings, as a plain function; the kit's sort is the same.
  Functions of which a contract is known, beside the table.
-/
import Derived.Test.YtbecgpajbcafiaaGreatKD
import Derived.ChangeShapes
import Derived.OpenShut
import Derived.Carry
import Derived.SizedLaws
import Derived.WalkKit
import Derived.ProofKit
import Derived.Test.YtbecgpajbcafiaaGreatChecked
import Derived.KernelRfl
import Derived.Shelf.SlIter.Nil
import Derived.Shelf.SortM.Plain
import Derived.Shelf.SortM.SortNone
import Derived.Ground.GgzProg
import Derived.Ground.SlgmProg
set_option linter.unusedVariables false
set_option linter.unusedSimpArgs false
namespace Go.Av
open Go.RowKit Go.ChangeShapes Go.WideShapes

/-- One after the other. -/
def Wfs (W : TypeId → List D → Prop) : List TypeId → List D → Prop
  | [], ds => ds = []
  | t :: ts, ds => ∃ a b, ds = a ++ b ∧ W t a ∧ Wfs W ts b

/-- The cells of a type. -/
def Wf (P : Program) : Nat → TypeId → List D → Prop
  | 0, _, _ => False
  | k + 1, t, ds => match P.underlying t with
    | some .bool => ∃ b, ds = [.bool b]
    | some (.int κ) => ∃ n, ds = [.int κ n] ∧ (Lit.int κ n).wf = true
    | some .string => ∃ s : ByteArray, ds = [.str s] ∧ s.size ≤ maxLen
    | some (.slice e) => ∃ rows : List (List D), ds = [.sl (P.cellsOf e) rows] ∧ rows.length ≤ maxLen ∧ ∀ r ∈ rows, Wf P k e r
    | some (.struct fs) => Wfs (Wf P k) (fs.toList.map (·.type)) ds
    | _ => False

def tilesB (P : Program) : Nat → List Field → Nat → Bool
  | off, [], n => off == n
  | off, f :: fs, n => f.offset == off && tilesB P (off + P.cellsOf f.type) fs n

/-- A set of types that are data. -/
def closedT (P : Program) (S : List TypeId) : Bool := S.all fun t => match P.underlying t with
  | some .bool => P.cellsOf t == 1
  | some (.int _) => P.cellsOf t == 1
  | some .string => P.cellsOf t == 1
  | some (.slice e) => P.cellsOf t == 1 && S.contains e && decide (0 < P.cellsOf e)
  | some (.struct fs) => tilesB P 0 fs.toList (P.cellsOf t) && fs.toList.all fun f => S.contains f.type
  | _ => false

/-- All cells are fixed. -/
def imW (W : World) (g : Nat) : Nat := match W.heap[g]? with
  | some (.cells vs _ _) => vs.size
  | _ => 0

theorem cell_imW {W : World} {g i : Nat} {v : Value} (h : W.cell? ⟨g, i, none⟩ = some v) : i < imW W g := by
  unfold World.cell? at h
  unfold imW
  split at h
  · rename_i hh
    rw [hh]
    simp only [Option.isSome_none, Bool.false_eq_true, if_false] at h
    exact (Array.getElem?_eq_some_iff.1 h).1
  · cases h

def RepDs (W : World) (ds : List D) (cs : List Value) : Prop := ds.length = cs.length ∧ ∀ (i : Nat) (x : D), ds[i]? = some x → ∃ v, cs[i]? = some v ∧ RepD W (imW W) x v

theorem repDs_one {W : World} {x : D} {v : Value} (h : RepD W (imW W) x v) : RepDs W [x] [v] := ⟨rfl, fun i y hy => by
  cases i with
  | zero => simp only [List.getElem?_cons_zero, Option.some.injEq] at hy; subst hy; exact ⟨v, rfl, h⟩
  | succ i => simp at hy⟩

theorem repDs_append {W : World} {a b : List D} {cs ds : List Value} (h : RepDs W a cs) (k : RepDs W b ds) : RepDs W (a ++ b) (cs ++ ds) := by
  refine ⟨by simp [h.1, k.1], fun i x hx => ?_⟩
  rw [List.getElem?_append] at hx ⊢
  rw [← h.1]
  split at hx
  · rename_i hl; rw [if_pos hl]; exact h.2 i x hx
  · rename_i hl; rw [if_neg hl]; exact k.2 _ x hx

section
variable {H : Type} {enc : TypeId × Value → H} {P : Program} {W : World} {sp : Nat → Bool} {held : Bool}

theorem open_fields {S : List TypeId} {fuel n : Nat} {cs : List Value} (ih : ∀ t cs x, P.cellsOf t = cs.length → t ∈ S → DataW.trod enc P W 0 sp held fuel t cs = some x → ∃ ds, RepDs W ds cs ∧ Wf P fuel t ds) (hn : cs.length = n) :
    ∀ (fs : List Field) (off : Nat), tilesB P off fs n = true → (∀ f ∈ fs, f.type ∈ S) → (∀ f ∈ fs, ∃ x, DataW.trod enc P W 0 sp held fuel f.type ((cs.drop f.offset).take (P.cellsOf f.type)) = some x) →
      off ≤ n ∧ ∃ ds, RepDs W ds (cs.drop off) ∧ Wfs (Wf P fuel) (fs.map (·.type)) ds
  | [], off, ht, _, _ => by
    simp only [tilesB, beq_iff_eq] at ht
    subst ht; subst hn
    exact ⟨Nat.le_refl _, [], ⟨by simp, fun i x hx => by simp at hx⟩, rfl⟩
  | f :: fs, off, ht, hS, hx => by
    simp only [tilesB, Bool.and_eq_true, beq_iff_eq] at ht
    obtain ⟨h1, h2⟩ := ht
    obtain ⟨h3, ds, h4, h5⟩ := open_fields ih hn fs _ h2 (fun g hg => hS g (List.mem_cons_of_mem _ hg)) (fun g hg => hx g (List.mem_cons_of_mem _ hg))
    obtain ⟨x, hx⟩ := hx f (List.mem_cons_self ..)
    rw [h1] at hx
    have hl : P.cellsOf f.type = ((cs.drop off).take (P.cellsOf f.type)).length := by rw [List.length_take, List.length_drop]; omega
    obtain ⟨a, a1, a2⟩ := ih _ _ _ hl (hS f (List.mem_cons_self ..)) hx
    refine ⟨by omega, a ++ ds, ?_, a, ds, rfl, a2, h5⟩
    have := repDs_append a1 h4
    rwa [← List.drop_drop, List.take_append_drop] at this

theorem open_data {S : List TypeId} (hS : closedT P S = true) : ∀ (fuel : Nat) (t : TypeId) (cs : List Value) (x : DataW H × List MemPlace), P.cellsOf t = cs.length → t ∈ S →
    DataW.trod enc P W 0 sp held fuel t cs = some x → ∃ ds, RepDs W ds cs ∧ Wf P fuel t ds := by
  intro fuel
  induction fuel with
  | zero => intro t cs x _ _ h; simp [DataW.trod] at h
  | succ fuel ih =>
    intro t cs x hcs ht h
    have hc := List.all_eq_true.1 hS t ht
    simp only [Wf]
    generalize hu : P.underlying t = u at hc
    cases u with
    | none => cases hc
    | some u =>
      cases u <;> try (simp at hc; done)
      case bool =>
        obtain ⟨b, rfl, rfl⟩ := DataW.trod_bool hu h
        exact ⟨[.bool b], repDs_one (.bool b), b, rfl⟩
      case int k =>
        obtain ⟨n, rfl, rfl, hw⟩ := DataW.trod_int hu h
        exact ⟨[.int k n], repDs_one (.int k n), n, rfl, hw⟩
      case string =>
        obtain ⟨s, rfl, rfl, hw⟩ := DataW.trod_string hu h
        exact ⟨[.str s], repDs_one (.str s), s, rfl, hw⟩
      case slice e =>
        simp only [Bool.and_eq_true, beq_iff_eq, List.contains_iff_mem, decide_eq_true_eq] at hc
        rcases DataW.trod_slice hu h with ⟨rfl, rfl⟩ | ⟨a, len, cap, elems, rest, m, hm, rfl, rfl, _, hlc, hcm, hel, hget, _⟩
        · exact ⟨[.sl (P.cellsOf e) []], repDs_one (.sl0 _ _ _ (fun _ => rfl)), [], rfl, Nat.zero_le _, fun r hr => by cases hr⟩
        · have hm' : m = fuel := by omega
          subst hm'
          have each : ∀ i, ∃ row : List D, i < len → ∃ cells, row.length = P.cellsOf e ∧ (∀ j, j < P.cellsOf e → W.cell? ((a.add (i * P.cellsOf e)).add j) = cells[j]?) ∧ RepDs W row cells ∧ Wf P m e row := by
            intro i
            by_cases hi : i < len
            · have hg := hget i hi
              rw [List.getElem?_eq_getElem (by omega)] at hg
              cases hcells : W.cells? 0 (a.add (i * P.cellsOf e)) (P.cellsOf e) with
              | none => rw [hcells] at hg; cases hg
              | some cells =>
                rw [hcells] at hg
                simp only [Option.bind_some] at hg
                obtain ⟨_, hl, hcell⟩ := World.cells?_some hcells
                obtain ⟨ds, d1, d2⟩ := ih e cells _ hl.symm hc.1.2 hg
                exact ⟨ds, fun _ => ⟨cells, by rw [d1.1, hl], hcell, d1, d2⟩⟩
            · exact ⟨[], fun h => absurd h hi⟩
          obtain ⟨row, hrow⟩ := Classical.axiomOfChoice each
          cases len with
          | zero => exact ⟨[.sl (P.cellsOf e) []], repDs_one (.sl0 _ _ _ (fun h => by cases h)), [], rfl, Nat.zero_le _, fun r hr => by cases hr⟩
          | succ len =>
            obtain ⟨b, o, s⟩ := a
            have hs : s = none := by
              obtain ⟨cells, q1, q2, q3, q4⟩ := hrow 0 (by omega)
              have h0 := q2 0 hc.2
              rw [List.getElem?_eq_getElem (by rw [← q3.1, q1]; exact hc.2)] at h0
              have := World.cell?_spot h0
              simpa [Addr.add] using this
            subst hs
            refine ⟨[.sl (P.cellsOf e) ((List.range (len + 1)).map row)], repDs_one ?_, _, rfl, by simp; omega, fun r hr => ?_⟩
            · have hlen : ((List.range (len + 1)).map row).length = len + 1 := by simp
              have key : ∀ i j d, at2 ((List.range (len + 1)).map row) i j = some d → ∃ v, W.cell? ⟨b, o + i * P.cellsOf e + j, none⟩ = some v ∧ RepD W (imW W) d v := by
                intro i j d hd
                unfold at2 at hd
                rw [List.getElem?_map] at hd
                by_cases hi : i < len + 1
                · rw [List.getElem?_range hi] at hd
                  simp only [Option.map_some, Option.bind_some] at hd
                  obtain ⟨cells, q1, q2, q3, q4⟩ := hrow i hi
                  obtain ⟨v, hv, hr⟩ := q3.2 j d hd
                  have hj : j < P.cellsOf e := by rw [← q1]; exact (List.getElem?_eq_some_iff.1 hd).1
                  have := q2 j hj
                  rw [add_plain, add_plain, hv] at this
                  exact ⟨v, this, hr⟩
                · rw [List.getElem?_eq_none (by simp; omega)] at hd
                  cases hd
              have := RepD.sl (w := W) (im := imW W) (P.cellsOf e) ((List.range (len + 1)).map row) b o cap (fun i j => (W.cell? ⟨b, o + i * P.cellsOf e + j, none⟩).getD undef) (by rw [hlen]; exact hlc) ?_ ?_ ?_
              · rw [hlen] at this; exact this
              · intro i r hr
                rw [List.getElem?_map] at hr
                by_cases hi : i < len + 1
                · rw [List.getElem?_range hi] at hr
                  simp only [Option.map_some, Option.some.injEq] at hr
                  subst hr
                  obtain ⟨cells, q1, _⟩ := hrow i hi
                  exact q1
                · rw [List.getElem?_eq_none (by simp; omega)] at hr
                  cases hr
              · intro i j d hd
                obtain ⟨v, hv, _⟩ := key i j d hd
                exact ⟨by rw [hv]; rfl, cell_imW hv⟩
              · intro i j d hd
                obtain ⟨v, hv, hr⟩ := key i j d hd
                rw [hv]; exact hr
            · obtain ⟨i, hi, rfl⟩ := List.mem_map.1 hr
              obtain ⟨_, _, _, _, q⟩ := hrow i (List.mem_range.1 hi)
              exact q
      case struct fs =>
        simp only [Bool.and_eq_true, List.all_eq_true, List.contains_iff_mem] at hc
        obtain ⟨xs, m, hm, _, hl, hxl, hf⟩ := DataW.trod_struct hu h
        have hm' : m = fuel := by omega
        subst hm'
        have := (open_fields (S := S) (enc := enc) (sp := sp) (held := held) (W := W) (fuel := m) (n := P.cellsOf t) (cs := cs) ih hl fs.toList 0 hc.1 (fun f hf => hc.2 f hf) (fun f hfm => by
          obtain ⟨i, hi⟩ := List.getElem?_of_mem hfm
          have h1 := hf i f (by simpa using hi)
          have hlt : i < xs.length := by rw [hxl]; have := (List.getElem?_eq_some_iff.1 hi).1; simpa using this
          rw [List.getElem?_eq_getElem hlt] at h1
          exact ⟨_, h1⟩)).2
        simpa using this

/-- The abstract of an argument: a struct is its cells, else the cell. -/
def argC (P : Program) (t : TypeId) (ds : List D) : C := match P.underlying t with
  | some (.struct _) => .agg (ds.map .d)
  | _ => match ds with | [x] => .d x | _ => .undef

theorem open_arg {S : List TypeId} (hS : closedT P S = true) {r : Reach} {b0 : Nat} {t : TypeId} {v : Value} {d : DataW H} {ps : List MemPlace} (ht : t ∈ S)
    (hval : Value.okWide P W r b0 t v) (hd : DataW.Trod enc P W 0 sp held t v d ps) {γ : G} (hγ : γ.im = imW W) (A : Nat → Prop) : ∃ k ds, Wf P k t ds ∧ RepC W γ A (argC P t ds) v := by
  obtain ⟨fuel, hf⟩ := hd
  have hc := List.all_eq_true.1 hS t ht
  have one : ∀ (w : Value) (ds : List D), w.cells = #[w] → RepDs W ds w.cells.toList → RepC W γ A (match ds with | [x] => .d x | _ => .undef) w := by
    intro w ds hw hr
    rw [hw] at hr
    obtain ⟨h1, h2⟩ := hr
    match ds, h1, h2 with
    | [x], _, h2 =>
      obtain ⟨v, hv, hr⟩ := h2 0 x rfl
      simp at hv
      subst hv
      exact .d (hγ ▸ hr)
  generalize hu : P.underlying t = u at hc
  cases u with
  | none => cases hc
  | some u =>
    cases u <;> try (simp at hc; done)
    case bool =>
      simp only [beq_iff_eq] at hc
      obtain ⟨b, rfl⟩ := okWide_bool hu hval
      obtain ⟨ds, d1, d2⟩ := open_data hS fuel t _ _ (by rw [hc]; rfl) ht hf
      exact ⟨fuel, ds, d2, by simp only [argC, hu]; exact one _ ds rfl d1⟩
    case int k =>
      simp only [beq_iff_eq] at hc
      obtain ⟨b, rfl⟩ := okWide_int hu hval
      obtain ⟨ds, d1, d2⟩ := open_data hS fuel t _ _ (by rw [hc]; rfl) ht hf
      exact ⟨fuel, ds, d2, by simp only [argC, hu]; exact one _ ds rfl d1⟩
    case string =>
      simp only [beq_iff_eq] at hc
      obtain ⟨b, rfl⟩ := okWide_string hu hval
      obtain ⟨ds, d1, d2⟩ := open_data hS fuel t _ _ (by rw [hc]; rfl) ht hf
      exact ⟨fuel, ds, d2, by simp only [argC, hu]; exact one _ ds rfl d1⟩
    case slice e =>
      simp only [Bool.and_eq_true, beq_iff_eq] at hc
      obtain ⟨a, l, c, rfl⟩ := okWide_slice hu hval
      obtain ⟨ds, d1, d2⟩ := open_data hS fuel t _ _ (by rw [hc.1.1]; rfl) ht hf
      exact ⟨fuel, ds, d2, by simp only [argC, hu]; exact one _ ds rfl d1⟩
    case struct fs =>
      obtain ⟨cs, rfl, hcs⟩ := okWide_struct hu hval
      obtain ⟨ds, d1, d2⟩ := open_data hS fuel t _ _ (by show _ = cs.toList.length; rw [← hcs]; simp) ht hf
      refine ⟨fuel, ds, d2, ?_⟩
      simp only [argC, hu]
      have d1' : RepDs W ds cs.toList := d1
      refine .agg cs (by rw [List.length_map, d1'.1]; simp) (fun i c hci => ?_)
      rw [List.getElem?_map] at hci
      obtain ⟨x, hx, rfl⟩ := Option.map_eq_some_iff.1 hci
      obtain ⟨v, hv, hr⟩ := d1'.2 i x hx
      have : cs.getD i undef = v := by simp [Array.getD_eq_getD_getElem?] at hv ⊢; simp [hv]
      rw [this]
      exact .d (hγ ▸ hr)
end
end Go.Av

set_option linter.unusedVariables false
set_option linter.unusedSimpArgs false
namespace Go.Av
open Go.RowKit

def γ0 (W : World) : G := ⟨imW W, fun _ => 0, fun _ => undef, fun _ => 0⟩

theorem calls_true [TheProg] {E : Env} (hE : EnvOk TheProg.prog E) {f : FuncId} {cs : List C} {σ' : St} (h : EvF E 0 (.fn f) cs [] = some (.d (.bool true), σ')) {W : World} {vs : Array Value}
    (hs : vs.size = cs.length) (hr : ∀ (i : Nat) (c : C), cs[i]? = some c → RepC W (γ0 W) (Fil []) c (vs.getD i undef)) :
    Calls TheProg.prog f vs W fun e W' => e = .returned (.bool true) ∧ Below W.heap.size W W' := by
  have hc := (callX_of_EvF hE h (.all 0) rfl).2 W.heap.size W (γ0 W) vs ?_ hs hr
  · refine hc.mono ?_
    rintro e w' ⟨v, γ', r, σ'', rfl, k1, k2, k3, k4, rfl, rfl⟩
    cases k4 with
    | d h => cases h with
      | bool => exact ⟨rfl, k1.below⟩
  · exact ⟨⟨fun n b h => by simp at h, fun n m b c g h => by simp at h, fun g hg => by
      show imW W g = 0
      unfold imW
      rw [Array.getElem?_eq_none hg]⟩, fun n b g hn h => by simp at h, Nat.le_refl _, Nat.le_refl _⟩

/-- A call of no arguments that answers a bool, whatever there is. -/
theorem callX_closed [TheProg] {E : Env} (hE : EnvOk TheProg.prog E) {k : Nat} {f : FuncId} {b : Bool} {σ' : St} (h : evF E k 0 (.fn f) [] [] = some (.d (.bool b), σ')) (n0 : Fr) (σ : St) :
    CallX TheProg.prog n0 f [] σ fun r s => r = .d (.bool b) ∧ s = σ := by
  have hc := (evF_ok hE k).fn _ _ _ _ _ _ h (.all 0) rfl
  refine ⟨hc.1, fun B w γ vs hs hvl hvr => ?_⟩
  have hs0 : Sat w.heap.size (.all 0) w γ [] := ⟨⟨fun n b h => by simp at h, fun n m b c g h => by simp at h, hs.inv.lt⟩, fun n b g hn h => by simp at h, Nat.le_refl _, Nat.le_refl _⟩
  refine (hc.2 w.heap.size w γ vs hs0 hvl (fun i c h => by simp at h)).mono ?_
  rintro e w' ⟨v, γ', r, σ'', rfl, k1, k2, k3, k4, rfl, rfl⟩
  have hk : Keep σ w γ w' ⟨γ'.im, γ.mu, γ.tk, γ.len⟩ := ⟨⟨k1.ext.d, fun _ _ => rfl, fun _ _ => Nat.le_refl _, fun _ _ _ => rfl⟩, k1.below, fun g hg => k1.im g hg, fun n hn => rfl⟩
  have hsU : Sat B (n0.up σ.length hs.n0) w γ σ := ⟨hs.inv, hs.own, Nat.le_refl _, hs.B⟩
  have hsat := hsU.after hk (fun g hg => k3.inv.lt g hg)
  refine ⟨v, ⟨γ'.im, γ.mu, γ.tk, γ.len⟩, _, σ, rfl, ⟨⟨k1.ext.d, fun _ _ => rfl, fun _ _ => Nat.le_refl _, fun _ _ _ => rfl⟩, k1.below.mono hs.B, fun g hg => k1.im g (Nat.lt_of_lt_of_le hg hs.B), fun _ _ => ⟨rfl, rfl⟩, k1.dfr, k1.lps⟩, fun n h => h, hsat, ?_, rfl, rfl⟩
  cases k4 with
  | d h => cases h; exact .d (.bool _)
end Go.Av

set_option linter.unusedVariables false
namespace Go.Proofs.YtbecgpajbcafiaaGreat
open Go.Av Go.RowKit
noncomputable instance theProg : TheProg := ⟨Tryz.prog⟩
def seatT : List TypeId := [3, 4, 9, 5, 85, 21, 38, 2, 22, 24, 25, 26, 27, 29, 30, 31, 33, 48, 50, 52, 54, 56, 75, 77, 79, 92, 100, 119]
theorem closed : closedT Tryz.prog seatT = true := by kernel_rfl
theorem mixed : Tryz.prog.follows .mixedOrders = true := by kernel_rfl
end Go.Proofs.YtbecgpajbcafiaaGreat

set_option linter.unusedVariables false
namespace Go.Proofs
open Go.RowKit Go.Maps Go.Sort Go.Shelf

def Tryz.keysA_ren : Go.Shelf.Ren := ⟨fun | 7 => 195 | 10 => 252 | n => n, fun | 23 => 164 | 26 => 9 | 3 => 4 | 28 => 232 | 0 => 0 | 27 => 231 | 33 => 157 | 4 => 4 | n => n, fun | n => n⟩
theorem Tryz.keysA : Go.Proofs.SlLaysZ.n7 Tryz.prog Tryz.keysA_ren := {
  mixed := by kernel_rfl
  f7 := ⟨Tryz.f195.name, by decide, Tryz.func195.trans (congrArg some (by kernel_rfl))⟩
  f10 := ⟨Tryz.f252.name, by decide, Tryz.func252.trans (congrArg some (by kernel_rfl))⟩
  t0 := Tryz.underlying0
  a0 := Tryz.isAgg0
  z0 := Tryz.sizeOf0
  v0 := Tryz.zeroValue0
  t4 := Tryz.underlying4
  a4 := Tryz.isAgg4
  z4 := Tryz.sizeOf4
  v4 := Tryz.zeroValue4
  t23 := Tryz.underlying164
  a23 := Tryz.isAgg164
  z23 := Tryz.sizeOf164
  v23 := Tryz.zeroValue164
  t26 := Tryz.underlying9
  a26 := Tryz.isAgg9
  z26 := Tryz.sizeOf9
  v26 := Tryz.zeroValue9
  t27 := Tryz.underlying231
  a27 := Tryz.isAgg231
  z27 := Tryz.sizeOf231
  v27 := Tryz.zeroValue231
  t28 := Tryz.underlying232
  a28 := Tryz.isAgg232
  z28 := Tryz.sizeOf232
  v28 := Tryz.zeroValue232
  t33 := Tryz.underlying157
  a33 := Tryz.isAgg157
  z33 := Tryz.sizeOf157
  v33 := Tryz.zeroValue157 }
def Tryz.sortedA_ren : Go.Shelf.Ren := ⟨fun | 6 => 194 | 8 => 250 | 9 => 251 | 11 => 265 | 13 => 267 | 12 => 266 | 23 => 280 | 24 => 281 | 14 => 271 | 15 => 272 | 16 => 273 | 17 => 274 | 18 => 275 | 19 => 276 | 20 => 277 | 21 => 278 | 22 => 279 | 25 => 287 | 26 => 288 | 27 => 289 | 28 => 290 | 29 => 291 | 30 => 292 | 31 => 293 | n => n, fun | 26 => 9 | 28 => 232 | 24 => 75 | 0 => 0 | 3 => 3 | 37 => 262 | 48 => 85 | 50 => 261 | 4 => 4 | 40 => 278 | 39 => 277 | 45 => 255 | 5 => 5 | 9 => 9 | 51 => 287 | 55 => 291 | 57 => 293 | 58 => 294 | 33 => 157 | n => n, fun | n => n⟩
theorem Tryz.sortedA : Go.Proofs.SlLaysZ.n6 Tryz.prog Tryz.sortedA_ren := {
  mixed := by kernel_rfl
  f6 := ⟨Tryz.f194.name, by decide, Tryz.func194.trans (congrArg some (by kernel_rfl))⟩
  f8 := ⟨Tryz.f250.name, by decide, Tryz.func250.trans (congrArg some (by kernel_rfl))⟩
  f11 := ⟨Tryz.f265.name, by decide, Tryz.func265.trans (congrArg some (by kernel_rfl))⟩
  t0 := Tryz.underlying0
  a0 := Tryz.isAgg0
  z0 := Tryz.sizeOf0
  v0 := Tryz.zeroValue0
  t24 := Tryz.underlying75
  a24 := Tryz.isAgg75
  z24 := Tryz.sizeOf75
  v24 := Tryz.zeroValue75
  t26 := Tryz.underlying9
  a26 := Tryz.isAgg9
  z26 := Tryz.sizeOf9
  v26 := Tryz.zeroValue9
  t28 := Tryz.underlying232
  a28 := Tryz.isAgg232
  z28 := Tryz.sizeOf232
  v28 := Tryz.zeroValue232
  i26 := by kernel_rfl }
def Tryz.sortA_ren : Go.Shelf.Ren := ⟨fun | 6 => 251 | 8 => 267 | 9 => 266 | 19 => 280 | 20 => 281 | 21 => 271 | 22 => 272 | 23 => 273 | 24 => 274 | 25 => 275 | 26 => 276 | 27 => 277 | 28 => 278 | 29 => 279 | 36 => 287 | 31 => 288 | 32 => 289 | 37 => 290 | 38 => 291 | 39 => 292 | 41 => 293 | n => n, fun | 27 => 75 | 29 => 9 | 3 => 3 | 32 => 262 | 26 => 75 | 0 => 0 | 44 => 85 | 46 => 261 | 4 => 4 | 36 => 278 | 35 => 277 | 41 => 255 | 5 => 5 | 9 => 9 | 53 => 287 | 57 => 291 | 63 => 293 | 64 => 294 | n => n, fun | n => n⟩
theorem Tryz.sortA : Go.Proofs.SlLaysM.n6 Tryz.prog Tryz.sortA_ren := {
  mixed := by kernel_rfl
  f6 := ⟨Tryz.f251.name, by decide, Tryz.func251.trans (congrArg some (by kernel_rfl))⟩
  f8 := Tryz.func267.trans (congrArg some (by kernel_rfl))
  f9 := ⟨Tryz.f266.name, by decide, Tryz.func266.trans (congrArg some (by kernel_rfl))⟩
  f19 := Tryz.func280.trans (congrArg some (by kernel_rfl))
  f20 := Tryz.func281.trans (congrArg some (by kernel_rfl))
  f21 := ⟨Tryz.f271.name, by decide, Tryz.func271.trans (congrArg some (by kernel_rfl))⟩
  f22 := ⟨Tryz.f272.name, by decide, Tryz.func272.trans (congrArg some (by kernel_rfl))⟩
  f23 := ⟨Tryz.f273.name, by decide, Tryz.func273.trans (congrArg some (by kernel_rfl))⟩
  f24 := ⟨Tryz.f274.name, by decide, Tryz.func274.trans (congrArg some (by kernel_rfl))⟩
  f25 := ⟨Tryz.f275.name, by decide, Tryz.func275.trans (congrArg some (by kernel_rfl))⟩
  f26 := ⟨Tryz.f276.name, by decide, Tryz.func276.trans (congrArg some (by kernel_rfl))⟩
  f27 := ⟨Tryz.f277.name, by decide, Tryz.func277.trans (congrArg some (by kernel_rfl))⟩
  f28 := ⟨Tryz.f278.name, by decide, Tryz.func278.trans (congrArg some (by kernel_rfl))⟩
  f29 := ⟨Tryz.f279.name, by decide, Tryz.func279.trans (congrArg some (by kernel_rfl))⟩
  f31 := Tryz.func288.trans (congrArg some (by kernel_rfl))
  f32 := Tryz.func289.trans (congrArg some (by kernel_rfl))
  f36 := ⟨Tryz.f287.name, by decide, Tryz.func287.trans (congrArg some (by kernel_rfl))⟩
  f37 := ⟨Tryz.f290.name, by decide, Tryz.func290.trans (congrArg some (by kernel_rfl))⟩
  f38 := ⟨Tryz.f291.name, by decide, Tryz.func291.trans (congrArg some (by kernel_rfl))⟩
  f39 := ⟨Tryz.f292.name, by decide, Tryz.func292.trans (congrArg some (by kernel_rfl))⟩
  f41 := ⟨Tryz.f293.name, by decide, Tryz.func293.trans (congrArg some (by kernel_rfl))⟩
  t0 := Tryz.underlying0
  a0 := Tryz.isAgg0
  z0 := Tryz.sizeOf0
  v0 := Tryz.zeroValue0
  t3 := Tryz.underlying3
  a3 := Tryz.isAgg3
  z3 := Tryz.sizeOf3
  v3 := Tryz.zeroValue3
  t4 := Tryz.underlying4
  a4 := Tryz.isAgg4
  z4 := Tryz.sizeOf4
  v4 := Tryz.zeroValue4
  t5 := Tryz.underlying5
  a5 := Tryz.isAgg5
  z5 := Tryz.sizeOf5
  v5 := Tryz.zeroValue5
  t9 := Tryz.underlying9
  a9 := Tryz.isAgg9
  z9 := Tryz.sizeOf9
  v9 := Tryz.zeroValue9
  t26 := Tryz.underlying75
  a26 := Tryz.isAgg75
  z26 := Tryz.sizeOf75
  v26 := Tryz.zeroValue75
  t27 := Tryz.underlying75
  a27 := Tryz.isAgg75
  z27 := Tryz.sizeOf75
  v27 := Tryz.zeroValue75
  t29 := Tryz.underlying9
  a29 := Tryz.isAgg9
  z29 := Tryz.sizeOf9
  v29 := Tryz.zeroValue9
  t32 := Tryz.underlying262
  a32 := Tryz.isAgg262
  z32 := Tryz.sizeOf262
  v32 := Tryz.zeroValue262
  t35 := Tryz.underlying277
  a35 := Tryz.isAgg277
  z35 := Tryz.sizeOf277
  v35 := Tryz.zeroValue277
  t36 := Tryz.underlying278
  a36 := Tryz.isAgg278
  z36 := Tryz.sizeOf278
  v36 := Tryz.zeroValue278
  t41 := Tryz.underlying255
  a41 := Tryz.isAgg255
  z41 := Tryz.sizeOf255
  v41 := Tryz.zeroValue255
  t44 := Tryz.underlying85
  a44 := Tryz.isAgg85
  z44 := Tryz.sizeOf85
  v44 := Tryz.zeroValue85
  t46 := Tryz.underlying261
  a46 := Tryz.isAgg261
  z46 := Tryz.sizeOf261
  v46 := Tryz.zeroValue261
  t53 := Tryz.underlying287
  a53 := Tryz.isAgg287
  z53 := Tryz.sizeOf287
  v53 := Tryz.zeroValue287
  t57 := Tryz.underlying291
  a57 := Tryz.isAgg291
  z57 := Tryz.sizeOf291
  v57 := Tryz.zeroValue291
  t63 := Tryz.underlying293
  a63 := Tryz.isAgg293
  z63 := Tryz.sizeOf293
  v63 := Tryz.zeroValue293
  t64 := Tryz.underlying294
  a64 := Tryz.isAgg294
  z64 := Tryz.sizeOf294
  v64 := Tryz.zeroValue294 }

theorem Tryz.sortsA (m : Nat) : AnyZ.SortsIn Tryz.prog Tryz.sortedA_ren Fence.wide m :=
  ⟨fun blk off cap ss W hH hblk hsz => callsIn_wide.2 (AnyM.slices_Sort_string Tryz.sortA blk off cap ss W hH hblk hsz),
   fun p cap W => callsIn_wide.2 (AnyM.slices_Sort_string_none Tryz.sortA p cap W)⟩

set_option maxHeartbeats 1000000 in
theorem Tryz.sortedKeys {H : Type} (b nn : Nat) (D0 : DataW H) (R : Value → Option (DataW H × List MemPlace)) (w : World) (hown : w.ownsMap Tryz.prog 9 R b nn D0) (hmax : Maps.size D0 ≤ maxLen) (hbytes : Maps.size D0 * 16 ≤ 140737488355328) :
    Calls Tryz.prog 112 #[.map (some b)] w fun e w' => ∃ (v : Value) (ss : List (List UInt8)), e = .returned v ∧ ss.Perm (strKeys D0) ∧
      w'.ownsRow w.heap.size 9 1 v ss.length ((ss.mergeSort (fun x y => decide (x ≤ y))).map encStr) ∧ (v = .slice none 0 0 ↔ ss = []) ∧ Below w.heap.size w w' := by
  refine (callsIn_wide (n := 6)).1 ?_
  have hbl := hown.lt
  have hseq : SeqGives Fence.wide 2 Tryz.prog 252 #[.pointer (some ⟨w.heap.size, 0, none⟩)] encStr (fun ss => ss.Perm (strKeys D0)) (Maps.size D0) (w.alloc (.cells #[.map (some b)] 164)) :=
    AnyZ.keys_gives (ρ := Tryz.keysA_ren) { Tryz.keysA with } Fence.wide _ trivial rfl (by omega) w.heap.size b nn D0 _ (by simp) (by simp) (by
      obtain ⟨es, clock, hb, Ft, hs, hD⟩ := hown
      exact ⟨es, clock, (Below.heap_alloc _ _ b hbl).trans hb, Ft, hs, hD⟩)
  have cK : ∀ mb W, CallsIn Fence.wide 5 Tryz.prog 195 #[.map mb] W fun e w' => e = .returned (.func (.func 252) #[] #[.pointer (some ⟨W.heap.size, 0, none⟩)]) ∧ w' = W.alloc (.cells #[.map mb] 164) := fun mb W => AnyZ.keys_in Tryz.keysA Fence.wide 5 trivial rfl mb W
  have cS := AnyZ.sorted_in Tryz.sortedA Fence.wide 5 trivial trivial trivial trivial rfl (by omega) (Tryz.sortsA _) (enters_of Tryz.func251 (by kernel_rfl) rfl) 252 #[.pointer (some ⟨w.heap.size, 0, none⟩)] trivial (enters_of Tryz.func252 (by kernel_rfl) rfl) _ _ hmax hbytes _ hseq
  change CallsIn _ _ Tryz.prog 194 _ _ _ at cS
  have hfK : Fence.wide.fn 195 := trivial
  have hfS : Fence.wide.fn 194 := trivial
  refine callsIn_of_wp Tryz.func112 rfl trivial ?_ rfl
  simp only [Tryz.ntmps112, List.size_toArray, List.length_cons, List.length_nil, Nat.reduceAdd, Nat.reduceSub, Array.replicate_succ, Array.replicate_zero, List.push_toArray, List.append_toArray, List.nil_append, List.cons_append]
  gi_wp2_with (first
    | (gi_at_call 195; refine (cK _ _).mono ?_; rintro e w' ⟨rfl, rfl⟩)
    | (gi_at_call 194; refine cS.mono ?_; rintro e w' ⟨v, ss, rfl, hS, hrow, hnil, hb⟩))
  go_ret
  exact ⟨v, ss, rfl, hS, ownsRow_base_a hrow (by simp), hnil, ((Below.refl _ w).alloc (Nat.le_refl _) _).trans (hb.mono (by simp))⟩

end Go.Proofs

set_option linter.unusedVariables false
namespace Go.Av
open Go.RowKit Go.Maps Go.Sort

def insS (x : ByteArray) : List ByteArray → List ByteArray
  | [] => [x]
  | y :: ys => if strLt x y then x :: y :: ys else y :: insS x ys
def sortS : List ByteArray → List ByteArray
  | [] => []
  | x :: xs => insS x (sortS xs)
def strOfD : D → Option ByteArray
  | .str s => some s
  | _ => none

theorem insS_perm (x : ByteArray) : ∀ l, (insS x l).Perm (x :: l)
  | [] => .refl _
  | y :: ys => by
    unfold insS
    split
    · exact .refl _
    · exact ((insS_perm x ys).cons y).trans (.swap x y ys)
theorem sortS_perm : ∀ l, (sortS l).Perm l
  | [] => .refl _
  | x :: xs => (insS_perm x _).trans ((sortS_perm xs).cons x)

abbrev bl (k : ByteArray) : List UInt8 := k.data.toList

theorem strLt_iff (a b : ByteArray) : strLt a b = decide (bl a < bl b) := Go.Proofs.bytesLess_eq _ _

theorem le_of_strLt {a b : ByteArray} (h : strLt a b = true) : bl a ≤ bl b := by
  rw [strLt_iff] at h
  have h := of_decide_eq_true h
  intro h2
  exact absurd (List.lt_trans h h2) (List.lt_irrefl _)
theorem le_of_not {a b : ByteArray} (h : ¬ strLt a b = true) : bl b ≤ bl a := by
  rw [strLt_iff] at h
  exact fun h2 => h (decide_eq_true h2)

theorem insS_sorted (x : ByteArray) : ∀ l, l.Pairwise (fun a b => bl a ≤ bl b) → (insS x l).Pairwise fun a b => bl a ≤ bl b
  | [], _ => by simp [insS]
  | y :: ys, h => by
    unfold insS
    have h' := List.pairwise_cons.1 h
    split
    · rename_i hlt
      refine List.pairwise_cons.2 ⟨fun z hz => ?_, h⟩
      rcases List.mem_cons.1 hz with rfl | hz
      · exact le_of_strLt hlt
      · exact List.le_trans (le_of_strLt hlt) (h'.1 z hz)
    · rename_i hlt
      refine List.pairwise_cons.2 ⟨fun z hz => ?_, insS_sorted x ys h'.2⟩
      rcases List.mem_cons.1 ((insS_perm x ys).mem_iff.1 hz) with rfl | hz
      · exact le_of_not hlt
      · exact h'.1 z hz
theorem sortS_sorted : ∀ l, (sortS l).Pairwise fun a b => bl a ≤ bl b
  | [] => .nil
  | x :: xs => insS_sorted x _ (sortS_sorted xs)

theorem sortS_eq {ss : List (List UInt8)} {ks : List ByteArray} (h : ss.Perm (ks.map bl)) : ss.mergeSort (fun x y => decide (x ≤ y)) = (sortS ks).map bl := by
  refine List.Perm.eq_of_pairwise (le := fun a b => a ≤ b) (fun a b _ _ h1 h2 => List.le_antisymm h1 h2) ?_ ?_ (((List.mergeSort_perm _ _).trans h).trans ((sortS_perm ks).map bl).symm)
  · have := List.pairwise_mergeSort (le := fun x y : List UInt8 => decide (x ≤ y)) (fun a b c h1 h2 => decide_eq_true (List.le_trans (of_decide_eq_true h1) (of_decide_eq_true h2))) (fun a b => by
      have := List.le_total a b
      simpa using this) ss
    exact this.imp fun h => of_decide_eq_true h
  · rw [List.pairwise_map]
    exact sortS_sorted ks
end Go.Av

set_option linter.unusedVariables false
set_option linter.unusedSimpArgs false
namespace Go.Proofs.YtbecgpajbcafiaaGreat
open Go.Av Go.RowKit Go.Maps Go.Sort

def primOf : CallF := fun lo f args σ => match f, args with
  | .fn 112, [.map n] => match σ[n]? with
    | some (some (.map es)) => match es.mapM (fun e => strOfD e.1) with
      | some ks => if es.length ≤ 4294967296 ∧ ks.all (fun k => decide (k.size ≤ maxLen)) = true then some (.o 1 ((sortS ks).map fun k => [.str k]) σ.length, σ ++ [some (.tok 9 1 ks.length)]) else none
      | none => none
    | _ => none
  | _, _ => none

theorem primOf_some {lo : Nat} {f : Cal} {args : List C} {σ σ' : St} {r : C} (h : primOf lo f args σ = some (r, σ')) : ∃ n es ks, f = .fn 112 ∧ args = [.map n] ∧ σ[n]? = some (some (.map es)) ∧ es.mapM (fun e => strOfD e.1) = some ks ∧ es.length ≤ 4294967296 ∧
    (∀ k ∈ ks, k.size ≤ maxLen) ∧ r = .o 1 ((sortS ks).map fun k => [.str k]) σ.length ∧ σ' = σ ++ [some (.tok 9 1 ks.length)] := by
  unfold primOf at h
  split at h
  · split at h
    · rename_i hn
      split at h
      · rename_i ks hk
        split at h
        · rename_i hc
          simp only [Option.some.injEq, Prod.mk.injEq] at h
          exact ⟨_, _, ks, rfl, rfl, hn, hk, hc.1, fun k hk => by simpa using List.all_eq_true.1 hc.2 k hk, h.1.symm, h.2.symm⟩
        · cases h
      · cases h
    · cases h
  · cases h

theorem keys_list {w : World} {γ : G} {A : Nat → Prop} : ∀ (es : List (D × C)) (ms : List MapEntry) (ks : List ByteArray), ms.length = es.length → (∀ (i : Nat) (k : D) (c : C), es[i]? = some (k, c) → ∃ e, ms[i]? = some e ∧ RepD w γ.im k e.key) →
    es.mapM (fun e => strOfD e.1) = some ks → ms.map (·.key) = ks.map Value.string
  | [], ms, ks, hl, _, hk => by
    have : ms = [] := List.eq_nil_of_length_eq_zero hl
    subst this
    simp at hk; subst hk; rfl
  | (k, c) :: es, ms, ks, hl, hr, hk => by
    cases ms with
    | nil => simp at hl
    | cons e ms =>
      simp only [List.mapM_cons, Option.bind_eq_bind, Option.pure_def, Option.bind_eq_some_iff] at hk
      obtain ⟨s, hs, ks', hks, hk⟩ := hk
      simp only [Option.some.injEq] at hk; subst hk
      obtain ⟨e', he, hd⟩ := hr 0 k c rfl
      simp at he; subst he
      have := keys_list (A := A) es ms ks' (by simpa using hl) (fun i k' c' hc => hr (i + 1) k' c' (by simpa using hc)) hks
      simp only [List.map_cons, this]
      generalize e.key = v at hd
      cases hd <;> simp [strOfD] at hs
      subst hs; rfl

theorem sl_of_row {w : World} {im : Nat → Nat} {base g n cap : Nat} {cur : Array Value} {e : TypeId} {ks : List ByteArray} (hg : w.heap[g]? = some (.cells cur e (0, 0))) (hn : ks.length = n) (hc : n ≤ cap) (hs : cur.size = cap * 1) (ht : cur.toList.take (n * 1) = ks.map Value.string) (hi : im g = n) :
    RepD w im (.sl 1 (ks.map fun k => [.str k])) (.slice (some ⟨g, 0, none⟩) n cap) := by
  have hl : (ks.map fun k => [D.str k]).length = n := by simpa using hn
  have key : ∀ i j d, at2 (ks.map fun k => [D.str k]) i j = some d → ∃ k, ks[i]? = some k ∧ j = 0 ∧ d = .str k := by
    intro i j d h
    unfold at2 at h
    rw [List.getElem?_map] at h
    cases hk : ks[i]? with
    | none => rw [hk] at h; cases h
    | some k =>
      rw [hk] at h
      cases j with
      | zero => simp at h; exact ⟨k, rfl, rfl, h.symm⟩
      | succ j => simp at h
  have := RepD.sl (w := w) (im := im) 1 (ks.map fun k => [D.str k]) g 0 cap (fun i j => cur.getD i undef) (by rw [hl]; exact hc) (fun i row hr => by
    rw [List.getElem?_map] at hr
    obtain ⟨k, _, rfl⟩ := Option.map_eq_some_iff.1 hr
    rfl) (fun i j d h => ?_) (fun i j d h => ?_)
  · rw [hl] at this; exact this
  · obtain ⟨k, hk, rfl, rfl⟩ := key i j d h
    have hin : i < n := by rw [← hn]; exact (List.getElem?_eq_some_iff.1 hk).1
    have hic : i < cur.size := by omega
    refine ⟨?_, by rw [hi]; omega⟩
    simp [World.cell?, hg, Array.getD_eq_getD_getElem?, hic]
  · obtain ⟨k, hk, rfl, rfl⟩ := key i j d h
    have hin : i < n := by rw [← hn]; exact (List.getElem?_eq_some_iff.1 hk).1
    have hic : i < cur.size := by omega
    have h1 : (cur.toList.take (n * 1))[i]? = some (Value.string k) := by rw [ht, List.getElem?_map, hk]; rfl
    rw [List.getElem?_take, if_pos (by omega)] at h1
    have h2 : cur.getD i undef = .string k := by
      simp at h1
      simp [Array.getD_eq_getD_getElem?, h1]
    rw [h2]
    exact .str k

def kb : Value → List UInt8
  | .string s => bl s
  | _ => []

theorem prim112 {n : Nat} {es : List (D × C)} {ks : List ByteArray} {σ : St} (hm : σ[n]? = some (some (.map es))) (hk : es.mapM (fun e => strOfD e.1) = some ks) (hlen : es.length ≤ 4294967296) (hsz : ∀ k ∈ ks, k.size ≤ maxLen) (n0 : Fr) :
    CallX TheProg.prog n0 112 [.map n] σ fun r σ' => r = .o 1 ((sortS ks).map fun k => [.str k]) σ.length ∧ σ' = σ ++ [some (.tok 9 1 ks.length)] := by
  refine ⟨⟨Tryz.f112, Tryz.func112, by kernel_rfl, by kernel_rfl⟩, fun B w γ vs hs hvl hvr => ?_⟩
  have hv0 := hvr 0 _ rfl
  obtain rfl : vs = #[.map (some (γ.mu n))] := by
    have h1 : vs.size = 1 := hvl
    obtain ⟨l⟩ := vs
    match l, h1 with
    | [v], _ =>
      simp at hv0
      cases hv0; rfl
  obtain ⟨h0, ms, ck, h1, h2, hst, h3⟩ := obj_map hs.inv hm
  have hkeys := keys_list (A := Low (Fil σ) n) (w := w) (γ := γ) es ms.toList ks (by simpa using h2) (fun i k c hc => by obtain ⟨e, q1, q2, _⟩ := h3.2 i k c hc; exact ⟨e, q1, q2⟩) hk
  have u9 : Tryz.prog.underlying 9 = some .string := Tryz.underlying9
  have hko : ∀ x ∈ ms.toList, ∃ k ∈ ks, x.key = .string k ∧ keyOf Tryz.prog 9 x.key = some (.string (bl k)) := by
    intro x hx
    have : x.key ∈ ms.toList.map (·.key) := List.mem_map.2 ⟨x, hx, rfl⟩
    rw [hkeys] at this
    obtain ⟨k, hk1, hk2⟩ := List.mem_map.1 this
    refine ⟨k, hk1, hk2.symm, ?_⟩
    rw [← hk2]
    simp [keyOf, u9, mapKey, hsz k hk1]
  let R : Value → Option (DataW Unit × List MemPlace) := fun _ => some (.nil, [])
  have hF : WideElems.Fit Tryz.prog 9 R ms ck := ⟨by rw [h2]; exact Nat.le_trans hlen (by decide), hst, fun x hx => by
    obtain ⟨k, _, _, hk⟩ := hko x hx
    exact ⟨(.string (bl k), .nil), by simp [WideElems.rd, hk, R]⟩⟩
  have hown : w.ownsMap Tryz.prog 9 R (γ.mu n) ms.size (.map ((ms.toList.map (WideElems.rg Tryz.prog 9 R)).foldr DataW.insert [])) := ⟨ms, ck, h1, hF, Nat.le_refl _, rfl⟩
  have hperm := WideShapes.sorted_perm (ms.toList.map (WideElems.rg Tryz.prog 9 R))
  have hsize : Maps.size (DataW.map ((ms.toList.map (WideElems.rg Tryz.prog 9 R)).foldr DataW.insert [])) = es.length := by
    show List.length _ = _
    rw [hperm.length_eq]; simpa using h2
  have hstr : (strKeys (DataW.map ((ms.toList.map (WideElems.rg Tryz.prog 9 R)).foldr DataW.insert []))).Perm (ks.map bl) := by
    refine (hperm.map _).trans ?_
    have : (ms.toList.map (WideElems.rg Tryz.prog 9 R)).map (fun p => strOf p.1) = ks.map bl := by
      have e1 : ∀ x ∈ ms.toList, strOf (WideElems.rg Tryz.prog 9 R x).1 = kb x.key := fun x hx => by
        obtain ⟨k, _, hk1, hk⟩ := hko x hx
        have e9 : WideElems.rg Tryz.prog 9 R x = (.string (bl k), .nil) := by simp only [WideElems.rg, WideElems.rd, hk, R, Option.bind_some, Option.map_some, Option.getD_some]
        rw [e9, hk1]
        rfl
      rw [List.map_map]
      have e2 : ms.toList.map ((fun p => strOf p.1) ∘ WideElems.rg Tryz.prog 9 R) = (ms.toList.map (·.key)).map kb := by
        rw [List.map_map]
        exact List.map_congr_left fun x hx => by simp only [Function.comp]; exact e1 x hx
      rw [e2, hkeys, List.map_map]
      exact List.map_congr_left fun x hx => rfl
    rw [this]
  refine (Go.Proofs.Tryz.sortedKeys _ _ _ R w hown (by rw [hsize]; exact Nat.le_trans hlen (by decide)) (by rw [hsize]; omega)).mono ?_
  rintro e w' ⟨v, ss, rfl, hS, hrow, hnil, hb⟩
  have hsorted := sortS_eq (hS.trans hstr)
  have hsl : ss.length = ks.length := by rw [hS.length_eq, hstr.length_eq]; simp
  have hks : (sortS ks).length = ks.length := (sortS_perm ks).length_eq
  rw [hsorted, List.map_map] at hrow
  have henc : (encStr ∘ bl) = Value.string := by
    funext k
    obtain ⟨⟨k⟩⟩ := k
    rfl
  rw [henc] at hrow
  have hsS : Sat B (n0.up σ.length hs.n0) w γ σ := hs.fr rfl (Nat.le_refl _)
  -- the new block
  have fin : ∀ γ' : G, γ' = { γ with im := γ'.im } → (∀ g, γ.im g ≤ γ'.im g) → (∀ g, g < w.heap.size → γ'.im g = γ.im g) → (∀ g, w'.heap.size ≤ g → γ'.im g = 0) → RepD w' γ'.im (.sl 1 ((sortS ks).map fun k => [.str k])) v →
      (v = .slice none 0 0 ∨ ∃ g cap cur, v = .slice (some ⟨g, 0, none⟩) ((sortS ks).map fun k => [D.str k]).length cap ∧ w.heap.size ≤ g ∧ w'.heap[g]? = some (.cells cur 9 (0, 0)) ∧ ((sortS ks).map fun k => [D.str k]).length ≤ cap ∧ cap ≤ maxLen ∧ cur.size = cap * 1 ∧ γ'.im g = ((sortS ks).map fun k => [D.str k]).length * 1) →
      ∃ v' γ'' r σ', Ending.returned v = .returned v' ∧ Av.Fn B (n0.up σ.length hs.n0) w γ w' γ'' ∧ (∀ n, Fil σ n → Fil σ' n) ∧ Sat B (n0.up σ.length hs.n0) w' γ'' σ' ∧ RepC w' γ'' (Fil σ') r v' ∧ r = .o 1 ((sortS ks).map fun k => [.str k]) σ.length ∧ σ' = σ ++ [some (.tok 9 1 ks.length)] := by
    intro γ' hγ hle heq hlt hrep hv
    have hmu : γ'.mu = γ.mu := by rw [hγ]
    have htk : γ'.tk = γ.tk := by rw [hγ]
    have hln : γ'.len = γ.len := by rw [hγ]
    have hcell : ∀ g i, i < γ.im g → w'.cell? ⟨g, i, none⟩ = w.cell? ⟨g, i, none⟩ := fun g i hi => by
      refine hb.cell (p := ⟨g, i, none⟩) ?_
      rcases Nat.lt_or_ge g w.heap.size with h | h
      · exact h
      · rw [hs.inv.lt g h] at hi; omega
    have hfn : Av.Fn w.heap.size (.all σ.length) w γ w' γ' :=
      ⟨⟨⟨hcell, hle⟩, fun n _ => by rw [hmu], fun n _ => by rw [hln]; exact Nat.le_refl _, fun n _ _ => by rw [htk]⟩, hb, heq, fun a _ => by rw [hln, htk]; exact ⟨rfl, rfl⟩,
        fun r hr => (hb.block r (Array.getElem?_eq_some_iff.1 hr).1).trans hr, fun l x hx => ⟨x, (hb.block l (Array.getElem?_eq_some_iff.1 hx).1).trans hx⟩⟩
    obtain ⟨γ'', f1, f2, f3, f4⟩ := fr_land hsS.hole.1 (s := σ.length) (by simp) (Nat.le_refl _) (N := σ.length) (fun n h1 h2 => by simp at h1; omega) hfn hlt (e := 9) hrep hv
    have hset : (σ ++ [(none : Option Ob)]).set σ.length (some (.tok 9 1 ((sortS ks).map fun k => [D.str k]).length)) = σ ++ [some (.tok 9 1 ks.length)] := by
      rw [List.set_append_right _ _ (Nat.le_refl _)]
      simp [hks]
    rw [hset] at f3 f4
    exact ⟨v, γ'', _, _, rfl, f1, fun n ⟨b, hb⟩ => ⟨b, by rw [List.getElem?_append_left (List.getElem?_eq_some_iff.1 hb).1]; exact hb⟩, f3, f4, rfl, rfl⟩
  have hrl : ((sortS ks).map fun k => [D.str k]).length = ss.length := by simp [hks, hsl]
  rcases hrow.2 with ⟨hv, hz⟩ | ⟨g, cap, cur, hv, hbase, hgb, r1, r2, r3, r4⟩
  · subst hv
    refine fin γ rfl (fun _ => Nat.le_refl _) (fun _ _ => rfl) (fun g hg => hs.inv.lt g (Nat.le_trans hb.size hg)) ?_ (.inl rfl)
    have : (sortS ks).map (fun k => [D.str k]) = [] := List.eq_nil_of_length_eq_zero (by rw [hrl]; exact hz)
    rw [this]
    exact .sl0 _ _ _ (fun _ => rfl)
  · subst hv
    have hgl : g < w'.heap.size := (Array.getElem?_eq_some_iff.1 hgb).1
    refine fin { γ with im := fun x => if x = g then ss.length else γ.im x } rfl (fun x => ?_) (fun x hx => ?_) (fun x hx => ?_) ?_ (.inr ⟨g, cap, cur, by rw [hrl], hbase, hgb, by rw [hrl]; exact r1, r2, r3, by rw [hrl]; simp⟩)
    · show γ.im x ≤ if x = g then _ else _
      split
      · rename_i e; rw [e, hs.inv.lt g hbase]; exact Nat.zero_le _
      · exact Nat.le_refl _
    · show (if x = g then _ else _) = _
      rw [if_neg (by omega)]
    · show (if x = g then _ else _) = _
      rw [if_neg (by omega)]
      exact hs.inv.lt x (Nat.le_trans hb.size hx)
    · exact sl_of_row (base := 0) hgb (by rw [hks, hsl]) r1 r3 r4 (by simp)

theorem prim_ok : FOk TheProg.prog primOf := by
  refine ⟨fun lo f args σ r σ' h n0 hlo => ?_, fun lo n args σ r σ' h n0 hlo => ?_⟩
  · obtain ⟨n, es, ks, hf, rfl, hm, hk, hl, hs, rfl, rfl⟩ := primOf_some h
    cases hf
    exact prim112 hm hk hl hs n0
  · obtain ⟨_, _, _, hf, _⟩ := primOf_some h
    cases hf

theorem prim_grow : FGrow primOf := fun lo f args σ r σ' h => by
  obtain ⟨n, es, ks, hf, rfl, hm, hk, hl, hs, rfl, rfl⟩ := primOf_some h
  exact .push _ _
end Go.Proofs.YtbecgpajbcafiaaGreat
