/-
  An operation that comes at a place of its own choosing in the store; what it reads there; what of the temporaries it looks at. For every world in which the temporaries and the store are as said.
  Which temporaries an operation looks at; an operation at its place, run by the machine. For every world in which the temporaries and the store are as said.
  A region whose order is open: its operations one after the other, with the proof that no other order gives anything else. For every world in which the temporaries and the store are as said.
  A region whose order is open: the proof. For every world in which the temporaries and the store are as said.
  A region whose order is open: whichever order the machine takes. For every world in which the temporaries and the store are as said.
  A region whose order is open, from its beginning to its end. For every world in which the temporaries and the store are as said.
  Code: sequences, tests, blocks, loops; whole functions. For every world in which the temporaries and the store are as said.
  A function's call, by what its code does. For every world in which the arguments are as said.
-/
import Derived.Test.YtbecgpajbcafiaaGreatKB
import Derived.Scope
import Derived.LoopNIn
set_option linter.unusedVariables false
set_option linter.unusedSimpArgs false
namespace Go.Av
open Go.RowKit
variable [TheProg]
set_option linter.unusedSectionVars false

/-- What of the store an operation reads. -/
inductive Rd where
  | no
  | ld (m : Nat) (agg : Bool) (n off : Nat)
  | ob (m : Nat)
  | all

abbrev Eff := Option (Nat × Ob)

def Eff.on : Eff → St → St
  | none, σ => σ
  | some (m, b), σ => σ.set m (some b)

/-- An operation, with place s for what it makes: its value, what it does to the store, what it reads. -/
def evS (n0 s : Nat) (T : List C) (σ : St) (p : AOp) : Option (C × Eff × Rd) :=
  match p with
  | .nilsl e sz => some (.o sz [] s, some (s, .tok e sz 0), .no)
  | .box t agg n x => match cellsOf agg n (evO T x) with
    | some cs => if C.ltL s cs then some (.ref s 0, some (s, .box t cs), .no) else none
    | none => none
  | .alloc t zero => if zero.all C.one && C.ltL s zero then some (.ref s 0, some (s, .box t zero), .no) else none
  | .bsl e sz parts => match evOp n0 T [] (.bsl e sz parts) with
    | some (.o z ds _, _) => some (.o z ds s, some (s, .tok e sz ds.length), .no)
    | some (.csl z rows, _) => some (.csl z rows, none, .no)
    | _ => none
  | .load agg n a => match evO T a with
    | .ref m off => (loadC σ agg n (.ref m off)).map fun c => (c, none, .ld m agg n off)
    | x => (loadC [] agg n x).map fun c => (c, none, .no)
  | .store n a x => match evO T a with
    | .ref m off => match σ[m]? with
      | some (some (.box t cs)) =>
        match valsC (evO T x) with
        | some xs => if n0 ≤ m && xs.length == n && xs.all C.one && C.ltL m (putCs [] m ((cs.drop off).take n) xs) && decide (off + n ≤ cs.length) then
            some (.undef, some (m, .box t (cs.take off ++ putCs [] m ((cs.drop off).take n) xs ++ cs.drop (off + n))), .ob m) else none
        | none => none
      | _ => none
    | _ => none
  | .app str e sz bytes x y => match rowsY str sz (evO T y) with
    | none => none
    | some ys => match evO T x with
      | .o z rows a => match tokOf σ[a]? with
        | some (e', s', len) =>
          if n0 ≤ a ∧ e' = e ∧ s' = sz ∧ z = sz ∧ len = rows.length ∧ 0 < sz ∧ (rows.length + ys.length) * bytes ≤ 140737488355328 ∧ rows.length + ys.length ≤ 140737488355328 then
            some (.o sz (rows ++ ys) a, some (a, .tok e sz (rows.length + ys.length)), .ob a) else none
        | _ => none
      | .nils _ z => if z = sz ∧ 0 < sz ∧ ys.length * bytes ≤ 140737488355328 ∧ ys.length ≤ 140737488355328 then
            some (.o sz ys s, some (s, .tok e sz ys.length), .no) else none
      | _ => none
  | .call .. => none
  | .mkmap | .mset .. | .look .. | .rng .. | .nxt .. | .bad => none
  | p => (evOp n0 T [] p).map fun r => (r.1, none, .no)

theorem evS_pure {n0 s : Nat} {T : List C} {σ : St} {p : AOp} (h : pureOp p = true) : evS n0 s T σ p = (evOp n0 T [] p).map fun r => (r.1, none, .no) := by
  cases p <;> first
    | rfl
    | (simp [pureOp] at h)

theorem evOp_pure {n0 : Nat} {T : List C} {σ : St} {p : AOp} (h : pureOp p = true) : evOp n0 T σ p = (evOp n0 T [] p).map fun r => (r.1, σ) := by
  cases p <;> first
    | (simp [pureOp] at h; done)
    | (simp only [evOp, Option.map_map, Option.map_some, Function.comp_def]; done)
    | (simp only [evOp]
       repeat' split
       all_goals first
         | rfl
         | (simp only [Option.map_map, Option.map_some, Option.map_none, Function.comp_def])
         | simp_all)

/-! ### What of the store matters -/

theorem evS_local {n0 s : Nat} {T : List C} {σ σ' : St} {p : AOp} {c : C} {eff : Eff} {rd : Rd} (h : evS n0 s T σ p = some (c, eff, rd))
    (hr : match rd with
      | .no => True
      | .ld m agg n off => loadC σ' agg n (.ref m off) = some c
      | .ob m => σ'[m]? = σ[m]?
      | .all => False) : evS n0 s T σ' p = some (c, eff, rd) := by
  by_cases hp : pureOp p = true
  · rw [evS_pure hp] at h ⊢; exact h
  · cases p <;> first
      | (exact absurd rfl hp)
      | exact h
      | (simp only [evS] at h ⊢
         exact h)
      | skip
    · simp only [evS] at h ⊢
      split at h
      · obtain ⟨c', h1, h2⟩ := Option.map_eq_some_iff.1 h
        simp only [Prod.mk.injEq] at h2
        obtain ⟨rfl, rfl, rfl⟩ := h2
        simp only [] at hr
        rw [hr]; rfl
      · exact h
    · simp only [evS] at h ⊢
      split at h
      · split at h
        · split at h
          · split at h
            · rename_i hcs _ _ _ _
              simp only [Option.some.injEq, Prod.mk.injEq] at h
              obtain ⟨rfl, rfl, rfl⟩ := h
              simp only [] at hr
              rw [hr, hcs]
              simp_all
            · cases h
          · cases h
        · cases h
      · cases h
    · simp only [evS] at h ⊢
      split at h
      · cases h
      · split at h
        · split at h
          · split at h
            · rename_i hcs _
              simp only [Option.some.injEq, Prod.mk.injEq] at h
              obtain ⟨rfl, rfl, rfl⟩ := h
              simp only [] at hr
              rw [hr, hcs]
              simp_all
            · cases h
          · cases h
        · exact h
        · cases h

end Go.Av

set_option linter.unusedVariables false
set_option linter.unusedSimpArgs false
namespace Go.Av
open Go.RowKit
variable [TheProg]
set_option linter.unusedSectionVars false

theorem mapM_congr {α β : Type} {f g : α → Option β} : ∀ {l : List α}, (∀ x, x ∈ l → f x = g x) → l.mapM f = l.mapM g
  | [], _ => rfl
  | x :: l, h => by
    simp only [List.mapM_cons]
    rw [h x (by simp), mapM_congr fun y hy => h y (by simp [hy])]

theorem evO_congr {T T' : List C} {x : Opd} (h : ∀ t, t ∈ oT x → T'.getD t .undef = T.getD t .undef) : evO T' x = evO T x := by
  cases x with
  | t i => exact h i (by simp [oT])
  | k c => rfl

theorem boundN_congr {T T' : List C} {d : Int} {x : Option Opd} (h : ∀ t, t ∈ oT? x → T'.getD t .undef = T.getD t .undef) : boundN T' d x = boundN T d x := by
  cases x with
  | none => rfl
  | some x => simp only [boundN]; rw [evO_congr h]

theorem map_congrT {T T' : List C} {xs : List Opd} (h : ∀ t, t ∈ oTs xs → T'.getD t .undef = T.getD t .undef) : xs.map (evO T') = xs.map (evO T) :=
  List.map_congr_left fun x hx => evO_congr fun t ht => h t (List.mem_flatMap.2 ⟨x, hx, ht⟩)

theorem evOp_congr {n0 : Nat} {T T' : List C} {σ : St} {p : AOp} (h : ∀ t, t ∈ opT p → T'.getD t .undef = T.getD t .undef) : evOp n0 T' σ p = evOp n0 T σ p := by
  cases p with
  | mv x => simp only [evOp]; rw [evO_congr h]
  | nilsl _ _ => rfl
  | pick c a b =>
    simp only [opT, List.mem_append] at h
    simp only [evOp]
    rw [evO_congr fun t ht => h t (.inl (.inl ht)), evO_congr (x := a) fun t ht => h t (.inl (.inr ht)), evO_congr (x := b) fun t ht => h t (.inr ht)]
  | box _ _ _ x => simp only [evOp]; rw [evO_congr h]
  | alloc _ _ => rfl
  | build z ps =>
    simp only [evOp]
    rw [mapM_congr fun x hx => by
      rw [evO_congr (x := x.2.2) (T := T) (T' := T') fun t ht => h t (List.mem_flatMap.2 ⟨_, hx, ht⟩)]]
  | bsl e sz ps =>
    simp only [evOp]
    rw [mapM_congr fun x hx => by
      rw [evO_congr (T := T) (T' := T') fun t ht => h t (List.mem_flatMap.2 ⟨_, hx, ht⟩)]]
  | load _ _ a => simp only [evOp]; rw [evO_congr h]
  | store _ a x =>
    simp only [opT, List.mem_append] at h
    simp only [evOp]
    rw [evO_congr (x := a) fun t ht => h t (.inl ht), evO_congr (x := x) fun t ht => h t (.inr ht)]
  | fld _ x => simp only [evOp]; rw [evO_congr h]
  | ixa _ x i =>
    simp only [opT, List.mem_append] at h
    simp only [evOp]
    rw [evO_congr (x := x) fun t ht => h t (.inl ht), evO_congr (x := i) fun t ht => h t (.inr ht)]
  | ixs x i =>
    simp only [opT, List.mem_append] at h
    simp only [evOp]
    rw [evO_congr (x := x) fun t ht => h t (.inl ht), evO_congr (x := i) fun t ht => h t (.inr ht)]
  | bin _ x i =>
    simp only [opT, List.mem_append] at h
    simp only [evOp]
    rw [evO_congr (x := x) fun t ht => h t (.inl ht), evO_congr (x := i) fun t ht => h t (.inr ht)]
  | un _ x => simp only [evOp]; rw [evO_congr h]
  | ext x _ => simp only [evOp]; rw [evO_congr h]
  | mkfn _ fs cs =>
    simp only [opT, List.mem_append] at h
    simp only [evOp]
    rw [map_congrT (xs := fs) fun t ht => h t (.inl ht), map_congrT (xs := cs) fun t ht => h t (.inr ht)]
  | nilck x => simp only [evOp]; rw [evO_congr h]
  | len _ x => simp only [evOp]; rw [evO_congr h]
  | mx xs => simp only [evOp]; rw [map_congrT h]
  | mn xs => simp only [evOp]; rw [map_congrT h]
  | app _ _ _ _ x y =>
    simp only [opT, List.mem_append] at h
    simp only [evOp]
    rw [evO_congr (x := x) fun t ht => h t (.inl ht), evO_congr (x := y) fun t ht => h t (.inr ht)]
  | cvi _ x => simp only [evOp]; rw [evO_congr h]
  | cvid x => simp only [evOp]; rw [evO_congr h]
  | cvs x => simp only [evOp]; rw [evO_congr h]
  | slc _ x lo hi =>
    simp only [opT, List.mem_append] at h
    simp only [evOp]
    rw [evO_congr (x := x) fun t ht => h t (.inl (.inl ht)), boundN_congr (x := lo) fun t ht => h t (.inl (.inr ht))]
    simp only [boundN_congr (x := hi) fun t ht => h t (.inr ht)]
  | sls x lo hi =>
    simp only [opT, List.mem_append] at h
    simp only [evOp]
    rw [evO_congr (x := x) fun t ht => h t (.inl (.inl ht)), boundN_congr (x := lo) fun t ht => h t (.inl (.inr ht))]
    simp only [boundN_congr (x := hi) fun t ht => h t (.inr ht)]
  | call _ _ => rfl
  | mkmap => rfl
  | mset _ m k x =>
    simp only [opT, List.mem_append] at h
    simp only [evOp]
    rw [evO_congr (x := m) fun t ht => h t (.inl (.inl ht)), evO_congr (x := k) fun t ht => h t (.inl (.inr ht)), evO_congr (x := x) fun t ht => h t (.inr ht)]
  | look _ _ _ m k =>
    simp only [opT, List.mem_append] at h
    simp only [evOp]
    rw [evO_congr (x := m) fun t ht => h t (.inl ht), evO_congr (x := k) fun t ht => h t (.inr ht)]
  | rng x => simp only [evOp]; rw [evO_congr h]
  | nxt x => simp only [evOp]; rw [evO_congr h]
  | fldv _ _ _ x => simp only [evOp]; rw [evO_congr h]
  | ixaa _ _ x i =>
    simp only [opT, List.mem_append] at h
    simp only [evOp]
    rw [evO_congr (x := x) fun t ht => h t (.inl ht), evO_congr (x := i) fun t ht => h t (.inr ht)]
  | ixv _ _ _ x i =>
    simp only [opT, List.mem_append] at h
    simp only [evOp]
    rw [evO_congr (x := x) fun t ht => h t (.inl ht), evO_congr (x := i) fun t ht => h t (.inr ht)]
  | bad => rfl
  | isn _ x => simp only [evOp]; rw [evO_congr h]
  | eqb _ x i =>
    simp only [opT, List.mem_append] at h
    simp only [evOp]
    rw [evO_congr (x := x) fun t ht => h t (.inl ht), evO_congr (x := i) fun t ht => h t (.inr ht)]
  | eqa _ _ x i =>
    simp only [opT, List.mem_append] at h
    simp only [evOp]
    rw [evO_congr (x := x) fun t ht => h t (.inl ht), evO_congr (x := i) fun t ht => h t (.inr ht)]

theorem evS_congr {n0 s : Nat} {T T' : List C} {σ : St} {p : AOp} (h : ∀ t, t ∈ opT p → T'.getD t .undef = T.getD t .undef) : evS n0 s T' σ p = evS n0 s T σ p := by
  by_cases hp : pureOp p = true
  · rw [evS_pure hp, evS_pure hp, evOp_congr h]
  · cases p <;> first
      | (exact absurd rfl hp)
      | rfl
      | skip
    · simp only [evS]; rw [evO_congr h]
    · simp only [evS]; rw [evOp_congr h]
    · simp only [evS]; rw [evO_congr h]
    · simp only [opT, List.mem_append] at h
      simp only [evS]
      rename_i a x
      rw [evO_congr (x := a) fun t ht => h t (.inl ht), evO_congr (x := x) fun t ht => h t (.inr ht)]
    · simp only [opT, List.mem_append] at h
      simp only [evS]
      rename_i x y
      rw [evO_congr (x := x) fun t ht => h t (.inl ht), evO_congr (x := y) fun t ht => h t (.inr ht)]

section
variable {P : Program} {B : Nat} {n0 : Fr} {o : Oper} {a : Act} {w : World} {γ : G} {σ σ' : St} {c : C} {T : List C} {s : Nat}

theorem repL_lt {A : Nat → Prop} {cs : List C} {vs : Array Value} (h : RepL w γ A cs vs) (hl : C.ltL s cs = true) : RepL w γ (Low A s) cs vs :=
  ⟨h.1, fun i c hc => (h.2 i c hc).lt (ltL_get hl i c hc)⟩

/-- The joint law, at a place. -/
theorem evS_sound {p : AOp} {eff : Eff} {rd : Rd} (h : linkOp P o = some p) (hev : evS n0.lo s T σ p = some (c, eff, rd)) (hs : Sat B n0 w γ σ) (hT : RepT w γ (Fil σ) T a.tmps) (hhr : ∀ b, rd = .no → eff = some (s, b) → σ[s]? = some none) (hn0 : n0.hi ≤ s) :
    ∃ q, OpOk P B n0 o a w γ σ c (eff.on σ) q := by
  by_cases hp : pureOp p = true
  · rw [evS_pure hp] at hev
    obtain ⟨⟨c', σ''⟩, h1, h2⟩ := Option.map_eq_some_iff.1 hev
    simp only [Prod.mk.injEq] at h2
    obtain ⟨rfl, rfl, rfl⟩ := h2
    refine ⟨_, evOp_sound h (?_ : evOp n0.lo T σ p = some (c', σ)) hs hT⟩
    rw [evOp_pure hp, h1]; rfl
  have nilc : ∀ (e : TypeId) (sz : Nat), evS n0.lo s T σ (.nilsl e sz) = some (c, eff, rd) → (execOp a.eval o).run P w = .ok (.value (.slice none 0 0)) w → ∃ q, OpOk P B n0 o a w γ σ c (eff.on σ) q := by
    intro e sz he hr
    simp only [evS, Option.some.injEq, Prod.mk.injEq] at he
    obtain ⟨rfl, rfl, rfl⟩ := he
    exact ⟨false, nil_okS (hhr _ rfl rfl) hn0 hs hr⟩
  have mvs : ∀ (x : Operand), (match x with
    | .const (.slice none 0 0) => match elemT P o.type with
      | some e => match szT P e with
        | some sz => some (AOp.nilsl e sz)
        | none => none
      | none => none
    | .const (.map none) => some (.mv (.k .undef))
    | x => (linkO P o.type x).map .mv) = some p → (execOp a.eval o).run P w = .ok (.value (a.eval x)) w → ∃ q, OpOk P B n0 o a w γ σ c (eff.on σ) q := by
    intro x hl hr
    split at hl
    · split at hl
      · split at hl
        · simp only [Option.some.injEq] at hl; subst hl; exact nilc _ _ hev hr
        · cases hl
      · cases hl
    · simp only [Option.some.injEq] at hl; subst hl
      exact absurd rfl hp
    · obtain ⟨q, hq, rfl⟩ := Option.map_eq_some_iff.1 hl
      exact absurd rfl hp
  cases p with
  | load agg n x =>
    simp only [evS] at hev
    split at hev
    · rename_i m off hm
      obtain ⟨c', h1, h2⟩ := Option.map_eq_some_iff.1 hev
      simp only [Prod.mk.injEq] at h2
      obtain ⟨rfl, rfl, rfl⟩ := h2
      exact ⟨_, evOp_sound h (by simp only [evOp, hm, h1, Option.map_some]; rfl) hs hT⟩
    · rename_i hm
      obtain ⟨c', h1, h2⟩ := Option.map_eq_some_iff.1 hev
      simp only [Prod.mk.injEq] at h2
      obtain ⟨rfl, rfl, rfl⟩ := h2
      refine ⟨_, evOp_sound h (σ' := σ) (?_ : _ = some (c', σ)) hs hT⟩
      have : loadC σ agg n (evO T x) = loadC [] agg n (evO T x) := by
        generalize evO T x = e at hm
        cases e <;> first
          | rfl
          | (exact absurd rfl (hm _ _))
      simp only [evOp, this, h1, Option.map_some]
  | store n x y =>
    simp only [evS] at hev
    split at hev
    · rename_i m off hm
      split at hev
      · rename_i t cs hcs
        split at hev
        · rename_i xs hxs
          split at hev
          · rename_i hc
            simp only [Option.some.injEq, Prod.mk.injEq] at hev
            obtain ⟨rfl, rfl, rfl⟩ := hev
            exact ⟨_, store_ok h hs hT (.inr rfl) hm hcs hxs hc⟩
          · cases hev
        · cases hev
      · cases hev
    · cases hev
  | app str e sz bytes x y =>
    have hev0 := hev
    simp only [evS] at hev
    split at hev
    · cases hev
    · rename_i ys hys
      split at hev
      · rename_i z rows b hex
        split at hev
        · rename_i e' s' len hb
          split at hev
          · rename_i hc
            simp only [Option.some.injEq, Prod.mk.injEq] at hev
            obtain ⟨rfl, rfl, rfl⟩ := hev
            refine ⟨_, evOp_sound h (?_ : _ = some (C.o sz (rows ++ ys) b, σ.set b (some (.tok e sz (rows.length + ys.length))))) hs hT⟩
            simp only [evOp, hys, hex, hb]
            rw [if_pos hc]
          · cases hev
        · cases hev
      · rename_i z hex
        split at hev
        · rename_i hc
          obtain ⟨rfl, h6, h7, h8⟩ := hc
          simp only [Option.some.injEq, Prod.mk.injEq] at hev
          obtain ⟨rfl, rfl, rfl⟩ := hev
          obtain ⟨ox, oy, t, t', i, zv, ho, ht, hi, hz, hzs, rfl, rfl, hx, hy, hcase⟩ := linkOp_app h
          have he : ∀ (v' : Value) (w' : World), (Builtin.append_ #[t, t'] o.type #[a.eval ox, a.eval oy]).run P w = .ok v' w' → OpRun P o a w v' w' := by
            intro v' w' hr
            refine .inl ?_
            unfold execOp
            simp only [ho, resolve, invoke, builtin, Sem.run_bind, Sem.run_pure, Result.andThen_ok, List.map_toArray, List.map_cons, List.map_nil, hr]
          have hvx := linkO_rep hx hT
          rw [hex] at hvx
          have hv0 : a.eval ox = .slice none 0 0 := by generalize a.eval ox = v at hvx; cases hvx; rfl
          exact ⟨_, app_nilS (A := fun v => Builtin.append_ #[t, t'] o.type #[v, a.eval oy]) he (hhr _ rfl rfl) hn0 hs hzs h6 hv0 (fun γ' hg => appArg_of (P := P) (o := o) ht hi hz h6 hy hcase hys hT γ' hg) h7 h8⟩
        · cases hev
      · cases hev
  | nilsl e sz =>
    obtain ⟨x, hop⟩ : ∃ x, o.op = .move x ∨ o.op = .assign x := by
      unfold linkOp at h
      split at h <;> first
        | exact ⟨_, .inl (by assumption)⟩
        | exact ⟨_, .inr (by assumption)⟩
        | (exfalso; revert h; repeat' split
           all_goals simp)
        | (exfalso; simp at h; done)
        | (exfalso; obtain ⟨_, _, he⟩ := Option.map_eq_some_iff.1 h; cases he)
    rcases hop with hop | hop <;> (simp only [linkOp, hop] at h; exact mvs x h (by simp [execOp, hop]))
  | alloc t zero =>
    obtain ⟨t', hop⟩ : ∃ t', o.op = .alloc t' := by
      unfold linkOp at h
      split at h <;> first
        | exact ⟨_, by assumption⟩
        | (exfalso; revert h; repeat' split
           all_goals simp)
        | (exfalso; simp at h; done)
        | (exfalso; obtain ⟨_, _, he⟩ := Option.map_eq_some_iff.1 h; cases he)
    simp only [linkOp, hop] at h
    obtain ⟨zs, hz, he⟩ := Option.map_eq_some_iff.1 h
    simp only [AOp.alloc.injEq] at he
    obtain ⟨rfl, rfl⟩ := he
    simp only [evS] at hev
    split at hev
    · rename_i hc
      simp only [Bool.and_eq_true] at hc
      simp only [Option.some.injEq, Prod.mk.injEq] at hev
      obtain ⟨rfl, rfl, rfl⟩ := hev
      obtain ⟨i, z, hi, hiz, hr⟩ := zeroT_repL hz w γ (Fil σ)
      refine ⟨false, box_okS (hhr _ rfl rfl) hn0 hs (repL_lt hr hc.2) (all_one hr hc.1) ?_⟩
      simp [execOp, hop, alloc_run hi hiz]
    · cases hev
  | box t agg n x =>
    obtain ⟨t', x', hop⟩ : ∃ t' x', o.op = .box t' x' := by
      unfold linkOp at h
      split at h <;> first
        | exact ⟨_, _, by assumption⟩
        | (exfalso; revert h; repeat' split
           all_goals simp)
        | (exfalso; simp at h; done)
        | (exfalso; obtain ⟨_, _, he⟩ := Option.map_eq_some_iff.1 h; cases he)
    simp only [linkOp, hop] at h
    split at h
    · rename_i g n' px hg hn hx
      simp only [Option.some.injEq, AOp.box.injEq] at h
      obtain ⟨rfl, rfl, rfl, rfl⟩ := h
      simp only [evS] at hev
      split at hev
      · rename_i cs hcs
        split at hev
        · rename_i hlt
          simp only [Option.some.injEq, Prod.mk.injEq] at hev
          obtain ⟨rfl, rfl, rfl⟩ := hev
          obtain ⟨k1, k2, k3, k4⟩ := cellsOf_sound hcs (linkO_rep hx hT)
          exact ⟨false, box_okS (hhr _ rfl rfl) hn0 hs (repL_lt ⟨k1, k3⟩ hlt) k4 (by simp [execOp, hop, Instr.box, newVar, newRow])⟩
        · cases hev
      · cases hev
    · cases h
  | bsl e sz ps =>
    obtain ⟨t', len', parts, hop⟩ : ∃ t' len' parts, o.op = .buildSlice t' len' parts := by
      unfold linkOp at h
      split at h <;> first
        | exact ⟨_, _, _, by assumption⟩
        | (exfalso; revert h; repeat' split
           all_goals simp)
        | (exfalso; simp at h; done)
        | (exfalso; obtain ⟨_, _, he⟩ := Option.map_eq_some_iff.1 h; cases he)
    have hfull : ∀ r, evOp n0.lo T [] (.bsl e sz ps) = some r → (∃ ds, r = (.o sz ds 0, [some (.tok e sz ds.length)])) ∨ (∃ rows, r = (.csl sz rows, []) ∧ evOp n0.lo T σ (.bsl e sz ps) = some (.csl sz rows, σ)) := by
      intro r hr
      simp only [evOp] at hr ⊢
      split at hr
      · rename_i rows hrows
        split at hr
        · rename_i ds hds
          simp only [Option.some.injEq] at hr
          exact .inl ⟨ds, by rw [← hr]; rfl⟩
        · rename_i hds
          simp only [Option.some.injEq] at hr
          refine .inr ⟨rows, hr.symm, ?_⟩
          simp only [hrows, hds]
      · cases hr
    have hev1 := hev
    simp only [evS] at hev
    split at hev
    · rename_i z ds a' σ1 he
      rcases hfull _ he with ⟨ds', h1⟩ | ⟨rows, h1, h2⟩
      · simp only [Prod.mk.injEq, C.o.injEq] at h1
        obtain ⟨⟨rfl, rfl, rfl⟩, rfl⟩ := h1
        simp only [Option.some.injEq, Prod.mk.injEq] at hev
        obtain ⟨rfl, rfl, rfl⟩ := hev
        simp only [linkOp, hop] at h
        split at h
        · rename_i e' he'
          split at h
          · rename_i sz' xs zv hsz hxs hz
            split at h
            · rename_i hc
              obtain ⟨hxl, hzs, hsz0, hle⟩ := hc
              simp only [Option.some.injEq, AOp.bsl.injEq] at h
              obtain ⟨rfl, rfl, rfl⟩ := h
              obtain ⟨i, hi, hiz⟩ := Option.bind_eq_some_iff.1 hz
              obtain ⟨i', hi', hisz⟩ := Option.map_eq_some_iff.1 hsz
              have : i' = i := by rw [hi] at hi'; exact (Option.some.inj hi').symm
              subst this
              simp only [evOp] at he
              split at he
              · rename_i rows hrows
                obtain ⟨k1, k2, k3, k4⟩ := elems_rep hT hxs hrows
                have hrl : rows.length = len' := by rw [k4, ← k1, hxl]
                have hlen : ∀ (i : Nat) (row : List C), rows[i]? = some row → row.length = sz' := fun i row hr => (k2 row (List.mem_of_getElem? hr)).1
                obtain ⟨f1, f2⟩ := flatten_get hlen
                have hfill := fillC_flat rows 0 (List.replicate (len' * sz') C.undef) (fun row hr => (k2 row hr).1) (by simp [hrl])
                simp only [Nat.zero_mul, List.take_zero, List.nil_append] at hfill
                have hinit : RepL w γ (Fil σ) (List.replicate (len' * sz') C.undef) ((Array.range (len' * sz')).map (fun k => (if len' * sz' = 0 then #[] else zv.cells)[k % (if len' * sz' = 0 then #[] else zv.cells).size]!)) := by
                  refine ⟨by simp, fun k c hk => ?_⟩
                  rw [List.getElem?_replicate] at hk
                  split at hk
                  · simp only [Option.some.injEq] at hk; subst hk; exact .undef _
                  · cases hk
                obtain ⟨cells', hf, hr⟩ := fill_sound k3 hinit hfill
                have hrun := bsl_run (P := P) (w := w) (parts := parts.map fun (i, x) => (i, a.eval x)) (elemT_under he') hi hisz hiz hle (by simpa using hf)
                have hx : (execOp a.eval o).run P w = .ok (.value (.slice (some ⟨w.heap.size, 0, none⟩) rows.length rows.length)) (w.alloc (.cells cells'.toList.toArray e')) := by
                  simp only [execOp, hop, Sem.run_bind, hrun, Result.andThen_ok, Sem.run_pure, hrl]
                have hcl : cells'.toList.length = rows.length * sz' := by simp [hr.1, f1]
                have hrC : ∀ i j c, at2 rows i j = some c → ∃ u, cells'.toList[i * sz' + j]? = some u ∧ RepC w γ (Fil σ) c u := by
                  intro i j c hc
                  have h1 := f2 i j c hc
                  have h2 := hr.2 _ _ h1
                  have h3 := (List.getElem?_eq_some_iff.1 h1).1
                  have h4 : i * sz' + j < cells'.size := by rw [hr.1]; exact h3
                  refine ⟨cells'[i * sz' + j], by simp [h4], ?_⟩
                  simpa [Array.getD_eq_getD_getElem?, h4] using h2
                split at he
                · rename_i ds2 hds
                  simp only [Option.some.injEq, Prod.mk.injEq, C.o.injEq] at he
                  obtain ⟨⟨_, rfl, _⟩, _⟩ := he
                  obtain ⟨d1, d2⟩ := toDss_get hds
                  have hm : ds2.length ≤ maxLen := by
                    have : ds2.length * 1 ≤ ds2.length * sz' := Nat.mul_le_mul_left _ hsz0
                    rw [← d1, hrl] at this
                    rw [← d1, hrl]
                    simp only [maxLen]; omega
                  refine ⟨false, row_okS (hhr _ rfl rfl) hn0 hs (e := e') hsz0 (rows := ds2) (xs := cells'.toList) (fun i row hr' => by
                    obtain ⟨cs, e1, e2⟩ := d2 i row hr'
                    rw [← (toDs_get e2).1]; exact hlen i cs e1) (by rw [hcl, d1]) (fun i j d hd => by
                    obtain ⟨row, e1, e2⟩ := Option.bind_eq_some_iff.1 hd
                    obtain ⟨cs, e3, e4⟩ := d2 i row e1
                    obtain ⟨c, e5, e6⟩ := (toDs_get e4).2 j d e2
                    obtain ⟨u, e7, e8⟩ := hrC i j c (by simp [at2, e3, e5])
                    exact ⟨u, e7, toD_rep e6 e8⟩) hm (by rw [← d1]; exact hx)⟩
                · simp only [Option.some.injEq, Prod.mk.injEq] at he
                  cases he.1
              · cases he
            · cases h
          · cases h
        · cases h
      · cases h1
    · rename_i z rows σ1 he
      rcases hfull _ he with ⟨ds', h1⟩ | ⟨rows', h1, h2⟩
      · cases h1
      · simp only [Prod.mk.injEq, C.csl.injEq] at h1
        obtain ⟨⟨rfl, rfl⟩, rfl⟩ := h1
        simp only [Option.some.injEq, Prod.mk.injEq] at hev
        obtain ⟨rfl, rfl, rfl⟩ := hev
        exact ⟨_, evOp_sound h h2 hs hT⟩
    · cases hev
  | call f xs => cases hev
  | mkmap | mset _ _ _ _ | look _ _ _ _ _ | rng _ | nxt _ | bad => cases hev
  | _ => exact absurd rfl hp

/-- What is made is at its place. -/
theorem evS_slot {p : AOp} {m : Nat} {b : Ob} (h : evS n0.lo s T σ p = some (c, some (m, b), .no)) : m = s := by
  by_cases hp : pureOp p = true
  · rw [evS_pure hp] at h
    obtain ⟨_, _, h2⟩ := Option.map_eq_some_iff.1 h
    simp at h2
  · cases p <;> first
      | (exact absurd rfl hp)
      | (simp only [evS] at h
         revert h
         repeat' split
         all_goals first
           | (intro h; cases h; done)
           | (intro h; simp only [Option.some.injEq, Prod.mk.injEq, reduceCtorEq, and_false, false_and] at h; done)
           | (intro h; simp only [Option.some.injEq, Prod.mk.injEq] at h; exact h.2.1.1.symm)
           | (intro h; obtain ⟨_, _, h2⟩ := Option.map_eq_some_iff.1 h; simp at h2))

theorem tokOf_some {o : Option (Option Ob)} {x : TypeId × Nat × Nat} (h : tokOf o = some x) : ∃ b, o = some (some b) := by
  unfold tokOf at h
  split at h
  · exact ⟨_, rfl⟩
  · exact ⟨_, rfl⟩
  · cases h

def rdSpec (σ : St) (c : C) : Rd → Prop
  | .no => True
  | .ld m agg n off => loadC σ agg n (.ref m off) = some c
  | .ob m => ∃ b, σ[m]? = some (some b)
  | .all => False

theorem evS_rd {p : AOp} {eff : Eff} {rd : Rd} (h : evS n0.lo s T σ p = some (c, eff, rd)) : rdSpec σ c rd := by
  by_cases hp : pureOp p = true
  · rw [evS_pure hp] at h
    obtain ⟨_, _, h2⟩ := Option.map_eq_some_iff.1 h
    simp only [Prod.mk.injEq] at h2
    rw [← h2.2.2]; trivial
  · cases p <;> first
      | (exact absurd rfl hp)
      | (simp only [evS] at h
         revert h
         repeat' split
         all_goals first
           | (intro h; cases h; done)
           | (intro h; simp only [Option.some.injEq, Prod.mk.injEq] at h; rw [← h.2.2]; trivial)
           | (intro h; simp only [Option.some.injEq, Prod.mk.injEq] at h; rw [← h.2.2]; exact ⟨_, by assumption⟩)
           | (intro h; simp only [Option.some.injEq, Prod.mk.injEq] at h; rw [← h.2.2]; exact tokOf_some (by assumption))
           | (intro h; obtain ⟨_, h1, h2⟩ := Option.map_eq_some_iff.1 h
              simp only [Prod.mk.injEq] at h2
              rw [← h2.2.2, ← h2.1]; exact h1)
           | (intro h; obtain ⟨_, h1, h2⟩ := Option.map_eq_some_iff.1 h
              simp only [Prod.mk.injEq] at h2
              rw [← h2.2.2]; trivial))

theorem loadC_congr {σ σ' : St} {m off n : Nat} {agg : Bool} (h : σ'[m]? = σ[m]?) : loadC σ' agg n (.ref m off) = loadC σ agg n (.ref m off) := by
  simp only [loadC, h]
end
end Go.Av

set_option linter.unusedVariables false
set_option linter.unusedSimpArgs false
namespace Go.Av
open Go.RowKit
variable [TheProg]
set_option linter.unusedSectionVars false

/-! ### Lists in which some places are written -/

/-- Of the writes gs, those in ℓ have come: the last at a place stays. -/
def Upd {α : Type} (gs : Nat → Option (Nat × α)) (ℓ : Nat → Prop) (l l' : List α) : Prop :=
  l'.length = l.length ∧ ∀ m, m < l.length → ((∀ k x, ℓ k → gs k ≠ some (m, x)) → l'[m]? = l[m]?) ∧
    ∀ k x, ℓ k → gs k = some (m, x) → (∀ k' x', ℓ k' → k < k' → gs k' ≠ some (m, x')) → l'[m]? = some x

def putL {α : Type} : Option (Nat × α) → List α → List α
  | none, l => l
  | some (m, x), l => l.set m x

section
variable {α : Type} {gs gs' : Nat → Option (Nat × α)} {ℓ ℓ' : Nat → Prop} {l l' l'' : List α}

theorem Upd.nil : Upd gs (fun _ => False) l l := ⟨rfl, fun m hm => ⟨fun _ => rfl, fun k x hk => hk.elim⟩⟩

theorem Upd.congr (h : Upd gs ℓ l l') (hl : ∀ k, ℓ k ↔ ℓ' k) (hg : ∀ k, ℓ k → gs k = gs' k) : Upd gs' ℓ' l l' := by
  refine ⟨h.1, fun m hm => ⟨fun hn => (h.2 m hm).1 fun k x hk => ?_, fun k x hk hx hlast => (h.2 m hm).2 k x ((hl k).2 hk) ?_ fun k' x' hk' hlt => ?_⟩⟩
  · rw [hg k hk]; exact hn k x ((hl k).1 hk)
  · rw [hg k ((hl k).2 hk)]; exact hx
  · rw [hg k' hk']; exact hlast k' x' ((hl k').1 hk') hlt

theorem Upd.add (h : Upd gs ℓ l l') {i : Nat} (hi : ∀ k m x x', ℓ k → i < k → gs i = some (m, x) → gs k ≠ some (m, x')) : Upd gs (fun k => ℓ k ∨ k = i) l (putL (gs i) l') := by
  cases hg : gs i with
  | none =>
    refine ⟨h.1, fun m hm => ⟨fun hn => (h.2 m hm).1 fun k x hk => hn k x (.inl hk), fun k x hk hx hlast => ?_⟩⟩
    rcases hk with hk | rfl
    · exact (h.2 m hm).2 k x hk hx fun k' x' hk' hlt => hlast k' x' (.inl hk') hlt
    · rw [hg] at hx; cases hx
  | some p =>
    obtain ⟨m0, x0⟩ := p
    refine ⟨by simp [putL, h.1], fun m hm => ⟨fun hn => ?_, fun k x hk hx hlast => ?_⟩⟩
    · have hne : m0 ≠ m := fun e => hn i x0 (.inr rfl) (by rw [hg, e])
      simp only [putL]
      rw [List.getElem?_set_ne hne]
      exact (h.2 m hm).1 fun k x hk => hn k x (.inl hk)
    · simp only [putL]
      by_cases e : m0 = m
      · subst e
        rw [List.getElem?_set_self (by rw [h.1]; exact hm)]
        by_cases hki : k = i
        · subst hki; rw [hg] at hx; simp only [Option.some.injEq, Prod.mk.injEq] at hx; rw [hx.2]
        · have hk' : ℓ k := hk.resolve_right hki
          rcases Nat.lt_trichotomy k i with hlt | he | hlt
          · exact absurd hg (hlast i x0 (.inr rfl) hlt)
          · exact absurd he hki
          · exact absurd hx (hi k m0 x0 x hk' hlt hg)
      · rw [List.getElem?_set_ne e]
        rcases hk with hk | rfl
        · exact (h.2 m hm).2 k x hk hx fun k' x' hk' hlt => hlast k' x' (.inl hk') hlt
        · rw [hg] at hx; simp only [Option.some.injEq, Prod.mk.injEq] at hx; exact absurd hx.1 e

theorem last_of (p : Nat → Prop) : ∀ (n : Nat), (∃ k, k < n ∧ p k) → ∃ k, k < n ∧ p k ∧ ∀ k', k < k' → k' < n → ¬ p k'
  | 0, ⟨k, hk, _⟩ => absurd hk (Nat.not_lt_zero k)
  | n + 1, h => by
    by_cases hp : p n
    · exact ⟨n, Nat.lt_succ_self n, hp, fun k' h1 h2 => by omega⟩
    · obtain ⟨k, hk, hpk⟩ := h
      have hkn : k < n := by
        rcases Nat.lt_or_ge k n with h' | h'
        · exact h'
        · have : k = n := by omega
          subst this; exact absurd hpk hp
      obtain ⟨k1, h1, h2, h3⟩ := last_of p n ⟨k, hkn, hpk⟩
      refine ⟨k1, by omega, h2, fun k' h4 h5 => ?_⟩
      rcases Nat.lt_or_ge k' n with h' | h'
      · exact h3 k' h4 h'
      · have : k' = n := by omega
        subst this; exact hp

/-- Either nothing was written there, or there is a last one. -/
theorem Upd.cases (h : Upd gs ℓ l l') {n : Nat} (hb : ∀ k, ℓ k → k < n) {m : Nat} (hm : m < l.length) :
    ((∀ k x, ℓ k → gs k ≠ some (m, x)) ∧ l'[m]? = l[m]?) ∨ ∃ k x, ℓ k ∧ gs k = some (m, x) ∧ (∀ k' x', ℓ k' → k < k' → gs k' ≠ some (m, x')) ∧ l'[m]? = some x := by
  by_cases he : ∃ k, k < n ∧ ℓ k ∧ ∃ x, gs k = some (m, x)
  · obtain ⟨k, hk, hlk, hlast⟩ := last_of (fun k => ℓ k ∧ ∃ x, gs k = some (m, x)) n he
    obtain ⟨h1, x, h2⟩ := hlk
    have h3 : ∀ k' x', ℓ k' → k < k' → gs k' ≠ some (m, x') := fun k' x' hk' hlt hx => hlast k' hlt (hb k' hk') ⟨hk', x', hx⟩
    exact .inr ⟨k, x, h1, h2, h3, (h.2 m hm).2 k x h1 h2 h3⟩
  · have h1 : ∀ k x, ℓ k → gs k ≠ some (m, x) := fun k x hk hx => he ⟨k, hb k hk, hk, x, hx⟩
    exact .inl ⟨h1, (h.2 m hm).1 h1⟩

theorem Upd.agree (h : Upd gs ℓ l l') (h' : Upd gs ℓ' l l'') {n : Nat} (hb : ∀ k, ℓ k → k < n) {m : Nat} (hm : m < l.length) (hs : ∀ k x, gs k = some (m, x) → (ℓ k ↔ ℓ' k)) : l'[m]? = l''[m]? := by
  rcases h.cases hb hm with ⟨h1, h2⟩ | ⟨k, x, h1, h2, h3, h4⟩
  · rw [h2, (h'.2 m hm).1 fun k x hk hx => h1 k x ((hs k x hx).2 hk) hx]
  · rw [h4, (h'.2 m hm).2 k x ((hs k x h2).1 h1) h2 fun k' x' hk' hlt hx => h3 k' x' ((hs k' x' hx).2 hk') hlt hx]

theorem Upd.uniq (h : Upd gs ℓ l l') (h' : Upd gs ℓ l l'') {n : Nat} (hb : ∀ k, ℓ k → k < n) : l' = l'' := by
  apply List.ext_getElem?
  intro m
  rcases Nat.lt_or_ge m l.length with hm | hm
  · exact h.agree h' hb hm fun _ _ _ => .rfl
  · rw [List.getElem?_eq_none (by rw [h.1]; exact hm), List.getElem?_eq_none (by rw [h'.1]; exact hm)]
end

/-! ### Regions -/

structure Ent where
  dst : Option Nat
  c : C
  eff : Eff
  rd : Rd

def ldOb (b : Ob) (agg : Bool) (n off : Nat) : Option C :=
  match b with
  | .box _ cs => if off + n ≤ cs.length then aggOf agg ((cs.drop off).take n) else none
  | _ => none

/-- What was read so, with such a value, doesn't mind that name m comes to be b. -/
def rdOk (rd : Rd) (c : C) (m : Nat) (b : Ob) (fresh : Prop) : Prop :=
  match rd with
  | .no => True
  | .ld m' agg n off => m = m' → ldOb b agg n off = some c
  | .ob m' => m ≠ m'
  | .all => fresh

/-- What makes something, and changes nothing that was there. -/
def Rd.fresh : Rd → Prop
  | .no => True
  | .all => True
  | _ => False

/-- Two operations of which neither waits for the other: e' the first in the text, e the second. -/
def pairOk (e' e : Ent) (slot : Nat) (view : St) : Prop :=
  (match e'.eff with | some (m, b) => rdOk e.rd e.c m b (view[m]? = some none) | none => True) ∧
  (match e.eff with | some (m, b) => rdOk e'.rd e'.c m b (m = slot ∧ e.rd.fresh) ∧ (match e'.eff with | some (m', _) => m' ≠ m | none => True) | none => True)

def pairsOk : List Ent → List Bool → Ent → Nat → St → Prop
  | e' :: D, b :: bs, e, slot, view => (if b = true then True else pairOk e' e slot view) ∧ pairsOk D bs e slot view
  | [], _, _, _, _ => True
  | _ :: _, [], _, _, _ => False

def noOn : List Ent → Nat → Prop
  | e :: D, m => (match e.eff with | some (m', _) => m' ≠ m | none => True) ∧ noOn D m
  | [], _ => True

/-- What is made comes where nothing is. -/
def freshOk (D : List Ent) (e : Ent) : Prop :=
  match e.rd, e.eff with
  | .no, some (m, _) => noOn D m
  | .all, some (m, _) => noOn D m
  | _, _ => True

def vw : List Ent → List Bool → St → St
  | e :: D, b :: bs, σ => vw D bs (if b = true then e.eff.on σ else σ)
  | _, _, σ => σ

def vwAll : List Ent → St → St
  | e :: D, σ => vwAll D (e.eff.on σ)
  | [], σ => σ

def entC (dst : Option Nat) (slot : Nat) : C → Ent
  | .frm ks cs => ⟨dst, .map slot, some (slot, .map (ks.zip cs)), .all⟩
  | .fr e sz rows => ⟨dst, .o sz rows slot, some (slot, .tok e sz rows.length), .all⟩
  | r => ⟨dst, r, none, .all⟩

/-- One operation that is wanted. -/
def oneD (P : Program) (n0 : Fr) (slot : Nat) (T : List C) (view : St) (dst : Option Nat) (p : AOp) (K : Ent → Prop) : Prop :=
  match p with
  | .call f args => match evO T f with
    | .cl fid first caps => ∃ r, (∀ σ' : St, σ'.length = view.length → (∀ (n : Nat) (b : Ob), view[n]? = some (some b) → σ'[n]? = some (some b)) → CallQ P fid (first ++ args.map (evO T) ++ caps) σ' r) ∧ K (entC dst slot r)
    | _ => False
  | p => match evS n0.lo slot T view p with
    | some (c, eff, rd) => K ⟨dst, c, eff, rd⟩
    | none => False

def stepD (q : DOp) (D : List Ent) (slot : Nat) (view : St) (K : Ent → Prop) (e : Ent) : Prop := pairsOk D q.bef e slot view ∧ freshOk D e ∧ K e

def wpD (P : Program) (n0 : Fr) (σp : St) (s0 : Nat) : List DOp → List Ent → List C → (List C → St → Prop) → Prop
  | [], D, T, K => K T (vwAll D σp)
  | q :: qs, D, T, K =>
    match q.op.guard with
    | none => oneD P n0 (s0 + q.slot) T (vw D q.bef σp) q.op.dst q.op.op (stepD q D (s0 + q.slot) (vw D q.bef σp) fun e => wpD P n0 σp s0 qs (D ++ [e]) (setT T e.dst e.c) K)
    | some (g, want) => match gdec T g want with
      | some true => oneD P n0 (s0 + q.slot) T (vw D q.bef σp) q.op.dst q.op.op (stepD q D (s0 + q.slot) (vw D q.bef σp) fun e => wpD P n0 σp s0 qs (D ++ [e]) (setT T e.dst e.c) K)
      | some false => wpD P n0 σp s0 qs (D ++ [⟨q.op.dst, nwC, none, .no⟩]) (setT T q.op.dst nwC) K
      | none => False

/-! ### What the reading sees to -/

structure DSpec (ops : Array Oper) (qs : List DOp) (N : Nat) : Prop where
  len : qs.length = ops.size
  bef : ∀ (i : Nat) (q : DOp), qs[i]? = some q → q.bef.length = i ∧ q.slot < N
  aft : ∀ (i : Nat) (o : Oper), ops[i]? = some o → ∀ e ∈ o.after, Region.binds .any e = true → befG qs i e.on = true
  gen : ∀ (i : Nat) (o : Oper) (k : Nat), ops[i]? = some o → befG qs i k = true → (∃ e ∈ o.after, Region.binds .any e = true ∧ (k = e.on ∨ befG qs e.on k = true))
  tmp : ∀ (i j : Nat) (q r : DOp) (t : Nat), qs[i]? = some q → qs[j]? = some r → i ≠ j → r.op.dst = some t → (t ∈ lookT q.op → if j < i then befG qs i j = true else befG qs j i = true) ∧ q.op.dst ≠ some t

theorem dOk_spec {ops : Array Oper} {qs : List DOp} {N : Nat} (h : dOk (ops.toList.map aft) qs N = true) : DSpec ops qs N := by
  unfold dOk at h
  simp only [Bool.and_eq_true, beq_iff_eq, List.all_eq_true, List.mem_range, List.length_map, Array.length_toList] at h
  obtain ⟨h0, h1⟩ := h
  have key : ∀ (i : Nat) (q : DOp), qs[i]? = some q → dOk1 (ops.toList.map aft) qs N i q = true := by
    intro i q hq
    have := h1 i (List.getElem?_eq_some_iff.1 hq).1
    rw [hq] at this
    exact this
  have hbg : ∀ (i : Nat) (q : DOp) (k : Nat), qs[i]? = some q → befG qs i k = q.bef.getD k false := by
    intro i q k hq; simp [befG, hq]
  have ex : ∀ (i : Nat) (o : Oper), ops[i]? = some o → ∃ q : DOp, qs[i]? = some q := by
    intro i o ho
    have := (Array.getElem?_eq_some_iff.1 ho).1
    exact ⟨_, List.getElem?_eq_getElem (by omega)⟩
  have hmem : ∀ (o : Oper) (k : Nat), k ∈ aft o ↔ ∃ e ∈ o.after, Region.binds .any e = true ∧ e.on = k := by
    intro o k
    simp only [aft, List.mem_map, List.mem_filter, Array.mem_toList_iff, and_assoc]
  refine ⟨h0.symm, fun i q hq => ?_, fun i o ho e he hb => ?_, fun i o k ho hk => ?_, fun i j q r t hq hr hij ht => ?_⟩
  · have := key i q hq
    simp only [dOk1, Bool.and_eq_true, beq_iff_eq, decide_eq_true_eq] at this
    exact ⟨this.1.1.1, this.1.1.2⟩
  · obtain ⟨q, hq⟩ := ex i o ho
    have := key i q hq
    simp only [dOk1, Bool.and_eq_true] at this
    have h2 := this.1.2
    have : (ops.toList.map aft)[i]? = some (aft o) := by simp [ho]
    rw [this] at h2
    simp only [Bool.and_eq_true, List.all_eq_true] at h2
    have := h2.1 e.on ((hmem o _).2 ⟨e, he, hb, rfl⟩)
    rw [hbg i q _ hq]
    exact this.2
  · obtain ⟨q, hq⟩ := ex i o ho
    have hd := key i q hq
    rw [hbg i q k hq] at hk
    simp only [dOk1, Bool.and_eq_true, beq_iff_eq] at hd
    have hki : k < i := by
      rcases Nat.lt_or_ge k i with h' | h'
      · exact h'
      · rw [List.getD_eq_getElem?_getD, List.getElem?_eq_none (by rw [hd.1.1.1]; exact h')] at hk
        cases hk
    have h2 := hd.1.2
    have hai : (ops.toList.map aft)[i]? = some (aft o) := by simp [ho]
    rw [hai] at h2
    simp only [Bool.and_eq_true, List.all_eq_true, List.mem_range, Bool.or_eq_true, Bool.not_eq_true', List.contains_iff_mem, List.any_eq_true] at h2
    rcases h2.2 k hki with (h3 | h3) | ⟨e, h3, h4⟩
    · rw [h3] at hk; cases hk
    · obtain ⟨e, he, hb, rfl⟩ := (hmem o k).1 h3
      exact ⟨e, he, hb, .inl rfl⟩
    · obtain ⟨e', he, hb, rfl⟩ := (hmem o e).1 h3
      exact ⟨e', he, hb, .inr h4⟩
  · have hd := key i q hq
    simp only [dOk1, Bool.and_eq_true, List.all_eq_true, List.mem_range] at hd
    have h2 := hd.2 j (List.getElem?_eq_some_iff.1 hr).1
    rw [hr] at h2
    simp only [ht, Bool.or_eq_true, beq_iff_eq, hij, false_or, Bool.and_eq_true, Bool.not_eq_true'] at h2
    refine ⟨fun hl => ?_, ?_⟩
    · rcases h2.1 with h3 | h3
      · have : (lookT q.op).contains t = true := by simpa using hl
        rw [this] at h3; cases h3
      · split
        · rename_i hji; rw [if_pos hji] at h3; rw [hbg i q j hq]; exact h3
        · rename_i hji; rw [if_neg hji] at h3; rw [hbg j r i hr]; exact h3
    · intro hc
      rw [hc] at h2
      simp at h2

end Go.Av

set_option linter.unusedVariables false
set_option linter.unusedSimpArgs false
namespace Go.Av
open Go.RowKit
variable [TheProg]
set_option linter.unusedSectionVars false

def gT (ents : List Ent) (k : Nat) : Option (Nat × C) := (ents[k]?).bind fun e => e.dst.map (·, e.c)
def gS (ents : List Ent) (k : Nat) : Option (Nat × Option Ob) := (ents[k]?).bind fun e => e.eff.map fun x => (x.1, some x.2)

theorem setT_put (T : List C) (d : Option Nat) (c : C) : setT T d c = putL (d.map (·, c)) T := by cases d <;> rfl
theorem on_put (e : Eff) (σ : St) : e.on σ = putL (e.map fun x => (x.1, some x.2)) σ := by
  cases e with
  | none => rfl
  | some p => rfl

def foldT (D : List Ent) (T : List C) : List C := D.foldl (fun T e => setT T e.dst e.c) T

theorem foldT_snoc (D : List Ent) (e : Ent) (T : List C) : foldT (D ++ [e]) T = setT (foldT D T) e.dst e.c := by simp [foldT]

theorem vw_snoc : ∀ (D : List Ent) (e : Ent) (bs : List Bool) (σ : St), vw (D ++ [e]) bs σ = if bs.getD D.length false = true then e.eff.on (vw D bs σ) else vw D bs σ
  | [], e, [], σ => by simp [vw]
  | [], e, b :: bs, σ => by cases b <;> simp [vw]
  | d :: D, e, [], σ => by simp [vw]
  | d :: D, e, b :: bs, σ => by
    have := vw_snoc D e bs (if b = true then d.eff.on σ else σ)
    simpa [vw] using this

theorem vwAll_snoc : ∀ (D : List Ent) (e : Ent) (σ : St), vwAll (D ++ [e]) σ = e.eff.on (vwAll D σ)
  | [], e, σ => rfl
  | d :: D, e, σ => vwAll_snoc D e (d.eff.on σ)

theorem take_snoc {ents : List Ent} {n : Nat} {e : Ent} (h : ents[n]? = some e) : ents.take (n + 1) = ents.take n ++ [e] := by
  have hl := (List.getElem?_eq_some_iff.1 h).1
  have he := (List.getElem?_eq_some_iff.1 h).2
  rw [← he]
  exact (List.take_append_getElem hl).symm

theorem upd_foldT (ents : List Ent) (T : List C) : ∀ n, n ≤ ents.length → Upd (gT ents) (· < n) T (foldT (ents.take n) T)
  | 0, _ => ⟨rfl, fun m hm => ⟨fun _ => rfl, fun k x hk => absurd hk (Nat.not_lt_zero k)⟩⟩
  | n + 1, hn => by
    have hl : n < ents.length := hn
    have he : ents[n]? = some ents[n] := List.getElem?_eq_getElem hl
    rw [take_snoc he, foldT_snoc, setT_put]
    have hg : gT ents n = (ents[n]).dst.map (·, (ents[n]).c) := by simp [gT, he]
    rw [← hg]
    exact ((upd_foldT ents T n (by omega)).add fun k m x x' hk hlt => by omega).congr (fun k => by omega) fun _ _ => rfl

theorem upd_vw (ents : List Ent) (bs : List Bool) (σ : St) : ∀ n, n ≤ ents.length → Upd (gS ents) (fun k => k < n ∧ bs.getD k false = true) σ (vw (ents.take n) bs σ)
  | 0, _ => by
    have : vw (ents.take 0) bs σ = σ := by simp [vw]
    rw [this]
    exact ⟨rfl, fun m hm => ⟨fun _ => rfl, fun k x hk => absurd hk.1 (Nat.not_lt_zero k)⟩⟩
  | n + 1, hn => by
    have hl : n < ents.length := hn
    have he : ents[n]? = some ents[n] := List.getElem?_eq_getElem hl
    rw [take_snoc he, vw_snoc]
    have hlen : (ents.take n).length = n := by simp; omega
    rw [hlen]
    have ih := upd_vw ents bs σ n (by omega)
    have hg : gS ents n = (ents[n]).eff.map fun x => (x.1, some x.2) := by simp [gS, he]
    split
    · rename_i hb
      rw [on_put, ← hg]
      refine (ih.add fun k m x x' hk hlt => by omega).congr (fun k => ?_) fun _ _ => rfl
      constructor
      · rintro (⟨h1, h2⟩ | rfl)
        · exact ⟨by omega, h2⟩
        · exact ⟨by omega, hb⟩
      · rintro ⟨h1, h2⟩
        rcases Nat.lt_or_ge k n with h | h
        · exact .inl ⟨h, h2⟩
        · exact .inr (by omega)
    · rename_i hb
      refine ih.congr (fun k => ⟨fun h => ⟨by omega, h.2⟩, fun h => ⟨?_, h.2⟩⟩) fun _ _ => rfl
      rcases Nat.lt_or_ge k n with h' | h'
      · exact h'
      · have : k = n := by omega
        subst this; exact absurd h.2 hb

theorem upd_vwAll (ents : List Ent) (σ : St) : ∀ n, n ≤ ents.length → Upd (gS ents) (· < n) σ (vwAll (ents.take n) σ)
  | 0, _ => ⟨rfl, fun m hm => ⟨fun _ => rfl, fun k x hk => absurd hk (Nat.not_lt_zero k)⟩⟩
  | n + 1, hn => by
    have hl : n < ents.length := hn
    have he : ents[n]? = some ents[n] := List.getElem?_eq_getElem hl
    rw [take_snoc he, vwAll_snoc, on_put]
    have hg : gS ents n = (ents[n]).eff.map fun x => (x.1, some x.2) := by simp [gS, he]
    rw [← hg]
    exact ((upd_vwAll ents σ n (by omega)).add fun k m x x' hk hlt => by omega).congr (fun k => by omega) fun _ _ => rfl

/-- What is known of operation i. -/
structure OpFact (P : Program) (n0 : Fr) (σp : St) (s0 : Nat) (T0 : List C) (ents : List Ent) (i : Nat) (q : DOp) (e : Ent) : Prop where
  dst : e.dst = q.op.dst
  ex : ∃ Ti view, Upd (gT ents) (· < i) T0 Ti ∧ Upd (gS ents) (fun k => k < i ∧ q.bef.getD k false = true) σp view ∧
    ((e = ⟨q.op.dst, nwC, none, .no⟩ ∧ ∃ g want, q.op.guard = some (g, want) ∧ gdec Ti g want = some false) ∨
     ((q.op.guard = none ∨ ∃ g want, q.op.guard = some (g, want) ∧ gdec Ti g want = some true) ∧
       oneD P n0 (s0 + q.slot) Ti view q.op.dst q.op.op (fun e' => e' = e) ∧
       (∀ k e', k < i → ents[k]? = some e' → q.bef.getD k false = false → pairOk e' e (s0 + q.slot) view) ∧
       ((e.rd = .no ∨ e.rd = .all) → ∀ m b, e.eff = some (m, b) → ∀ k e' b', k < i → ents[k]? = some e' → e'.eff ≠ some (m, b'))))

section
variable {P : Program} {n0 : Fr} {s0 : Nat} {σp : St} {T0 : List C}

theorem oneD_split {slot : Nat} {T : List C} {view : St} {dst : Option Nat} {p : AOp} {K : Ent → Prop} (h : oneD P n0 slot T view dst p K) : ∃ e, e.dst = dst ∧ oneD P n0 slot T view dst p (fun e' => e' = e) ∧ K e := by
  have dc : ∀ r, (entC dst slot r).dst = dst := by intro r; cases r <;> rfl
  cases p with
  | call f args =>
    simp only [oneD] at h ⊢
    split at h
    · rename_i fid first caps hf
      obtain ⟨r, h1, h2⟩ := h
      exact ⟨_, dc r, ⟨r, h1, rfl⟩, h2⟩
    · exact h.elim
  | _ =>
    simp only [oneD] at h ⊢
    split at h
    · rename_i c eff rd he
      exact ⟨_, rfl, rfl, h⟩
    · exact h.elim

theorem pairsOk_get {e : Ent} {slot : Nat} {view : St} : ∀ {D : List Ent} {bs : List Bool}, pairsOk D bs e slot view → ∀ (k : Nat) (e' : Ent), D[k]? = some e' → bs.getD k false = false → pairOk e' e slot view
  | [], _, _, k, e', h, _ => by simp at h
  | d :: D, [], h, _, _, _, _ => h.elim
  | d :: D, b :: bs, h, k, e', hk, hb => by
    cases k with
    | zero =>
      simp at hk hb
      subst hk
      have := h.1
      rw [hb] at this
      simpa using this
    | succ k => exact pairsOk_get h.2 k e' (by simpa using hk) (by simpa using hb)

theorem noOn_get {m : Nat} : ∀ {D : List Ent}, noOn D m → ∀ (k : Nat) (e' : Ent) (b : Ob), D[k]? = some e' → e'.eff ≠ some (m, b)
  | [], _, k, e', b, h => by simp at h
  | d :: D, h, k, e', b, hk => by
    cases k with
    | zero =>
      simp at hk
      subst hk
      intro he
      have := h.1
      rw [he] at this
      exact this rfl
    | succ k => exact noOn_get h.2 k e' b (by simpa using hk)

theorem wpD_ext {K : List C → St → Prop} : ∀ (qs : List DOp) (D : List Ent), wpD P n0 σp s0 qs D (foldT D T0) K →
    ∃ E : List Ent, E.length = qs.length ∧ (∀ (i : Nat) (q : DOp) (e : Ent), qs[i]? = some q → (D ++ E)[D.length + i]? = some e → OpFact P n0 σp s0 T0 (D ++ E) (D.length + i) q e) ∧ K (foldT (D ++ E) T0) (vwAll (D ++ E) σp)
  | [], D, h => ⟨[], rfl, fun i q e hq => by simp at hq, by simpa [wpD] using h⟩
  | q :: qs, D, h => by
    have next : ∀ e : Ent, e.dst = q.op.dst → wpD P n0 σp s0 qs (D ++ [e]) (setT (foldT D T0) e.dst e.c) K →
        (∀ E : List Ent, OpFact P n0 σp s0 T0 (D ++ e :: E) D.length q e) →
        ∃ E : List Ent, E.length = (q :: qs).length ∧ (∀ (i : Nat) (q' : DOp) (e' : Ent), (q :: qs)[i]? = some q' → (D ++ E)[D.length + i]? = some e' → OpFact P n0 σp s0 T0 (D ++ E) (D.length + i) q' e') ∧ K (foldT (D ++ E) T0) (vwAll (D ++ E) σp) := by
      intro e hd hw hf
      rw [← foldT_snoc] at hw
      obtain ⟨E, h1, h2, h3⟩ := wpD_ext qs (D ++ [e]) hw
      have hE : D ++ [e] ++ E = D ++ e :: E := by simp
      rw [hE] at h2 h3
      refine ⟨e :: E, by simp [h1], fun i q' e' hq he => ?_, h3⟩
      cases i with
      | zero =>
        simp at hq
        subst hq
        have : e' = e := by simpa using he.symm
        subst this
        exact hf E
      | succ i =>
        have := h2 i q' e' (by simpa using hq) (by simpa [Nat.add_assoc, Nat.add_comm 1 i] using he)
        simpa [Nat.add_assoc, Nat.add_comm 1 i] using this
    have htk : ∀ e E, (D ++ e :: E : List Ent).take D.length = D := fun e E => by simp
    have hTi : ∀ e E, Upd (gT (D ++ e :: E)) (· < D.length) T0 (foldT D T0) := fun e E => by
      have := upd_foldT (D ++ e :: E) T0 D.length (by simp)
      rwa [htk] at this
    have hvi : ∀ e E, Upd (gS (D ++ e :: E)) (fun k => k < D.length ∧ q.bef.getD k false = true) σp (vw D q.bef σp) := fun e E => by
      have := upd_vw (D ++ e :: E) q.bef σp D.length (by simp)
      rwa [htk] at this
    have hget : ∀ (e : Ent) (E : List Ent) (k : Nat) (e' : Ent), k < D.length → (D ++ e :: E)[k]? = some e' → D[k]? = some e' := fun e E k e' hk he => by
      rwa [List.getElem?_append_left hk] at he
    have wanted : ∀ (hg : q.op.guard = none ∨ ∃ g want, q.op.guard = some (g, want) ∧ gdec (foldT D T0) g want = some true),
        oneD P n0 (s0 + q.slot) (foldT D T0) (vw D q.bef σp) q.op.dst q.op.op (stepD q D (s0 + q.slot) (vw D q.bef σp) fun e => wpD P n0 σp s0 qs (D ++ [e]) (setT (foldT D T0) e.dst e.c) K) →
        ∃ E : List Ent, E.length = (q :: qs).length ∧ (∀ (i : Nat) (q' : DOp) (e' : Ent), (q :: qs)[i]? = some q' → (D ++ E)[D.length + i]? = some e' → OpFact P n0 σp s0 T0 (D ++ E) (D.length + i) q' e') ∧ K (foldT (D ++ E) T0) (vwAll (D ++ E) σp) := by
      intro hg h1
      obtain ⟨e, hd, ho, hp, hfr, hk⟩ := oneD_split h1
      refine next e hd hk fun E => ⟨hd, _, _, hTi e E, hvi e E, .inr ⟨hg, ho, fun k e' hk he hb => pairsOk_get hp k e' (hget e E k e' hk he) hb, fun hr m b hm k e' b' hk he => ?_⟩⟩
      have : noOn D m := by
        unfold freshOk at hfr
        rcases hr with hr | hr <;> (rw [hr, hm] at hfr; exact hfr)
      exact noOn_get this k e' b' (hget e E k e' hk he)
    simp only [wpD] at h
    split at h
    · rename_i hg
      exact wanted (.inl hg) h
    · rename_i g want hg
      split at h
      · rename_i hb
        exact wanted (.inr ⟨g, _, hg, hb⟩) h
      · rename_i hb
        exact next ⟨q.op.dst, nwC, none, .no⟩ rfl h fun E => ⟨rfl, _, _, hTi _ E, hvi _ E, .inl ⟨rfl, g, want, hg, hb⟩⟩
      · exact h.elim
end
end Go.Av

set_option linter.unusedVariables false
set_option linter.unusedSimpArgs false
namespace Go.Av
open Go.RowKit
variable [TheProg]
set_option linter.unusedSectionVars false

theorem rdOk_mono {rd : Rd} {c : C} {m : Nat} {b : Ob} {p q : Prop} (h : rdOk rd c m b p) (hpq : p → q) : rdOk rd c m b q := by
  cases rd <;> first
    | exact h
    | exact hpq h

theorem fresh_or {rd : Rd} (h : rd.fresh) : rd = .no ∨ rd = .all := by
  cases rd <;> first
    | exact .inl rfl
    | exact .inr rfl
    | exact h.elim

section
variable {P : Program} {B : Nat} {n0 : Fr} {o : Oper} {a : Act} {w w0 : World} {γ γ0 : G} {σ : St} {T T0 : List C} {s N : Nat} {ops : Array Oper} {qs : List DOp} {ents : List Ent}

/-- A call whose result comes to a place. -/
theorem callO_sound {ro : Option Nat} {f : Opd} {args : List Opd} {fid : FuncId} {first caps : List C} {r : C} {K : List C → St → Prop} (h : linkOp P o = some (.call f args)) (hfe : evO T f = .cl fid first caps)
    (hq : CallQ P fid (first ++ args.map (evO T) ++ caps) σ r) (hh : ∀ b, (entC o.dst s r).eff = some (s, b) → σ[s]? = some none) (hn0 : n0.hi ≤ s)
    (hK : K (setT T o.dst (entC o.dst s r).c) ((entC o.dst s r).eff.on σ))
    (hd : DefOk n0.D w a.defers) (hf : Fn B n0 w0 γ0 w γ) (hs : Sat B n0 w γ σ) (hT : RepT w γ (Fil σ) T a.tmps) {Q : Exit → Act → World → Prop} : o.wpIn (Fo ro) 0 P a w (At B n0 w0 γ0 K) Q := by
  obtain ⟨⟨fn, hfn, hbody, hname⟩, hq⟩ := hq
  obtain ⟨cl, hop⟩ : ∃ cl, o.op = .call cl := by
    unfold linkOp at h
    split at h <;> first
      | exact ⟨_, by assumption⟩
      | (exfalso; revert h; repeat' split
         all_goals simp)
      | (exfalso; simp at h; done)
      | (exfalso; obtain ⟨_, _, he⟩ := Option.map_eq_some_iff.1 h; cases he)
  obtain ⟨fo, hcal, hfo, has⟩ : ∃ fo, cl.callee = .value fo ∧ linkO P 0 fo = some f ∧ linkOs P cl.argTypes.toList cl.args.toList = some args := by
    simp only [linkOp, hop] at h
    split at h
    · exfalso; revert h; repeat' split
      all_goals simp
    · exfalso; obtain ⟨_, _, he⟩ := Option.map_eq_some_iff.1 h; cases he
    · exfalso; obtain ⟨_, _, he⟩ := Option.map_eq_some_iff.1 h; cases he
    · exfalso; revert h; repeat' split
      all_goals simp
    · cases h
    · cases h
    · rename_i fo hcal
      split at h
      · rename_i f' xs h1 h2
        simp only [Option.some.injEq, AOp.call.injEq] at h
        obtain ⟨rfl, rfl⟩ := h
        exact ⟨fo, hcal, h1, h2⟩
      · cases h
    · cases h
  have hv := linkO_rep hfo hT
  rw [hfe] at hv
  obtain ⟨fs, cs, hval, hfs, hcs⟩ : ∃ fs cs, a.eval fo = .func (.func fid) fs cs ∧ RepL w γ (Fil σ) first fs ∧ RepL w γ (Fil σ) caps cs := by
    generalize a.eval fo = v at hv
    cases hv with | cl fs cs h1 h2 h3 h4 => exact ⟨fs, cs, rfl, ⟨h1, h3⟩, ⟨h2, h4⟩⟩
  have hargs : RepL w γ (Fil σ) (first ++ args.map (evO T) ++ caps) (fs ++ cl.args.map a.eval ++ cs) := repL_append (repL_append hfs (linkOs_map hT has)) hcs
  have hrun : (execOp a.eval o).run P w = .ok (.enter fid (fs ++ cl.args.map a.eval ++ cs)) w := by
    have hb : fn.body.isNone = false := hbody
    simp only [execOp, hop, resolve, hcal, hval, Deferred.ofValue, Sem.run_bind, Sem.run_pure, Result.andThen_ok, invoke, callFunc, run_program, hfn, hname, hb]
    simp
  refine wpIn_of h ?_
  rw [hrun]
  refine ⟨fo_depth, fo_calls ?_⟩
  refine (hq w γ _ hs.inv hargs.1 hargs.2).mono ?_
  rintro e w' ⟨v, γ', rfl, k1, k2, k3⟩
  show At B n0 w0 γ0 K (a.put o.dst v) w'
  have hf1 : Fn B n0 w γ w' γ' := k1.mono hs.B (Nat.le_trans n0.le hs.n0) hs.n0
  cases k3 with
  | c hr =>
    have hK' : K (setT T o.dst r) σ := by
      cases r <;> first
        | exact hK
        | cases hr
    exact ⟨_, _, γ', by rw [put_defers]; exact hd.step hf1, hf.trans hf1, hs.after k1.keep k2, repT_put (hT.ext k1.keep.ext) o.dst hr, hK'⟩
  | fr hrD hrv =>
    obtain ⟨γ'', j1, j2, j3, j4⟩ := fr_land hs (hh _ rfl) hn0 (fun n h1 h2 => h1) k1 k2 hrD hrv
    exact ⟨_, _, γ'', by rw [put_defers]; exact hd.step j1, hf.trans j1, j3, repT_put ((hT.ext j2).mono (fil_mono_set (hh _ rfl) _)) o.dst j4, hK⟩
  | frm hB hg qs q1 q2 q3 q4 =>
    obtain ⟨γ'', j1, j2, j3, j4⟩ := frm_land hs (hh _ rfl) hn0 (fun n h1 h2 => h1) k1 k2 hB hg qs q1 q2 q3 q4
    exact ⟨_, _, γ'', by rw [put_defers]; exact hd.step j1, hf.trans j1, j3, repT_put ((hT.ext j2).mono (fil_mono_set (hh _ rfl) _)) o.dst j4, hK⟩

/-- What is kept while the operations of ℓ, and no others, have come. -/
def JD (B : Nat) (n0 : Fr) (w0 : World) (γ0 : G) (ents : List Ent) (T0 : List C) (σp : St) (ℓ : Nat → Prop) : Act → World → Prop :=
  At B n0 w0 γ0 fun T' σ' => Upd (gT ents) ℓ T0 T' ∧ Upd (gS ents) ℓ σp σ'

theorem stepJ {ro : Option Nat} {ℓ : Nat → Prop} {i : Nat} (hlink : ∀ (i : Nat) (o : Oper), ops[i]? = some o → ∃ q : DOp, qs[i]? = some q ∧ linkOper P ops o = some q.op) (spec : DSpec ops qs N) (hlen : ents.length = qs.length)
    (facts : ∀ (i : Nat) (q : DOp) (e : Ent), qs[i]? = some q → ents[i]? = some e → OpFact P n0 (σ ++ List.replicate N none) σ.length T0 ents i q e) (hn0 : n0.hi ≤ σ.length)
    (hb : ∀ k, ℓ k → k < qs.length) (hcl : ∀ k j, ℓ k → befG qs k j = true → ℓ j) (hi : ¬ ℓ i) (hbi : ∀ j, befG qs i j = true → ℓ j) (ho : ops[i]? = some o)
    (hJ : JD B n0 w0 γ0 ents T0 (σ ++ List.replicate N none) ℓ a w) {Q : Exit → Act → World → Prop} :
    wpOpIn (Fo ro) 0 P ops Q i (JD B n0 w0 γ0 ents T0 (σ ++ List.replicate N none) (fun k => ℓ k ∨ k = i)) a w := by
  obtain ⟨q, hq, hlq⟩ := hlink i o ho
  have hil : i < qs.length := (List.getElem?_eq_some_iff.1 hq).1
  have he : ents[i]? = some ents[i] := List.getElem?_eq_getElem (by omega)
  generalize ents[i] = e at he
  obtain ⟨hdst, Ti, view, hTi, hview, hcase⟩ := facts i q e hq he
  obtain ⟨T', σ', γ, hd, hf, hs, hT, hUT, hUS⟩ := hJ
  obtain ⟨hl, hqd, _⟩ := linkOper_spec hlq
  obtain ⟨hw1, hw2⟩ := wanted_of hlq hT
  have hslot : q.slot < N := (spec.bef i q hq).2
  have hblen : q.bef.length = i := (spec.bef i q hq).1
  have hbg : ∀ k, befG qs i k = q.bef.getD k false := fun k => by simp [befG, hq]
  have hblt : ∀ k, befG qs i k = true → k < i := fun k hk => by
    rcases Nat.lt_or_ge k i with h' | h'
    · exact h'
    · rw [hbg, List.getD_eq_getElem?_getD, List.getElem?_eq_none (by rw [hblen]; exact h')] at hk
      cases hk
  have entq : ∀ (k : Nat) (e' : Ent), ents[k]? = some e' → ∃ r, qs[k]? = some r ∧ e'.dst = r.op.dst := fun k e' hk => by
    have hk' : k < qs.length := by rw [← hlen]; exact (List.getElem?_eq_some_iff.1 hk).1
    exact ⟨_, List.getElem?_eq_getElem hk', (facts k _ e' (List.getElem?_eq_getElem hk') hk).dst⟩
  have hgT : gT ents i = e.dst.map (·, e.c) := by simp [gT, he]
  have hgS : gS ents i = e.eff.map fun x => (x.1, some x.2) := by simp [gS, he]
  have gSk : ∀ (k m : Nat) (x : Option Ob), gS ents k = some (m, x) → ∃ e' b, ents[k]? = some e' ∧ e'.eff = some (m, b) ∧ x = some b := by
    intro k m x hk
    unfold gS at hk
    obtain ⟨e', h1, h2⟩ := Option.bind_eq_some_iff.1 hk
    obtain ⟨⟨m', b⟩, h3, h4⟩ := Option.map_eq_some_iff.1 h2
    simp only [Prod.mk.injEq] at h4
    obtain ⟨rfl, rfl⟩ := h4
    exact ⟨e', b, h1, h3, rfl⟩
  -- the temporaries that it looks at
  have hlook : ∀ t, t ∈ lookT q.op → T'.getD t .undef = Ti.getD t .undef := by
    intro t ht
    by_cases htl : t < T0.length
    · have := hUT.agree hTi hb htl fun k x hk => by
        unfold gT at hk
        obtain ⟨e', h1, h2⟩ := Option.bind_eq_some_iff.1 hk
        obtain ⟨t', h3, h4⟩ := Option.map_eq_some_iff.1 h2
        simp only [Prod.mk.injEq] at h4
        obtain ⟨rfl, rfl⟩ := h4
        obtain ⟨r, hr, hrd⟩ := entq k e' h1
        by_cases hki : i = k
        · subst hki; exact ⟨fun h => absurd h hi, fun h => absurd h (Nat.lt_irrefl _)⟩
        · have := (spec.tmp i k q r t' hq hr hki (by rw [← hrd]; exact h3)).1 ht
          split at this
          · rename_i hlt; exact ⟨fun _ => hlt, fun _ => hbi k this⟩
          · rename_i hge; exact ⟨fun h => absurd (hcl k i h this) hi, fun h => absurd h hge⟩
      simp only [List.getD_eq_getElem?_getD, this]
    · simp only [List.getD_eq_getElem?_getD]
      rw [List.getElem?_eq_none (by rw [hUT.1]; omega), List.getElem?_eq_none (by rw [hTi.1]; omega)]
  have haddT : Upd (gT ents) (fun k => ℓ k ∨ k = i) T0 (setT T' e.dst e.c) := by
    rw [setT_put, ← hgT]
    refine hUT.add fun k m x x' hk hlt hgi hgk => ?_
    rw [hgT] at hgi
    obtain ⟨t', h3, h4⟩ := Option.map_eq_some_iff.1 hgi
    simp only [Prod.mk.injEq] at h4
    obtain ⟨rfl, rfl⟩ := h4
    unfold gT at hgk
    obtain ⟨e', h1, h2⟩ := Option.bind_eq_some_iff.1 hgk
    obtain ⟨t2, h5, h6⟩ := Option.map_eq_some_iff.1 h2
    simp only [Prod.mk.injEq] at h6
    obtain ⟨rfl, rfl⟩ := h6
    obtain ⟨r, hr, hrd⟩ := entq k e' h1
    exact (spec.tmp i k q r t2 hq hr (by omega) (by rw [← hrd]; exact h5)).2 (by rw [← hdst]; exact h3)
  rcases hcase with ⟨rfl, g, want, hg, hgb⟩ | ⟨hgd, hone, hpair, hfresh⟩
  · -- not wanted
    have hb' : gdec T' g want = some false := by unfold gdec; rw [hlook g (by simp [lookT, hg])]; exact hgb
    have hnw := hw2 g want _ hg hb'
    unfold wpOpIn
    rw [ho]
    simp only []
    rw [if_neg (by rw [hnw]; simp)]
    refine ⟨fun _ _ => trivial, _, _, γ, by rw [put_defers]; exact hd, hf, hs, undef_put hT o.dst, ?_, ?_⟩
    · rw [← hqd]; exact haddT
    · have := hUS.add (i := i) fun k m x x' hk hlt hgi => by rw [hgS] at hgi; simp at hgi
      rw [hgS] at this
      exact this
  · have hwant : Region.wanted o (yielded ops a.tmps) = true := by
      rcases hgd with hg | ⟨g, want, hg, hgb⟩
      · exact hw1 hg
      · exact hw2 g want _ hg (by unfold gdec; rw [hlook g (by simp [lookT, hg])]; exact hgb)
    -- effects of those that it doesn't wait for
    have unord : ∀ (k m : Nat) (e' : Ent) (b : Ob), ℓ k → ents[k]? = some e' → e'.eff = some (m, b) → ¬ befG qs i k = true →
        rdOk e.rd e.c m b ((k < i ∧ view[m]? = some none) ∨ (i < k ∧ ∃ r, qs[k]? = some r ∧ m = σ.length + r.slot ∧ ∀ k' e2 b', k' < k → ents[k']? = some e2 → e2.eff ≠ some (m, b'))) ∧
        ∀ b', e.eff ≠ some (m, b') := by
      intro k m e' b hk hek heb hnb
      have hki : k ≠ i := fun h => hi (h ▸ hk)
      rcases Nat.lt_or_ge k i with hlt | hge
      · have := hpair k e' hlt hek (by rw [← hbg]; simpa using hnb)
        obtain ⟨h1, h2⟩ := this
        rw [heb] at h1
        refine ⟨rdOk_mono h1 fun h => .inl ⟨hlt, h⟩, fun b' hb' => ?_⟩
        rw [hb', heb] at h2
        exact h2.2 rfl
      · have hgt : i < k := by omega
        obtain ⟨r, hr, hrd⟩ := entq k e' hek
        obtain ⟨_, Tk, vk, _, _, hc⟩ := facts k r e' hr hek
        rcases hc with ⟨rfl, _⟩ | ⟨_, _, hp, hfr⟩
        · cases heb
        · have hnb' : r.bef.getD i false = false := by
            by_cases hx : befG qs k i = true
            · exact absurd (hcl k i hk hx) hi
            · have : befG qs k i = r.bef.getD i false := by simp [befG, hr]
              rw [← this]; simpa using hx
          obtain ⟨h1, h2⟩ := hp i e hgt he hnb'
          rw [heb] at h2
          refine ⟨rdOk_mono h2.1 fun h => .inr ⟨hgt, r, hr, h.1, fun k' e2 b' hk' he2 => hfr (fresh_or h.2) m b heb k' e2 b' hk' he2⟩, fun b' hb' => ?_⟩
          have := h2.2
          rw [hb'] at this
          exact this rfl
    have haddS : Upd (gS ents) (fun k => ℓ k ∨ k = i) (σ ++ List.replicate N none) (e.eff.on σ') := by
      rw [on_put, ← hgS]
      refine hUS.add fun k m x x' hk hlt hgi hgk => ?_
      obtain ⟨e', b, h1, h2, _⟩ := gSk k m x' hgk
      obtain ⟨e2, b2, h3, h4, _⟩ := gSk i m x hgi
      rw [he] at h3
      simp only [Option.some.injEq] at h3
      subst h3
      exact (unord k m e' b hk h1 h2 fun hc => by have := hblt k hc; omega).2 b2 h4
    have hlσ : σ'.length = (σ ++ List.replicate N (none : Option Ob)).length := hUS.1
    have hlv : view.length = (σ ++ List.replicate N (none : Option Ob)).length := hview.1
    have hpl : (σ ++ List.replicate N (none : Option Ob)).length = σ.length + N := by simp
    have hslotp : ∀ r : Nat, r < N → (σ ++ List.replicate N (none : Option Ob))[σ.length + r]? = some none := fun r hr => by
      rw [List.getElem?_append_right (by omega)]
      simp [List.getElem?_replicate, hr]
    -- where all that has come there is waited for
    have same : ∀ m, m < σ.length + N → (∀ (k : Nat) (e' : Ent) (b : Ob), ℓ k → ents[k]? = some e' → e'.eff = some (m, b) → befG qs i k = true) → σ'[m]? = view[m]? := by
      intro m hm hall
      refine hUS.agree hview hb (by rw [hpl]; exact hm) fun k x hk => ?_
      obtain ⟨e', b, h1, h2, _⟩ := gSk k m x hk
      constructor
      · intro h
        have := hall k e' b h h1 h2
        exact ⟨hblt k this, by rw [← hbg]; exact this⟩
      · rintro ⟨_, h⟩
        exact hbi k (by rw [hbg]; exact h)
    -- the last one there
    have lastAt : ∀ m, m < σ.length + N → σ'[m]? = view[m]? ∨ ∃ k e' b, ℓ k ∧ ents[k]? = some e' ∧ e'.eff = some (m, b) ∧ ¬ befG qs i k = true ∧ σ'[m]? = some (some b) := by
      intro m hm
      rcases hUS.cases hb (m := m) (by rw [hpl]; exact hm) with ⟨h1, h2⟩ | ⟨k, x, h1, h2, h3, h4⟩
      · refine .inl ?_
        rw [h2, (hview.2 m (by rw [hpl]; exact hm)).1 fun k x hk => h1 k x (hbi k (by rw [hbg]; exact hk.2))]
      · obtain ⟨e', b, h5, h6, rfl⟩ := gSk k m x h2
        by_cases hbk : befG qs i k = true
        · refine .inl ?_
          rw [h4, (hview.2 m (by rw [hpl]; exact hm)).2 k _ ⟨hblt k hbk, by rw [← hbg]; exact hbk⟩ h2 fun k' x' hk' hlt => h3 k' x' (hbi k' (by rw [hbg]; exact hk'.2)) hlt]
        · exact .inr ⟨k, e', b, h1, h5, h6, hbk, h4⟩
    have hole : (e.rd = .no ∨ e.rd = .all) → ∀ b, e.eff = some (σ.length + q.slot, b) → σ'[σ.length + q.slot]? = some none := by
      intro hr b hb0
      rw [(hUS.2 (σ.length + q.slot) (by rw [hpl]; omega)).1 fun k x hk hgk => ?_, hslotp _ hslot]
      obtain ⟨e', b', h1, h2, _⟩ := gSk k _ x hgk
      rcases Nat.lt_trichotomy k i with hlt | heq | hgt
      · exact hfresh hr _ b hb0 k e' b' hlt h1 h2
      · exact hi (heq ▸ hk)
      · exact (unord k _ e' b' hk h1 h2 fun hc => by have := hblt k hc; omega).2 b hb0
    unfold wpOpIn
    rw [ho]
    simp only []
    rw [if_pos hwant]
    have hlook' : ∀ t, t ∈ opT q.op.op → T'.getD t .undef = Ti.getD t .undef := fun t ht => hlook t (List.mem_append.2 (.inl ht))
    by_cases hc : ∃ f args, q.op.op = .call f args
    · obtain ⟨f, args, hcall⟩ := hc
      rw [hcall] at hone hlook' hl
      simp only [oneD] at hone
      split at hone
      · rename_i fid first caps hfe
        obtain ⟨r, hr, rfl⟩ := hone
        simp only [opT, List.mem_append] at hlook'
        have hfe' : evO T' f = .cl fid first caps := by rw [evO_congr fun t ht => hlook' t (.inl ht)]; exact hfe
        have hargs : args.map (evO T') = args.map (evO Ti) := map_congrT fun t ht => hlook' t (.inr ht)
        have hall : (entC q.op.dst (σ.length + q.slot) r).rd = .all := by cases r <;> rfl
        have hq' : CallQ P fid (first ++ args.map (evO T') ++ caps) σ' r := by
          rw [hargs]
          refine hr σ' (by rw [hlσ, hlv]) fun n b hvn => ?_
          have hn : n < σ.length + N := by
            have := (List.getElem?_eq_some_iff.1 hvn).1
            rw [hlv, hpl] at this; exact this
          rcases lastAt n hn with h1 | ⟨k, e', b', h1, h2, h3, h4, h5⟩
          · rw [h1]; exact hvn
          · have := (unord k n e' b' h1 h2 h3 h4).1
            rw [hall] at this
            rcases this with ⟨_, h6⟩ | ⟨h6, r', h7, h8, h9⟩
            · rw [h6] at hvn; cases hvn
            · -- at a place of its own: nothing of what is waited for is there
              exfalso
              have hsl' : r'.slot < N := (spec.bef k r' h7).2
              rcases hview.cases (n := i) (fun k hk => hk.1) (m := n) (by rw [hpl]; exact hn) with ⟨_, h11⟩ | ⟨k2, x2, h10, h11, _, _⟩
              · rw [h11, h8, hslotp _ hsl'] at hvn; cases hvn
              · obtain ⟨e2, b2, h12, h13, _⟩ := gSk k2 n x2 h11
                exact h9 k2 e2 b2 (by omega) h12 h13
        have hK := callO_sound (ro := ro) (P := P) (B := B) (w0 := w0) (γ0 := γ0) (s := σ.length + q.slot) (K := fun T' σ' => Upd (gT ents) (fun k => ℓ k ∨ k = i) T0 T' ∧ Upd (gS ents) (fun k => ℓ k ∨ k = i) (σ ++ List.replicate N none) σ') hl hfe' hq'
          (fun b hb => hole (.inr hall) b (by rw [← hqd] at hb; exact hb)) (by omega) (by
            rw [← hqd]
            exact ⟨by rw [hdst] at haddT; exact haddT, haddS⟩) hd hf hs hT (Q := Q)
        exact hK
      · exact hone.elim
    · have hone' : ∃ c eff rd, evS n0.lo (σ.length + q.slot) Ti view q.op.op = some (c, eff, rd) ∧ e = ⟨q.op.dst, c, eff, rd⟩ := by
        generalize q.op.op = p at hone hc
        cases p <;> first
          | exact absurd ⟨_, _, rfl⟩ hc
          | (simp only [oneD] at hone
             split at hone
             · rename_i c eff rd hev
               exact ⟨c, eff, rd, hev, hone.symm⟩
             · exact hone.elim)
      obtain ⟨c, eff, rd, hev, rfl⟩ := hone'
      have hev' : evS n0.lo (σ.length + q.slot) T' σ' q.op.op = some (c, eff, rd) := by
        rw [evS_congr hlook']
        refine evS_local hev ?_
        cases rd with
        | no => trivial
        | ld m agg n off =>
          show loadC σ' agg n (.ref m off) = some c
          have hv : loadC view agg n (.ref m off) = some c := evS_rd hev
          have hm : m < σ.length + N := by
            rcases Nat.lt_or_ge m view.length with h' | h'
            · rw [hlv, hpl] at h'; exact h'
            · simp only [loadC, List.getElem?_eq_none h'] at hv; cases hv
          rcases lastAt m hm with h1 | ⟨k, e', b', h1, h2, h3, h4, h5⟩
          · rw [loadC_congr h1]; exact hv
          · have := (unord k m e' b' h1 h2 h3 h4).1 rfl
            cases b' <;> simp only [ldOb] at this <;> first
              | (cases this; done)
              | (simp only [loadC, h5]; exact this)
        | ob m =>
          show σ'[m]? = view[m]?
          obtain ⟨b, hb'⟩ : ∃ b, view[m]? = some (some b) := evS_rd hev
          have hm : m < σ.length + N := by
            have := (List.getElem?_eq_some_iff.1 hb').1
            rw [hlv, hpl] at this; exact this
          refine same m hm fun k e' b h1 h2 h3 => ?_
          by_cases h4 : befG qs i k = true
          · exact h4
          · exact absurd rfl (unord k m e' b h1 h2 h3 h4).1
        | all => exact (evS_rd hev : False).elim
      obtain ⟨q', hok⟩ := evS_sound hl hev' hs hT (fun b h1 h2 => hole (.inl h1) b (by show eff = _; exact h2)) (by omega)
      refine at_ok hl hd hf hT hok ⟨?_, haddS⟩
      rw [← hqd]
      exact haddT
end
end Go.Av

set_option linter.unusedVariables false
set_option linter.unusedSimpArgs false
namespace Go.Av
open Go.RowKit
variable [TheProg]
set_option linter.unusedSectionVars false

/-- How many have not come. -/
def unl (f : Nat → Bool) : Nat → Nat
  | 0 => 0
  | n + 1 => unl f n + (if f n = true then 0 else 1)

theorem unl_same {f f' : Nat → Bool} : ∀ {n : Nat}, (∀ j, j < n → f' j = f j) → unl f' n = unl f n
  | 0, _ => rfl
  | n + 1, h => by
    simp only [unl]
    rw [unl_same fun j hj => h j (by omega), h n (by omega)]

theorem unl_set {f f' : Nat → Bool} {i : Nat} : ∀ {n : Nat}, i < n → f i = false → f' i = true → (∀ j, j ≠ i → f' j = f j) → unl f' n + 1 = unl f n
  | 0, h, _, _, _ => absurd h (Nat.not_lt_zero i)
  | n + 1, h, h1, h2, h3 => by
    simp only [unl]
    by_cases e : i = n
    · subst e
      rw [unl_same fun j hj => h3 j (by omega), h1, h2]
      simp
    · have := unl_set (n := n) (by omega) h1 h2 h3
      rw [h3 n (by omega)]
      omega

theorem unl_zero {f : Nat → Bool} : ∀ {n : Nat}, unl f n = 0 → ∀ i, i < n → f i = true
  | 0, _, i, h => absurd h (Nat.not_lt_zero i)
  | n + 1, h, i, hi => by
    simp only [unl] at h
    by_cases e : i = n
    · subst e
      by_cases hf : f i = true
      · exact hf
      · rw [if_neg hf] at h; omega
    · exact unl_zero (n := n) (by omega) i (by omega)

theorem unl_all {n : Nat} : unl (fun _ => false) n = n := by
  induction n with
  | zero => rfl
  | succ n ih => simp [unl, ih]

section
variable {P : Program} {B : Nat} {n0 : Fr} {a : Act} {w w0 : World} {γ γ0 : G} {σ : St} {T T0 : List C} {N : Nat} {ops : Array Oper} {qs : List DOp} {ents : List Ent}

theorem Sat.holes (h : Sat B n0 w γ σ) : ∀ N, Sat B n0 w γ (σ ++ List.replicate N none) ∧ ∀ n, Fil (σ ++ List.replicate N none) n ↔ Fil σ n
  | 0 => by simpa using h
  | N + 1 => by
    obtain ⟨h1, h2⟩ := Sat.holes h N
    obtain ⟨h3, h4⟩ := h1.hole
    have e : σ ++ List.replicate (N + 1) (none : Option Ob) = σ ++ List.replicate N none ++ [none] := by rw [List.replicate_succ', List.append_assoc]
    rw [e]
    exact ⟨h3, fun n => (h4 n).trans (h2 n)⟩

theorem getD_ft {l : Array Bool} {i : Nat} (h : l.getD i true = false) : i < l.size ∧ l.getD i false = false := by
  rcases Nat.lt_or_ge i l.size with h' | h'
  · exact ⟨h', by simpa [Array.getD_eq_getD_getElem?, h'] using h⟩
  · simp [Array.getD_eq_getD_getElem?, Array.getElem?_eq_none h'] at h

theorem anyJ {ro : Option Nat} {J : (Nat → Prop) → Act → World → Prop} (spec : DSpec ops qs N) (congrJ : ∀ {ℓ ℓ' : Nat → Prop} {a : Act} {w : World}, (∀ k, ℓ k ↔ ℓ' k) → J ℓ a w → J ℓ' a w) {Q : Exit → Act → World → Prop}
    (step : ∀ {ℓ : Nat → Prop} {i : Nat} {o : Oper} {a : Act} {w : World}, (∀ k, ℓ k → k < qs.length) → (∀ k j, ℓ k → befG qs k j = true → ℓ j) → ¬ ℓ i → (∀ j, befG qs i j = true → ℓ j) → ops[i]? = some o → J ℓ a w → wpOpIn (Fo ro) 0 P ops Q i (J fun k => ℓ k ∨ k = i) a w)
    (hend : ∀ a w, J (· < ops.size) a w → Q .normal a w) :
    ∀ (fuel : Nat) (listed : Array Bool) (a : Act) (w : World), listed.size = ops.size → unl (fun i => listed.getD i false) ops.size = fuel → (∀ k j, listed.getD k false = true → befG qs k j = true → listed.getD j false = true) →
      J (fun k => listed.getD k false = true) a w → wpAnyIn (Fo ro) 0 P .any ops Q fuel listed a w := by
  have hblt : ∀ i k, befG qs i k = true → k < i := by
    intro i k hk
    unfold befG at hk
    cases hq : qs[i]? with
    | none => rw [hq] at hk; cases hk
    | some q =>
      rw [hq] at hk
      simp only [Option.map_some, Option.getD_some] at hk
      rcases Nat.lt_or_ge k i with h' | h'
      · exact h'
      · rw [List.getD_eq_getElem?_getD, List.getElem?_eq_none (by rw [(spec.bef i q hq).1]; exact h')] at hk
        cases hk
  have hlt : ∀ (l : Array Bool) (k : Nat), l.size = ops.size → l.getD k false = true → k < ops.size := by
    intro l k hl hk
    rcases Nat.lt_or_ge k l.size with h' | h'
    · omega
    · simp [Array.getD_eq_getD_getElem?, Array.getElem?_eq_none h'] at hk
  intro fuel
  induction fuel with
  | zero =>
    intro listed a w hsz hu hcl hJ
    have hall := unl_zero hu
    refine ⟨?_, hend a w (congrJ (fun k => ⟨fun h => hlt listed k hsz h, fun h => hall k h⟩) hJ)⟩
    unfold Region.ready
    rw [List.filter_eq_nil_iff]
    intro i hi
    have hi' : i < ops.size := by simpa using hi
    have h1 := hall i hi'
    have hs' : i < listed.size := by omega
    have : listed.getD i true = true := by simpa [Array.getD_eq_getD_getElem?, hs'] using h1
    simp only [this]
    simp
  | succ fuel ih =>
    intro listed a w hsz hu hcl hJ
    refine ⟨fun hr => ?_, fun i hi => ?_⟩
    · -- the least that has not come is ready
      exfalso
      have hex : ∃ i, i < ops.size ∧ listed.getD i false = false ∧ ∀ j, j < i → listed.getD j false = true := by
        have : ∀ n, n ≤ ops.size → unl (fun i => listed.getD i false) n ≠ 0 → ∃ i, i < n ∧ listed.getD i false = false ∧ ∀ j, j < i → listed.getD j false = true := by
          intro n
          induction n with
          | zero => intro _ h; exact absurd rfl h
          | succ n ihn =>
            intro hn h
            by_cases h0 : unl (fun i => listed.getD i false) n = 0
            · have hall := unl_zero h0
              refine ⟨n, by omega, ?_, hall⟩
              simp only [unl, h0] at h
              by_cases hf : listed.getD n false = true
              · rw [if_pos hf] at h; exact absurd rfl h
              · simpa using hf
            · obtain ⟨i, h1, h2, h3⟩ := ihn (by omega) h0
              exact ⟨i, by omega, h2, h3⟩
        exact this ops.size (Nat.le_refl _) (by omega)
      obtain ⟨i, hi, hf, hbelow⟩ := hex
      have ho : ops[i]? = some ops[i] := by simp [hi]
      have : i ∈ Region.ready .any ops listed := mem_ready.2 ⟨by
        have hs' : i < listed.size := by omega
        simpa [Array.getD_eq_getD_getElem?, hs'] using hf, _, ho, fun e he hb => hbelow _ (hblt i _ (spec.aft i _ ho e he hb))⟩
      rw [hr] at this
      cases this
    · obtain ⟨h0, o, ho, hall⟩ := mem_ready.1 hi
      obtain ⟨hil, hif⟩ := getD_ft h0
      have hbi : ∀ j, befG qs i j = true → listed.getD j false = true := by
        intro j hj
        obtain ⟨e, he, hb, h1⟩ := spec.gen i o j ho hj
        rcases h1 with rfl | h1
        · exact hall e he hb
        · exact hcl _ _ (hall e he hb) h1
      have hstep := step (ℓ := fun k => listed.getD k false = true) (fun k hk => by rw [spec.len]; exact hlt listed k hsz hk) hcl (by simp [hif]) hbi ho hJ
      refine wpOpIn_mono (fun a' w' hJ' => ?_) hstep
      have hset : ∀ k, (listed.setIfInBounds i true).getD k false = true ↔ (listed.getD k false = true ∨ k = i) := by
        intro k
        by_cases e : i = k
        · subst e; simp [Array.getD_eq_getD_getElem?, hil]
        · rw [getD_set_ne false e]; constructor
          · exact .inl
          · rintro (h | h)
            · exact h
            · exact absurd h.symm e
      refine ih _ a' w' (by simp [hsz]) ?_ (fun k j hk hb => ?_) (congrJ (fun k => (hset k).symm) hJ')
      · have := unl_set (f := fun i => listed.getD i false) (f' := fun k => (listed.setIfInBounds i true).getD k false) (i := i) (n := ops.size) (by omega) hif ((hset i).2 (.inr rfl)) (fun j hj => getD_set_ne false (Ne.symm hj))
        omega
      · rw [hset] at hk ⊢
        rcases hk with hk | rfl
        · exact .inl (hcl k j hk hb)
        · exact .inl (hbi j hb)

/-- A region whose order is open. -/
theorem wpD_sound {ro : Option Nat} (hlink : ∀ (i : Nat) (o : Oper), ops[i]? = some o → ∃ q : DOp, qs[i]? = some q ∧ linkOper P ops o = some q.op) (hok : dOk (ops.toList.map aft) qs N = true) {K : List C → St → Prop}
    (h : wpD P n0 (σ ++ List.replicate N none) σ.length qs [] T K) {Q : Exit → Act → World → Prop} (hQ : ∀ a w, At B n0 w0 γ0 K a w → Q .normal a w)
    (hd : DefOk n0.D w a.defers) (hf : Fn B n0 w0 γ0 w γ) (hs : Sat B n0 w γ σ) (hT : RepT w γ (Fil σ) T a.tmps) : wpAnyIn (Fo ro) 0 P .any ops Q ops.size (Array.replicate ops.size false) a w := by
  have spec := dOk_spec hok
  obtain ⟨ents, hlen, facts, hK⟩ := wpD_ext (T0 := T) qs [] h
  simp only [List.nil_append, List.length_nil, Nat.zero_add] at facts hK
  obtain ⟨hs', hfil⟩ := hs.holes N
  have hfalse : ∀ k, (Array.replicate ops.size false).getD k false = false := by
    intro k
    rcases Nat.lt_or_ge k ops.size with h' | h'
    · simp [Array.getD_eq_getD_getElem?, h']
    · simp [Array.getD_eq_getD_getElem?, h']
  have congrJ : ∀ {ℓ ℓ' : Nat → Prop} {a : Act} {w : World}, (∀ k, ℓ k ↔ ℓ' k) → JD B n0 w0 γ0 ents T (σ ++ List.replicate N none) ℓ a w → JD B n0 w0 γ0 ents T (σ ++ List.replicate N none) ℓ' a w := by
    rintro ℓ ℓ' a w h ⟨T', σ', γ, h1, h2, h3, h4, h5, h6⟩
    exact ⟨T', σ', γ, h1, h2, h3, h4, h5.congr h fun _ _ => rfl, h6.congr h fun _ _ => rfl⟩
  refine anyJ (P := P) (J := JD B n0 w0 γ0 ents T (σ ++ List.replicate N none)) spec congrJ (fun h1 h2 h3 h4 h5 h6 => stepJ hlink spec hlen facts hs.n0 h1 h2 h3 h4 h5 h6) (fun a w hJ => ?_) ops.size _ a w (by simp) ?_ (fun k j hk => by rw [hfalse] at hk; cases hk) ?_
  · obtain ⟨T', σ', γ', h1, h2, h3, h4, h5, h6⟩ := hJ
    have hl : ops.size = ents.length := by rw [hlen, spec.len]
    have e1 : T' = foldT ents T := by
      have := upd_foldT ents T ents.length (Nat.le_refl _)
      rw [List.take_length] at this
      rw [hl] at h5
      exact h5.uniq this (n := ents.length) fun _ h => h
    have e2 : σ' = vwAll ents (σ ++ List.replicate N none) := by
      have := upd_vwAll ents (σ ++ List.replicate N none) ents.length (Nat.le_refl _)
      rw [List.take_length] at this
      rw [hl] at h6
      exact h6.uniq this (n := ents.length) fun _ h => h
    subst e1 e2
    exact hQ a w ⟨_, _, γ', h1, h2, h3, h4, hK⟩
  · rw [unl_same (f := fun _ => false) fun j _ => hfalse j]
    exact unl_all
  · have hno : ∀ k, ¬ (Array.replicate ops.size false).getD k false = true := fun k h => by rw [hfalse] at h; cases h
    exact ⟨T, _, γ, hd, hf, hs', hT.mono fun n hn => (hfil n).2 hn, ⟨rfl, fun m hm => ⟨fun _ => rfl, fun k x hk => absurd hk (hno k)⟩⟩, ⟨rfl, fun m hm => ⟨fun _ => rfl, fun k x hk => absurd hk (hno k)⟩⟩⟩

/-! ### The reading of such a region -/

theorem mkD_get : ∀ {qs : List AOper} {bs : List (List Bool)} {s : Nat} (i : Nat) (q : DOp), (mkD qs bs s)[i]? = some q → qs[i]? = some q.op
  | [], _, _, i, q, h => by simp [mkD] at h
  | _ :: _, [], _, i, q, h => by simp [mkD] at h
  | x :: qs, b :: bs, s, i, q, h => by
    simp only [mkD] at h
    split at h
    · cases i with
      | zero => simp at h; subst h; rfl
      | succ i => exact mkD_get i q (by simpa using h)
    · cases i with
      | zero => simp at h; subst h; rfl
      | succ i => exact mkD_get i q (by simpa using h)

theorem linkDraw_spec {qs : List AOper} {ac : ACode} (hq : linkOpers P ops ops.toList = some qs) (h : linkDraw ops qs = some ac) :
    ∃ N ds, ((ac = .region true qs ∧ seqOk ds = true) ∨ (ac = .regw ds ∧ seqOkW ds = true) ∨ ac = .draw N ds) ∧ dOk (ops.toList.map aft) ds N = true ∧ (∀ (i : Nat) (q : DOp), ds[i]? = some q → qs[i]? = some q.op) ∧ ds.length = qs.length ∧ ∀ (i : Nat) (o : Oper), ops[i]? = some o → ∃ q : DOp, ds[i]? = some q ∧ linkOper P ops o = some q.op := by
  unfold linkDraw at h
  simp only [] at h
  split at h
  · rename_i hc
    simp only [Bool.and_eq_true, beq_iff_eq] at hc
    refine ⟨nSlots qs, _, ?_, hc.1, fun i q hq' => mkD_get i q hq', hc.2, fun i o ho => ?_⟩
    · split at h
      · rename_i hs
        simp only [Option.some.injEq] at h
        exact .inl ⟨h.symm, hs⟩
      · split at h
        · rename_i hs
          simp only [Option.some.injEq] at h
          exact .inr (.inl ⟨h.symm, hs⟩)
        · simp only [Option.some.injEq] at h
          exact .inr (.inr h.symm)
    · obtain ⟨hl, hget⟩ := linkOpers_get hq
      have hil := (Array.getElem?_eq_some_iff.1 ho).1
      obtain ⟨q, h1, h2⟩ := hget i o (by simpa using ho)
      have hi2 : i < (mkD qs (befs (ops.toList.map aft) []) 0).length := by rw [hc.2, hl]; simpa using hil
      refine ⟨_, List.getElem?_eq_getElem hi2, ?_⟩
      have h3 := mkD_get i _ (List.getElem?_eq_getElem hi2)
      rw [h1] at h3
      rw [← Option.some.inj h3]
      exact h2
  · cases h
end
end Go.Av

set_option linter.unusedVariables false
set_option linter.unusedSimpArgs false
namespace Go.Av
open Go.RowKit
variable [TheProg]
set_option linter.unusedSectionVars false

/-- A loop, by what its code does. -/
def TrA (P : Program) (n0 : Fr) (ac : ACode) (T : List C) (σ : St) (Q : AEx → List C → St → Prop) : Prop := ∀ c, linkC P c = some ac → Tr P n0 c T σ Q

def wpC (P : Program) (n0 : Fr) : ACode → List C → St → (AEx → List C → St → Prop) → Prop
  | .skip, T, σ, Q => Q .normal T σ
  | .region draw ops, T, σ, Q => if draw then TrA P n0 (.region true ops) T σ Q else wpS P n0 ops T σ (Q .normal)
  | .draw N qs, T, σ, Q => wpD P n0 (σ ++ List.replicate N none) σ.length qs [] T (Q .normal)
  | .regw qs, T, σ, Q => TrA P n0 (.regw qs) T σ Q
  | .seq a b, T, σ, Q => wpC P n0 a T σ fun x T' σ' => match x with
    | .normal => wpC P n0 b T' σ' Q
    | x => Q x T' σ'
  | .cond c a b, T, σ, Q => match evO T c with
    | .d (.bool t) => (t = true → wpC P n0 a T σ Q) ∧ (t = false → wpC P n0 b T σ Q)
    | _ => False
  | .block id c, T, σ, Q => wpC P n0 c T σ fun x T' σ' => match x with
    | .exit i => if i = id then Q .normal T' σ' else Q (.exit i) T' σ'
    | x => Q x T' σ'
  | .loop c, T, σ, Q => TrA P n0 (.loop c) T σ Q
  | .scope c, T, σ, Q => wpC P n0 c T σ Q
  | .exit id, T, σ, Q => Q (.exit id) T σ
  | .ret, T, σ, Q => Q .ret T σ
  | .rfunc g ps asg body, T, σ, Q => TrA P n0 (.rfunc g ps asg body) T σ Q

section
variable {P : Program} {B : Nat} {n0 : Fr} {a : Act} {w w0 : World} {γ γ0 : G} {σ σ' : St} {c : C} {T : List C}

/-- What a piece of code leaves. -/
def Post (B : Nat) (n0 : Fr) (w : World) (γ : G) (Q : AEx → List C → St → Prop) (e : Exit) (a' : Act) (w' : World) : Prop :=
  ∃ x T' σ' γ', e = AEx.ex x ∧ DefOk n0.D w' a'.defers ∧ Fn B n0 w γ w' γ' ∧ Sat B n0 w' γ' σ' ∧ RepT w' γ' (Fil σ') T' a'.tmps ∧ Q x T' σ'

theorem Tr.mono {c : Code} {Q Q' : AEx → List C → St → Prop} (h : Tr P n0 c T σ Q) (hq : ∀ x T σ, Q x T σ → Q' x T σ) : Tr P n0 c T σ Q' := by
  intro ro B w γ a hro hd hs hT
  refine wpIn_mono (h ro B w γ a hro hd hs hT) ?_
  rintro e a' w' ⟨x, T', σ', γ', h1, h2, h3, h4, h5, h6⟩
  exact ⟨x, T', σ', γ', h1, h2, h3, h4, h5, hq _ _ _ h6⟩

theorem no_panic (w : World) (γ : G) (Q : AEx → List C → St → Prop) (ch : List PanicEntry) (a' : Act) (w' : World) : ¬ Post B n0 w γ Q (.panic ch) a' w' := by
  rintro ⟨x, T', σ', γ', h1, _⟩
  cases x <;> cases h1

theorem sat_drew (hs : Sat B n0 w γ σ) : Sat B n0 w.drew γ σ ∧ Fn B n0 w γ w.drew γ ∧ Ext (Fil σ) w γ w.drew γ := by
  have hf : Fn w.heap.size (.all σ.length) w γ w.drew γ := ⟨⟨⟨fun _ _ _ => rfl, fun _ => Nat.le_refl _⟩, fun _ _ => rfl, fun _ _ => Nat.le_refl _, fun _ _ _ => rfl⟩, (Below.refl _ _).drew, fun _ _ => rfl, fun _ _ => ⟨rfl, rfl⟩, fun _ h => h, fun _ x h => ⟨x, h⟩⟩
  exact ⟨hs.after hf.keep (fun g hg => hs.inv.lt g hg), hf.mono hs.B (Nat.le_trans n0.le hs.n0) hs.n0, hf.keep.ext⟩

def isReg : ACode → Bool
  | .region _ _ => true
  | .draw _ _ => true
  | .regw _ => true
  | _ => false

theorem linkDraw_reg {ops : Array Oper} {x : Option (List AOper)} {ac : ACode} (h : x.bind (linkDraw ops) = some ac) : isReg ac = true := by
  obtain ⟨qs, _, h2⟩ := Option.bind_eq_some_iff.1 h
  unfold linkDraw at h2
  simp only [] at h2
  split at h2
  · split at h2
    · simp only [Option.some.injEq] at h2; rw [← h2]; rfl
    · split at h2 <;> (simp only [Option.some.injEq] at h2; rw [← h2]; rfl)
  · cases h2

theorem wpIn_scope_straight {F : Fence} {n : Nat} {Q : Exit → Act → World → Prop} {c : Code} (h : c.wpIn F n P (Exit.noGoto Q) a w) : (Code.scope c).wpIn F n P Q a w := by
  intro b k cs hro hb hr
  have h0 : step P (lone (b.atR a (.code (.scope c) :: k)) cs w) = .next (lone (b.atR a (.code c :: .inScope c :: k)) cs w) := step_lone_go (by simp [stepG, stepG.exec, Frame.atR])
  have h1 : ∀ (a : Act) (w : World), step P (lone (b.atR a (.inScope c :: k)) cs w) = .next (lone (b.atR a k) cs w) := fun a w => step_lone_go (by simp [stepG, stepG.exec, Frame.atR])
  obtain ⟨e, a₁, w₁, hq, harr⟩ := h b (.inScope c :: k) cs hro hb hr
  cases e with
  | normal => exact ⟨.normal, a₁, w₁, hq, .of_steps (.one (fenced_calm hb hr rfl) h0) (StepsIn.trans harr (.one (fenced_calm hb hr rfl) (h1 _ _)))⟩
  | exit id => exact ⟨.exit id, a₁, w₁, hq, .of_steps (.one (fenced_calm hb hr rfl) h0) ⟨fun k' hk => harr.1 k' (by simp [exitTo, hk]), fun h2 hk => harr.2 h2 (by simp [exitTo, hk])⟩⟩
  | goto l => exact hq.elim
  | ret => exact ⟨_, a₁, w₁, hq, .of_steps (.one (fenced_calm hb hr rfl) h0) harr⟩
  | panic ch => exact ⟨_, a₁, w₁, hq, .of_steps (.one (fenced_calm hb hr rfl) h0) harr⟩
  | outgrown => exact ⟨_, a₁, w₁, hq, .of_steps (.one (fenced_calm hb hr rfl) h0) harr⟩

theorem wpC_sound (hmix : P.follows .mixedOrders = true) : ∀ (ac : ACode) (c : Code) (T : List C) (σ : St) (Q : AEx → List C → St → Prop), linkC P c = some ac → wpC P n0 ac T σ Q → Tr P n0 c T σ Q := by
  intro ac
  induction ac with
  | skip =>
    intro c T σ Q hl hw ro B w γ a hro hd hs hT
    cases c <;> simp only [linkC] at hl <;> first
      | exact wpIn_skip ⟨.normal, T, σ, γ, rfl, hd, .refl _ _ _ _, hs, hT, hw⟩
      | exact wpIn_label ⟨.normal, T, σ, γ, rfl, hd, .refl _ _ _ _, hs, hT, hw⟩
      | (revert hl; repeat' split
         all_goals first
           | (simp; done)
           | (intro h; have := linkDraw_reg h; cases this))
      | (obtain ⟨_, _, h⟩ := Option.map_eq_some_iff.1 hl; cases h)
      | cases hl
  | region draw qs =>
    intro c T σ Q hl hw
    cases draw with
    | true => exact hw c hl
    | false =>
    intro ro B w γ a hro hd hs hT
    cases c with
    | region id ops dr =>
      simp only [linkC] at hl
      split at hl
      · obtain ⟨qs', hq, h⟩ := Option.bind_eq_some_iff.1 hl
        obtain ⟨N, ds, h | h | h, _⟩ := linkDraw_spec hq h
        · cases h.1
        · cases h.1
        · cases h
      · rename_i hdr
        obtain ⟨qs', hq, h⟩ := Option.map_eq_some_iff.1 hl
        simp only [ACode.region.injEq] at h
        obtain ⟨_, rfl⟩ := h
        obtain rfl : dr = false := by simpa using hdr
        simp only [wpC, Bool.false_eq_true, if_false] at hw
        refine wpIn_region ?_
        have := wpS_sound (ro := ro) (P := P) (B := B) (n0 := n0) (w0 := w) (γ0 := γ) (K := Q .normal) (Q := Post B n0 w γ Q) hq (fun a w' ⟨T, σ, γ', k1, k2, k3, k4, k5⟩ => ⟨.normal, T, σ, γ', rfl, k1, k2, k3, k4, k5⟩)
          ops.size 0 T σ γ a w (by omega) (by simpa using hw) hd (.refl _ _ _ _) hs hT
        simp only [List.drop_zero] at this
        exact this
    | _ => first
      | (simp [linkC] at hl; done)
      | (simp only [linkC] at hl; revert hl; repeat' split
         all_goals first
           | (simp; done)
           | (intro h; have := linkDraw_reg h; cases this))
      | (simp only [linkC] at hl; obtain ⟨_, _, h⟩ := Option.map_eq_some_iff.1 hl; cases h)
  | regw ds => intro c T σ Q hl hw; exact hw c hl
  | draw N ds =>
    intro c T σ Q hl hw ro B w γ a hro hd hs hT
    cases c with
    | region id ops dr =>
      simp only [linkC] at hl
      split at hl
      · rename_i hdr
        obtain ⟨qs', hq, h⟩ := Option.bind_eq_some_iff.1 hl
        obtain ⟨N', ds', h | h | h, h1, _, _, h2⟩ := linkDraw_spec hq h
        · cases h.1
        · cases h.1
        · simp only [ACode.draw.injEq] at h
          obtain ⟨rfl, rfl⟩ := h
          simp only [wpC] at hw
          obtain rfl : dr = true := hdr
          obtain ⟨d1, d2, d3⟩ := sat_drew hs
          refine wpIn_region_any hmix ?_
          exact wpD_sound (P := P) (B := B) (w0 := w) (γ0 := γ) (K := Q .normal) (Q := Post B n0 w γ Q) h2 h1 hw (fun a w' ⟨T, σ, γ', k1, k2, k3, k4, k5⟩ => ⟨.normal, T, σ, γ', rfl, k1, k2, k3, k4, k5⟩) (hd.step d2) d2 d1 (hT.ext d3)
      · obtain ⟨_, _, h⟩ := Option.map_eq_some_iff.1 hl; cases h
    | _ => first
      | (simp [linkC] at hl; done)
      | (simp only [linkC] at hl; revert hl; repeat' split
         all_goals first
           | (simp; done)
           | (intro h; have := linkDraw_reg h; cases this))
      | (simp only [linkC] at hl; obtain ⟨_, _, h⟩ := Option.map_eq_some_iff.1 hl; cases h)
  | seq x y ihx ihy =>
    intro c T σ Q hl hw ro B w γ a hro hd hs hT
    cases c with
    | seq c1 c2 =>
      simp only [linkC] at hl
      split at hl
      · rename_i x' y' h1 h2
        simp only [Option.some.injEq, ACode.seq.injEq] at hl
        obtain ⟨rfl, rfl⟩ := hl
        simp only [wpC] at hw
        refine wpIn_seq (wpIn_mono (ihx c1 T σ _ h1 hw ro B w γ a hro hd hs hT) ?_)
        rintro e a' w' ⟨z, T', σ', γ', rfl, k1, k2, k3, k4, k5⟩
        cases z with
        | normal =>
          show c2.wpIn (Fo ro) 0 P _ a' w'
          refine wpIn_mono (ihy c2 T' σ' Q h2 k5 ro B w' γ' a' (hro.step k2) k1 k3 k4) ?_
          rintro e2 a2 w2 ⟨z2, T2, σ2, γ2, j1, j2, j3, j4, j5, j6⟩
          exact ⟨z2, T2, σ2, γ2, j1, j2, k2.trans j3, j4, j5, j6⟩
        | exit id => exact ⟨.exit id, T', σ', γ', rfl, k1, k2, k3, k4, k5⟩
        | ret => exact ⟨.ret, T', σ', γ', rfl, k1, k2, k3, k4, k5⟩
      · cases hl
    | _ => first
      | (simp [linkC] at hl; done)
      | (simp only [linkC] at hl; revert hl; repeat' split
         all_goals first
           | (simp; done)
           | (intro h; have := linkDraw_reg h; cases this))
      | (simp only [linkC] at hl; obtain ⟨_, _, h⟩ := Option.map_eq_some_iff.1 hl; cases h)
  | cond o x y ihx ihy =>
    intro c T σ Q hl hw ro B w γ a hro hd hs hT
    cases c with
    | cond o' c1 c2 =>
      simp only [linkC] at hl
      split at hl
      · rename_i o'' x' y' h0 h1 h2
        simp only [Option.some.injEq, ACode.cond.injEq] at hl
        obtain ⟨rfl, rfl, rfl⟩ := hl
        simp only [wpC] at hw
        split at hw
        · rename_i t ht
          have hv := rep_bool (ht ▸ linkO_rep h0 hT)
          refine wpIn_cond hv ?_
          cases t with
          | true => exact ihx c1 T σ Q h1 (hw.1 rfl) ro B w γ a hro hd hs hT
          | false => exact ihy c2 T σ Q h2 (hw.2 rfl) ro B w γ a hro hd hs hT
        · exact hw.elim
      · cases hl
    | _ => first
      | (simp [linkC] at hl; done)
      | (simp only [linkC] at hl; revert hl; repeat' split
         all_goals first
           | (simp; done)
           | (intro h; have := linkDraw_reg h; cases this))
      | (simp only [linkC] at hl; obtain ⟨_, _, h⟩ := Option.map_eq_some_iff.1 hl; cases h)
  | block id x ih =>
    intro c T σ Q hl hw ro B w γ a hro hd hs hT
    cases c with
    | block id' c1 =>
      simp only [linkC] at hl
      obtain ⟨x', h1, h⟩ := Option.map_eq_some_iff.1 hl
      simp only [ACode.block.injEq] at h
      obtain ⟨rfl, rfl⟩ := h
      simp only [wpC] at hw
      refine wpIn_block (wpIn_mono (ih c1 T σ _ h1 hw ro B w γ a hro hd hs hT) ?_)
      rintro e a' w' ⟨z, T', σ', γ', rfl, k1, k2, k3, k4, k5⟩
      cases z with
      | normal => exact ⟨.normal, T', σ', γ', rfl, k1, k2, k3, k4, k5⟩
      | ret => exact ⟨.ret, T', σ', γ', rfl, k1, k2, k3, k4, k5⟩
      | exit i =>
        simp only [AEx.ex, Exit.inBlock]
        by_cases he : i = id'
        · simp only [he, if_true] at k5 ⊢
          exact ⟨.normal, T', σ', γ', rfl, k1, k2, k3, k4, k5⟩
        · simp only [he, if_false] at k5 ⊢
          exact ⟨.exit i, T', σ', γ', rfl, k1, k2, k3, k4, k5⟩
    | _ => first
      | (simp [linkC] at hl; done)
      | (simp only [linkC] at hl; revert hl; repeat' split
         all_goals first
           | (simp; done)
           | (intro h; have := linkDraw_reg h; cases this))
      | (simp only [linkC] at hl; obtain ⟨_, _, h⟩ := Option.map_eq_some_iff.1 hl; cases h)
  | scope x ih =>
    intro c T σ Q hl hw ro B w γ a hro hd hs hT
    cases c with
    | scope c1 =>
      simp only [linkC] at hl
      obtain ⟨x', h1, h⟩ := Option.map_eq_some_iff.1 hl
      simp only [ACode.scope.injEq] at h
      subst h
      simp only [wpC] at hw
      refine wpIn_scope_straight (wpIn_mono (ih c1 T σ _ h1 hw ro B w γ a hro hd hs hT) ?_)
      rintro e a' w' ⟨z, T', σ', γ', rfl, k1, k2, k3, k4, k5⟩
      cases z with
      | normal => exact ⟨.normal, T', σ', γ', rfl, k1, k2, k3, k4, k5⟩
      | ret => exact ⟨.ret, T', σ', γ', rfl, k1, k2, k3, k4, k5⟩
      | exit i => exact ⟨.exit i, T', σ', γ', rfl, k1, k2, k3, k4, k5⟩
    | _ => first
      | (simp [linkC] at hl; done)
      | (simp only [linkC] at hl; revert hl; repeat' split
         all_goals first
           | (simp; done)
           | (intro h; have := linkDraw_reg h; cases this))
      | (simp only [linkC] at hl; obtain ⟨_, _, h⟩ := Option.map_eq_some_iff.1 hl; cases h)
  | loop x ih =>
    intro c T σ Q hl hw
    exact hw c hl
  | rfunc g ps x y ihx ihy =>
    intro c T σ Q hl hw
    exact hw c hl
  | exit id =>
    intro c T σ Q hl hw ro B w γ a hro hd hs hT
    cases c with
    | exit id' =>
      simp only [linkC, Option.some.injEq, ACode.exit.injEq] at hl
      subst hl
      exact wpIn_exit ⟨.exit id', T, σ, γ, rfl, hd, .refl _ _ _ _, hs, hT, hw⟩
    | _ => first
      | (simp [linkC] at hl; done)
      | (simp only [linkC] at hl; revert hl; repeat' split
         all_goals first
           | (simp; done)
           | (intro h; have := linkDraw_reg h; cases this))
      | (simp only [linkC] at hl; obtain ⟨_, _, h⟩ := Option.map_eq_some_iff.1 hl; cases h)
  | ret =>
    intro c T σ Q hl hw ro B w γ a hro hd hs hT
    cases c with
    | ret => exact wpIn_ret ⟨.ret, T, σ, γ, rfl, hd, .refl _ _ _ _, hs, hT, hw⟩
    | _ => first
      | (simp [linkC] at hl; done)
      | (simp only [linkC] at hl; revert hl; repeat' split
         all_goals first
           | (simp; done)
           | (intro h; have := linkDraw_reg h; cases this))
      | (simp only [linkC] at hl; obtain ⟨_, _, h⟩ := Option.map_eq_some_iff.1 hl; cases h)

/-! ### Loops -/

/-! ### Less may be said -/

/-- A value of which less is said; the names below s stay. -/
def weakC (s : Nat) (c c1 : C) : Prop := match c1 with
  | .undef => True
  | c1 => (c1 = c ∧ C.lt s c = true) ∨ ∃ x, toD c = some x ∧ c1 = .d x

def weakT (s : Nat) : List C → List C → Prop
  | [], [] => True
  | c :: T, c1 :: T1 => weakC s c c1 ∧ weakT s T T1
  | _, _ => False

theorem weakT_get {s : Nat} : ∀ {T T1 : List C}, weakT s T T1 → T.length = T1.length ∧ ∀ (i : Nat) (c1 : C), T1[i]? = some c1 → ∃ c, T[i]? = some c ∧ weakC s c c1
  | [], [], h => ⟨rfl, fun i c hc => by simp at hc⟩
  | c :: T, c1 :: T1, h => by
    obtain ⟨h1, h2⟩ := h
    obtain ⟨k1, k2⟩ := weakT_get h2
    refine ⟨by simp [k1], fun i x hx => ?_⟩
    cases i with
    | zero => simp at hx; subst hx; exact ⟨c, rfl, h1⟩
    | succ i => exact k2 i x (by simpa using hx)
  | [], _ :: _, h => h.elim
  | _ :: _, [], h => h.elim

theorem weakC_rep {s : Nat} {A : Nat → Prop} {c c1 : C} {v : Value} (h : weakC s c c1) (hc : RepC w γ A c v) : RepC w γ (Low A s) c1 v := by
  unfold weakC at h
  split at h
  · exact .undef _
  · rcases h with ⟨rfl, hl⟩ | ⟨x, hx, rfl⟩
    · exact hc.lt hl
    · exact .d (toD_rep hx hc)

theorem sat_take {s : Nat} (hs : Sat B n0 w γ σ) (h0 : n0.hi ≤ s) : Sat B n0 w γ (σ.take s) ∧ ∀ n, Low (Fil σ) s n → Fil (σ.take s) n := by
  have key : ∀ (n : Nat) (b : Ob), (σ.take s)[n]? = some (some b) ↔ n < s ∧ σ[n]? = some (some b) := by
    intro n b
    rw [List.getElem?_take]
    by_cases h : n < s
    · simp [h]
    · simp [h]
  have hf : ∀ n, Low (Fil σ) s n → Fil (σ.take s) n := fun n ⟨h1, b, hb⟩ => ⟨b, (key n b).2 ⟨h1, hb⟩⟩
  refine ⟨⟨⟨fun n b hb => ?_, fun n m b c g hb hc => hs.inv.apart n m b c g ((key n b).1 hb).2 ((key m c).1 hc).2, hs.inv.lt⟩, fun n b g hn hb => hs.own n b g hn ((key n b).1 hb).2, by rw [List.length_take]; have := hs.n0; omega, hs.B⟩, hf⟩
  obtain ⟨hn, hb'⟩ := (key n b).1 hb
  have h := hs.inv.ob n b hb'
  have hlow : ∀ m, Low (Fil σ) n m → Low (Fil (σ.take s)) n m := fun m hm => ⟨hm.1, hf m ⟨Nat.lt_trans hm.1 hn, hm.2⟩⟩
  cases b with
  | box t cs =>
    obtain ⟨h0, vs, hh, h1, h2, h3⟩ := h
    exact ⟨h0, vs, hh, h1, fun i c hc => (h2 i c hc).mono hlow, h3⟩
  | map es =>
    obtain ⟨h0, ms, ck, hh, h1, hst, h2⟩ := h
    exact ⟨h0, ms, ck, hh, h1, hst, fun i k c hc => ⟨(h2 i k c hc).1, (h2 i k c hc).2.mono hlow⟩⟩
  | tok e sz len => exact h
  | loop T ps asg body st =>
    obtain ⟨h0, r, hh, h1, h2, h3, h4, h5, h6⟩ := h
    exact ⟨h0, r, hh, h1, h2, h3, h4, fun i c hc => (h5 i c hc).mono hlow, h6⟩
  | siter s pos => exact h
  | ntok e sz => exact h

theorem Tr.weak {x : Code} {Q : AEx → List C → St → Prop} {T1 : List C} {s : Nat} (h0 : n0.hi ≤ s) (hw : weakT s T T1) (h : Tr P n0 x T1 (σ.take s) Q) : Tr P n0 x T σ Q := by
  intro ro B w γ a hro hd hs hT
  obtain ⟨k1, k2⟩ := sat_take hs h0
  obtain ⟨j1, j2⟩ := weakT_get hw
  refine h ro B w γ a hro hd k1 ⟨hT.size.trans j1, fun i c1 hc1 => ?_⟩
  obtain ⟨c, hc, hcw⟩ := j2 i c1 hc1
  exact (weakC_rep hcw (hT.get i c hc)).mono k2

/-- So many rounds of a loop. -/
def TrL (P : Program) (n0 : Fr) (m : Nat) (ac : ACode) (T : List C) (σ : St) (Q : AEx → List C → St → Prop) : Prop :=
  ∀ c, linkC P c = some ac → ∀ (ro : Option Nat) (B : Nat) (w : World) (γ : G) (a : Act), RoOk ro w → DefOk n0.D w a.defers → Sat B n0 w γ σ → RepT w γ (Fil σ) T a.tmps → c.roundsIn (Fo ro) 0 P (Post B n0 w γ Q) m a w

theorem roundsIn_mono {F : Fence} {n : Nat} {c : Code} {Q Q' : Exit → Act → World → Prop} (hq : ∀ e a w, Q e a w → Q' e a w) : ∀ (m : Nat) (a : Act) (w : World), c.roundsIn F n P Q m a w → c.roundsIn F n P Q' m a w
  | 0, _, _, h => h
  | m + 1, a, w, h => by
    rw [roundsIn_succ] at h ⊢
    refine wpIn_mono h ?_
    intro e a w he
    cases e <;> first
      | exact roundsIn_mono hq m _ _ he
      | exact hq _ _ _ he

/-- A round of a loop; behind it less may be said. -/
theorem trL_step (hmix : P.follows .mixedOrders = true) {ac : ACode} {Q : AEx → List C → St → Prop} (m s : Nat) (h0 : n0.hi ≤ s)
    (h : wpC P n0 ac T σ fun x T' σ' => match x with
      | .normal => ∃ T1, weakT s T' T1 ∧ TrL P n0 m ac T1 (σ'.take s) Q
      | x => ∃ T1, weakT s T' T1 ∧ Q x T1 (σ'.take s)) : TrL P n0 (m + 1) ac T σ Q := by
  intro c hc ro B w γ a hro hd hs hT
  rw [roundsIn_succ]
  refine wpIn_mono (wpC_sound hmix _ _ _ _ _ hc h ro B w γ a hro hd hs hT) ?_
  rintro e a' w' ⟨z, T', σ', γ', rfl, k1, k2, k3, k4, k5⟩
  have weak : ∀ T1, weakT s T' T1 → Sat B n0 w' γ' (σ'.take s) ∧ RepT w' γ' (Fil (σ'.take s)) T1 a'.tmps := by
    intro T1 hw
    obtain ⟨j1, j2⟩ := sat_take k3 h0
    obtain ⟨i1, i2⟩ := weakT_get hw
    refine ⟨j1, ⟨k4.size.trans i1, fun i c1 hc1 => ?_⟩⟩
    obtain ⟨c, hc, hcw⟩ := i2 i c1 hc1
    exact (weakC_rep hcw (k4.get i c hc)).mono j2
  cases z with
  | normal =>
    obtain ⟨T1, hw, hL⟩ := k5
    obtain ⟨h1, h2⟩ := weak T1 hw
    refine roundsIn_mono ?_ m _ _ (hL c hc ro B w' γ' a' (hro.step k2) k1 h1 h2)
    rintro e2 a2 w2 ⟨z2, T2, σ2, γ2, i1, i2, i3, i4, i5, i6⟩
    exact ⟨z2, T2, σ2, γ2, i1, i2, k2.trans i3, i4, i5, i6⟩
  | exit id =>
    obtain ⟨T1, hw, hQ⟩ := k5
    obtain ⟨h1, h2⟩ := weak T1 hw
    exact ⟨.exit id, T1, _, γ', rfl, k1, k2, h1, h2, hQ⟩
  | ret =>
    obtain ⟨T1, hw, hQ⟩ := k5
    obtain ⟨h1, h2⟩ := weak T1 hw
    exact ⟨.ret, T1, _, γ', rfl, k1, k2, h1, h2, hQ⟩

theorem trA_of_trL {ac : ACode} {Q : AEx → List C → St → Prop} (m : Nat) (h : TrL P n0 m ac T σ Q) : TrA P n0 (.loop ac) T σ Q := by
  intro c hc
  cases c with
  | loop c1 =>
    simp only [linkC] at hc
    obtain ⟨x', h1, h2⟩ := Option.map_eq_some_iff.1 hc
    simp only [ACode.loop.injEq] at h2
    subst h2
    intro ro B w γ a hro hd hs hT
    exact wpIn_loop_rounds m (h c1 h1 ro B w γ a hro hd hs hT)
  | _ => first
    | (simp [linkC] at hc; done)
    | (simp only [linkC] at hc; revert hc; repeat' split
       all_goals first
         | (simp; done)
         | (intro h; have := linkDraw_reg h; cases this))
    | (simp only [linkC] at hc; obtain ⟨_, _, h⟩ := Option.map_eq_some_iff.1 hc; cases h)

end
end Go.Av

set_option linter.unusedVariables false
set_option linter.unusedSimpArgs false
namespace Go.Av
open Go.RowKit
variable [TheProg]
set_option linter.unusedSectionVars false

/-- What a caller may hold of a cell. -/
def normC : C → C
  | .o sz rows _ => .d (.sl sz rows)
  | .nils _ sz => .d (.sl sz [])
  | c => c

def normA : C → C
  | .agg cs => .agg (cs.map normC)
  | c => normC c

def outC (n0 : Nat) (σ : St) : C → C
  | .o sz rows a => match σ[a]? with
    | some (some (.tok e sz' len)) => if n0 ≤ a ∧ sz' = sz ∧ len = rows.length then .fr e sz rows else .d (.sl sz rows)
    | _ => .d (.sl sz rows)
  | .tup cs => .tup (cs.map normA)
  | c => normA c

def resC (T : List C) (σ : St) : List ARes → Option (List C)
  | [] => some []
  | .tmp t :: rest => (resC T σ rest).map (T.getD t .undef :: ·)
  | .cell t agg n :: rest => match loadC σ agg n (T.getD t .undef), resC T σ rest with
    | some c, some cs => some (c :: cs)
    | _, _ => none

def retC : List C → C
  | [c] => c
  | cs => .tup cs

def finR (n0 : Nat) (rs : List ARes) (T : List C) (σ : St) : Option C :=
  match resC T σ rs with
  | some cs => if C.lt 0 (outC n0 σ (retC cs)) then some (outC n0 σ (retC cs)) else none
  | none => none

/-- The end of a function that returns r. -/
def FinQ (n0 : Nat) (rs : List ARes) (r : C) : AEx → List C → St → Prop
  | .exit _, _, _ => False
  | _, T, σ => finR n0 rs T σ = some r

section
variable {P : Program} {B : Nat} {n0 : Fr} {a : Act} {w w0 : World} {γ γ0 : G} {σ σ' : St} {c : C} {T : List C}

theorem normC_rep {A : Nat → Prop} {v : Value} (h : RepC w γ A c v) : RepC w γ A (normC c) v := by
  unfold normC
  split
  · cases h with | o h => exact .d h
  · cases h with | nils => exact .d (.sl0 _ _ _ (fun _ => rfl))
  · exact h

theorem map_rep {A : Nat → Prop} {f : C → C} (hf : ∀ (c : C) (v : Value), RepC w γ A c v → RepC w γ A (f c) v) {cs : List C} {vs : Array Value} (h : RepL w γ A cs vs) : RepL w γ A (cs.map f) vs := by
  refine ⟨by simp [h.1], fun i c hc => ?_⟩
  simp only [List.getElem?_map, Option.map_eq_some_iff] at hc
  obtain ⟨x, hx, rfl⟩ := hc
  exact hf _ _ (h.2 i x hx)

theorem normA_rep {A : Nat → Prop} {v : Value} (h : RepC w γ A c v) : RepC w γ A (normA c) v := by
  unfold normA
  split
  · cases h with | agg vs h1 h2 => exact .agg vs (map_rep (fun c v => normC_rep) ⟨h1, h2⟩).1 (map_rep (fun c v => normC_rep) ⟨h1, h2⟩).2
  · exact normC_rep h

theorem outC_rep {v : Value} (hs : Sat B n0 w γ σ) (h : RepC w γ (Fil σ) c v) (hl : C.lt 0 (outC n0.lo σ c) = true) (A : Nat → Prop) : RepR w γ A B (outC n0.lo σ c) v := by
  have fin : ∀ (r : C), RepC w γ (Fil σ) r v → C.lt 0 r = true → RepR w γ A B r v := fun r hr hl => .c ((hr.lt hl).mono fun n hn => absurd hn.1 (Nat.not_lt_zero n))
  unfold outC at hl ⊢
  split at hl
  · rename_i sz rows a
    cases h with
    | o hD ha hle hv =>
      split
      · rename_i e sz' len hb
        split
        · rename_i hc
          obtain ⟨h1, rfl, rfl⟩ := hc
          obtain ⟨k1, k2⟩ := hs.inv.ob a _ hb
          have hvt := hv k1.symm
          refine .fr hD ?_
          rcases k2 with ⟨k2, k3⟩ | ⟨g, cap, cur, k2, k3, k4, k5, k6, k7⟩
          · exact .inl (hvt.trans k2)
          · exact .inr ⟨g, cap, cur, hvt.trans k2, hs.own a _ g h1 hb (by simp [ownBlk, k2, blkOf]), k3, k4, k5, k6, k7⟩
        · exact fin _ (.d hD) rfl
      · exact fin _ (.d hD) rfl
  · rename_i cs
    cases h with
    | tup vs h1 h2 =>
      have := map_rep (fun c v => normA_rep) ⟨h1, h2⟩
      exact fin _ (.tup vs this.1 this.2) hl
  · exact fin _ (normA_rep h) hl

/-- One result. -/
def resOne (tmps : Array Value) : ResultVar → Sem Value
  | .tmp t => pure (tmps.getD t undef)
  | .cell a t => do loadVar t (← asAddr (tmps.getD a undef))

theorem resC_run {tmps : Array Value} (hs : Sat B n0 w γ σ) (hT : RepT w γ (Fil σ) T tmps) : ∀ {rvs : List ResultVar} {rs : List ARes} {cs : List C}, linkR P rvs = some rs → resC T σ rs = some cs →
    ∃ vs : List Value, (rvs.mapM (resOne tmps)).run P w = .ok vs w ∧ vs.length = cs.length ∧
      ∀ (i : Nat) (c : C), cs[i]? = some c → RepC w γ (Fil σ) c (vs.getD i undef)
  | [], rs, cs, h, hc => by
    simp only [linkR, Option.some.injEq] at h; subst h
    simp only [resC, Option.some.injEq] at hc; subst hc
    exact ⟨[], by simp, rfl, fun i c hc => by simp at hc⟩
  | .tmp t :: rvs, rs, cs, h, hc => by
    simp only [linkR] at h
    obtain ⟨rs', h1, rfl⟩ := Option.map_eq_some_iff.1 h
    simp only [resC] at hc
    obtain ⟨cs', h2, rfl⟩ := Option.map_eq_some_iff.1 hc
    obtain ⟨vs, k1, k2, k3⟩ := resC_run hs hT h1 h2
    refine ⟨tmps.getD t undef :: vs, by simp only [List.mapM_cons, resOne, Sem.run_bind, Sem.run_pure, Result.andThen_ok, k1], by simp [k2], fun i c hc => ?_⟩
    cases i with
    | zero => simp at hc; subst hc; exact (RepT.eval (a := ⟨tmps, []⟩) hT t)
    | succ i => exact k3 i c (by simpa using hc)
  | .cell a t :: rvs, rs, cs, h, hc => by
    simp only [linkR] at h
    split at h
    · rename_i g n rs' hg hn h1
      split at h
      · rename_i hgn
        simp only [Option.some.injEq] at h; subst h
        simp only [resC] at hc
        split at hc
        · rename_i c' cs' h2 h3
          simp only [Option.some.injEq] at hc; subst hc
          obtain ⟨vs, k1, k2, k3⟩ := resC_run hs hT h1 h3
          have hp := RepT.eval (a := ⟨tmps, []⟩) hT a
          obtain ⟨u, hu, hr⟩ := loadC_sound hg hn hgn hs.inv hp h2
          have hu' : (do loadVar t (← asAddr (tmps.getD a undef)) : Sem Value).run P w = .ok u w := by
            have hpv : (Act.eval ⟨tmps, []⟩ (.tmp a)) = tmps.getD a undef := rfl
            rw [hpv] at hu
            simp only [Instr.loadAt, Sem.run_bind] at hu ⊢
            generalize tmps.getD a undef = p at hu
            cases p with
            | pointer q =>
              cases q with
              | none => simp [Instr.sureAddr] at hu
              | some q => simpa [Instr.sureAddr, asAddr] using hu
            | _ => simp [Instr.sureAddr] at hu
          refine ⟨u :: vs, by
            simp only [List.mapM_cons, Sem.run_bind, Sem.run_pure, Result.andThen_ok]
            show ((Sem.run P (do loadVar t (← asAddr (tmps.getD a undef)) : Sem Value) w).andThen _) = _
            rw [hu']
            simp only [Result.andThen_ok, k1], by simp [k2], fun i c hc => ?_⟩
          cases i with
          | zero => simp at hc; subst hc; exact hr
          | succ i => exact k3 i c (by simpa using hc)
        · cases hc
      · cases h
    · cases h

theorem results_run {fn : Func} {rs : List ARes} {cs : List C} {tmps : Array Value} (hs : Sat B n0 w γ σ) (hT : RepT w γ (Fil σ) T tmps) (hl : linkR P fn.results.toList = some rs) (hc : resC T σ rs = some cs) :
    ∃ v, (results fn tmps).run P w = .ok v w ∧ RepC w γ (Fil σ) (retC cs) v := by
  obtain ⟨vs, k1, k2, k3⟩ := resC_run hs hT hl hc
  have hrun : (results fn tmps).run P w = .ok (if h : vs.toArray.size = 1 then vs.toArray[0] else .tuple vs.toArray) w := by
    have he : results fn tmps = (do
      let vs ← fn.results.mapM (resOne tmps)
      pure (if h : vs.size = 1 then vs[0] else .tuple vs)) := rfl
    rw [he, Array.mapM_eq_mapM_toList]
    simp only [Sem.run_bind, Sem.run_map, k1, Result.andThen_ok, Sem.run_pure]
  refine ⟨_, hrun, ?_⟩
  match cs, vs, k2, k3 with
  | [c], [v], _, k3 => exact k3 0 c rfl
  | [], [], _, k3 => exact .tup _ rfl (fun i c hc => by simp at hc)
  | c :: d :: cs, v :: u :: vs, k2, k3 =>
    simp only [retC]
    have : ¬ ((v :: u :: vs).toArray.size = 1) := by simp
    rw [dif_neg this]
    refine .tup _ (by simpa using k2) (fun i c hc => ?_)
    have := k3 i c hc
    simpa [Array.getD_eq_getD_getElem?, List.getD_eq_getElem?_getD] using this

end
end Go.Av
