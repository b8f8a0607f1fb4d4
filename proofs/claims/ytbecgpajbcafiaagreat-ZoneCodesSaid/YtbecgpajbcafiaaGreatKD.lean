/-
  An evaluator of the small language: with so much fuel, what a function returns, and the store then. For every table of functions.
  What the evaluator finds, the code does: operations, regions. For every program, and every world in which the arguments are as said.
  A region whose order is open in which none minds the others: as if the operations came one after the other. For every program, and every world in which the temporaries and the store are as said.
  A region whose order is open of which all that write are in order: one after the other; what is loaded is the same wherever the load may come. For every program, and every world in which the temporaries and the store are as said.
  What the evaluator finds, the code does: regions whose order is open, loops. For every program, and every world in which the temporaries and the store are as said.
  A range over a function: its record, its rounds; a function's end. For every program, and every world in which the arguments are as said.
  The statement of a range over a function; code; functions: what the evaluator finds, the machine does. For every program, and every world in which the arguments are as said.
  Functions: what the evaluator finds that a call returns, it returns. For every program, and every world in which the arguments are as said.
  The evaluator without fuel: what it comes to with enough of it; its equations. For every table of functions.
  Rules for reckoning with the evaluator at arguments that are not known.
  Calls in regions whose order is open, at arguments that name nothing.
-/
import Derived.Test.YtbecgpajbcafiaaGreatKC
import Derived.RangeFuncRecord
set_option linter.unusedVariables false
set_option linter.unusedSimpArgs false
namespace Go.Av
open Go.RowKit
variable [TheProg]
set_option linter.unusedSectionVars false

mutual
/-- The same data. -/
def D.same : D → D → Bool
  | .int k a, .int k' b => decide (k = k') && a == b
  | .bool a, .bool b => a == b
  | .str a, .str b => a.data.toList == b.data.toList
  | .sl n r, .sl m s => n == m && D.sameLL r s
  | _, _ => false
def D.sameL : List D → List D → Bool
  | [], [] => true
  | x :: xs, y :: ys => D.same x y && D.sameL xs ys
  | _, _ => false
def D.sameLL : List (List D) → List (List D) → Bool
  | [], [] => true
  | x :: xs, y :: ys => D.sameL x y && D.sameLL xs ys
  | _, _ => false
end

mutual
def C.same : C → C → Bool
  | .d x, .d y => D.same x y
  | .o s r a, .o s' r' a' => s == s' && D.sameLL r r' && a == a'
  | .fr e s r, .fr e' s' r' => e == e' && s == s' && D.sameLL r r'
  | .nils e s, .nils e' s' => e == e' && s == s'
  | .enn s, .enn s' => s == s'
  | .ref n u, .ref n' u' => n == n' && u == u'
  | .elt r u, .elt r' u' => D.sameL r r' && u == u'
  | .cl f a b, .cl f' a' b' => f == f' && C.sameL a a' && C.sameL b b'
  | .csl s r, .csl s' r' => s == s' && C.sameLL r r'
  | .celt r u, .celt r' u' => C.sameL r r' && u == u'
  | .map n, .map n' => n == n'
  | .yl n, .yl n' => n == n'
  | .nilf, .nilf => true
  | .frm ks cs, .frm ks' cs' => D.sameL ks ks' && C.sameL cs cs'
  | .agg cs, .agg cs' => C.sameL cs cs'
  | .tup cs, .tup cs' => C.sameL cs cs'
  | .undef, .undef => true
  | _, _ => false
def C.sameL : List C → List C → Bool
  | [], [] => true
  | x :: xs, y :: ys => C.same x y && C.sameL xs ys
  | _, _ => false
def C.sameLL : List (List C) → List (List C) → Bool
  | [], [] => true
  | x :: xs, y :: ys => C.sameL x y && C.sameLL xs ys
  | _, _ => false
end

mutual
theorem D.same_eq : ∀ {x y : D}, D.same x y = true → x = y
  | .int _ _, y, h => by
    cases y <;> simp [D.same] at h
    obtain ⟨rfl, rfl⟩ := h; rfl
  | .bool _, y, h => by
    cases y <;> simp [D.same] at h
    subst h; rfl
  | .str a, y, h => by
    cases y <;> simp [D.same] at h
    rename_i b
    obtain ⟨a⟩ := a
    obtain ⟨b⟩ := b
    simp only at h
    rw [h]
  | .sl n r, y, h => by
    cases y <;> simp [D.same] at h
    obtain ⟨rfl, h⟩ := h
    rw [D.sameLL_eq h]
theorem D.sameL_eq : ∀ {x y : List D}, D.sameL x y = true → x = y
  | [], y, h => by cases y <;> simp [D.sameL] at h; rfl
  | x :: xs, y, h => by
    cases y <;> simp [D.sameL] at h
    rw [D.same_eq h.1, D.sameL_eq h.2]
theorem D.sameLL_eq : ∀ {x y : List (List D)}, D.sameLL x y = true → x = y
  | [], y, h => by cases y <;> simp [D.sameLL] at h; rfl
  | x :: xs, y, h => by
    cases y <;> simp [D.sameLL] at h
    rw [D.sameL_eq h.1, D.sameLL_eq h.2]
end

mutual
theorem D.same_refl : ∀ (x : D), D.same x x = true
  | .int _ _ => by simp [D.same]
  | .bool _ => by simp [D.same]
  | .str _ => by simp [D.same]
  | .sl _ r => by simp [D.same, D.sameLL_refl r]
theorem D.sameL_refl : ∀ (x : List D), D.sameL x x = true
  | [] => by simp [D.sameL]
  | x :: xs => by simp [D.sameL, D.same_refl x, D.sameL_refl xs]
theorem D.sameLL_refl : ∀ (x : List (List D)), D.sameLL x x = true
  | [] => by simp [D.sameLL]
  | x :: xs => by simp [D.sameLL, D.sameL_refl x, D.sameLL_refl xs]
end

mutual
theorem C.same_eq : ∀ {x y : C}, C.same x y = true → x = y
  | .d x, y, h => by
    cases y <;> simp [C.same] at h
    rw [D.same_eq h]
  | .o s r a, y, h => by
    cases y <;> simp [C.same] at h
    obtain ⟨⟨rfl, h⟩, rfl⟩ := h
    rw [D.sameLL_eq h]
  | .fr e s r, y, h => by
    cases y <;> simp [C.same] at h
    obtain ⟨⟨rfl, rfl⟩, h⟩ := h
    rw [D.sameLL_eq h]
  | .nils e s, y, h => by
    cases y <;> simp [C.same] at h
    obtain ⟨rfl, rfl⟩ := h; rfl
  | .enn s, y, h => by
    cases y <;> simp [C.same] at h
    subst h; rfl
  | .ref n u, y, h => by
    cases y <;> simp [C.same] at h
    obtain ⟨rfl, rfl⟩ := h; rfl
  | .elt r u, y, h => by
    cases y <;> simp [C.same] at h
    obtain ⟨h, rfl⟩ := h
    rw [D.sameL_eq h]
  | .cl f a b, y, h => by
    cases y <;> simp [C.same] at h
    obtain ⟨⟨rfl, h1⟩, h2⟩ := h
    rw [C.sameL_eq h1, C.sameL_eq h2]
  | .csl s r, y, h => by
    cases y <;> simp [C.same] at h
    obtain ⟨rfl, h⟩ := h
    rw [C.sameLL_eq h]
  | .celt r u, y, h => by
    cases y <;> simp [C.same] at h
    obtain ⟨h, rfl⟩ := h
    rw [C.sameL_eq h]
  | .map n, y, h => by
    cases y <;> simp [C.same] at h
    subst h; rfl
  | .yl n, y, h => by
    cases y <;> simp [C.same] at h
    subst h; rfl
  | .nilf, y, h => by cases y <;> simp [C.same] at h; rfl
  | .frm ks cs, y, h => by
    cases y <;> simp [C.same] at h
    rw [D.sameL_eq h.1, C.sameL_eq h.2]
  | .agg cs, y, h => by
    cases y <;> simp [C.same] at h
    rw [C.sameL_eq h]
  | .tup cs, y, h => by
    cases y <;> simp [C.same] at h
    rw [C.sameL_eq h]
  | .undef, y, h => by cases y <;> simp [C.same] at h; rfl
theorem C.sameL_eq : ∀ {x y : List C}, C.sameL x y = true → x = y
  | [], y, h => by cases y <;> simp [C.sameL] at h; rfl
  | x :: xs, y, h => by
    cases y <;> simp [C.sameL] at h
    rw [C.same_eq h.1, C.sameL_eq h.2]
theorem C.sameLL_eq : ∀ {x y : List (List C)}, C.sameLL x y = true → x = y
  | [], y, h => by cases y <;> simp [C.sameLL] at h; rfl
  | x :: xs, y, h => by
    cases y <;> simp [C.sameLL] at h
    rw [C.sameL_eq h.1, C.sameLL_eq h.2]
end

mutual
theorem C.same_refl : ∀ (x : C), C.same x x = true
  | .d x => by simp [C.same, D.same_refl]
  | .o _ r _ => by simp [C.same, D.sameLL_refl]
  | .fr _ _ r => by simp [C.same, D.sameLL_refl]
  | .nils _ _ => by simp [C.same]
  | .enn _ => by simp [C.same]
  | .ref _ _ => by simp [C.same]
  | .elt _ _ => by simp [C.same, D.sameL_refl]
  | .cl _ a b => by simp [C.same, C.sameL_refl a, C.sameL_refl b]
  | .csl _ r => by simp [C.same, C.sameLL_refl r]
  | .celt r _ => by simp [C.same, C.sameL_refl r]
  | .map _ => by simp [C.same]
  | .yl _ => by simp [C.same]
  | .nilf => by simp [C.same]
  | .frm ks cs => by simp [C.same, D.sameL_refl, C.sameL_refl cs]
  | .agg cs => by simp [C.same, C.sameL_refl cs]
  | .tup cs => by simp [C.same, C.sameL_refl cs]
  | .undef => by simp [C.same]
theorem C.sameL_refl : ∀ (x : List C), C.sameL x x = true
  | [] => by simp [C.sameL]
  | x :: xs => by simp [C.sameL, C.same_refl x, C.sameL_refl xs]
theorem C.sameLL_refl : ∀ (x : List (List C)), C.sameLL x x = true
  | [] => by simp [C.sameLL]
  | x :: xs => by simp [C.sameLL, C.sameL_refl x, C.sameLL_refl xs]
end

abbrev Out := AEx × List C × St
/-- What is called: a function, or a round of a range over a function. -/
inductive Cal where
  | fn (f : FuncId)
  | yl (n : Nat)
/-- What a call does: the least name that may be turned, what is called, the arguments, the store. -/
abbrev CallF := Nat → Cal → List C → St → Option (C × St)

def keepT : List Bool → List C → List C
  | _, [] => []
  | true :: m, c :: T => c :: keepT m T
  | false :: m, _ :: T => .undef :: keepT m T
  | [], _ :: T => .undef :: keepT [] T

/-- Less is said: names from s on are forgotten. -/
def cutC (s : Nat) : C → C
  | .o sz rows a => if a < s then .o sz rows a else .d (.sl sz rows)
  | c => if C.lt s c then c else .undef

/-- Of a result: tokens from s on are forgotten. -/
def cut1 (s : Nat) : C → C
  | .o sz rows a => if a < s then .o sz rows a else .d (.sl sz rows)
  | c => c
def cutA (s : Nat) : C → C
  | .agg cs => .agg (cs.map (cut1 s))
  | c => cut1 s c

/-- A result as the caller sees it, and the store. -/
def finC (s : Nat) (σ : St) : C → C × St
  | .o sz rows a => if a < s then (.o sz rows a, σ.take s) else match σ[a]? with
    | some (some (.tok e sz' len)) => (.o sz rows s, σ.take s ++ [some (.tok e sz' len)])
    | _ => (.d (.sl sz rows), σ.take s)
  | .tup cs => if C.ltL s (cs.map (cutA s)) then (.tup (cs.map (cutA s)), σ.take s) else (.tup cs, σ)
  | c => if C.lt s (cutA s c) then (cutA s c, σ.take s) else (c, σ)

def finE (s : Nat) (rs : List ARes) (T : List C) (σ : St) : Option (C × St) :=
  (resC T σ rs).map fun cs => finC s σ (retC cs)

def ev1 (F : CallF) (lo : Nat) (T : List C) (σ : St) : AOp → Option (C × St)
  | .call f args => match evO T f with
    | .cl fid first caps => F lo (.fn fid) (first ++ args.map (evO T) ++ caps) σ
    | .yl n => F lo (.yl n) (args.map (evO T)) σ
    | _ => none
  | p => evOp lo T σ p

def evR (F : CallF) (lo : Nat) : List AOper → List C → St → Option (List C × St)
  | [], T, σ => some (T, σ)
  | o :: os, T, σ => match o.guard with
    | none => match ev1 F lo T σ o.op with
      | some (c, σ') => evR F lo os (setT T o.dst c) σ'
      | none => none
    | some (g, want) => match gdec T g want with
      | some true => (match ev1 F lo T σ o.op with
          | some (c, σ') => evR F lo os (setT T o.dst c) σ'
          | none => none)
      | some false => evR F lo os (setT T o.dst nwC) σ
      | none => none

/-! ### Names -/

mutual
def C.names : C → List Nat
  | .o _ _ a => [a]
  | .ref n _ => [n]
  | .cl _ fs cs => C.namesL fs ++ C.namesL cs
  | .csl _ rows => C.namesLL rows
  | .celt row _ => C.namesL row
  | .map n => [n]
  | .yl n => [n]
  | .agg cs => C.namesL cs
  | .tup cs => C.namesL cs
  | _ => []
def C.namesL : List C → List Nat
  | [] => []
  | c :: cs => C.names c ++ C.namesL cs
def C.namesLL : List (List C) → List Nat
  | [] => []
  | c :: cs => C.namesL c ++ C.namesLL cs
end

def Ob.names : Ob → List Nat
  | .box _ cs => C.namesL cs
  | .map es => es.flatMap fun e => C.names e.2
  | .tok _ _ _ => []
  | .loop T _ _ _ _ => C.namesL T
  | .siter _ _ => []
  | .ntok _ _ => []

def obNames (σ : St) (n : Nat) : List Nat := match σ[n]? with
  | some (some b) => b.names
  | _ => []

/-- The store with the objects of R alone. -/
def maskS (R : List Nat) (σ : St) : St := σ.zipIdx.map fun x => if R.contains x.2 then x.1 else none

/-- What arguments reach, and what that reaches. -/
def reach (σ : St) (args : List C) : List Nat := C.namesL args ++ (C.namesL args).flatMap (obNames σ)

def reachOk (σ : St) (R : List Nat) : Bool := R.all fun n => match σ[n]? with
  | some (some b) => b.names.all R.contains
  | _ => false

/-- Variables that a call has made, as rows that stay what they are. -/
def freeze : Nat → St → Nat → C → C
  | d + 1, σ, L, .ref n off => if n < L then .ref n off else match σ[n]? with
    | some (some (.box _ cells)) => .celt (cells.map (freeze d σ L)) off
    | _ => .ref n off
  | d + 1, σ, L, .cl f fs cs => .cl f (fs.map (freeze d σ L)) (cs.map (freeze d σ L))
  | d + 1, σ, L, .agg cs => .agg (cs.map (freeze d σ L))
  | d + 1, σ, L, .tup cs => .tup (cs.map (freeze d σ L))
  | _ + 1, _, _, .o sz rows _ => .d (.sl sz rows)
  | _, _, _, c => c

/-- What a call in a region whose order is open comes to: data. -/
def resQ (L : Nat) (r : C) (σ' : St) : Option C :=
  match r with
  | .o sz rows a => match σ'[a]? with
    | some (some (.tok e sz' len)) => if L ≤ a ∧ sz' = sz ∧ len = rows.length then some (.fr e sz rows) else none
    | _ => none
  | .map n => match σ'[n]? with
    | some (some (.map es)) => if L ≤ n ∧ C.ltL 0 (es.map fun e => freeze 8 σ' L e.2) = true then some (.frm (es.map (·.1)) (es.map fun e => freeze 8 σ' L e.2)) else none
    | _ => none
  | r => if C.lt 0 (freeze 8 σ' L r) then some (freeze 8 σ' L r) else none

def entE (dst : Option Nat) (slot L : Nat) (r : C) (σ' : St) : Option Ent := (resQ L r σ').map (entC dst slot)

def callD (F : CallF) (slot : Nat) (view : St) (dst : Option Nat) (fid : FuncId) (args : List C) : Option Ent :=
  if reachOk view (reach view args) then
    match F view.length (.fn fid) args (maskS (reach view args) view) with
    | some (r, σ') => entE dst slot view.length r σ'
    | none => none
  else none

def oneE (F : CallF) (lo slot : Nat) (T : List C) (view : St) (dst : Option Nat) : AOp → Option Ent
  | .call f args => match evO T f with
    | .cl fid first caps => callD F slot view dst fid (first ++ args.map (evO T) ++ caps)
    | _ => none
  | p => match evS lo slot T view p with
    | some (c, eff, rd) => some ⟨dst, c, eff, rd⟩
    | none => none

def rdOkB (rd : Rd) (m : Nat) (fresh : Bool) : Bool :=
  match rd with
  | .no => true
  | .ld m' _ _ _ => m != m'
  | .ob m' => m != m'
  | .all => fresh

def Rd.freshB : Rd → Bool
  | .no => true
  | .all => true
  | _ => false

def isHole (view : St) (m : Nat) : Bool := match view[m]? with
  | some none => true
  | _ => false

def pairB (e' e : Ent) (slot : Nat) (view : St) : Bool :=
  (match e'.eff with | some (m, _) => rdOkB e.rd m (isHole view m) | none => true) &&
  (match e.eff with | some (m, _) => rdOkB e'.rd m (m == slot && e.rd.freshB) && (match e'.eff with | some (m', _) => m' != m | none => true) | none => true)

def pairsB : List Ent → List Bool → Ent → Nat → St → Bool
  | e' :: D, b :: bs, e, slot, view => (b || pairB e' e slot view) && pairsB D bs e slot view
  | [], _, _, _, _ => true
  | _ :: _, [], _, _, _ => false

def noOnB : List Ent → Nat → Bool
  | e :: D, m => (match e.eff with | some (m', _) => m' != m | none => true) && noOnB D m
  | [], _ => true

def freshB (D : List Ent) (e : Ent) : Bool :=
  match e.rd, e.eff with
  | .no, some (m, _) => noOnB D m
  | .all, some (m, _) => noOnB D m
  | _, _ => true

def evD (F : CallF) (lo : Nat) (σp : St) (s0 : Nat) : List DOp → List Ent → List C → Option (List C × St)
  | [], D, T => some (T, vwAll D σp)
  | q :: qs, D, T =>
    match q.op.guard with
    | none => match oneE F lo (s0 + q.slot) T (vw D q.bef σp) q.op.dst q.op.op with
      | some e => if pairsB D q.bef e (s0 + q.slot) (vw D q.bef σp) && freshB D e then evD F lo σp s0 qs (D ++ [e]) (setT T e.dst e.c) else none
      | none => none
    | some (g, want) => match gdec T g want with
      | some true => (match oneE F lo (s0 + q.slot) T (vw D q.bef σp) q.op.dst q.op.op with
          | some e => if pairsB D q.bef e (s0 + q.slot) (vw D q.bef σp) && freshB D e then evD F lo σp s0 qs (D ++ [e]) (setT T e.dst e.c) else none
          | none => none)
      | some false => evD F lo σp s0 qs (D ++ [⟨q.op.dst, nwC, none, .no⟩]) (setT T q.op.dst nwC)
      | none => none

/-- What is looked at again: a load, with what it found; the store ahead of what writes. -/
inductive WLog where
  | no
  | ld (agg : Bool) (n : Nat) (a c : C)
  | wr (σ : St)

def stab (σ : St) (agg : Bool) (n : Nat) (a c : C) : Bool := match loadC σ agg n a with
  | some c' => C.same c c'
  | none => false

def chkL (agg : Bool) (n : Nat) (a c : C) : List WLog → List Bool → Bool
  | .wr σ :: W, b :: bs => (b || stab σ agg n a c) && chkL agg n a c W bs
  | .ld _ _ _ _ :: W, _ :: bs => chkL agg n a c W bs
  | .no :: W, _ :: bs => chkL agg n a c W bs
  | [], _ => true
  | _ :: _, [] => false

def chkS (σ : St) : List WLog → List Bool → Bool
  | .ld agg n a c :: W, b :: bs => (b || stab σ agg n a c) && chkS σ W bs
  | .wr _ :: W, _ :: bs => chkS σ W bs
  | .no :: W, _ :: bs => chkS σ W bs
  | [], _ => true
  | _ :: _, [] => false

def writesW (p : AOp) : Bool := !pureOp p && !loadOp p

def chkW (W : List WLog) (bef : List Bool) (T : List C) (p : AOp) (c : C) (σ' : St) : Bool := match p with
  | .load agg n a => chkL agg n (evO T a) c W bef
  | p => if writesW p then chkS σ' W bef else true

def logW (T : List C) (σ : St) (p : AOp) (c : C) : WLog := match p with
  | .load agg n a => .ld agg n (evO T a) c
  | p => if writesW p then .wr σ else .no

/-- A region whose order is open, of which all that write are in order: one after the other; what is loaded is looked at again. -/
def evW (F : CallF) (lo : Nat) : List DOp → List WLog → List C → St → Option (List C × St)
  | [], _, T, σ => some (T, σ)
  | q :: qs, W, T, σ =>
    match q.op.guard with
    | none => match ev1 F lo T σ q.op.op with
      | some (c, σ') => if chkW W q.bef T q.op.op c σ' then evW F lo qs (W ++ [logW T σ q.op.op c]) (setT T q.op.dst c) σ' else none
      | none => none
    | some (g, want) => match gdec T g want with
      | some true => (match ev1 F lo T σ q.op.op with
          | some (c, σ') => if chkW W q.bef T q.op.op c σ' then evW F lo qs (W ++ [logW T σ q.op.op c]) (setT T q.op.dst c) σ' else none
          | none => none)
      | some false => evW F lo qs (W ++ [.no]) (setT T q.op.dst nwC) σ
      | none => none

/-- A loop's rounds. -/
def iter (body : List C → St → Option Out) (live lout : List Bool) (s : Nat) : Nat → List C → St → Option Out
  | 0, _, _ => none
  | k + 1, T, σ => match body T σ with
    | none => none
    | some (.normal, T', σ') => iter body live lout s k ((keepT live T').map (cutC s)) (σ'.take s)
    | some (.exit id, T', σ') => some (.exit id, (keepT lout T').map (cutC s), σ'.take s)
    | some (.ret, T', σ') => some (.ret, (keepT lout T').map (cutC s), σ'.take s)

/-- Behind a range over a function. -/
def endRF (live : List Bool) (T : List C) (n : Nat) : Option (C × St) → Option Out
  | some (_, σ) => match σ[n]? with
    | some (some (.loop _ _ _ _ .ready)) => some (.normal, keepT live T, σ.take n)
    | some (some (.loop _ _ _ _ (.done .ret))) => some (.ret, keepT live T, σ.take n)
    | some (some (.loop _ _ _ _ (.done (.exit id)))) => some (.exit id, keepT live T, σ.take n)
    | _ => none
  | none => none

def evC (F : CallF) (lo kf : Nat) : ECode → List C → St → Option Out
  | .skip, T, σ => some (.normal, T, σ)
  | .region d ops, T, σ => match evR F lo ops T σ with
    | some (T', σ') => some (.normal, T', σ')
    | none => none
  | .draw N ds, T, σ => match evD F lo (σ ++ List.replicate N none) σ.length ds [] T with
    | some (T', σ') => some (.normal, T', σ')
    | none => none
  | .regw ds, T, σ => match evW F lo ds [] T σ with
    | some (T', σ') => some (.normal, T', σ')
    | none => none
  | .seq a b, T, σ => match evC F lo kf a T σ with
    | some (.normal, T', σ') => evC F lo kf b T' σ'
    | r => r
  | .cond c a b, T, σ => match evO T c with
    | .d (.bool true) => evC F lo kf a T σ
    | .d (.bool false) => evC F lo kf b T σ
    | _ => none
  | .block id c, T, σ => match evC F lo kf c T σ with
    | some (.exit i, T', σ') => if i = id then some (.normal, T', σ') else some (.exit i, T', σ')
    | r => r
  | .loop live lout c, T, σ => iter (fun T σ => evC F lo kf c T σ) live lout σ.length kf (keepT live T) σ
  | .scope c, T, σ => evC F lo kf c T σ
  | .exit id, T, σ => some (.exit id, T, σ)
  | .ret, T, σ => some (.ret, T, σ)
  | .rfunc live g ps asg body, T, σ => match evO T g with
    | .cl fid first caps =>
      if C.ltL σ.length (keepT live T) then
        endRF live T σ.length (F lo (.fn fid) (first ++ [.yl σ.length] ++ caps) (σ ++ [some (.loop (keepT live T) ps asg body .ready)]))
      else none
    | _ => none

def setPs : List Nat → List C → List C → List C
  | t :: ts, c :: cs, T => setPs ts cs (T.set t c)
  | _, _, T => T

/-- What a round leaves. -/
def endY (n s : Nat) : Option Out → Option (C × St)
  | some (x, _, σ) => match σ[n]? with
    | some (some (.loop T ps asg body .busy)) =>
      match x with
      | .normal => some (.d (.bool true), (σ.set n (some (.loop T ps asg body .ready))).take s)
      | .ret => some (.d (.bool false), (σ.set n (some (.loop T ps asg body (.done .ret)))).take s)
      | .exit id => some (.d (.bool false), (σ.set n (some (.loop T ps asg body (.done (.exit id))))).take s)
    | _ => none
  | none => none

/-- A round: the assignment to the loop's variables, the body. -/
def evY (F : CallF) (lo kf n : Nat) (args : List C) (σ : St) : Option (C × St) :=
  match σ[n]? with
  | some (some (.loop T ps asg body .ready)) =>
    if lo ≤ n ∧ args.length = ps.length then
      match evC F lo kf asg (setPs ps args T) σ with
      | some (.normal, T1, σ1) => match σ1[n]? with
        | some (some (.loop T' ps' asg' body' .ready)) => endY n σ.length (evC F lo kf body T1 (σ1.set n (some (.loop T' ps' asg' body' .busy))))
        | _ => none
      | _ => none
    else none
  | _ => none

/-- Functions by their code; and functions of which a contract is known. -/
structure Env where
  tbl : FuncId → Option EFunc
  prim : CallF

def endE (s : Nat) (rs : List ARes) : Option Out → Option (C × St)
  | some (.normal, T, σ) => finE s rs T σ
  | some (.ret, T, σ) => finE s rs T σ
  | _ => none

def evF (E : Env) : Nat → CallF
  | 0 => fun _ _ _ _ => none
  | k + 1 => fun lo f args σ => match f with
    | .fn f => match E.tbl f with
      | some ef => endE σ.length ef.results (evC (evF E k) lo k ef.body (args ++ List.replicate (ef.ntmps - args.length) .undef) σ)
      | none => E.prim lo (.fn f) args σ
    | .yl n => evY (evF E k) lo k n args σ

/-! ### The store grows -/

structure Grow (σ σ' : St) : Prop where
  len : σ.length ≤ σ'.length
  fil : ∀ n, Fil σ n → Fil σ' n

theorem Grow.refl (σ : St) : Grow σ σ := ⟨Nat.le_refl _, fun _ h => h⟩
theorem Grow.trans {a b c : St} (h : Grow a b) (k : Grow b c) : Grow a c := ⟨Nat.le_trans h.len k.len, fun n hn => k.fil n (h.fil n hn)⟩
theorem Grow.push (σ : St) (b : Option Ob) : Grow σ (σ ++ [b]) := ⟨by simp, fun n ⟨c, hc⟩ => ⟨c, by rw [List.getElem?_append_left (List.getElem?_eq_some_iff.1 hc).1]; exact hc⟩⟩
theorem Grow.app (σ τ : St) : Grow σ (σ ++ τ) := ⟨by simp, fun n ⟨c, hc⟩ => ⟨c, by rw [List.getElem?_append_left (List.getElem?_eq_some_iff.1 hc).1]; exact hc⟩⟩
theorem Grow.set (σ : St) (m : Nat) (b : Ob) : Grow σ (σ.set m (some b)) := by
  refine ⟨by simp, fun n ⟨c, hc⟩ => ?_⟩
  by_cases e : m = n
  · subst e; exact ⟨b, by rw [List.getElem?_set_self (List.getElem?_eq_some_iff.1 hc).1]⟩
  · exact ⟨c, by rw [List.getElem?_set_ne e]; exact hc⟩
theorem Grow.holes (σ : St) (N : Nat) : Grow σ (σ ++ List.replicate N none) := ⟨by simp, fun n ⟨c, hc⟩ => ⟨c, by rw [List.getElem?_append_left (List.getElem?_eq_some_iff.1 hc).1]; exact hc⟩⟩
theorem Grow.take {σ σ' : St} (h : Grow σ σ') : Grow σ (σ'.take σ.length) :=
  ⟨by rw [List.length_take]; have := h.len; omega, fun n hn => by
    obtain ⟨b, hb⟩ := h.fil n hn
    exact ⟨b, by rw [List.getElem?_take, if_pos hn.lt]; exact hb⟩⟩

theorem evOp_grow {lo : Nat} {T : List C} {σ σ' : St} {p : AOp} {c : C} (h : evOp lo T σ p = some (c, σ')) : Grow σ σ' := by
  cases p <;> simp only [evOp] at h <;> first
    | (simp only [Option.some.injEq, Prod.mk.injEq] at h; obtain ⟨_, rfl⟩ := h; first | exact .refl _ | exact .push _ _)
    | (obtain ⟨_, _, h⟩ := Option.map_eq_some_iff.1 h; simp only [Prod.mk.injEq] at h; obtain ⟨_, rfl⟩ := h; exact .refl _)
    | (revert h
       repeat' split
       all_goals first
         | (intro h; cases h; done)
         | (intro h; simp only [Option.some.injEq, Prod.mk.injEq] at h; obtain ⟨_, rfl⟩ := h; first | exact .refl _ | exact .push _ _ | exact .set _ _ _ | exact .trans (.app _ _) (.push _ _))
         | (intro h; obtain ⟨_, _, h⟩ := Option.map_eq_some_iff.1 h; simp only [Prod.mk.injEq] at h; obtain ⟨_, rfl⟩ := h; exact .refl _))

/-- Of calls: the store grows. -/
def FGrow (F : CallF) : Prop := ∀ lo f args σ r σ', F lo f args σ = some (r, σ') → Grow σ σ'

theorem ev1_grow {F : CallF} (hF : FGrow F) {lo : Nat} {T : List C} {σ σ' : St} {p : AOp} {c : C} (h : ev1 F lo T σ p = some (c, σ')) : Grow σ σ' := by
  unfold ev1 at h
  split at h
  · split at h
    · exact hF _ _ _ _ _ _ h
    · exact hF _ _ _ _ _ _ h
    · cases h
  · exact evOp_grow h

theorem evR_grow {F : CallF} (hF : FGrow F) {lo : Nat} : ∀ {os : List AOper} {T T' : List C} {σ σ' : St}, evR F lo os T σ = some (T', σ') → Grow σ σ'
  | [], T, T', σ, σ', h => by simp only [evR, Option.some.injEq, Prod.mk.injEq] at h; obtain ⟨_, rfl⟩ := h; exact .refl _
  | o :: os, T, T', σ, σ', h => by
    simp only [evR] at h
    split at h
    · split at h
      · rename_i he; exact (ev1_grow hF he).trans (evR_grow hF h)
      · cases h
    · split at h
      · split at h
        · rename_i he; exact (ev1_grow hF he).trans (evR_grow hF h)
        · cases h
      · exact evR_grow hF h
      · cases h

theorem evW_grow {F : CallF} (hF : FGrow F) {lo : Nat} : ∀ {qs : List DOp} {W : List WLog} {T T' : List C} {σ σ' : St}, evW F lo qs W T σ = some (T', σ') → Grow σ σ'
  | [], W, T, T', σ, σ', h => by simp only [evW, Option.some.injEq, Prod.mk.injEq] at h; obtain ⟨_, rfl⟩ := h; exact .refl _
  | q :: qs, W, T, T', σ, σ', h => by
    simp only [evW] at h
    split at h
    · split at h
      · rename_i he
        split at h
        · exact (ev1_grow hF he).trans (evW_grow hF h)
        · cases h
      · cases h
    · split at h
      · split at h
        · rename_i he
          split at h
          · exact (ev1_grow hF he).trans (evW_grow hF h)
          · cases h
        · cases h
      · exact evW_grow hF h
      · cases h

theorem vwAll_grow : ∀ (D : List Ent) (σ : St), Grow σ (vwAll D σ)
  | [], σ => .refl _
  | e :: D, σ => by
    simp only [vwAll]
    refine Grow.trans ?_ (vwAll_grow D _)
    rcases e.eff with _ | ⟨m, b⟩
    · exact .refl _
    · exact .set _ _ _

theorem evD_grow {F : CallF} {lo s0 : Nat} {σp σ' : St} {T' : List C} : ∀ (qs : List DOp) (D : List Ent) (T : List C), evD F lo σp s0 qs D T = some (T', σ') → Grow σp σ'
  | [], D, T, h => by simp only [evD, Option.some.injEq, Prod.mk.injEq] at h; obtain ⟨_, rfl⟩ := h; exact vwAll_grow _ _
  | q :: qs, D, T, h => by
    simp only [evD] at h
    revert h
    repeat' split
    all_goals first
      | (intro h; cases h; done)
      | exact evD_grow qs _ _

theorem iter_grow {body : List C → St → Option Out} {live lout : List Bool} {s : Nat} (hb : ∀ T σ x T' σ', body T σ = some (x, T', σ') → Grow σ σ') :
    ∀ (k : Nat) (T : List C) (σ : St) (x : AEx) (T' : List C) (σ' : St), σ.length = s → iter body live lout s k T σ = some (x, T', σ') → Grow σ σ' ∧ σ'.length = s
  | 0, T, σ, x, T', σ', hs, h => by simp [iter] at h
  | k + 1, T, σ, x, T', σ', hs, h => by
    subst hs
    simp only [iter] at h
    split at h
    · cases h
    · rename_i he
      have h1 := hb _ _ _ _ _ he
      have h2 := h1.take
      obtain ⟨h3, h4⟩ := iter_grow hb k _ _ _ _ _ (by rw [List.length_take]; have := h1.len; omega) h
      exact ⟨h2.trans h3, h4⟩
    · rename_i he
      simp only [Option.some.injEq, Prod.mk.injEq] at h
      obtain ⟨_, _, rfl⟩ := h
      have h1 := hb _ _ _ _ _ he
      exact ⟨h1.take, by rw [List.length_take]; have := h1.len; omega⟩
    · rename_i he
      simp only [Option.some.injEq, Prod.mk.injEq] at h
      obtain ⟨_, _, rfl⟩ := h
      have h1 := hb _ _ _ _ _ he
      exact ⟨h1.take, by rw [List.length_take]; have := h1.len; omega⟩

theorem evC_grow {F : CallF} (hF : FGrow F) {lo kf : Nat} : ∀ (c : ECode) (T : List C) (σ : St) (x : AEx) (T' : List C) (σ' : St), evC F lo kf c T σ = some (x, T', σ') → Grow σ σ' := by
  intro c
  induction c with
  | skip => intro T σ x T' σ' h; simp only [evC, Option.some.injEq, Prod.mk.injEq] at h; obtain ⟨_, _, rfl⟩ := h; exact .refl _
  | region d ops =>
    intro T σ x T' σ' h
    simp only [evC] at h
    split at h
    · rename_i he
      simp only [Option.some.injEq, Prod.mk.injEq] at h; obtain ⟨_, _, rfl⟩ := h
      exact evR_grow hF he
    · cases h
  | draw N ds =>
    intro T σ x T' σ' h
    simp only [evC] at h
    split at h
    · rename_i he
      simp only [Option.some.injEq, Prod.mk.injEq] at h; obtain ⟨_, _, rfl⟩ := h
      exact (Grow.holes _ _).trans (evD_grow _ _ _ he)
    · cases h
  | regw ds =>
    intro T σ x T' σ' h
    simp only [evC] at h
    split at h
    · rename_i he
      simp only [Option.some.injEq, Prod.mk.injEq] at h; obtain ⟨_, _, rfl⟩ := h
      exact evW_grow hF he
    · cases h
  | seq a b iha ihb =>
    intro T σ x T' σ' h
    simp only [evC] at h
    split at h
    · rename_i he; exact (iha _ _ _ _ _ he).trans (ihb _ _ _ _ _ h)
    · exact iha _ _ _ _ _ h
  | cond c a b iha ihb =>
    intro T σ x T' σ' h
    simp only [evC] at h
    split at h
    · exact iha _ _ _ _ _ h
    · exact ihb _ _ _ _ _ h
    · cases h
  | block id c ih =>
    intro T σ x T' σ' h
    simp only [evC] at h
    split at h
    · rename_i he
      split at h <;> (simp only [Option.some.injEq, Prod.mk.injEq] at h; obtain ⟨_, _, rfl⟩ := h; exact ih _ _ _ _ _ he)
    · exact ih _ _ _ _ _ h
  | loop live lout c ih => intro T σ x T' σ' h; simp only [evC] at h; exact (iter_grow (fun T σ x T' σ' => ih T σ x T' σ') _ _ _ _ _ _ rfl h).1
  | scope c ih => intro T σ x T' σ' h; simp only [evC] at h; exact ih _ _ _ _ _ h
  | exit id => intro T σ x T' σ' h; simp only [evC, Option.some.injEq, Prod.mk.injEq] at h; obtain ⟨_, _, rfl⟩ := h; exact .refl _
  | ret => intro T σ x T' σ' h; simp only [evC, Option.some.injEq, Prod.mk.injEq] at h; obtain ⟨_, _, rfl⟩ := h; exact .refl _
  | rfunc live g ps asg body ih1 ih2 =>
    intro T σ x T' σ' h
    simp only [evC] at h
    split at h
    · split at h
      · generalize hr : F lo _ _ _ = r at h
        cases r with
        | none => cases h
        | some r =>
          obtain ⟨c, σ1⟩ := r
          have h1 := (Grow.push σ _).trans (hF _ _ _ _ _ _ hr)
          simp only [endRF] at h
          split at h <;> first
            | (cases h; done)
            | (simp only [Option.some.injEq, Prod.mk.injEq] at h; obtain ⟨_, _, rfl⟩ := h; exact h1.take)
      · cases h
    · cases h

theorem evY_grow {F : CallF} (hF : FGrow F) {lo kf n : Nat} {args : List C} {σ σ' : St} {r : C} (h : evY F lo kf n args σ = some (r, σ')) : Grow σ σ' := by
  unfold evY at h
  split at h
  · split at h
    · split at h
      · rename_i he
        split at h
        · generalize hr : evC F lo kf _ _ _ = o at h
          cases o with
          | none => cases h
          | some o =>
            obtain ⟨x, T, σ2⟩ := o
            have h1 := ((evC_grow hF _ _ _ _ _ _ he).trans (Grow.set _ n _)).trans (evC_grow hF _ _ _ _ _ _ hr)
            simp only [endY] at h
            split at h
            · split at h <;> (simp only [Option.some.injEq, Prod.mk.injEq] at h; obtain ⟨_, rfl⟩ := h; exact (h1.trans (Grow.set _ n _)).take)
            · cases h
        · cases h
      · cases h
    · cases h
  · cases h

theorem finC_grow {σ σ' : St} (h : Grow σ σ') (c : C) : Grow σ (finC σ.length σ' c).2 := by
  unfold finC
  repeat' split
  all_goals first
    | exact h.take
    | exact h
    | exact h.take.trans (.push _ _)

theorem endE_grow {σ : St} {rs : List ARes} {o : Option Out} (ho : ∀ x T σ', o = some (x, T, σ') → Grow σ σ') {r : C} {σ' : St} (h : endE σ.length rs o = some (r, σ')) : Grow σ σ' := by
  unfold endE at h
  split at h
  · unfold finE at h
    obtain ⟨cs, _, h2⟩ := Option.map_eq_some_iff.1 h
    have := finC_grow (ho _ _ _ rfl) (retC cs)
    rw [h2] at this; exact this
  · unfold finE at h
    obtain ⟨cs, _, h2⟩ := Option.map_eq_some_iff.1 h
    have := finC_grow (ho _ _ _ rfl) (retC cs)
    rw [h2] at this; exact this
  · cases h

theorem evF_grow {E : Env} (hp : FGrow E.prim) : ∀ k, FGrow (evF E k)
  | 0 => fun _ _ _ _ _ _ h => by cases h
  | k + 1 => fun lo f args σ r σ' h => by
    simp only [evF] at h
    split at h
    · split at h
      · exact endE_grow (fun x T σ'' he => evC_grow (evF_grow hp k) _ _ _ _ _ _ he) h
      · exact hp _ _ _ _ _ _ h
    · exact evY_grow (evF_grow hp k) h

end Go.Av

set_option linter.unusedVariables false
set_option linter.unusedSimpArgs false
namespace Go.Av
open Go.RowKit
variable [TheProg]
set_option linter.unusedSectionVars false

/-- What calls are said to do, they do. -/
structure FOk (P : Program) (F : CallF) : Prop where
  fn : ∀ lo f args σ r σ', F lo (.fn f) args σ = some (r, σ') → ∀ n0 : Fr, n0.lo = lo → CallX P n0 f args σ fun r' σ'' => r' = r ∧ σ'' = σ'
  yl : ∀ lo n args σ r σ', F lo (.yl n) args σ = some (r, σ') → ∀ n0 : Fr, n0.lo = lo → CallY P n0 n args σ fun r' σ'' => r' = r ∧ σ'' = σ'

section
variable {P : Program} {B : Nat} {n0 : Fr} {o : Oper} {a : Act} {w w0 : World} {γ γ0 : G} {σ σ' : St} {c : C} {T : List C}

theorem CallX.mono {f : FuncId} {args : List C} {Q Q' : C → St → Prop} (h : CallX P n0 f args σ Q) (hq : ∀ r σ, Q r σ → Q' r σ) : CallX P n0 f args σ Q' := by
  refine ⟨h.1, fun B w γ vs hs hl hr => (h.2 B w γ vs hs hl hr).mono ?_⟩
  rintro e w' ⟨v, γ', r, σ', h1, h2, h3, h4, h5, h6⟩
  exact ⟨v, γ', r, σ', h1, h2, h3, h4, h5, hq _ _ h6⟩

theorem CallY.mono {n : Nat} {args : List C} {Q Q' : C → St → Prop} (h : CallY P n0 n args σ Q) (hq : ∀ r σ, Q r σ → Q' r σ) : CallY P n0 n args σ Q' := by
  intro ro B w γ vs hs hl hr
  obtain ⟨l, fn, tmps, asg, body, h1, h2⟩ := h ro B w γ vs hs hl hr
  refine ⟨l, fn, tmps, asg, body, h1, h2.mono ?_⟩
  rintro e w' ⟨v, γ', r, σ', h1, h2, h3, h4, h5, h6⟩
  exact ⟨v, γ', r, σ', h1, h2, h3, h4, h5, hq _ _ h6⟩

theorem wpO_of_ev1 {F : CallF} (hF : FOk P F) {p : AOp} {dst : Option Nat} {K : List C → St → Prop} (h : ev1 F n0.lo T σ p = some (c, σ')) (hK : K (setT T dst c) σ') : wpO P n0 dst p T σ K := by
  by_cases hc : ∃ f args, p = .call f args
  · obtain ⟨f, args, rfl⟩ := hc
    simp only [ev1] at h
    simp only [wpO]
    split at h
    · rename_i hfe
      rw [hfe]
      exact .inr ((hF.fn _ _ _ _ _ _ h n0 rfl).mono (by rintro r σ1 ⟨rfl, rfl⟩; exact hK))
    · rename_i hfe
      rw [hfe]
      exact (hF.yl _ _ _ _ _ _ h n0 rfl).mono (by rintro r σ1 ⟨rfl, rfl⟩; exact hK)
    · cases h
  · have h' : evOp n0.lo T σ p = some (c, σ') := by
      cases p <;> first
        | exact absurd ⟨_, _, rfl⟩ hc
        | exact h
    cases p <;> first
      | exact absurd ⟨_, _, rfl⟩ hc
      | (simp only [wpO]; rw [h']; exact hK)

theorem wpS_of_evR {F : CallF} (hF : FOk P F) : ∀ {os : List AOper} {T T' : List C} {σ σ' : St} {K : List C → St → Prop}, evR F n0.lo os T σ = some (T', σ') → K T' σ' → wpS P n0 os T σ K
  | [], T, T', σ, σ', K, h, hK => by
    simp only [evR, Option.some.injEq, Prod.mk.injEq] at h
    obtain ⟨rfl, rfl⟩ := h
    exact hK
  | o :: os, T, T', σ, σ', K, h, hK => by
    simp only [evR] at h
    simp only [wpS, wpG]
    split at h
    · rename_i hg
      simp only [hg]
      split at h
      · rename_i he; exact wpO_of_ev1 hF he (wpS_of_evR hF h hK)
      · cases h
    · rename_i g want hg
      simp only [hg]
      split at h
      · rename_i hb
        simp only [hb]
        split at h
        · rename_i he; exact wpO_of_ev1 hF he (wpS_of_evR hF h hK)
        · cases h
      · rename_i hb
        simp only [hb]
        exact wpS_of_evR hF h hK
      · cases h

theorem ev1_quiet {F : CallF} {lo : Nat} {p : AOp} (hq : quietOp p = true) (h : ev1 F lo T σ p = some (c, σ')) : evOp lo T σ p = some (c, σ') := by
  cases p <;> first
    | exact h
    | (simp [quietOp] at hq; done)

/-! ### Names -/

theorem namesL_get : ∀ {cs : List C} {i : Nat} {c : C}, cs[i]? = some c → ∀ n, n ∈ C.names c → n ∈ C.namesL cs
  | [], i, c, h, n, hn => by simp at h
  | x :: cs, 0, c, h, n, hn => by simp at h; subst h; simp [C.namesL, hn]
  | x :: cs, i + 1, c, h, n, hn => by
    have := namesL_get (cs := cs) (i := i) (c := c) (by simpa using h) n hn
    simp [C.namesL, this]

theorem namesLL_get : ∀ {rows : List (List C)} {i j : Nat} {c : C}, at2 rows i j = some c → ∀ n, n ∈ C.names c → n ∈ C.namesLL rows
  | [], i, j, c, h, n, hn => by simp [at2] at h
  | x :: cs, 0, j, c, h, n, hn => by
    have h : x[j]? = some c := by simpa [at2] using h
    simp [C.namesLL, namesL_get h n hn]
  | x :: cs, i + 1, j, c, h, n, hn => by
    have := namesLL_get (rows := cs) (i := i) (j := j) (c := c) (by simpa [at2] using h) n hn
    simp [C.namesLL, this]

theorem RepC.names {A A' : Nat → Prop} {v : Value} (h : RepC w γ A c v) (hA : ∀ n, n ∈ C.names c → A n → A' n) : RepC w γ A' c v := by
  induction h with
  | d h => exact .d h
  | o h ha hl hv => exact .o h (hA _ (by simp [C.names]) ha) hl hv
  | nils e sz => exact .nils e sz
  | enn sz p cap => exact .enn sz p cap
  | ref hn => exact .ref (hA _ (by simp [C.names]) hn)
  | elt h => exact .elt h
  | cl fs cs hf hc h1 h2 ih1 ih2 =>
    exact .cl fs cs hf hc (fun i c hi => ih1 i c hi fun n hn => hA n (by simp [C.names, namesL_get hi n hn])) (fun i c hi => ih2 i c hi fun n hn => hA n (by simp [C.names, namesL_get hi n hn]))
  | csl val hlen hcell hrep ih => exact .csl val hlen hcell fun i j c hc => ih i j c hc fun n hn => hA n (by simp [C.names, namesLL_get hc n hn])
  | celt val hcell hrep ih => exact .celt val hcell fun j c hc => ih j c hc fun n hn => hA n (by simp [C.names, namesL_get hc n hn])
  | map hn => exact .map (hA _ (by simp [C.names]) hn)
  | yl hn => exact .yl (hA _ (by simp [C.names]) hn)
  | nilf => exact .nilf
  | agg vs hs h ih => exact .agg vs hs fun i c hi => ih i c hi fun n hn => hA n (by simp [C.names, namesL_get hi n hn])
  | tup vs hs h ih => exact .tup vs hs fun i c hi => ih i c hi fun n hn => hA n (by simp [C.names, namesL_get hi n hn])
  | undef v => exact .undef v

theorem maskS_get (R : List Nat) (σ : St) (n : Nat) : (maskS R σ)[n]? = (σ[n]?).map fun o => if R.contains n then o else none := by
  unfold maskS
  rw [List.getElem?_map, List.getElem?_zipIdx]
  cases σ[n]? <;> simp
theorem maskS_len (R : List Nat) (σ : St) : (maskS R σ).length = σ.length := by simp [maskS]

theorem maskS_some {R : List Nat} {σ : St} {n : Nat} {b : Ob} : (maskS R σ)[n]? = some (some b) ↔ σ[n]? = some (some b) ∧ n ∈ R := by
  rw [maskS_get]
  cases h : σ[n]? with
  | none => simp
  | some o =>
    by_cases hr : n ∈ R
    · simp [hr]
    · simp [hr]

/-- The objects of R alone. -/
theorem Inv.mask {view σ' : St} {R : List Nat} (h : Inv w γ σ') (hsub : ∀ (n : Nat) (b : Ob), view[n]? = some (some b) → σ'[n]? = some (some b)) (hR : reachOk view R = true) :
    Inv w γ (maskS R view) ∧ ∀ n, n ∈ R → Fil (maskS R view) n := by
  have hR' : ∀ n, n ∈ R → ∃ b, view[n]? = some (some b) ∧ ∀ m, m ∈ b.names → m ∈ R := by
    intro n hn
    simp only [reachOk, List.all_eq_true] at hR
    have := hR n hn
    split at this
    · rename_i b hb
      exact ⟨b, hb, fun m hm => by simpa using List.all_eq_true.1 this m hm⟩
    · cases this
  have hm : ∀ n, n ∈ R → Fil (maskS R view) n := fun n hn => by
    obtain ⟨b, hb, _⟩ := hR' n hn
    exact ⟨b, maskS_some.2 ⟨hb, hn⟩⟩
  refine ⟨⟨fun n b hb => ?_, fun n m b c g hb hc => h.apart n m b c g (hsub _ _ (maskS_some.1 hb).1) (hsub _ _ (maskS_some.1 hc).1), h.lt⟩, hm⟩
  obtain ⟨hv, hn⟩ := maskS_some.1 hb
  have ho := h.ob n b (hsub n b hv)
  have hnm : ∀ m, m ∈ b.names → m ∈ R := by
    intro m hm
    obtain ⟨b', hb', h'⟩ := hR' n hn
    rw [hv] at hb'
    simp only [Option.some.injEq] at hb'
    subst hb'
    exact h' m hm
  have hlow : ∀ m, m ∈ b.names → Low (Fil σ') n m → Low (Fil (maskS R view)) n m := fun m hm' hl => ⟨hl.1, hm m (hnm m hm')⟩
  cases b with
  | box t cs =>
    obtain ⟨h0, vs, hh, h1, h2, h3⟩ := ho
    exact ⟨h0, vs, hh, h1, fun i c hc => (h2 i c hc).names fun m hm' => hlow m (by simp only [Ob.names]; exact namesL_get hc m hm'), h3⟩
  | map es =>
    obtain ⟨h0, ms, ck, hh, h1, hst, h2⟩ := ho
    exact ⟨h0, ms, ck, hh, h1, hst, fun i k c hc => ⟨(h2 i k c hc).1, (h2 i k c hc).2.names fun m hm' => hlow m (by
      simp only [Ob.names, List.mem_flatMap]
      exact ⟨_, List.mem_of_getElem? hc, hm'⟩)⟩⟩
  | tok e sz len => exact ho
  | loop T ps asg body st =>
    obtain ⟨h0, r, hh, h1, h2, h3, h4, h5, h6⟩ := ho
    exact ⟨h0, r, hh, h1, h2, h3, h4, fun i c hc => (h5 i c hc).names fun m hm' => hlow m (by simp only [Ob.names]; exact namesL_get hc m hm'), h6⟩
  | siter s pos => exact ho
  | ntok e sz => exact ho

end
end Go.Av

set_option linter.unusedVariables false
set_option linter.unusedSimpArgs false
namespace Go.Av
open Go.RowKit
variable [TheProg]
set_option linter.unusedSectionVars false

def noCall : AOp → Bool
  | .call _ _ => false
  | _ => true

theorem ev1_eq {F : CallF} {lo : Nat} {T : List C} {σ : St} {p : AOp} (h : noCall p = true) : ev1 F lo T σ p = evOp lo T σ p := by
  cases p <;> first
    | rfl
    | (simp [noCall] at h)

theorem ev1_congr {F : CallF} {lo : Nat} {T T' : List C} {σ : St} {p : AOp} (h : ∀ t, t ∈ opT p → T'.getD t .undef = T.getD t .undef) : ev1 F lo T' σ p = ev1 F lo T σ p := by
  by_cases hc : noCall p = true
  · rw [ev1_eq hc, ev1_eq hc]; exact evOp_congr h
  · obtain ⟨f, args, rfl⟩ : ∃ f args, p = .call f args := by
      cases p <;> first
        | exact ⟨_, _, rfl⟩
        | exact absurd rfl hc
    simp only [opT, List.mem_append] at h
    simp only [ev1]
    rw [evO_congr (x := f) fun t ht => h t (.inl ht), map_congrT (xs := args) fun t ht => h t (.inr ht)]

def writes (p : AOp) : Bool := !pureOp p && !loadOp p

theorem ev1_nowrite {F : CallF} {lo : Nat} {T : List C} {σ σ' : St} {p : AOp} {c : C} (h : writes p = false) (he : ev1 F lo T σ p = some (c, σ')) : σ' = σ := by
  have hn : noCall p = true := by
    cases p <;> first
      | rfl
      | (simp [writes, pureOp, loadOp] at h)
  rw [ev1_eq hn] at he
  refine quiet_store (n0 := .all lo) he ?_
  cases p <;> first
    | rfl
    | (simp [writes, pureOp, loadOp] at h)

/-- What came of each operation. -/
structure Trace (F : CallF) (lo : Nat) (qs : List AOper) (Ts : Nat → List C) (σs : Nat → St) (cs : Nat → C) : Prop where
  step : ∀ (i : Nat) (q : AOper), qs[i]? = some q → Ts (i + 1) = setT (Ts i) q.dst (cs i) ∧
    ((∃ g want, q.guard = some (g, want) ∧ gdec (Ts i) g want = some false ∧ cs i = nwC ∧ σs (i + 1) = σs i) ∨
     ((q.guard = none ∨ ∃ g want, q.guard = some (g, want) ∧ gdec (Ts i) g want = some true) ∧ ev1 F lo (Ts i) (σs i) q.op = some (cs i, σs (i + 1))))

theorem evR_trace {F : CallF} {lo : Nat} : ∀ {qs : List AOper} {T T' : List C} {σ σ' : St}, evR F lo qs T σ = some (T', σ') →
    ∃ (Ts : Nat → List C) (σs : Nat → St) (cs : Nat → C), Ts 0 = T ∧ σs 0 = σ ∧ Ts qs.length = T' ∧ σs qs.length = σ' ∧ Trace F lo qs Ts σs cs
  | [], T, T', σ, σ', h => by
    simp only [evR, Option.some.injEq, Prod.mk.injEq] at h
    exact ⟨fun _ => T, fun _ => σ, fun _ => .undef, rfl, rfl, h.1, h.2, ⟨fun i q hq => by simp at hq⟩⟩
  | q :: qs, T, T', σ, σ', h => by
    have next : ∀ (c : C) (σ1 : St), evR F lo qs (setT T q.dst c) σ1 = some (T', σ') →
        ((∃ g want, q.guard = some (g, want) ∧ gdec T g want = some false ∧ c = nwC ∧ σ1 = σ) ∨
         ((q.guard = none ∨ ∃ g want, q.guard = some (g, want) ∧ gdec T g want = some true) ∧ ev1 F lo T σ q.op = some (c, σ1))) →
        ∃ (Ts : Nat → List C) (σs : Nat → St) (cs : Nat → C), Ts 0 = T ∧ σs 0 = σ ∧ Ts (q :: qs).length = T' ∧ σs (q :: qs).length = σ' ∧ Trace F lo (q :: qs) Ts σs cs := by
      intro c σ1 hr hc
      obtain ⟨Ts, σs, cs, h1, h2, h3, h4, h5⟩ := evR_trace hr
      refine ⟨fun | 0 => T | i + 1 => Ts i, fun | 0 => σ | i + 1 => σs i, fun | 0 => c | i + 1 => cs i, rfl, rfl, h3, h4, ⟨fun i q' hq' => ?_⟩⟩
      cases i with
      | zero =>
        simp at hq'; subst hq'
        simp only [h1, h2, true_and]
        exact hc
      | succ i => exact h5.step i q' (by simpa using hq')
    simp only [evR] at h
    split at h
    · rename_i hg
      split at h
      · rename_i c σ1 he; exact next c σ1 h (.inr ⟨.inl hg, he⟩)
      · cases h
    · rename_i g want hg
      split at h
      · rename_i hb
        split at h
        · rename_i c σ1 he; exact next c σ1 h (.inr ⟨.inr ⟨g, _, hg, hb⟩, he⟩)
        · cases h
      · rename_i hb
        exact next _ _ h (.inl ⟨g, want, hg, hb, rfl, rfl⟩)
      · cases h

def gQ (qs : List AOper) (cs : Nat → C) (k : Nat) : Option (Nat × C) := (qs[k]?).bind fun q => q.dst.map (·, cs k)

theorem trace_upd {F : CallF} {lo : Nat} {qs : List AOper} {Ts : Nat → List C} {σs : Nat → St} {cs : Nat → C} (tr : Trace F lo qs Ts σs cs) : ∀ n, n ≤ qs.length → Upd (gQ qs cs) (· < n) (Ts 0) (Ts n)
  | 0, _ => Upd.nil.congr (fun k => ⟨fun h => h.elim, fun h => absurd h (Nat.not_lt_zero k)⟩) (fun _ _ => rfl)
  | n + 1, h => by
    have ih := trace_upd tr n (by omega)
    have hq : qs[n]? = some qs[n] := List.getElem?_eq_getElem (by omega)
    obtain ⟨h1, _⟩ := tr.step n _ hq
    have hg : gQ qs cs n = (qs[n]).dst.map (·, cs n) := by simp [gQ, hq]
    rw [h1, setT_put, ← hg]
    refine (ih.add fun k m x x' hk hlt => ?_).congr (fun k => ?_) (fun _ _ => rfl)
    · omega
    · constructor
      · rintro (h | h) <;> omega
      · intro h; rcases Nat.lt_or_ge k n with h' | h'
        · exact .inl h'
        · exact .inr (by omega)

theorem trace_same {F : CallF} {lo : Nat} {qs : List AOper} {Ts : Nat → List C} {σs : Nat → St} {cs : Nat → C} (tr : Trace F lo qs Ts σs cs) {n : Nat} : ∀ (m : Nat), n ≤ m → m ≤ qs.length → (∀ (i : Nat) (q : AOper), n ≤ i → i < m → qs[i]? = some q → writes q.op = false) → σs m = σs n
  | 0, h, _, _ => by have : n = 0 := by omega
                     subst this; rfl
  | m + 1, h, hm, hw => by
    rcases Nat.lt_or_ge m n with h' | h'
    · have : n = m + 1 := by omega
      subst this; rfl
    · rw [← trace_same tr m h' (by omega) (fun i q h1 h2 => hw i q h1 (by omega))]
      have hq : qs[m]? = some qs[m] := List.getElem?_eq_getElem (by omega)
      obtain ⟨_, h2⟩ := tr.step m _ hq
      rcases h2 with ⟨_, _, _, _, _, h2⟩ | ⟨_, h2⟩
      · exact h2
      · exact ev1_nowrite (hw m _ h' (by omega) hq) h2

theorem seqOk_spec {qs : List DOp} (h : seqOk qs = true) {i j : Nat} {p q : DOp} (hi : qs[i]? = some p) (hj : qs[j]? = some q) (hlt : i < j) : befG qs j i = true ∨ mindless p.op.op q.op.op = true := by
  simp only [seqOk, List.all_eq_true, List.mem_range] at h
  have hjl := (List.getElem?_eq_some_iff.1 hj).1
  have := h j hjl
  rw [hj] at this
  simp only [List.all_eq_true, List.mem_range, Bool.or_eq_true] at this
  have := this i hlt
  rw [hi] at this
  simp only [befG, hj, Option.map_some, Option.getD_some]
  exact this

section
variable {P : Program} {B : Nat} {n0 : Fr} {o : Oper} {a : Act} {w w0 : World} {γ γ0 : G} {σ σ' : St} {c : C} {T : List C} {N : Nat} {ops : Array Oper} {ds : List DOp} {qs : List AOper}
  {F : CallF} {Ts : Nat → List C} {σs : Nat → St} {cs : Nat → C}

def JQ (B : Nat) (n0 : Fr) (w0 : World) (γ0 : G) (qs : List AOper) (Ts : Nat → List C) (σs : Nat → St) (cs : Nat → C) (ℓ : Nat → Prop) : Act → World → Prop :=
  At B n0 w0 γ0 fun T' σ' => Upd (gQ qs cs) ℓ (Ts 0) T' ∧ ∃ n, n ≤ qs.length ∧ (∀ (k : Nat) (q : AOper), qs[k]? = some q → writes q.op = true → (k < n ↔ ℓ k)) ∧ σ' = σs n

theorem stepQ {ro : Option Nat} {ℓ : Nat → Prop} {i : Nat} (hF : FOk P F) (hlink : ∀ (i : Nat) (o : Oper), ops[i]? = some o → ∃ q : DOp, ds[i]? = some q ∧ linkOper P ops o = some q.op) (hds : ∀ (i : Nat) (q : DOp), ds[i]? = some q → qs[i]? = some q.op) (hlen : ds.length = qs.length)
    (spec : DSpec ops ds N) (hseq : seqOk ds = true) (tr : Trace F n0.lo qs Ts σs cs)
    (hb : ∀ k, ℓ k → k < ds.length) (hcl : ∀ k j, ℓ k → befG ds k j = true → ℓ j) (hi : ¬ ℓ i) (hbi : ∀ j, befG ds i j = true → ℓ j) (ho : ops[i]? = some o)
    (hJ : JQ B n0 w0 γ0 qs Ts σs cs ℓ a w) {Q : Exit → Act → World → Prop} :
    wpOpIn (Fo ro) 0 P ops Q i (JQ B n0 w0 γ0 qs Ts σs cs fun k => ℓ k ∨ k = i) a w := by
  obtain ⟨q, hq, hlq⟩ := hlink i o ho
  have hqi := hds i q hq
  have hil : i < ds.length := (List.getElem?_eq_some_iff.1 hq).1
  obtain ⟨T', σ', γ, hd, hf, hs, hT, hUT, n, hn, hnW, rfl⟩ := hJ
  obtain ⟨hl, hqd, _⟩ := linkOper_spec hlq
  obtain ⟨hw1, hw2⟩ := wanted_of hlq hT
  obtain ⟨hTi1, hcase⟩ := tr.step i _ hqi
  have hTi := trace_upd tr i (by omega)
  have dsq : ∀ (k : Nat) (q' : AOper), qs[k]? = some q' → ∃ r, ds[k]? = some r ∧ r.op = q' := fun k q' hk => by
    have hk' : k < ds.length := by rw [hlen]; exact (List.getElem?_eq_some_iff.1 hk).1
    have := hds k _ (List.getElem?_eq_getElem hk')
    rw [hk] at this
    exact ⟨_, List.getElem?_eq_getElem hk', (Option.some.inj this).symm⟩
  have hgi : gQ qs cs i = q.op.dst.map (·, cs i) := by simp [gQ, hqi]
  -- the temporaries that it looks at
  have hlook : ∀ t, t ∈ lookT q.op → T'.getD t .undef = (Ts i).getD t .undef := by
    intro t ht
    by_cases htl : t < (Ts 0).length
    · have := hUT.agree hTi hb htl fun k x hk => by
        unfold gQ at hk
        obtain ⟨e', h1, h2⟩ := Option.bind_eq_some_iff.1 hk
        obtain ⟨t', h3, h4⟩ := Option.map_eq_some_iff.1 h2
        simp only [Prod.mk.injEq] at h4
        obtain ⟨rfl, rfl⟩ := h4
        obtain ⟨r, hr, hrd⟩ := dsq k e' h1
        by_cases hki : i = k
        · subst hki; exact ⟨fun h => absurd h hi, fun h => absurd h (Nat.lt_irrefl _)⟩
        · have := (spec.tmp i k q r t' hq hr hki (by rw [hrd]; exact h3)).1 ht
          split at this
          · rename_i hlt; exact ⟨fun _ => hlt, fun _ => hbi k this⟩
          · rename_i hge; exact ⟨fun h => absurd (hcl k i h this) hi, fun h => absurd h hge⟩
      simp only [List.getD_eq_getElem?_getD, this]
    · simp only [List.getD_eq_getElem?_getD]
      rw [List.getElem?_eq_none (by rw [hUT.1]; omega), List.getElem?_eq_none (by rw [hTi.1]; omega)]
  have haddT : Upd (gQ qs cs) (fun k => ℓ k ∨ k = i) (Ts 0) (setT T' q.op.dst (cs i)) := by
    rw [setT_put, ← hgi]
    refine hUT.add fun k m x x' hk hlt hgi' hgk => ?_
    rw [hgi] at hgi'
    obtain ⟨t', h3, h4⟩ := Option.map_eq_some_iff.1 hgi'
    simp only [Prod.mk.injEq] at h4
    obtain ⟨rfl, rfl⟩ := h4
    unfold gQ at hgk
    obtain ⟨e', h1, h2⟩ := Option.bind_eq_some_iff.1 hgk
    obtain ⟨t2, h5, h6⟩ := Option.map_eq_some_iff.1 h2
    simp only [Prod.mk.injEq] at h6
    obtain ⟨rfl, rfl⟩ := h6
    obtain ⟨r, hr, hrd⟩ := dsq k e' h1
    exact (spec.tmp i k q r t2 hq hr (by omega) (by rw [hrd]; exact h5)).2 h3
  -- those that write
  have hpos : pureOp q.op.op = false → ∀ (k : Nat) (q' : AOper), qs[k]? = some q' → writes q'.op = true → (k < i ↔ ℓ k) := by
    intro hp k q' hk hwk
    obtain ⟨r, hr, rfl⟩ := dsq k q' hk
    have hml : mindless r.op.op q.op.op = false ∧ mindless q.op.op r.op.op = false := by
      simp only [writes, Bool.and_eq_true, Bool.not_eq_true'] at hwk
      simp [mindless, hp, hwk.1, hwk.2]
    constructor
    · intro hlt
      rcases seqOk_spec hseq hr hq hlt with h | h
      · exact hbi k h
      · rw [hml.1] at h; cases h
    · intro hℓ
      rcases Nat.lt_trichotomy k i with h | h | h
      · exact h
      · exact absurd (h ▸ hℓ) hi
      · rcases seqOk_spec hseq hq hr h with h' | h'
        · exact absurd (hcl k i hℓ h') hi
        · rw [hml.2] at h'; cases h'
  have hσ : pureOp q.op.op = false → σs n = σs i := by
    intro hp
    have hpos := hpos hp
    rcases Nat.le_total n i with h | h
    · refine (trace_same tr i h (by omega) fun k q' h1 h2 hk => ?_).symm
      cases hwk : writes q'.op with
      | false => rfl
      | true =>
        have := (hnW k q' hk hwk).2 ((hpos k q' hk hwk).1 h2)
        omega
    · refine trace_same tr n h hn fun k q' h1 h2 hk => ?_
      cases hwk : writes q'.op with
      | false => rfl
      | true =>
        have := (hpos k q' hk hwk).2 ((hnW k q' hk hwk).1 h2)
        omega
  unfold wpOpIn
  rw [ho]
  simp only []
  rcases hcase with ⟨g, want, hg, hgb, hc, hσ1⟩ | ⟨hgd, hev⟩
  · have hb' : gdec T' g want = some false := by unfold gdec; rw [hlook g (by simp [lookT, hg])]; exact hgb
    have hnw := hw2 g want _ hg hb'
    rw [if_neg (by rw [hnw]; simp)]
    refine ⟨fun _ _ => trivial, _, _, γ, by rw [put_defers]; exact hd, hf, hs, undef_put hT o.dst, by rw [← hqd, ← hc]; exact haddT, ?_⟩
    by_cases hp : pureOp q.op.op = true
    · refine ⟨n, hn, fun k q' hk hwk => ?_, rfl⟩
      show k < n ↔ (ℓ k ∨ k = i)
      rw [hnW k q' hk hwk]
      constructor
      · exact .inl
      · rintro (h | rfl)
        · exact h
        · rw [hqi] at hk
          simp only [Option.some.injEq] at hk
          subst hk
          simp [writes, hp] at hwk
    · have hp : pureOp q.op.op = false := by simpa using hp
      refine ⟨i + 1, by omega, fun k q' hk hwk => ?_, by rw [hσ hp, hσ1]⟩
      show k < i + 1 ↔ (ℓ k ∨ k = i)
      rw [← hpos hp k q' hk hwk]
      omega
  · have hwant : Region.wanted o (yielded ops a.tmps) = true := by
      rcases hgd with hg | ⟨g, want, hg, hgb⟩
      · exact hw1 hg
      · exact hw2 g want _ hg (by unfold gdec; rw [hlook g (by simp [lookT, hg])]; exact hgb)
    rw [if_pos hwant]
    have hlook' : ∀ t, t ∈ opT q.op.op → T'.getD t .undef = (Ts i).getD t .undef := fun t ht => hlook t (List.mem_append.2 (.inl ht))
    by_cases hp : pureOp q.op.op = true
    · have hnc : noCall q.op.op = true := by
        generalize q.op.op = p at hp
        cases p <;> first
          | rfl
          | (simp [pureOp] at hp; done)
      have he : evOp n0.lo (Ts i) (σs i) q.op.op = some (cs i, σs (i + 1)) := by rw [← ev1_eq hnc]; exact hev
      have he' : evOp n0.lo T' (σs n) q.op.op = some (cs i, σs n) := by
        rw [evOp_congr hlook', evOp_pure hp]
        rw [evOp_pure hp] at he
        obtain ⟨r, h1, h2⟩ := Option.map_eq_some_iff.1 he
        simp only [Prod.mk.injEq] at h2
        rw [h1, Option.map_some, h2.1]
      have := wpO_sound (ro := ro) (P := P) (B := B) (w0 := w0) (γ0 := γ0) (o := o) (K := fun T'' σ'' => T'' = setT T' q.op.dst (cs i) ∧ σ'' = σs n) hl (wpO_of_ev1 (F := F) hF ((ev1_eq hnc).trans he') ⟨by rw [hqd], rfl⟩) hd hf hs hT (Q := Q)
      refine Oper.wpIn_mono ?_ this
      rintro a' w' ⟨T2, σ2, γ2, h1, h2, h3, h4, rfl, rfl⟩
      refine ⟨_, _, γ2, h1, h2, h3, h4, haddT, n, hn, fun k q' hk hwk => ?_, rfl⟩
      show k < n ↔ (ℓ k ∨ k = i)
      rw [hnW k q' hk hwk]
      constructor
      · exact .inl
      · rintro (h | rfl)
        · exact h
        · rw [hqi] at hk
          simp only [Option.some.injEq] at hk
          subst hk
          simp [writes, hp] at hwk
    · have hp : pureOp q.op.op = false := by simpa using hp
      rw [hσ hp] at hs hT
      have hev' : ev1 F n0.lo T' (σs i) q.op.op = some (cs i, σs (i + 1)) := by rw [ev1_congr hlook']; exact hev
      have := wpO_sound (ro := ro) (P := P) (B := B) (w0 := w0) (γ0 := γ0) (o := o) (K := fun T'' σ'' => T'' = setT T' q.op.dst (cs i) ∧ σ'' = σs (i + 1)) hl (wpO_of_ev1 (F := F) hF hev' ⟨by rw [hqd], rfl⟩) hd hf hs hT (Q := Q)
      refine Oper.wpIn_mono ?_ this
      rintro a' w' ⟨T2, σ2, γ2, h1, h2, h3, h4, rfl, rfl⟩
      refine ⟨_, _, γ2, h1, h2, h3, h4, haddT, i + 1, by omega, fun k q' hk hwk => ?_, rfl⟩
      show k < i + 1 ↔ (ℓ k ∨ k = i)
      rw [← hpos hp k q' hk hwk]
      omega

/-- Such a region. -/
theorem wpQ_sound (hmix : P.follows .mixedOrders = true) (hF : FOk P F) {T' : List C} {Q : AEx → List C → St → Prop} (h : evR F n0.lo qs T σ = some (T', σ')) (hQ : Q .normal T' σ') : TrA P n0 (.region true qs) T σ Q := by
  intro c hc ro B w γ a hro hd hs hT
  cases c with
  | region id ops dr =>
    simp only [linkC] at hc
    split at hc
    · rename_i hdr
      obtain rfl : dr = true := hdr
      obtain ⟨qs', hq, h1⟩ := Option.bind_eq_some_iff.1 hc
      obtain ⟨N, ds, hac, hok, hds, hlen, hlink⟩ := linkDraw_spec hq h1
      rcases hac with ⟨hac, hseq⟩ | ⟨hac, _⟩ | hac
      · simp only [ACode.region.injEq, true_and] at hac
        subst hac
        have spec := dOk_spec hok
        obtain ⟨Ts, σs, cs, t1, t2, t3, t4, tr⟩ := evR_trace h
        obtain ⟨d1, d2, d3⟩ := sat_drew hs
        refine wpIn_region_any hmix ?_
        have congrJ : ∀ {ℓ ℓ' : Nat → Prop} {a : Act} {w1 : World}, (∀ k, ℓ k ↔ ℓ' k) → JQ B n0 w γ qs Ts σs cs ℓ a w1 → JQ B n0 w γ qs Ts σs cs ℓ' a w1 := by
          rintro ℓ ℓ' a w1 h ⟨T', σ', γ, h1, h2, h3, h4, h5, n, h6, h7, h8⟩
          exact ⟨T', σ', γ, h1, h2, h3, h4, h5.congr h fun _ _ => rfl, n, h6, fun k q hk hw => (h7 k q hk hw).trans (h k), h8⟩
        have hsize : ops.size = qs.length := by rw [← hlen, spec.len]
        have hfalse : ∀ k, (Array.replicate ops.size false).getD k false = false := by
          intro k
          rcases Nat.lt_or_ge k ops.size with h' | h'
          · simp [Array.getD_eq_getD_getElem?, h']
          · simp [Array.getD_eq_getD_getElem?, h']
        refine anyJ (ro := ro) (P := P) (J := JQ B n0 w γ qs Ts σs cs) spec congrJ (fun h1 h2 h3 h4 h5 h6 => stepQ hF hlink hds hlen spec hseq tr h1 h2 h3 h4 h5 h6) (fun a w1 hJ => ?_) ops.size _ a _ (by simp) ?_ (fun k j hk => by rw [hfalse] at hk; cases hk) ?_
        · obtain ⟨T1, σ1, γ1, h1, h2, h3, h4, h5, n, h6, h7, rfl⟩ := hJ
          have e1 : T1 = T' := by
            rw [← t3]
            rw [hsize] at h5
            exact h5.uniq (trace_upd tr qs.length (Nat.le_refl _)) (n := qs.length) fun _ h => h
          have e2 : σs n = σ' := by
            rw [← t4]
            refine (trace_same tr qs.length h6 (Nat.le_refl _) fun k q h1 h2 hk => ?_).symm
            cases hwk : writes q.op with
            | false => rfl
            | true => have := (h7 k q hk hwk).2 (by omega); omega
          exact ⟨.normal, T1, σs n, γ1, rfl, h1, h2, h3, h4, by rw [e1, e2]; exact hQ⟩
        · rw [unl_same (f := fun _ => false) fun j _ => hfalse j]
          exact unl_all
        · have hno : ∀ k, ¬ (Array.replicate ops.size false).getD k false = true := fun k h => by rw [hfalse] at h; cases h
          refine ⟨T, σ, γ, hd.step d2, d2, d1, hT.ext d3, ⟨by rw [t1], fun m hm => ⟨fun _ => by rw [t1], fun k x hk => absurd hk (hno k)⟩⟩, 0, Nat.zero_le _, fun k q _ _ => ⟨fun h => absurd h (Nat.not_lt_zero k), fun h => absurd h (hno k)⟩, t2.symm⟩
      · cases hac
      · cases hac
    · obtain ⟨_, _, h⟩ := Option.map_eq_some_iff.1 hc; cases h
  | _ => first
    | (simp [linkC] at hc; done)
    | (simp only [linkC] at hc; revert hc; repeat' split
       all_goals (simp; done))
    | (simp only [linkC] at hc; obtain ⟨_, _, h⟩ := Option.map_eq_some_iff.1 hc; cases h)

end
end Go.Av

set_option linter.unusedVariables false
set_option linter.unusedSimpArgs false
namespace Go.Av
open Go.RowKit
variable [TheProg]
set_option linter.unusedSectionVars false

def Wanted (T : List C) (o : AOper) : Prop := o.guard = none ∨ ∃ g want, o.guard = some (g, want) ∧ gdec T g want = some true

theorem stab_eq {σ : St} {agg : Bool} {n : Nat} {a c : C} (h : stab σ agg n a c = true) : loadC σ agg n a = some c := by
  unfold stab at h
  split at h
  · rename_i c' hc; rw [hc, C.same_eq h]
  · cases h

theorem chkL_get {agg : Bool} {n : Nat} {a c : C} : ∀ {W : List WLog} {bs : List Bool} {k : Nat} {σ : St}, chkL agg n a c W bs = true → W[k]? = some (.wr σ) → bs.getD k false = false → stab σ agg n a c = true
  | [], bs, k, σ, h, hk, hb => by simp at hk
  | x :: W, [], k, σ, h, hk, hb => by simp [chkL] at h
  | x :: W, b :: bs, 0, σ, h, hk, hb => by
    simp only [List.getElem?_cons_zero, Option.some.injEq] at hk
    subst hk
    simp only [List.getD_cons_zero] at hb
    subst hb
    simp only [chkL, Bool.false_or, Bool.and_eq_true] at h
    exact h.1
  | x :: W, b :: bs, k + 1, σ, h, hk, hb => by
    simp only [List.getElem?_cons_succ] at hk
    simp only [List.getD_cons_succ] at hb
    have h' : chkL agg n a c W bs = true := by
      cases x <;> simp only [chkL, Bool.and_eq_true] at h <;> first
        | exact h
        | exact h.2
    exact chkL_get h' hk hb

theorem chkS_get {σ : St} : ∀ {W : List WLog} {bs : List Bool} {k : Nat} {agg : Bool} {n : Nat} {a c : C}, chkS σ W bs = true → W[k]? = some (.ld agg n a c) → bs.getD k false = false → stab σ agg n a c = true
  | [], bs, k, _, _, _, _, h, hk, hb => by simp at hk
  | x :: W, [], k, _, _, _, _, h, hk, hb => by simp [chkS] at h
  | x :: W, b :: bs, 0, _, _, _, _, h, hk, hb => by
    simp only [List.getElem?_cons_zero, Option.some.injEq] at hk
    subst hk
    simp only [List.getD_cons_zero] at hb
    subst hb
    simp only [chkS, Bool.false_or, Bool.and_eq_true] at h
    exact h.1
  | x :: W, b :: bs, k + 1, _, _, _, _, h, hk, hb => by
    simp only [List.getElem?_cons_succ] at hk
    simp only [List.getD_cons_succ] at hb
    have h' : chkS σ W bs = true := by
      cases x <;> simp only [chkS, Bool.and_eq_true] at h <;> first
        | exact h
        | exact h.2
    exact chkS_get h' hk hb

theorem logW_wr {T : List C} {σ : St} {p : AOp} {c : C} (h : writes p = true) : logW T σ p c = .wr σ := by
  have h' : writesW p = true := h
  unfold logW
  split
  · simp [writes, pureOp, loadOp] at h
  · rw [if_pos h']

theorem chkW_wr {W : List WLog} {bef : List Bool} {T : List C} {p : AOp} {c : C} {σ : St} (h : writes p = true) : chkW W bef T p c σ = chkS σ W bef := by
  have h' : writesW p = true := h
  unfold chkW
  split
  · simp [writes, pureOp, loadOp] at h
  · rw [if_pos h']

/-- What came of each operation, and what was looked at again. -/
structure TraceL (F : CallF) (lo : Nat) (W : List WLog) (ds : List DOp) (Ts : Nat → List C) (σs : Nat → St) (cs : Nat → C) (Ls : List WLog) : Prop where
  tr : Trace F lo (ds.map (·.op)) Ts σs cs
  len : Ls.length = ds.length
  log : ∀ (i : Nat) (q : DOp), ds[i]? = some q → Wanted (Ts i) q.op → Ls[i]? = some (logW (Ts i) (σs i) q.op.op (cs i)) ∧ chkW (W ++ Ls.take i) q.bef (Ts i) q.op.op (cs i) (σs (i + 1)) = true

theorem evW_trace {F : CallF} {lo : Nat} : ∀ {qs : List DOp} {W : List WLog} {T T' : List C} {σ σ' : St}, evW F lo qs W T σ = some (T', σ') →
    ∃ (Ts : Nat → List C) (σs : Nat → St) (cs : Nat → C) (Ls : List WLog), Ts 0 = T ∧ σs 0 = σ ∧ Ts qs.length = T' ∧ σs qs.length = σ' ∧ TraceL F lo W qs Ts σs cs Ls
  | [], W, T, T', σ, σ', h => by
    simp only [evW, Option.some.injEq, Prod.mk.injEq] at h
    exact ⟨fun _ => T, fun _ => σ, fun _ => .undef, [], rfl, rfl, h.1, h.2, ⟨⟨fun i q hq => by simp at hq⟩, rfl, fun i q hq => by simp at hq⟩⟩
  | q :: qs, W, T, T', σ, σ', h => by
    have next : ∀ (c : C) (σ1 : St) (l : WLog), evW F lo qs (W ++ [l]) (setT T q.op.dst c) σ1 = some (T', σ') →
        ((∃ g want, q.op.guard = some (g, want) ∧ gdec T g want = some false ∧ c = nwC ∧ σ1 = σ) ∨
         ((q.op.guard = none ∨ ∃ g want, q.op.guard = some (g, want) ∧ gdec T g want = some true) ∧ ev1 F lo T σ q.op.op = some (c, σ1) ∧ l = logW T σ q.op.op c ∧ chkW W q.bef T q.op.op c σ1 = true)) →
        ∃ (Ts : Nat → List C) (σs : Nat → St) (cs : Nat → C) (Ls : List WLog), Ts 0 = T ∧ σs 0 = σ ∧ Ts (q :: qs).length = T' ∧ σs (q :: qs).length = σ' ∧ TraceL F lo W (q :: qs) Ts σs cs Ls := by
      intro c σ1 l hr hc
      obtain ⟨Ts, σs, cs, Ls, h1, h2, h3, h4, h5⟩ := evW_trace hr
      refine ⟨fun | 0 => T | i + 1 => Ts i, fun | 0 => σ | i + 1 => σs i, fun | 0 => c | i + 1 => cs i, l :: Ls, rfl, rfl, h3, h4, ⟨⟨fun i q' hq' => ?_⟩, by simp [h5.len], fun i q' hq' hw => ?_⟩⟩
      · cases i with
        | zero =>
          simp at hq'; subst hq'
          simp only [h1, h2, true_and]
          rcases hc with hc | ⟨hc1, hc2, _⟩
          · exact .inl hc
          · exact .inr ⟨hc1, hc2⟩
        | succ i => exact h5.tr.step i q' (by simpa using hq')
      · cases i with
        | zero =>
          simp at hq'; subst hq'
          simp only [List.getElem?_cons_zero, List.take_zero, List.append_nil, h1, h2]
          rcases hc with ⟨g, want, e1, e2, _⟩ | ⟨hc1, hc2, hc3, hc4⟩
          · exfalso
            rcases hw with hw | ⟨g', want', e3, e4⟩
            · rw [hw] at e1; cases e1
            · rw [e1] at e3
              simp only [Option.some.injEq, Prod.mk.injEq] at e3
              obtain ⟨rfl, rfl⟩ := e3
              rw [e2] at e4; cases e4
          · exact ⟨by rw [hc3], hc4⟩
        | succ i =>
          have := h5.log i q' (by simpa using hq') hw
          simpa [List.append_assoc] using this
    simp only [evW] at h
    split at h
    · rename_i hg
      split at h
      · rename_i c σ1 he
        split at h
        · rename_i hk; exact next c σ1 _ h (.inr ⟨.inl hg, he, rfl, hk⟩)
        · cases h
      · cases h
    · rename_i g want hg
      split at h
      · rename_i hb
        split at h
        · rename_i c σ1 he
          split at h
          · rename_i hk; exact next c σ1 _ h (.inr ⟨.inr ⟨g, _, hg, hb⟩, he, rfl, hk⟩)
          · cases h
        · cases h
      · rename_i hb
        exact next _ _ _ h (.inl ⟨g, want, hg, hb, rfl, rfl⟩)
      · cases h

section
variable {F : CallF} {lo : Nat} {ds : List DOp} {Ts : Nat → List C} {σs : Nat → St} {cs : Nat → C} {Ls : List WLog}

/-- Only what is wanted and writes changes the store. -/
theorem TraceL.quiet (tl : TraceL F lo [] ds Ts σs cs Ls) {k : Nat} {r : DOp} (hr : ds[k]? = some r) : (writes r.op.op = true ∧ Wanted (Ts k) r.op) ∨ σs (k + 1) = σs k := by
  obtain ⟨_, h⟩ := tl.tr.step k r.op (by simp [hr])
  rcases h with ⟨_, _, _, _, _, h⟩ | ⟨h1, h2⟩
  · exact .inr h
  · cases hw : writes r.op.op with
    | true => exact .inl ⟨rfl, h1⟩
    | false => exact .inr (ev1_nowrite hw h2)

theorem TraceL.fwd (tl : TraceL F lo [] ds Ts σs cs Ls) {i k : Nat} {q r : DOp} {agg : Bool} {n : Nat} {a : Opd} (hq : ds[i]? = some q) (hr : ds[k]? = some r) (hlt : i < k) (hld : q.op.op = .load agg n a) (hqw : Wanted (Ts i) q.op)
    (hw : writes r.op.op = true) (hrw : Wanted (Ts k) r.op) (hb : r.bef.getD i false = false) : loadC (σs (k + 1)) agg n (evO (Ts i) a) = some (cs i) := by
  obtain ⟨h1, _⟩ := tl.log i q hq hqw
  obtain ⟨_, h2⟩ := tl.log k r hr hrw
  rw [chkW_wr hw, List.nil_append] at h2
  rw [hld] at h1
  have h3 : (Ls.take k)[i]? = some (.ld agg n (evO (Ts i) a) (cs i)) := by rw [List.getElem?_take, if_pos hlt, h1]; rfl
  exact stab_eq (chkS_get h2 h3 hb)

theorem TraceL.bwd (tl : TraceL F lo [] ds Ts σs cs Ls) {i k : Nat} {q r : DOp} {agg : Bool} {n : Nat} {a : Opd} (hq : ds[i]? = some q) (hr : ds[k]? = some r) (hlt : k < i) (hld : q.op.op = .load agg n a) (hqw : Wanted (Ts i) q.op)
    (hw : writes r.op.op = true) (hrw : Wanted (Ts k) r.op) (hb : q.bef.getD k false = false) : loadC (σs k) agg n (evO (Ts i) a) = some (cs i) := by
  obtain ⟨h1, _⟩ := tl.log k r hr hrw
  obtain ⟨_, h2⟩ := tl.log i q hq hqw
  rw [logW_wr hw] at h1
  rw [hld] at h2
  have h3 : (Ls.take i)[k]? = some (.wr (σs k)) := by rw [List.getElem?_take, if_pos hlt, h1]
  rw [List.nil_append] at h2
  exact stab_eq (chkL_get h2 h3 hb)

theorem TraceL.here (tl : TraceL F lo [] ds Ts σs cs Ls) {i : Nat} {q : DOp} {agg : Bool} {n : Nat} {a : Opd} (hq : ds[i]? = some q) (hld : q.op.op = .load agg n a) (hqw : Wanted (Ts i) q.op) : loadC (σs i) agg n (evO (Ts i) a) = some (cs i) := by
  obtain ⟨_, h⟩ := tl.tr.step i q.op (by simp [hq])
  rcases h with ⟨g, want, e1, e2, _⟩ | ⟨h1, h2⟩
  · exfalso
    rcases hqw with hw | ⟨g', want', e3, e4⟩
    · rw [hw] at e1; cases e1
    · rw [e1] at e3
      simp only [Option.some.injEq, Prod.mk.injEq] at e3
      obtain ⟨rfl, rfl⟩ := e3
      rw [e2] at e4; cases e4
  · rw [hld] at h2
    simp only [ev1, evOp] at h2
    obtain ⟨c, h3, h4⟩ := Option.map_eq_some_iff.1 h2
    simp only [Prod.mk.injEq] at h4
    rw [h3, h4.1]

/-- Wherever a load may come, it finds the same. -/
theorem TraceL.ldAt (tl : TraceL F lo [] ds Ts σs cs Ls) {i : Nat} {q : DOp} {agg : Bool} {n : Nat} {a : Opd} (hq : ds[i]? = some q) (hld : q.op.op = .load agg n a) (hqw : Wanted (Ts i) q.op) {m : Nat} (hm : m ≤ ds.length)
    (h1 : ∀ (k : Nat) (r : DOp), ds[k]? = some r → writes r.op.op = true → k < i → m ≤ k → q.bef.getD k false = false)
    (h2 : ∀ (k : Nat) (r : DOp), ds[k]? = some r → writes r.op.op = true → i < k → k < m → r.bef.getD i false = false) : loadC (σs m) agg n (evO (Ts i) a) = some (cs i) := by
  have hil : i < ds.length := (List.getElem?_eq_some_iff.1 hq).1
  rcases Nat.le_total m i with h | h
  · -- ahead of its place: the first that writes from m on
    have key : ∀ d m, i - m = d → m ≤ i → (∀ (k : Nat) (r : DOp), ds[k]? = some r → writes r.op.op = true → k < i → m ≤ k → q.bef.getD k false = false) → loadC (σs m) agg n (evO (Ts i) a) = some (cs i) := by
      intro d
      induction d with
      | zero => intro m hd hle _; obtain rfl : m = i := by omega
                exact tl.here hq hld hqw
      | succ d ih =>
        intro m hd hle hk
        have hm' : m < ds.length := by omega
        have hr := List.getElem?_eq_getElem hm'
        rcases tl.quiet hr with ⟨hw, hrw⟩ | he
        · exact tl.bwd hq hr (by omega) hld hqw hw hrw (hk m _ hr hw (by omega) (Nat.le_refl _))
        · rw [← he]; exact ih (m + 1) (by omega) (by omega) fun k r hr hw h3 h4 => hk k r hr hw h3 (by omega)
    exact key _ m rfl h h1
  · have key : ∀ d m, m - i = d → i ≤ m → m ≤ ds.length → (∀ (k : Nat) (r : DOp), ds[k]? = some r → writes r.op.op = true → i < k → k < m → r.bef.getD i false = false) → loadC (σs m) agg n (evO (Ts i) a) = some (cs i) := by
      intro d
      induction d with
      | zero => intro m hd hle _ _; obtain rfl : m = i := by omega
                exact tl.here hq hld hqw
      | succ d ih =>
        intro m hd hle hml hk
        obtain ⟨m, rfl⟩ : ∃ m', m = m' + 1 := ⟨m - 1, by omega⟩
        have hr := List.getElem?_eq_getElem (l := ds) (i := m) (by omega)
        rcases tl.quiet hr with ⟨hw, hrw⟩ | he
        · rcases Nat.lt_or_ge i m with h5 | h5
          · exact tl.fwd hq hr h5 hld hqw hw hrw (hk m _ hr hw h5 (by omega))
          · obtain rfl : m = i := by omega
            rw [hq] at hr
            simp only [Option.some.injEq] at hr
            rw [← hr, hld] at hw
            simp [writes, pureOp, loadOp] at hw
        · rw [he]; exact ih m (by omega) (by
            rcases Nat.lt_or_ge m i with h6 | h6
            · omega
            · exact h6) (by omega) fun k r hr hw h3 h4 => hk k r hr hw h3 (by omega)
    exact key _ m rfl h hm h2

theorem seqOkW_spec {qs : List DOp} (h : seqOkW qs = true) {i j : Nat} {p q : DOp} (hi : qs[i]? = some p) (hj : qs[j]? = some q) (hlt : i < j) : befG qs j i = true ∨ mindW p.op.op q.op.op = true := by
  simp only [seqOkW, List.all_eq_true, List.mem_range] at h
  have hjl := (List.getElem?_eq_some_iff.1 hj).1
  have := h j hjl
  rw [hj] at this
  simp only [List.all_eq_true, List.mem_range, Bool.or_eq_true] at this
  have := this i hlt
  rw [hi] at this
  simp only [befG, hj, Option.map_some, Option.getD_some]
  exact this
end

section
variable {P : Program} {B : Nat} {n0 : Fr} {o : Oper} {a : Act} {w w0 : World} {γ γ0 : G} {σ σ' : St} {c : C} {T : List C} {N : Nat} {ops : Array Oper} {ds : List DOp}
  {F : CallF} {Ts : Nat → List C} {σs : Nat → St} {cs : Nat → C} {Ls : List WLog}

theorem stepW {ro : Option Nat} {ℓ : Nat → Prop} {i : Nat} (hF : FOk P F) (hlink : ∀ (i : Nat) (o : Oper), ops[i]? = some o → ∃ q : DOp, ds[i]? = some q ∧ linkOper P ops o = some q.op)
    (spec : DSpec ops ds N) (hseq : seqOkW ds = true) (tl : TraceL F n0.lo [] ds Ts σs cs Ls)
    (hb : ∀ k, ℓ k → k < ds.length) (hcl : ∀ k j, ℓ k → befG ds k j = true → ℓ j) (hi : ¬ ℓ i) (hbi : ∀ j, befG ds i j = true → ℓ j) (ho : ops[i]? = some o)
    (hJ : JQ B n0 w0 γ0 (ds.map (·.op)) Ts σs cs ℓ a w) {Q : Exit → Act → World → Prop} :
    wpOpIn (Fo ro) 0 P ops Q i (JQ B n0 w0 γ0 (ds.map (·.op)) Ts σs cs fun k => ℓ k ∨ k = i) a w := by
  obtain ⟨q, hq, hlq⟩ := hlink i o ho
  have tr := tl.tr
  have hlen : (ds.map (·.op)).length = ds.length := by simp
  have hqi : (ds.map (·.op))[i]? = some q.op := by simp [hq]
  have hil : i < ds.length := (List.getElem?_eq_some_iff.1 hq).1
  obtain ⟨T', σ', γ, hd, hf, hs, hT, hUT, n, hn, hnW, rfl⟩ := hJ
  obtain ⟨hl, hqd, _⟩ := linkOper_spec hlq
  obtain ⟨hw1, hw2⟩ := wanted_of hlq hT
  obtain ⟨hTi1, hcase⟩ := tr.step i _ hqi
  have hTi := trace_upd tr i (by omega)
  have dsq : ∀ (k : Nat) (q' : AOper), (ds.map (·.op))[k]? = some q' → ∃ r, ds[k]? = some r ∧ r.op = q' := fun k q' hk => by
    rw [List.getElem?_map] at hk
    exact Option.map_eq_some_iff.1 hk
  have hgi : gQ (ds.map (·.op)) cs i = q.op.dst.map (·, cs i) := by simp [gQ, hq]
  have hbg : ∀ (k : Nat) (r : DOp), ds[k]? = some r → ∀ j, befG ds k j = r.bef.getD j false := fun k r hr j => by simp [befG, hr]
  -- the temporaries that it looks at
  have hlook : ∀ t, t ∈ lookT q.op → T'.getD t .undef = (Ts i).getD t .undef := by
    intro t ht
    by_cases htl : t < (Ts 0).length
    · have := hUT.agree hTi hb htl fun k x hk => by
        unfold gQ at hk
        obtain ⟨e', h1, h2⟩ := Option.bind_eq_some_iff.1 hk
        obtain ⟨t', h3, h4⟩ := Option.map_eq_some_iff.1 h2
        simp only [Prod.mk.injEq] at h4
        obtain ⟨rfl, rfl⟩ := h4
        obtain ⟨r, hr, hrd⟩ := dsq k e' h1
        by_cases hki : i = k
        · subst hki; exact ⟨fun h => absurd h hi, fun h => absurd h (Nat.lt_irrefl _)⟩
        · have := (spec.tmp i k q r t' hq hr hki (by rw [hrd]; exact h3)).1 ht
          split at this
          · rename_i hlt; exact ⟨fun _ => hlt, fun _ => hbi k this⟩
          · rename_i hge; exact ⟨fun h => absurd (hcl k i h this) hi, fun h => absurd h hge⟩
      simp only [List.getD_eq_getElem?_getD, this]
    · simp only [List.getD_eq_getElem?_getD]
      rw [List.getElem?_eq_none (by rw [hUT.1]; omega), List.getElem?_eq_none (by rw [hTi.1]; omega)]
  have haddT : Upd (gQ (ds.map (·.op)) cs) (fun k => ℓ k ∨ k = i) (Ts 0) (setT T' q.op.dst (cs i)) := by
    rw [setT_put, ← hgi]
    refine hUT.add fun k m x x' hk hlt hgi' hgk => ?_
    rw [hgi] at hgi'
    obtain ⟨t', h3, h4⟩ := Option.map_eq_some_iff.1 hgi'
    simp only [Prod.mk.injEq] at h4
    obtain ⟨rfl, rfl⟩ := h4
    unfold gQ at hgk
    obtain ⟨e', h1, h2⟩ := Option.bind_eq_some_iff.1 hgk
    obtain ⟨t2, h5, h6⟩ := Option.map_eq_some_iff.1 h2
    simp only [Prod.mk.injEq] at h6
    obtain ⟨rfl, rfl⟩ := h6
    obtain ⟨r, hr, hrd⟩ := dsq k e' h1
    exact (spec.tmp i k q r t2 hq hr (by omega) (by rw [hrd]; exact h5)).2 h3
  -- those that write
  have hpos : pureOp q.op.op = false → isLd q.op.op = false → ∀ (k : Nat) (q' : AOper), (ds.map (·.op))[k]? = some q' → writes q'.op = true → (k < i ↔ ℓ k) := by
    intro hp hnl k q' hk hwk
    obtain ⟨r, hr, rfl⟩ := dsq k q' hk
    have hrl : isLd r.op.op = false := by
      generalize r.op.op = p at hwk
      cases p <;> first
        | rfl
        | (simp [writes, pureOp, loadOp] at hwk; done)
    have hml : mindW r.op.op q.op.op = false ∧ mindW q.op.op r.op.op = false := by
      simp only [writes, Bool.and_eq_true, Bool.not_eq_true'] at hwk
      simp [mindW, mindless, hp, hwk.1, hwk.2, hnl, hrl]
    constructor
    · intro hlt
      rcases seqOkW_spec hseq hr hq hlt with h | h
      · exact hbi k h
      · rw [hml.1] at h; cases h
    · intro hℓ
      rcases Nat.lt_trichotomy k i with h | h | h
      · exact h
      · exact absurd (h ▸ hℓ) hi
      · rcases seqOkW_spec hseq hq hr h with h' | h'
        · exact absurd (hcl k i hℓ h') hi
        · rw [hml.2] at h'; cases h'
  have hσ : pureOp q.op.op = false → isLd q.op.op = false → σs n = σs i := by
    intro hp hnl
    have hpos := hpos hp hnl
    rcases Nat.le_total n i with h | h
    · refine (trace_same tr i h (by omega) fun k q' h1 h2 hk => ?_).symm
      cases hwk : writes q'.op with
      | false => rfl
      | true =>
        have := (hnW k q' hk hwk).2 ((hpos k q' hk hwk).1 h2)
        omega
    · refine trace_same tr n h hn fun k q' h1 h2 hk => ?_
      cases hwk : writes q'.op with
      | false => rfl
      | true =>
        have := (hpos k q' hk hwk).2 ((hnW k q' hk hwk).1 h2)
        omega
  -- what neither writes nor ..: the place among those that write stays
  have hstay : writes q.op.op = false → ∀ (k : Nat) (q' : AOper), (ds.map (·.op))[k]? = some q' → writes q'.op = true → (k < n ↔ (ℓ k ∨ k = i)) := by
    intro hnw k q' hk hwk
    rw [hnW k q' hk hwk]
    constructor
    · exact .inl
    · rintro (h | rfl)
      · exact h
      · rw [hqi] at hk
        simp only [Option.some.injEq] at hk
        subst hk
        rw [hnw] at hwk; cases hwk
  have hnext : pureOp q.op.op = false → isLd q.op.op = false → ∀ (k : Nat) (q' : AOper), (ds.map (·.op))[k]? = some q' → writes q'.op = true → (k < i + 1 ↔ (ℓ k ∨ k = i)) := by
    intro hp hnl k q' hk hwk
    rw [← hpos hp hnl k q' hk hwk]
    omega
  unfold wpOpIn
  rw [ho]
  simp only []
  rcases hcase with ⟨g, want, hg, hgb, hc, hσ1⟩ | ⟨hgd, hev⟩
  · have hb' : gdec T' g want = some false := by unfold gdec; rw [hlook g (by simp [lookT, hg])]; exact hgb
    have hnw := hw2 g want _ hg hb'
    rw [if_neg (by rw [hnw]; simp)]
    refine ⟨fun _ _ => trivial, _, _, γ, by rw [put_defers]; exact hd, hf, hs, undef_put hT o.dst, by rw [← hqd, ← hc]; exact haddT, ?_⟩
    by_cases hnw : writes q.op.op = false
    · exact ⟨n, hn, fun k q' hk hwk => hstay hnw k q' hk hwk, rfl⟩
    · have hp : pureOp q.op.op = false ∧ isLd q.op.op = false := by
        generalize q.op.op = p at hnw
        cases p <;> first
          | exact ⟨rfl, rfl⟩
          | (simp [writes, pureOp, loadOp] at hnw; done)
      exact ⟨i + 1, by omega, fun k q' hk hwk => hnext hp.1 hp.2 k q' hk hwk, by rw [hσ hp.1 hp.2, hσ1]⟩
  · have hwant : Region.wanted o (yielded ops a.tmps) = true := by
      rcases hgd with hg | ⟨g, want, hg, hgb⟩
      · exact hw1 hg
      · exact hw2 g want _ hg (by unfold gdec; rw [hlook g (by simp [lookT, hg])]; exact hgb)
    rw [if_pos hwant]
    have hlook' : ∀ t, t ∈ opT q.op.op → T'.getD t .undef = (Ts i).getD t .undef := fun t ht => hlook t (List.mem_append.2 (.inl ht))
    by_cases hp : pureOp q.op.op = true
    · have hnc : noCall q.op.op = true := by
        generalize q.op.op = p at hp
        cases p <;> first
          | rfl
          | (simp [pureOp] at hp; done)
      have hnw : writes q.op.op = false := by simp [writes, hp]
      have he : evOp n0.lo (Ts i) (σs i) q.op.op = some (cs i, σs (i + 1)) := by rw [← ev1_eq hnc]; exact hev
      have he' : evOp n0.lo T' (σs n) q.op.op = some (cs i, σs n) := by
        rw [evOp_congr hlook', evOp_pure hp]
        rw [evOp_pure hp] at he
        obtain ⟨r, h1, h2⟩ := Option.map_eq_some_iff.1 he
        simp only [Prod.mk.injEq] at h2
        rw [h1, Option.map_some, h2.1]
      have := wpO_sound (ro := ro) (P := P) (B := B) (w0 := w0) (γ0 := γ0) (o := o) (K := fun T'' σ'' => T'' = setT T' q.op.dst (cs i) ∧ σ'' = σs n) hl (wpO_of_ev1 (F := F) hF ((ev1_eq hnc).trans he') ⟨by rw [hqd], rfl⟩) hd hf hs hT (Q := Q)
      refine Oper.wpIn_mono ?_ this
      rintro a' w' ⟨T2, σ2, γ2, h1, h2, h3, h4, rfl, rfl⟩
      exact ⟨_, _, γ2, h1, h2, h3, h4, haddT, n, hn, fun k q' hk hwk => hstay hnw k q' hk hwk, rfl⟩
    · have hp : pureOp q.op.op = false := by simpa using hp
      by_cases hld : isLd q.op.op = true
      · obtain ⟨agg, m, x, hx⟩ : ∃ agg m x, q.op.op = .load agg m x := by
          generalize q.op.op = p at hld
          cases p <;> first
            | exact ⟨_, _, _, rfl⟩
            | (simp [isLd] at hld; done)
        have hnc : noCall q.op.op = true := by rw [hx]; rfl
        have hnw : writes q.op.op = false := by rw [hx]; rfl
        have hload := tl.ldAt hq hx hgd (m := n) (by omega) (fun k r hr hwk h1 h2 => by
            cases hbk : q.bef.getD k false with
            | false => rfl
            | true =>
              have := (hnW k r.op (by simp [hr]) hwk).2 (hbi k (by rw [hbg i q hq]; exact hbk))
              omega) (fun k r hr hwk h1 h2 => by
            cases hbk : r.bef.getD i false with
            | false => rfl
            | true =>
              have := (hnW k r.op (by simp [hr]) hwk).1 h2
              exact absurd (hcl k i this (by rw [hbg k r hr]; exact hbk)) hi)
        have he' : evOp n0.lo T' (σs n) q.op.op = some (cs i, σs n) := by
          rw [evOp_congr hlook', hx]
          simp only [evOp]
          rw [hload]; rfl
        have := wpO_sound (ro := ro) (P := P) (B := B) (w0 := w0) (γ0 := γ0) (o := o) (K := fun T'' σ'' => T'' = setT T' q.op.dst (cs i) ∧ σ'' = σs n) hl (wpO_of_ev1 (F := F) hF ((ev1_eq hnc).trans he') ⟨by rw [hqd], rfl⟩) hd hf hs hT (Q := Q)
        refine Oper.wpIn_mono ?_ this
        rintro a' w' ⟨T2, σ2, γ2, h1, h2, h3, h4, rfl, rfl⟩
        exact ⟨_, _, γ2, h1, h2, h3, h4, haddT, n, hn, fun k q' hk hwk => hstay hnw k q' hk hwk, rfl⟩
      · have hld : isLd q.op.op = false := by simpa using hld
        rw [hσ hp hld] at hs hT
        have hev' : ev1 F n0.lo T' (σs i) q.op.op = some (cs i, σs (i + 1)) := by rw [ev1_congr hlook']; exact hev
        have := wpO_sound (ro := ro) (P := P) (B := B) (w0 := w0) (γ0 := γ0) (o := o) (K := fun T'' σ'' => T'' = setT T' q.op.dst (cs i) ∧ σ'' = σs (i + 1)) hl (wpO_of_ev1 (F := F) hF hev' ⟨by rw [hqd], rfl⟩) hd hf hs hT (Q := Q)
        refine Oper.wpIn_mono ?_ this
        rintro a' w' ⟨T2, σ2, γ2, h1, h2, h3, h4, rfl, rfl⟩
        exact ⟨_, _, γ2, h1, h2, h3, h4, haddT, i + 1, by omega, fun k q' hk hwk => hnext hp hld k q' hk hwk, rfl⟩

/-- Such a region. -/
theorem wpW_sound (hmix : P.follows .mixedOrders = true) (hF : FOk P F) {T' : List C} {Q : AEx → List C → St → Prop} (h : evW F n0.lo ds [] T σ = some (T', σ')) (hQ : Q .normal T' σ') : TrA P n0 (.regw ds) T σ Q := by
  intro c hc ro B w γ a hro hd hs hT
  cases c with
  | region id ops dr =>
    simp only [linkC] at hc
    split at hc
    · rename_i hdr
      obtain rfl : dr = true := hdr
      obtain ⟨qs', hq, h1⟩ := Option.bind_eq_some_iff.1 hc
      obtain ⟨N, ds', hac, hok, hds, hlen', hlink⟩ := linkDraw_spec hq h1
      rcases hac with ⟨hac, _⟩ | ⟨hac, hseq⟩ | hac
      · cases hac
      · simp only [ACode.regw.injEq] at hac
        subst hac
        have spec := dOk_spec hok
        obtain ⟨Ts, σs, cs, Ls, t1, t2, t3, t4, tl⟩ := evW_trace h
        have tr := tl.tr
        obtain ⟨d1, d2, d3⟩ := sat_drew hs
        refine wpIn_region_any hmix ?_
        have congrJ : ∀ {ℓ ℓ' : Nat → Prop} {a : Act} {w1 : World}, (∀ k, ℓ k ↔ ℓ' k) → JQ B n0 w γ (ds.map (·.op)) Ts σs cs ℓ a w1 → JQ B n0 w γ (ds.map (·.op)) Ts σs cs ℓ' a w1 := by
          rintro ℓ ℓ' a w1 h ⟨T', σ', γ, h1, h2, h3, h4, h5, n, h6, h7, h8⟩
          exact ⟨T', σ', γ, h1, h2, h3, h4, h5.congr h fun _ _ => rfl, n, h6, fun k q hk hw => (h7 k q hk hw).trans (h k), h8⟩
        have hlen : (ds.map (·.op)).length = ds.length := by simp
        have hsize : ops.size = ds.length := by rw [spec.len]
        have hfalse : ∀ k, (Array.replicate ops.size false).getD k false = false := by
          intro k
          rcases Nat.lt_or_ge k ops.size with h' | h'
          · simp [Array.getD_eq_getD_getElem?, h']
          · simp [Array.getD_eq_getD_getElem?, h']
        refine anyJ (ro := ro) (P := P) (J := JQ B n0 w γ (ds.map (·.op)) Ts σs cs) spec congrJ (fun h1 h2 h3 h4 h5 h6 => stepW hF hlink spec hseq tl h1 h2 h3 h4 h5 h6) (fun a w1 hJ => ?_) ops.size _ a _ (by simp) ?_ (fun k j hk => by rw [hfalse] at hk; cases hk) ?_
        · obtain ⟨T1, σ1, γ1, h1, h2, h3, h4, h5, n, h6, h7, rfl⟩ := hJ
          have e1 : T1 = T' := by
            rw [← t3]
            rw [hsize] at h5
            have := trace_upd tr ds.length (by omega)
            exact h5.uniq this (n := ds.length) fun _ h => h
          have e2 : σs n = σ' := by
            rw [← t4]
            refine (trace_same tr ds.length (by omega) (by omega) fun k q h1 h2 hk => ?_).symm
            cases hwk : writes q.op with
            | false => rfl
            | true => have := (h7 k q hk hwk).2 (by omega); omega
          exact ⟨.normal, T1, σs n, γ1, rfl, h1, h2, h3, h4, by rw [e1, e2]; exact hQ⟩
        · rw [unl_same (f := fun _ => false) fun j _ => hfalse j]
          exact unl_all
        · have hno : ∀ k, ¬ (Array.replicate ops.size false).getD k false = true := fun k h => by rw [hfalse] at h; cases h
          refine ⟨T, σ, γ, hd.step d2, d2, d1, hT.ext d3, ⟨by rw [t1], fun m hm => ⟨fun _ => by rw [t1], fun k x hk => absurd hk (hno k)⟩⟩, 0, Nat.zero_le _, fun k q _ _ => ⟨fun h => absurd h (Nat.not_lt_zero k), fun h => absurd h (hno k)⟩, t2.symm⟩
      · cases hac
    · obtain ⟨_, _, h⟩ := Option.map_eq_some_iff.1 hc; cases h
  | _ => first
    | (simp [linkC] at hc; done)
    | (simp only [linkC] at hc; revert hc; repeat' split
       all_goals (simp; done))
    | (simp only [linkC] at hc; obtain ⟨_, _, h⟩ := Option.map_eq_some_iff.1 hc; cases h)
end
end Go.Av

set_option linter.unusedVariables false
set_option linter.unusedSimpArgs false
namespace Go.Av
open Go.RowKit
variable [TheProg]
set_option linter.unusedSectionVars false

section
variable {P : Program} {B : Nat} {n0 : Fr} {o : Oper} {a : Act} {w w0 : World} {γ γ0 : G} {σ σ' : St} {c : C} {T : List C} {F : CallF}

theorem namesL_mem : ∀ {cs : List C} {c : C} {i n : Nat}, cs[i]? = some c → n ∈ C.names c → n ∈ C.namesL cs := fun h hn => namesL_get h _ hn

/-- What such a call leaves. -/
def CallQ.Post (P : Program) (σ : St) (w : World) (γ : G) (r : C) (v : Value) (w' : World) : Prop :=
  ∃ γ', Fn w.heap.size (.all σ.length) w γ w' γ' ∧ (∀ g, w'.heap.size ≤ g → γ'.im g = 0) ∧ RepR w' γ' (Fil σ) w.heap.size r v

/-- All new cells stay what they are. -/
def frozenIm (B : Nat) (w : World) (im : Nat → Nat) (g : Nat) : Nat := match w.heap[g]? with
  | some (.cells vs _ _) => if B ≤ g then max (im g) vs.size else im g
  | _ => im g

theorem frozenIm_le (B : Nat) (w : World) (im : Nat → Nat) (g : Nat) : im g ≤ frozenIm B w im g := by
  unfold frozenIm
  split
  · split
    · exact Nat.le_max_left _ _
    · exact Nat.le_refl _
  · exact Nat.le_refl _

def G.frozen (γ : G) (B : Nat) (w : World) : G := { γ with im := frozenIm B w γ.im }

theorem frozen_ext (A : Nat → Prop) (B : Nat) : Ext A w γ w (γ.frozen B w) := ⟨⟨fun _ _ _ => rfl, frozenIm_le B w γ.im⟩, fun _ _ => rfl, fun _ _ => Nat.le_refl _, fun _ _ _ => rfl⟩

theorem freeze_rep {L : Nat} (hi : Inv w γ σ) (hown : ∀ (n : Nat) (b : Ob) (g : Nat), L ≤ n → σ[n]? = some (some b) → ownBlk γ n (some b) = some g → B ≤ g) : ∀ (d : Nat) (c : C) (v : Value), RepC w γ (Fil σ) c v → RepC w (γ.frozen B w) (Fil σ) (freeze d σ L c) v := by
  intro d
  induction d with
  | zero => intro c v h; exact h.ext (frozen_ext _ _)
  | succ d ih =>
    intro c v h
    have lst : ∀ (cs : List C) (vs : Array Value), vs.size = cs.length → (∀ (i : Nat) (c : C), cs[i]? = some c → RepC w γ (Fil σ) c (vs.getD i undef)) →
        vs.size = (cs.map (freeze d σ L)).length ∧ ∀ (i : Nat) (c : C), (cs.map (freeze d σ L))[i]? = some c → RepC w (γ.frozen B w) (Fil σ) c (vs.getD i undef) := by
      intro cs vs hs hr
      refine ⟨by simp [hs], fun i c hc => ?_⟩
      simp only [List.getElem?_map, Option.map_eq_some_iff] at hc
      obtain ⟨x, hx, rfl⟩ := hc
      exact ih x _ (hr i x hx)
    cases h with
    | ref hn =>
      rename_i n off
      simp only [freeze]
      split
      · exact (RepC.ref hn).ext (frozen_ext _ _)
      · rename_i hL
        split
        · rename_i t cells hb
          obtain ⟨h0, vs, hh, h1, h2, h3⟩ := hi.ob n _ hb
          have hB := hown n _ _ (by omega) hb rfl
          have him : vs.size ≤ (γ.frozen B w).im (γ.mu n) := by
            show vs.size ≤ frozenIm B w γ.im (γ.mu n)
            unfold frozenIm
            rw [hh]
            simp only [if_pos hB]
            exact Nat.le_max_right _ _
          obtain ⟨q1, q2⟩ := lst cells vs h1 (fun i c hc => (h2 i c hc).mono fun _ h => h.2)
          have := RepC.celt (w := w) (γ := γ.frozen B w) (A := Fil σ) (row := cells.map (freeze d σ L)) (off := off) (g := γ.mu n) (o := 0) (fun j => vs.getD j undef) (fun j c hc => by
            have hj : j < vs.size := by rw [q1]; exact (List.getElem?_eq_some_iff.1 hc).1
            refine ⟨?_, by omega⟩
            rw [Nat.zero_add, cell_of_row w _ _ _ _ _ hh]
            simp [Array.getD_eq_getD_getElem?, hj]) q2
          simpa using this
        · exact (RepC.ref hn).ext (frozen_ext _ _)
    | cl fs cs hf hc h1 h2 =>
      obtain ⟨a1, a2⟩ := lst _ fs hf h1
      obtain ⟨b1, b2⟩ := lst _ cs hc h2
      exact .cl fs cs a1 b1 a2 b2
    | agg vs hs h =>
      obtain ⟨a1, a2⟩ := lst _ vs hs h
      exact .agg vs a1 a2
    | tup vs hs h =>
      obtain ⟨a1, a2⟩ := lst _ vs hs h
      exact .tup vs a1 a2
    | o h ha hl hv => exact (RepC.d h).ext (frozen_ext _ _)
    | d h => exact (RepC.d h).ext (frozen_ext _ _)
    | nils e sz => exact .nils e sz
    | enn sz p cap => exact .enn sz p cap
    | elt h => exact (RepC.elt h).ext (frozen_ext _ _)
    | csl val h1 h2 h3 => exact (RepC.csl val h1 h2 h3).ext (frozen_ext _ _)
    | celt val h1 h2 => exact (RepC.celt val h1 h2).ext (frozen_ext _ _)
    | map hn => exact (RepC.map hn).ext (frozen_ext _ _)
    | yl hn => exact (RepC.yl hn).ext (frozen_ext _ _)
    | nilf => exact .nilf
    | undef v => exact .undef v

theorem callQ_of_F (hF : FOk P F) {fid : FuncId} {args : List C} {view σ' σ1 : St} {r r' : C} (h : F view.length (.fn fid) args (maskS (reach view args) view) = some (r, σ1)) (hR : reachOk view (reach view args) = true)
    (hl : σ'.length = view.length) (hsub : ∀ (n : Nat) (b : Ob), view[n]? = some (some b) → σ'[n]? = some (some b)) (hr : resQ view.length r σ1 = some r') : CallQ P fid args σ' r' := by
  obtain ⟨hent, hx⟩ := hF.fn _ _ _ _ _ _ h (.all view.length) rfl
  refine ⟨hent, fun w γ vs hi hlen hrep => ?_⟩
  obtain ⟨hm, hfil⟩ := hi.mask hsub hR
  have hsat : Sat w.heap.size (.all view.length) w γ (maskS (reach view args) view) :=
    ⟨hm, fun n b g hn hb => by
      have h1 := (List.getElem?_eq_some_iff.1 hb).1
      rw [maskS_len] at h1
      have : view.length ≤ n := hn
      omega, by rw [maskS_len]; exact Nat.le_refl _, Nat.le_refl _⟩
  have hrep' : ∀ (i : Nat) (c : C), args[i]? = some c → RepC w γ (Fil (maskS (reach view args) view)) c (vs.getD i undef) := fun i c hc =>
    (hrep i c hc).names fun n hn _ => hfil n (by unfold reach; exact List.mem_append.2 (.inl (namesL_get hc n hn)))
  refine (hx w.heap.size w γ vs hsat hlen hrep').mono ?_
  rintro e w' ⟨v, γ', r0, σ2, rfl, k1, k2, k3, k4, rfl, rfl⟩
  have hfr : Fn w.heap.size (.all σ'.length) w γ w' (γ'.frozen w.heap.size w') := by
    have k1' := k1.mono (n0' := .all σ'.length) (Nat.le_refl _) (by show σ'.length ≤ view.length; omega) (by show σ'.length ≤ (maskS (reach view args) view).length; rw [maskS_len]; omega)
    refine ⟨k1'.ext.trans (frozen_ext _ _), k1'.below, fun g hg => ?_, k1'.out, k1'.dfr, k1'.lps⟩
    rw [← k1'.im g hg]
    show frozenIm w.heap.size w' γ'.im g = _
    unfold frozenIm
    split
    · rw [if_neg (by omega)]
    · rfl
  have hlt0 : ∀ g, w'.heap.size ≤ g → (γ'.frozen w.heap.size w').im g = 0 := fun g hg => by
    show frozenIm w.heap.size w' γ'.im g = 0
    unfold frozenIm
    have : w'.heap[g]? = none := by simp [hg]
    rw [this]
    exact k3.inv.lt g hg
  have hown : ∀ (n : Nat) (b : Ob) (g : Nat), view.length ≤ n → σ2[n]? = some (some b) → ownBlk γ' n (some b) = some g → w.heap.size ≤ g := fun n b g hn => k3.own n b g hn
  have hfz := freeze_rep (B := w.heap.size) (L := view.length) k3.inv hown
  have plain : ∀ {r1 : C}, RepR w' γ' (Fil σ') w.heap.size r1 v → CallQ.Post P σ' w γ r1 v w' := fun h => ⟨γ', k1.mono (Nat.le_refl _) (by show σ'.length ≤ view.length; omega) (by show σ'.length ≤ (maskS (reach view args) view).length; rw [maskS_len]; omega), fun g hg => k3.inv.lt g hg, h⟩
  have froz : ∀ {r1 : C}, RepR w' (γ'.frozen w.heap.size w') (Fil σ') w.heap.size r1 v → CallQ.Post P σ' w γ r1 v w' := fun h => ⟨_, hfr, hlt0, h⟩
  suffices hp : CallQ.Post P σ' w γ r' v w' by
    obtain ⟨γ2, p1, p2, p3⟩ := hp
    exact ⟨v, γ2, rfl, p1, p2, p3⟩
  unfold resQ at hr
  split at hr
  · rename_i sz rows b
    split at hr
    · rename_i e sz' len hb
      split at hr
      · rename_i hc
        simp only [Option.some.injEq] at hr
        subst hr
        have ho : outC view.length σ2 (.o sz rows b) = .fr e sz rows := by
          simp only [outC, hb, hc.1, hc.2.1, hc.2.2, and_self, if_true]
        have := outC_rep (n0 := (Fr.all view.length).up _ hsat.n0) k3 k4 (by show C.lt 0 (outC view.length σ2 _) = true; rw [ho]; rfl) (Fil σ')
        have e1 : outC ((Fr.all view.length).up _ hsat.n0).lo σ2 (.o sz rows b) = .fr e sz rows := ho
        rw [e1] at this
        exact plain this
      · cases hr
    · cases hr
  · rename_i m
    split at hr
    · rename_i es hm
      split at hr
      · rename_i hc
        simp only [Option.some.injEq] at hr
        subst hr
        cases k4
        obtain ⟨h0, ms, ck, h1, h2, hst, h3⟩ := k3.inv.ob m _ hm
        have h0' : (γ'.frozen w.heap.size w').im (γ'.mu m) = 0 := by
          show frozenIm w.heap.size w' γ'.im (γ'.mu m) = 0
          unfold frozenIm
          rw [h1]
          exact h0
        refine froz (.frm (k3.own m _ _ hc.1 hm rfl) h1 hst (by simpa using h2) (by simp) h0' fun i k c hk hcc => ?_)
        simp only [List.getElem?_map, Option.map_eq_some_iff] at hk hcc
        obtain ⟨x, hx, rfl⟩ := hk
        obtain ⟨y, hy, rfl⟩ := hcc
        have : x = y := by rw [hx] at hy; exact Option.some.inj hy
        subst this
        obtain ⟨r1, r2⟩ := h3 i x.1 x.2 (by rw [hx])
        have hz := hfz 8 x.2 _ (r2.mono fun _ h => h.2)
        exact ⟨r1.ext (frozen_ext (fun _ => False) _).d, (hz.lt (ltL_get hc.2 i _ (by simp [hx]))).mono fun n hn => Nat.not_lt_zero n hn.1⟩
      · cases hr
    · cases hr
  · split at hr
    · rename_i hlt
      simp only [Option.some.injEq] at hr
      subst hr
      exact froz (.c (((hfz 8 _ _ k4).lt hlt).mono fun n hn => absurd hn.1 (Nat.not_lt_zero n)))
    · cases hr

theorem rdOk_of {rd : Rd} {c : C} {m : Nat} {b : Ob} {f : Bool} {fresh : Prop} (h : rdOkB rd m f = true) (hf : f = true → fresh) : rdOk rd c m b fresh := by
  cases rd with
  | no => trivial
  | ld m' agg n off =>
    simp only [rdOkB, bne_iff_ne, ne_eq] at h
    exact fun e => absurd e h
  | ob m' =>
    simp only [rdOkB, bne_iff_ne, ne_eq] at h
    exact h
  | all => exact hf h

theorem pairOk_of {e' e : Ent} {slot : Nat} {view : St} (h : pairB e' e slot view = true) : pairOk e' e slot view := by
  unfold pairB at h
  simp only [Bool.and_eq_true] at h
  refine ⟨?_, ?_⟩
  · have h1 := h.1
    split at h1
    · rename_i m b hm
      rw [hm]
      refine rdOk_of h1 fun hh => ?_
      unfold isHole at hh
      split at hh
      · assumption
      · cases hh
    · rename_i hm; rw [hm]; trivial
  · have h2 := h.2
    split at h2
    · rename_i m b hm
      rw [hm]
      simp only [Bool.and_eq_true] at h2
      refine ⟨rdOk_of h2.1 fun hh => ?_, ?_⟩
      · simp only [Bool.and_eq_true, beq_iff_eq] at hh
        refine ⟨hh.1, ?_⟩
        have := hh.2
        cases hrd : e.rd <;> simp_all [Rd.freshB, Rd.fresh]
      · have h3 := h2.2
        split at h3
        · rename_i m' b' hm'
          rw [hm']
          simpa using h3
        · rename_i hm'; rw [hm']; trivial
    · rename_i hm; rw [hm]; trivial

theorem pairsOk_of {e : Ent} {slot : Nat} {view : St} : ∀ {D : List Ent} {bs : List Bool}, pairsB D bs e slot view = true → pairsOk D bs e slot view
  | [], _, _ => by simp [pairsOk]
  | _ :: _, [], h => by simp [pairsB] at h
  | e' :: D, b :: bs, h => by
    simp only [pairsB, Bool.and_eq_true, Bool.or_eq_true] at h
    refine ⟨?_, pairsOk_of h.2⟩
    split
    · trivial
    · rename_i hb
      rcases h.1 with h1 | h1
      · exact absurd h1 hb
      · exact pairOk_of h1

theorem noOn_of {m : Nat} : ∀ {D : List Ent}, noOnB D m = true → noOn D m
  | [], _ => trivial
  | e :: D, h => by
    simp only [noOnB, Bool.and_eq_true] at h
    refine ⟨?_, noOn_of h.2⟩
    have h1 := h.1
    split at h1
    · rename_i m' b hm; rw [hm]; simpa using h1
    · rename_i hm; rw [hm]; trivial

theorem freshOk_of {D : List Ent} {e : Ent} (h : freshB D e = true) : freshOk D e := by
  obtain ⟨dst, c, eff, rd⟩ := e
  rcases eff with _ | ⟨m, b⟩ <;> cases rd <;> first
    | trivial
    | exact noOn_of h

theorem oneD_of {slot : Nat} {view : St} {dst : Option Nat} {p : AOp} {e : Ent} {K : Ent → Prop} (hF : FOk P F) (h : oneE F n0.lo slot T view dst p = some e) (hK : K e) : oneD P n0 slot T view dst p K := by
  by_cases hc : noCall p = true
  · have h' : (match evS n0.lo slot T view p with
      | some (c, eff, rd) => some (⟨dst, c, eff, rd⟩ : Ent)
      | none => none) = some e := by
      cases p <;> first
        | exact h
        | (simp [noCall] at hc; done)
    have g : (match evS n0.lo slot T view p with
      | some (c, eff, rd) => K ⟨dst, c, eff, rd⟩
      | none => False) := by
      cases he : evS n0.lo slot T view p with
      | none => rw [he] at h'; cases h'
      | some x =>
        rw [he] at h'
        simp only [Option.some.injEq] at h'
        subst h'; exact hK
    cases p <;> first
      | exact g
      | (simp [noCall] at hc; done)
  · obtain ⟨f, args, rfl⟩ : ∃ f args, p = .call f args := by
      cases p <;> first
        | exact ⟨_, _, rfl⟩
        | exact absurd rfl hc
    simp only [oneE] at h
    simp only [oneD]
    split at h
    · rename_i fid first caps hfe
      rw [hfe]
      unfold callD at h
      split at h
      · rename_i hR
        split at h
        · rename_i r σ1 hcall
          unfold entE at h
          obtain ⟨r', hr, he⟩ := Option.map_eq_some_iff.1 h
          subst he
          exact ⟨r', fun σ' hl hsub => callQ_of_F hF hcall hR hl hsub hr, hK⟩
        · cases h
      · cases h
    · cases h

theorem wpD_of_evD (hF : FOk P F) {σp : St} {s0 : Nat} {K : List C → St → Prop} {T' : List C} : ∀ (qs : List DOp) (D : List Ent) (T : List C), evD F n0.lo σp s0 qs D T = some (T', σ') → K T' σ' → wpD P n0 σp s0 qs D T K
  | [], D, T, h, hK => by
    simp only [evD, Option.some.injEq, Prod.mk.injEq] at h
    obtain ⟨rfl, rfl⟩ := h
    exact hK
  | q :: qs, D, T, h, hK => by
    have wanted : (match oneE F n0.lo (s0 + q.slot) T (vw D q.bef σp) q.op.dst q.op.op with
      | some e => if pairsB D q.bef e (s0 + q.slot) (vw D q.bef σp) && freshB D e then evD F n0.lo σp s0 qs (D ++ [e]) (setT T e.dst e.c) else none
      | none => none) = some (T', σ') → oneD P n0 (s0 + q.slot) T (vw D q.bef σp) q.op.dst q.op.op (stepD q D (s0 + q.slot) (vw D q.bef σp) fun e => wpD P n0 σp s0 qs (D ++ [e]) (setT T e.dst e.c) K) := by
      intro h
      split at h
      · rename_i e he
        split at h
        · rename_i hc
          simp only [Bool.and_eq_true] at hc
          exact oneD_of hF he ⟨pairsOk_of hc.1, freshOk_of hc.2, wpD_of_evD hF qs _ _ h hK⟩
        · cases h
      · cases h
    simp only [evD] at h
    simp only [wpD]
    split at h
    · rename_i hg
      rw [hg]
      exact wanted h
    · rename_i g want hg
      rw [hg]
      split at h
      · rename_i hb
        simp only [hb]
        exact wanted h
      · rename_i hb
        simp only [hb]
        exact wpD_of_evD hF qs _ _ h hK
      · cases h

/-! ### Loops -/

theorem weakC_cut (s : Nat) (c : C) : weakC s c (cutC s c) := by
  unfold cutC
  split
  · rename_i sz rows b
    split
    · rename_i h; exact .inl ⟨rfl, by simpa [C.lt] using h⟩
    · exact .inr ⟨_, rfl, rfl⟩
  · split
    · rename_i h
      unfold weakC
      split
      · trivial
      · exact .inl ⟨rfl, h⟩
    · trivial

theorem weakT_keep (s : Nat) : ∀ (m : List Bool) (T : List C), weakT s T ((keepT m T).map (cutC s))
  | [], [] => trivial
  | true :: _, [] => trivial
  | false :: _, [] => trivial
  | true :: m, c :: T => ⟨weakC_cut s c, weakT_keep s m T⟩
  | false :: m, c :: T => ⟨by simp [cutC, C.lt, weakC], weakT_keep s m T⟩
  | [], c :: T => ⟨by simp [cutC, C.lt, weakC], weakT_keep s [] T⟩

theorem keepT_get : ∀ (m : List Bool) (T : List C), (keepT m T).length = T.length ∧ ∀ (i : Nat) (c : C), (keepT m T)[i]? = some c → T[i]? = some c ∨ c = .undef
  | [], [] => ⟨rfl, fun i c h => by simp [keepT] at h⟩
  | true :: _, [] => ⟨rfl, fun i c h => by simp [keepT] at h⟩
  | false :: _, [] => ⟨rfl, fun i c h => by simp [keepT] at h⟩
  | true :: m, x :: T => by
    obtain ⟨h1, h2⟩ := keepT_get m T
    refine ⟨by simp [keepT, h1], fun i c h => ?_⟩
    cases i with
    | zero => left; simpa [keepT] using h
    | succ i => exact h2 i c (by simpa [keepT] using h)
  | false :: m, x :: T => by
    obtain ⟨h1, h2⟩ := keepT_get m T
    refine ⟨by simp [keepT, h1], fun i c h => ?_⟩
    cases i with
    | zero => right; simpa [keepT] using h.symm
    | succ i => exact h2 i c (by simpa [keepT] using h)
  | [], x :: T => by
    obtain ⟨h1, h2⟩ := keepT_get [] T
    refine ⟨by simp [keepT, h1], fun i c h => ?_⟩
    cases i with
    | zero => right; simpa [keepT] using h.symm
    | succ i => exact h2 i c (by simpa [keepT] using h)

theorem repT_keep {A : Nat → Prop} {tmps : Array Value} (m : List Bool) (h : RepT w γ A T tmps) : RepT w γ A (keepT m T) tmps := by
  obtain ⟨h1, h2⟩ := keepT_get m T
  refine ⟨by rw [h1]; exact h.size, fun i c hc => ?_⟩
  rcases h2 i c hc with h3 | rfl
  · exact h.get i c h3
  · exact .undef _

theorem trL_of_iter (hmix : P.follows .mixedOrders = true) {body : List C → St → Option Out} {live lout : List Bool} {ac : ACode} (s : Nat) (h0 : n0.hi ≤ s)
    (hg : ∀ T σ x T' σ', body T σ = some (x, T', σ') → Grow σ σ') (hb : ∀ T σ x T' σ', body T σ = some (x, T', σ') → σ.length = s → ∀ Q : AEx → List C → St → Prop, Q x T' σ' → wpC P n0 ac T σ Q) {x : AEx} {T' : List C} {Q : AEx → List C → St → Prop} (hQ : Q x T' σ') :
    ∀ (k : Nat) (T : List C) (σ : St), σ.length = s → iter body live lout s k T σ = some (x, T', σ') → TrL P n0 k ac T σ Q
  | 0, T, σ, hl, h => by simp [iter] at h
  | k + 1, T, σ, hl, h => by
    refine trL_step hmix k s h0 ?_
    simp only [iter] at h
    split at h
    · cases h
    · rename_i T1 σ1 he
      exact hb _ _ _ _ _ he hl _ ⟨_, weakT_keep s live T1, trL_of_iter hmix s h0 hg hb hQ k _ _ (by rw [List.length_take]; have := (hg _ _ _ _ _ he).len; omega) h⟩
    · rename_i id T1 σ1 he
      simp only [Option.some.injEq, Prod.mk.injEq] at h
      obtain ⟨rfl, rfl, rfl⟩ := h
      exact hb _ _ _ _ _ he hl _ ⟨_, weakT_keep s lout T1, hQ⟩
    · rename_i T1 σ1 he
      simp only [Option.some.injEq, Prod.mk.injEq] at h
      obtain ⟨rfl, rfl, rfl⟩ := h
      exact hb _ _ _ _ _ he hl _ ⟨_, weakT_keep s lout T1, hQ⟩
end
end Go.Av

set_option linter.unusedVariables false
set_option linter.unusedSimpArgs false
namespace Go.Av
open Go.RowKit
variable [TheProg]
set_option linter.unusedSectionVars false

/-- How a record stands behind a round that left so. -/
def stJ : Option JEx → LSt
  | none => .ready
  | some x => .done x

/-- How a record stands. -/
def LSt.ok (r : Loop) : LSt → Prop
  | .ready => r.state = .ready ∧ r.pending = none
  | .busy => r.state = .busy
  | .done x => r.state = .done ∧ r.pending = some x.code
  | .over => True

section
variable {P : Program} {B : Nat} {n0 : Fr} {o : Oper} {a : Act} {w w0 : World} {γ γ0 : G} {σ σ' : St} {c : C} {T : List C} {F : CallF}

theorem Sat.fr {n1 : Fr} (h : Sat B n0 w γ σ) (h1 : n1.lo = n0.lo) (h2 : n1.hi ≤ σ.length) : Sat B n1 w γ σ :=
  ⟨h.inv, fun n b g hn hb hg => h.own n b g (by rw [← h1]; exact hn) hb hg, h2, h.B⟩

/-- What is known of a loop's object. -/
theorem loop_ob {ps : List Nat} {asg body : ECode} {st : LSt} {n : Nat} (hi : Inv w γ σ) (hm : σ[n]? = some (some (.loop T ps asg body st))) :
    γ.im (γ.mu n) = 0 ∧ ∃ r : Loop, w.heap[γ.mu n]? = some (.loop r) ∧ r.params.toList = ps ∧ linkC TheProg.prog r.assign = some asg.strip ∧ linkC TheProg.prog r.body = some body.strip ∧
      r.tmps.size = T.length ∧ (∀ (i : Nat) (c : C), T[i]? = some c → RepC w γ (Low (Fil σ) n) c (r.tmps.getD i undef)) ∧ st.ok r := by
  obtain ⟨h0, r, h1, h2, h3, h4, h5, h6, h7⟩ := hi.ob n _ hm
  exact ⟨h0, r, h1, h2, h3, h4, h5, h6, by cases st <;> exact h7⟩

theorem loop_new (hs : Sat B n0 w γ σ) {ps : List Nat} {asg body : ECode} (r : Loop) (hp : r.params.toList = ps) (h1 : linkC TheProg.prog r.assign = some asg.strip) (h2 : linkC TheProg.prog r.body = some body.strip)
    (hsz : r.tmps.size = T.length) (hT : ∀ (i : Nat) (c : C), T[i]? = some c → RepC w γ (Low (Fil σ) σ.length) c (r.tmps.getD i undef)) (hst : r.state = .ready ∧ r.pending = none) :
    ∃ γ', Fn B n0 w γ (w.alloc (.loop r)) γ' ∧ Ext (Fil σ) w γ (w.alloc (.loop r)) γ' ∧ Sat B n0 (w.alloc (.loop r)) γ' (σ ++ [some (.loop T ps asg body .ready)]) ∧ γ'.mu σ.length = w.heap.size := by
  obtain ⟨hs1, hfil⟩ := hs.hole
  have hh : (σ ++ [none])[σ.length]? = some none := hole_last σ
  have hS := hole_not_fil hh
  obtain ⟨hk, hf⟩ := keep_alloc hs1 (.loop r) (γ.name σ.length w.heap.size) σ.length hs.n0 hS (fun _ _ => rfl) (fun n hn => by simp [G.name, hn]) (fun _ _ => rfl) (fun _ _ => rfl)
  have hsat := hs1.after hk (fun g hg => by have := hs.inv.lt g (by simp at hg; omega); exact this)
  have hmu : (γ.name σ.length w.heap.size).mu σ.length = w.heap.size := by simp [G.name]
  have e1 : ∀ b : Ob, (σ ++ [none]).set σ.length (some b) = σ ++ [some b] := fun b => by simp
  have hsl : σ.length < (σ ++ [none] : St).length := by simp
  refine ⟨γ.name σ.length w.heap.size, hf, hk.ext.mono fun n h => (hfil n).2 h, ?_, hmu⟩
  rw [← e1]
  refine hsat.fill hh _ ?_ (fun g hg => ?_)
  · refine ⟨by rw [hmu]; exact hs.inv.lt _ (Nat.le_refl _), r, by rw [hmu]; exact heap_alloc_new w _, hp, h1, h2, hsz, fun i c hc => ?_, hst⟩
    exact ((hT i c hc).ext (hk.ext.mono fun _ h => (hfil _).2 h.2)).mono (fun n hn => ⟨hn.1, (fil_set hsl n).2 (.inr ((hfil n).2 hn.2))⟩)
  · simp only [ownBlk, hmu, Option.some.injEq] at hg
    subst hg
    refine ⟨hs.B, fun n c' hn hg => ?_⟩
    rw [ownBlk_congr _ ⟨c', hn⟩ hk.ext (hk.out n ⟨c', hn⟩)] at hg
    have := (hs1.inv.ob n c' hn).blk_lt hg
    omega

/-- A loop's record is turned. -/
theorem loop_upd (hs : Sat B n0 w γ σ) {ps : List Nat} {asg body : ECode} {st st' : LSt} {n : Nat} (hm : σ[n]? = some (some (.loop T ps asg body st))) (hn0 : n0.lo ≤ n) {r r' : Loop} (hr : w.heap[γ.mu n]? = some (.loop r))
    (e1 : r'.params = r.params) (e2 : r'.assign = r.assign) (e3 : r'.body = r.body) (e4 : r'.tmps = r.tmps) (hst : st'.ok r') :
    Fn B n0 w γ (w.putObj (γ.mu n) (.loop r')) γ ∧ Ext (Fil σ) w γ (w.putObj (γ.mu n) (.loop r')) γ ∧ Sat B n0 (w.putObj (γ.mu n) (.loop r')) γ (σ.set n (some (.loop T ps asg body st'))) ∧
      ∀ k, Fil (σ.set n (some (.loop T ps asg body st'))) k ↔ Fil σ k := by
  obtain ⟨h0, r0, k1, k2, k3, k4, k5, k6, k7⟩ := loop_ob hs.inv hm
  rw [hr] at k1
  simp only [Option.some.injEq, Obj.loop.injEq] at k1
  subst k1
  have hl := heap_lt hr
  have hblk : ∀ k, k ≠ γ.mu n → (w.putObj (γ.mu n) (.loop r')).heap[k]? = w.heap[k]? := fun k hk => World.putObj_heap_other hk
  have hsame : (w.putObj (γ.mu n) (.loop r')).heap[γ.mu n]? = some (.loop r') := World.putObj_heap_same hl
  have hext : ∀ A : Nat → Prop, Ext A w γ (w.putObj (γ.mu n) (.loop r')) γ := by
    refine fun A => ⟨⟨fun g i hi => ?_, fun _ => Nat.le_refl _⟩, fun _ _ => rfl, fun _ _ => Nat.le_refl _, fun _ _ _ => rfl⟩
    have : g ≠ γ.mu n := by rintro rfl; omega
    exact World.cell?_of_block (w := w) (a := ⟨g, i, none⟩) (hblk g this)
  have hBm : B ≤ γ.mu n := hs.own n _ _ hn0 hm rfl
  have hfn : Fn B n0 w γ (w.putObj (γ.mu n) (.loop r')) γ := ⟨hext _, ⟨rfl, rfl, rfl, by simp, fun k hk => hblk k (by omega)⟩, fun _ _ => rfl, fun _ _ => ⟨rfl, rfl⟩,
    fun k hk => (hblk k (by rintro rfl; rw [hr] at hk; cases hk)).trans hk, fun k x hk => by
      by_cases e : k = γ.mu n
      · subst e; exact ⟨r', hsame⟩
      · exact ⟨x, (hblk k e).trans hk⟩⟩
  obtain ⟨j1, j2⟩ := hs.upd (b' := .loop T ps asg body st') hm hn0 (hext _) (by simp) (fun _ _ _ => rfl) (fun g hg hne => ⟨hblk g (fun e => hne (by simp [ownBlk, e])), rfl⟩)
    (by
      refine ⟨h0, r', hsame, by rw [e1]; exact k2, by rw [e2]; exact k3, by rw [e3]; exact k4, by rw [e4]; exact k5, fun i c hc => by rw [e4]; exact (k6 i c hc).ext (hext _), ?_⟩
      cases st' <;> exact hst) (fun g hg => .inl hg) (fun g hg => hs.inv.lt g (by simpa using hg))
  exact ⟨hfn, hext _, j1, j2⟩

theorem setPs_rep {A : Nat → Prop} : ∀ (ps : List Nat) (cs : List C) (vs : List Value) (T : List C) (tmps : Array Value), vs.length = cs.length → (∀ (i : Nat) (c : C), cs[i]? = some c → RepC w γ A c (vs.getD i undef)) → RepT w γ A T tmps →
    RepT w γ A (setPs ps cs T) ((ps.zip vs).foldl (fun tmps x => tmps.setIfInBounds x.1 x.2) tmps)
  | [], cs, vs, T, tmps, _, _, h => by simpa [setPs] using h
  | p :: ps, [], vs, T, tmps, hl, _, h => by
    have : vs = [] := by simpa using hl
    subst this
    simpa [setPs] using h
  | p :: ps, c :: cs, [], T, tmps, hl, _, h => by simp at hl
  | p :: ps, c :: cs, v :: vs, T, tmps, hl, hr, h => by
    simp only [setPs, List.zip_cons_cons, List.foldl_cons]
    exact setPs_rep ps cs vs _ _ (by simpa using hl) (fun i c hc => hr (i + 1) c (by simpa using hc)) (h.put (hr 0 c rfl))

theorem yield_tmps (ps : Array Tmp) (vs : Array Value) (tmps : Array Value) : (ps.zip vs).foldl (fun tmps (x : Tmp × Value) => tmps.setIfInBounds x.1 x.2) tmps = (ps.toList.zip vs.toList).foldl (fun tmps x => tmps.setIfInBounds x.1 x.2) tmps := by
  rw [← Array.foldl_toList, Array.toList_zip]

/-- Ends of rounds. -/
theorem round_end (hs : Sat B n0 w γ σ) {ps : List Nat} {asg body : ECode} {n : Nat} (hm : σ[n]? = some (some (.loop T ps asg body .busy))) (hn0 : n0.lo ≤ n) (j : Option JEx) :
    ∃ w', (Instr.endRound (γ.mu n) (j.map JEx.code)).run P w = .ok (.bool j.isNone) w' ∧ Fn B n0 w γ w' γ ∧ Sat B n0 w' γ (σ.set n (some (.loop T ps asg body (stJ j)))) ∧
      ∀ k, Fil (σ.set n (some (.loop T ps asg body (stJ j)))) k ↔ Fil σ k := by
  obtain ⟨h0, r, k1, k2, k3, k4, k5, k6, k7⟩ := loop_ob hs.inv hm
  have hrun := run_endRound (P := P) (j.map JEx.code) k1
  have hn : (j.map JEx.code).isNone = j.isNone := by cases j <;> rfl
  rw [hn] at hrun
  obtain ⟨u1, u2, u3, u4⟩ := loop_upd hs (st' := stJ j) hm hn0 k1 (r' := { r with state := if j.isNone then .ready else .done, pending := j.map JEx.code }) rfl rfl rfl rfl (by
    cases j with
    | none => exact ⟨rfl, rfl⟩
    | some x => exact ⟨rfl, rfl⟩)
  exact ⟨_, hrun, u1, u3, u4⟩

theorem callY_of (hP : P = TheProg.prog) (hmix : P.follows .mixedOrders = true) {kf n : Nat} {args : List C} {r : C}
    (hC : ∀ (c : ECode) (T : List C) (σ : St) (x : AEx) (T' : List C) (σ' : St), evC F n0.lo kf c T σ = some (x, T', σ') → ∀ (n1 : Fr), n1.lo = n0.lo → n1.hi ≤ σ.length → ∀ Q : AEx → List C → St → Prop, Q x T' σ' → wpC P n1 c.strip T σ Q)
    (hG : FGrow F) (h : evY F n0.lo kf n args σ = some (r, σ')) : CallY P n0 n args σ fun r' σ'' => r' = r ∧ σ'' = σ' := by
  unfold evY at h
  split at h
  · rename_i T ps asg body hm
    split at h
    · rename_i hc
      obtain ⟨hlo, hal⟩ := hc
      split at h
      · rename_i T1 σ1 hasg
        split at h
        · rename_i T' ps' asg' body' hm1
          intro ro B w γ vs hs hvl hvr
          obtain ⟨h0, rc, k1, k2, k3, k4, k5, k6, k7, k8⟩ := loop_ob hs.inv hm
          have hps : vs.size = rc.params.size := by rw [hvl, hal, ← k2]; simp
          have hy := run_yield (P := P) k1 hps
          have hsX : Sat B (n0.up σ.length hs.n0) w γ σ := hs.fr rfl (Nat.le_refl _)
          have hg1 := evC_grow hG _ _ _ _ _ _ hasg
          refine ⟨γ.mu n, rc.fn, _, rc.assign, rc.body, hy, ?_⟩
          refine roundIn_of_wpIn trivial ?_
          have hF : (Fo ro).inRound (γ.mu n) = Fo (some (γ.mu n)) := rfl
          rw [hF]
          -- the temporaries
          have hT0 : RepT w γ (Fil σ) (setPs ps args T) ((rc.params.zip vs).foldl (fun tmps (x : Tmp × Value) => tmps.setIfInBounds x.1 x.2) rc.tmps) := by
            rw [yield_tmps, k2]
            refine setPs_rep ps args vs.toList T rc.tmps (by simp [hvl]) (fun i c hc => ?_) ⟨k5, fun i c hc => (k6 i c hc).mono fun _ h => h.2⟩
            have := hvr i c hc
            simpa [Array.getD_eq_getD_getElem?, List.getD_eq_getElem?_getD] using this
          have hro0 : RoOk (some (γ.mu n)) w := fun l hl => by
            simp only [Option.some.injEq] at hl; subst hl; exact ⟨rc, k1⟩
          have hw1 := hC asg _ _ _ _ _ hasg ((⟨n0.lo, σ.length, Nat.le_trans n0.le hs.n0, 0⟩ : Fr)) rfl (Nat.le_refl _) (fun x T2 σ2 => x = .normal ∧ T2 = T1 ∧ σ2 = σ1) ⟨rfl, rfl, rfl⟩
          have hsY : Sat B (⟨n0.lo, σ.length, Nat.le_trans n0.le hs.n0, 0⟩ : Fr) w γ σ := hs.fr rfl (Nat.le_refl _)
          refine wpIn_mono (wpC_sound hmix _ _ _ _ _ (by rw [hP]; exact k3) hw1 (some (γ.mu n)) B w γ _ hro0 (DefOk.nil _ _ (Nat.zero_le _)) hsY hT0) ?_
          rintro e a1 w1 ⟨x, T2, σ2, γ1, rfl, i1, i2, i3, i4, rfl, rfl, rfl⟩
          -- the round begins
          have hnf : n < σ.length := (List.getElem?_eq_some_iff.1 hm).1
          have hmu1 : γ1.mu n = γ.mu n := i2.ext.mu n hnf
          obtain ⟨h0', rc1, q1, q2, q3, q4, q5, q6, q7⟩ := loop_ob i3.inv hm1
          have hbr := run_beginRound (P := P) q1 q7.1
          rw [hmu1] at hbr
          obtain ⟨u1, u2, u3, u4⟩ := loop_upd i3 (st' := .busy) hm1 hlo q1 (r' := { rc1 with state := .busy }) rfl rfl rfl rfl rfl
          rw [hmu1] at u1 u2 u3
          refine ⟨_, hbr, ?_⟩
          -- its body
          generalize hev : evC F n0.lo kf body T2 (σ2.set n (some (.loop T' ps' asg' body' .busy))) = ob at h
          cases ob with
          | none => cases h
          | some ob =>
            obtain ⟨x, T3, σ3⟩ := ob
            have hg3 := evC_grow hG _ _ _ _ _ _ hev
            have hw2 := hC body _ _ _ _ _ hev ((⟨n0.lo, σ.length, Nat.le_trans n0.le hs.n0, 0⟩ : Fr)) rfl (by rw [List.length_set]; exact hg1.len) (fun x' T4 σ4 => x' = x ∧ T4 = T3 ∧ σ4 = σ3) ⟨rfl, rfl, rfl⟩
            have hT2 : RepT (w1.putObj (γ.mu n) (.loop { rc1 with state := .busy })) γ1 (Fil (σ2.set n (some (.loop T' ps' asg' body' .busy)))) T2 a1.tmps := (i4.ext u2).mono fun k hk => (u4 k).2 hk
            refine wpIn_mono (wpC_sound hmix _ _ _ _ _ (by rw [hP]; exact k4) hw2 (some (γ.mu n)) B _ γ1 a1 ((hro0.step i2).step u1) ((i1.step u1)) u3 hT2) ?_
            rintro e a3 w3 ⟨x', T4, σ4, γ3, rfl, j1, j2, j3, j4, rfl, rfl, rfl⟩
            have hmu3 : γ3.mu n = γ.mu n := (j2.ext.mu n hnf).trans hmu1
            simp only [endY] at h
            split at h
            · rename_i T5 ps5 asg5 body5 hm3
              have fin : ∀ j : Option JEx, some (C.d (.bool j.isNone), (σ4.set n (some (.loop T5 ps5 asg5 body5 (stJ j)))).take σ.length) = some (r, σ') →
                  ∃ v w', (Instr.endRound (γ.mu n) (j.map JEx.code)).run P w3 = .ok v w' ∧ ∃ v1 γ' r' σ'', Ending.returned v = .returned v1 ∧ Fn B (n0.up σ.length hs.n0) w γ w' γ' ∧ (∀ n, Fil σ n → Fil σ'' n) ∧
                    Sat B (n0.up σ.length hs.n0) w' γ' σ'' ∧ RepC w' γ' (Fil σ'') r' v1 ∧ r' = r ∧ σ'' = σ' := by
                intro j he
                simp only [Option.some.injEq, Prod.mk.injEq] at he
                obtain ⟨rfl, rfl⟩ := he
                obtain ⟨w', y1, y2, y3, y4⟩ := round_end (P := P) j3 hm3 hlo j
                rw [hmu3] at y1
                obtain ⟨z1, z2⟩ := sat_take y3 (s := σ.length) (Nat.le_refl _)
                have hf : Fn B (⟨n0.lo, σ.length, Nat.le_trans n0.le hs.n0, 0⟩ : Fr) w γ w' γ3 := ((i2.trans u1).trans j2).trans y2
                refine ⟨_, w', y1, _, γ3, _, _, rfl, hf.mono (Nat.le_refl _) (Nat.le_refl _) (Nat.le_refl _), fun k hk => z2 k ⟨hk.lt, (y4 k).2 (hg3.fil k ((u4 k).2 (hg1.fil k hk)))⟩, z1.fr rfl ?_, .d (.bool _), rfl, rfl⟩
                show σ.length ≤ _
                rw [List.length_take, List.length_set]
                have := hg3.len
                have := hg1.len
                rw [List.length_set] at *
                omega
              cases x' with
              | normal => exact fin none h
              | ret => exact fin (some .ret) h
              | exit id => exact fin (some (.exit id)) h
            · cases h
        · cases h
      · cases h
    · cases h
  · cases h
end
end Go.Av

set_option linter.unusedVariables false
set_option linter.unusedSimpArgs false
namespace Go.Av
open Go.RowKit
variable [TheProg]
set_option linter.unusedSectionVars false

section
variable {P : Program} {B : Nat} {n0 : Fr} {o : Oper} {a : Act} {w w0 : World} {γ γ0 : G} {σ σ' : St} {c : C} {T : List C} {F : CallF}

theorem inner_run {l₀ : Nat} {r₀ : Loop} (h : w.heap[l₀]? = some (.loop r₀)) (fn : FuncId) (tmps : Array Value) (ps : Array Tmp) (assign body : Code) :
    (Instr.enterLoop fn tmps ps assign body (some l₀)).run P w =
      .ok (w.heap.size, []) (w.alloc (.loop { state := .ready, pending := none, fn, tmps, params := ps, assign, body, defers := r₀.defers })) := by
  unfold Instr.enterLoop
  simp only [Sem.run_bind, run_getLoop h, run_newObj_alloc, Result.andThen, Sem.run_pure]

/-- The record is laid. -/
theorem enter_rec (hs : Sat B n0 w γ σ) (hhi : n0.hi = σ.length) {ro : Option Nat} (hro : RoOk ro w) (hd : DefOk n0.D w a.defers) {live : List Bool} (hT : RepT w γ (Fil σ) T a.tmps) (hlt : C.ltL σ.length (keepT live T) = true)
    {ps : Array Tmp} {asg' body' : Code} {asg body : ECode} (ha : linkC TheProg.prog asg' = some asg.strip) (hb : linkC TheProg.prog body' = some body.strip) (fn : FuncId) :
    ∃ l mark w1 γ1, (Instr.enterLoop fn a.tmps ps asg' body' ro).run P w = .ok (l, mark) w1 ∧ Fn B n0 w γ w1 γ1 ∧
      Sat B n0 w1 γ1 (σ ++ [some (.loop (keepT live T) ps.toList asg body .ready)]) ∧ γ1.mu σ.length = l ∧ DefOk n0.D w1 (mark ++ a.defers) := by
  have hkt := repT_keep live hT
  have hreps : ∀ (w2 : World) (γ2 : G), Ext (Fil σ) w γ w2 γ2 → ∀ (i : Nat) (c : C), (keepT live T)[i]? = some c → RepC w2 γ2 (Low (Fil σ) σ.length) c (a.tmps.getD i undef) := fun w2 γ2 he i c hc =>
    ((hkt.get i c hc).ext he).lt (ltL_get hlt i c hc)
  cases ro with
  | none =>
    obtain ⟨hk, hf⟩ := keep_alloc hs (.deferred (some [])) γ σ.length (by omega) (fun h => Nat.lt_irrefl _ h.lt) (fun _ _ => rfl) (fun _ _ => rfl) (fun _ _ => rfl) (fun _ _ => rfl)
    have hsA : Sat B n0 (w.alloc (.deferred (some []))) γ σ := hs.after hk (fun g hg => hs.inv.lt g (by simp at hg; omega))
    obtain ⟨γ1, f1, e1, s1, m1⟩ := loop_new hsA (T := keepT live T) (ps := ps.toList) { state := .ready, pending := none, fn, tmps := a.tmps, params := ps, assign := asg', body := body', defers := w.heap.size } rfl ha hb hkt.size
      (hreps _ _ hk.ext) ⟨rfl, rfl⟩
    refine ⟨_, _, _, γ1, run_enterLoop_outer _ _ _ _ _, hf.trans f1, s1, by rw [m1]; simp, ?_⟩
    have hd1 := (hd.step hf).step f1
    obtain ⟨d0, rs, d1, d2, d3⟩ := hd
    obtain ⟨d0', rs', d1', d2', d3'⟩ := hd1
    refine ⟨d0', w.heap.size :: rs, by rw [d1]; rfl, List.nodup_cons.2 ⟨fun hm => ?_, d2⟩, fun r hr => ?_⟩
    · have := heap_lt (d3 _ hm).2; omega
    · rcases List.mem_cons.1 hr with rfl | hr
      · exact ⟨d0, f1.dfr _ (heap_alloc_new w _)⟩
      · exact ⟨(d3 r hr).1, f1.dfr _ (hf.dfr _ (d3 r hr).2)⟩
  | some l0 =>
    obtain ⟨r0, hr0⟩ := hro l0 rfl
    obtain ⟨γ1, f1, e1, s1, m1⟩ := loop_new hs (T := keepT live T) (ps := ps.toList) { state := .ready, pending := none, fn, tmps := a.tmps, params := ps, assign := asg', body := body', defers := r0.defers } rfl ha hb hkt.size
      (hreps _ _ (.refl _ _ _)) ⟨rfl, rfl⟩
    exact ⟨_, _, _, γ1, inner_run hr0 _ _ _ _ _, f1, s1, m1, by simpa using hd.step f1⟩

theorem trA_rfunc (hP : P = TheProg.prog) (hF : FOk P F) (hG : FGrow F) {kf : Nat} {live : List Bool} {g : Opd} {ps : List Nat} {asg body : ECode} {x : AEx} {T' : List C} (h : evC F n0.lo kf (.rfunc live g ps asg body) T σ = some (x, T', σ'))
    {Q : AEx → List C → St → Prop} (hQ : Q x T' σ') : TrA P n0 (.rfunc g ps asg.strip body.strip) T σ Q := by
  intro c hc
  cases c with
  | rangeFunc g' ps' asg' body' =>
    simp only [linkC] at hc
    split at hc
    · rename_i g1 a1 b1 hg ha hb
      simp only [Option.some.injEq, ACode.rfunc.injEq] at hc
      obtain ⟨rfl, rfl, rfl, rfl⟩ := hc
      intro ro B w γ a hro hd hs hT
      simp only [evC] at h
      split at h
      · rename_i fid first caps hfe
        split at h
        · rename_i hlt
          generalize hcall : F n0.lo _ _ _ = res at h
          cases res with
          | none => cases h
          | some res =>
            obtain ⟨c0, σ1⟩ := res
            have hv := linkO_rep hg hT
            rw [hfe] at hv
            obtain ⟨fs, cs, hval, hfs, hcs⟩ : ∃ fs cs, a.eval g' = .func (.func fid) fs cs ∧ RepL w γ (Fil σ) first fs ∧ RepL w γ (Fil σ) caps cs := by
              generalize a.eval g' = v at hv
              cases hv with | cl fs cs h1 h2 h3 h4 => exact ⟨fs, cs, rfl, ⟨h1, h3⟩, ⟨h2, h4⟩⟩
            have hsX : Sat B (⟨n0.lo, σ.length, Nat.le_trans n0.le hs.n0, n0.D⟩ : Fr) w γ σ := hs.fr rfl (Nat.le_refl _)
            obtain ⟨⟨fn0, hfn, hbody, hname⟩, hx⟩ := hF.fn _ _ _ _ _ _ hcall ((⟨n0.lo, σ.length, Nat.le_trans n0.le hs.n0, n0.D⟩ : Fr)) rfl
            refine wpIn_rangeFunc ?_
            intro fn hfnF
            obtain ⟨l, mark, w1, γ1, e1, f1, s1, m1, d1⟩ := enter_rec (P := P) (B := B) hsX rfl hro hd hT hlt (ps := ps') (by rw [← hP]; exact ha) (by rw [← hP]; exact hb) fn
            refine ⟨l, mark, w1, { target := .fn (.func fid) cs, args := fs ++ #[.func (.yield l) #[] #[]] }, w1, fid, fs ++ #[.func (.yield l) #[] #[]] ++ cs, w1, e1, ?_, fun _ _ => trivial, ?_, fo_depth, ?_⟩
            · simp only [resolve, rangeCall, hval, Deferred.ofValue]
              simp [Act.eval]
            · have hb : fn0.body.isNone = false := hbody
              simp only [invoke, callFunc, Sem.run_bind, run_program, Result.andThen_ok, hfn, hname, hb]
              simp
            · have hext : Ext (Fil σ) w γ w1 γ1 := f1.ext.mono fun n hn => hn.lt
              have hmem : ∀ n, Fil σ n → Fil (σ ++ [some (.loop (keepT live T) ps'.toList asg body .ready)]) n := (Grow.push σ _).fil
              have hargs : RepL w1 γ1 (Fil (σ ++ [some (.loop (keepT live T) ps'.toList asg body .ready)])) (first ++ [.yl σ.length] ++ caps) (fs ++ #[.func (.yield l) #[] #[]] ++ cs) := by
                refine repL_append (repL_append ⟨hfs.1, fun i c hc => ((hfs.2 i c hc).ext hext).mono hmem⟩ ⟨rfl, fun i c hc => ?_⟩) ⟨hcs.1, fun i c hc => ((hcs.2 i c hc).ext hext).mono hmem⟩
                cases i with
                | zero =>
                  simp at hc; subst hc
                  rw [← m1]
                  exact .yl ⟨.loop (keepT live T) ps'.toList asg body .ready, by simp⟩
                | succ i => simp at hc
              refine fo_calls ((hx B w1 γ1 _ s1 hargs.1 hargs.2).mono ?_)
              rintro e w3 ⟨v, γ3, r, σ3, rfl, k1, k2, k3, k4, rfl, rfl⟩
              -- the loop is over
              have hmu3 : γ3.mu σ.length = l := by rw [← m1]; exact k1.ext.mu σ.length (by simp [Fr.up])
              simp only [endRF] at h
              obtain ⟨T9, ps9, asg9, body9, st9, hob, hst⟩ : ∃ T9 ps9 asg9 body9 st9, σ3[σ.length]? = some (some (.loop T9 ps9 asg9 body9 st9)) ∧ st9 ≠ .busy := by
                split at h
                · exact ⟨_, _, _, _, _, by assumption, by simp⟩
                · exact ⟨_, _, _, _, _, by assumption, by simp⟩
                · exact ⟨_, _, _, _, _, by assumption, by simp⟩
                · cases h
              obtain ⟨h0', r3, q1, q2, q3, q4, q5, q6, q7⟩ := loop_ob k3.inv hob
              rw [hob] at h
              have fin : ∀ (x' : AEx) (w4 : World), some (x', keepT live T, σ3.take σ.length) = some (x, T', σ') → w4 = w3.putObj l (.loop { r3 with state := .exhausted }) → Post B n0 w γ Q x'.ex { a with defers := mark ++ a.defers } w4 := by
                rintro x' w4 he rfl
                simp only [Option.some.injEq, Prod.mk.injEq] at he
                obtain ⟨rfl, rfl, rfl⟩ := he
                obtain ⟨u1, u2, u3, u4⟩ := loop_upd k3 (st' := .over) hob (Nat.le_trans n0.le hs.n0) q1 (r' := { r3 with state := .exhausted }) rfl rfl rfl rfl trivial
                rw [hmu3] at u1 u2 u3
                obtain ⟨z1, z2⟩ := sat_take (s := σ.length) (u3.fr (n1 := (⟨n0.lo, σ.length, Nat.le_trans n0.le hs.n0, n0.D⟩ : Fr)) rfl (by rw [List.length_set]; have := k3.n0; exact Nat.le_trans (by simp [Fr.up]) this)) (Nat.le_refl _)
                have e9 : (σ3.set σ.length (some (Ob.loop T9 ps9 asg9 body9 .over))).take σ.length = σ3.take σ.length := by
                  rw [List.take_set_of_le (Nat.le_refl _)]
                rw [e9] at z1 z2
                have hf : Fn B (⟨n0.lo, σ.length, Nat.le_trans n0.le hs.n0, n0.D⟩ : Fr) w γ (w3.putObj l (.loop { r3 with state := .exhausted })) γ3 :=
                  (f1.trans (k1.mono (Nat.le_refl _) (Nat.le_refl _) (by simp [Fr.up]))).trans (u1.mono (Nat.le_refl _) (Nat.le_refl _) (by simp [Fr.up]))
                refine ⟨x', _, _, γ3, rfl, (d1.step k1).step u1, hf.mono (Nat.le_refl _) (Nat.le_refl _) hs.n0, z1.fr rfl (by rw [List.length_take]; have := hs.n0; have := k3.n0; simp [Fr.up] at this; omega), ?_, hQ⟩
                refine ((repT_keep live hT).ext (hf.ext.mono fun n hn => hn.lt)).mono fun n hn => z2 n ⟨hn.lt, (u4 n).2 (k2 n (hmem n hn))⟩
              have hrun := run_endLoop (P := P) q1 (by
                cases st9 with
                | busy => exact absurd rfl hst
                | ready => rw [q7.1]; simp
                | done x => rw [q7.1]; simp
                | over => split at h <;> simp_all)
              rw [hmu3] at hrun
              generalize hw4 : w3.putObj l (.loop { r3 with state := .exhausted }) = w4 at hrun
              cases st9 with
              | busy => exact absurd rfl hst
              | over => split at h <;> simp_all
              | ready =>
                rw [q7.2] at hrun
                exact ⟨_, _, hrun, fin .normal _ h hw4.symm⟩
              | done j =>
                rw [q7.2] at hrun
                refine ⟨_, _, hrun, ?_⟩
                cases j with
                | ret => exact wpIn_ret (fin .ret _ h hw4.symm)
                | exit id => exact wpIn_exit (fin (.exit id) _ h hw4.symm)
        · cases h
      · cases h
    · cases hc
  | _ => first
    | (simp [linkC] at hc; done)
    | (simp only [linkC] at hc; revert hc; repeat' split
       all_goals first
         | (simp; done)
         | (intro h; have := linkDraw_reg h; cases this))
    | (simp only [linkC] at hc; obtain ⟨_, _, h⟩ := Option.map_eq_some_iff.1 hc; cases h)

theorem wpC_of_evC (hP : P = TheProg.prog) (hmix : P.follows .mixedOrders = true) (hF : FOk P F) (hG : FGrow F) {lo kf : Nat} : ∀ (c : ECode) (T : List C) (σ : St) (x : AEx) (T' : List C) (σ' : St), evC F lo kf c T σ = some (x, T', σ') →
    ∀ (n1 : Fr), n1.lo = lo → n1.hi ≤ σ.length → ∀ Q : AEx → List C → St → Prop, Q x T' σ' → wpC P n1 c.strip T σ Q := by
  intro c
  induction c with
  | skip => intro T σ x T' σ' h n1 hlo hhi Q hQ; simp only [evC, Option.some.injEq, Prod.mk.injEq] at h; obtain ⟨rfl, rfl, rfl⟩ := h; exact hQ
  | region d ops =>
    intro T σ x T' σ' h n1 hlo hhi Q hQ
    simp only [evC] at h
    split at h
    · rename_i he
      simp only [Option.some.injEq, Prod.mk.injEq] at h; obtain ⟨rfl, rfl, rfl⟩ := h
      subst hlo
      cases d with
      | true => exact wpQ_sound hmix hF he hQ
      | false => exact wpS_of_evR hF he hQ
    · cases h
  | draw N ds =>
    intro T σ x T' σ' h n1 hlo hhi Q hQ
    simp only [evC] at h
    split at h
    · rename_i he
      simp only [Option.some.injEq, Prod.mk.injEq] at h; obtain ⟨rfl, rfl, rfl⟩ := h
      subst hlo
      exact wpD_of_evD hF _ _ _ he hQ
    · cases h
  | regw ds =>
    intro T σ x T' σ' h n1 hlo hhi Q hQ
    simp only [evC] at h
    split at h
    · rename_i he
      simp only [Option.some.injEq, Prod.mk.injEq] at h; obtain ⟨rfl, rfl, rfl⟩ := h
      subst hlo
      exact wpW_sound hmix hF he hQ
    · cases h
  | seq a b iha ihb =>
    intro T σ x T' σ' h n1 hlo hhi Q hQ
    simp only [evC] at h
    simp only [ECode.strip, wpC]
    split at h
    · rename_i T1 σ1 he
      have hg := evC_grow hG _ _ _ _ _ _ he
      exact iha _ _ _ _ _ he n1 hlo hhi _ (ihb _ _ _ _ _ h n1 hlo (Nat.le_trans hhi hg.len) _ hQ)
    · rename_i hne
      refine iha _ _ _ _ _ h n1 hlo hhi _ ?_
      cases x with
      | normal => exact absurd h (by intro he; exact hne _ _ he)
      | exit id => exact hQ
      | ret => exact hQ
  | cond c a b iha ihb =>
    intro T σ x T' σ' h n1 hlo hhi Q hQ
    simp only [evC] at h
    simp only [ECode.strip, wpC]
    split at h
    · rename_i he; rw [he]; exact ⟨fun _ => iha _ _ _ _ _ h n1 hlo hhi _ hQ, fun h => by cases h⟩
    · rename_i he; rw [he]; exact ⟨fun h => (by cases h), fun _ => ihb _ _ _ _ _ h n1 hlo hhi _ hQ⟩
    · cases h
  | block id c ih =>
    intro T σ x T' σ' h n1 hlo hhi Q hQ
    simp only [evC] at h
    simp only [ECode.strip, wpC]
    split at h
    · rename_i i T1 σ1 he
      refine ih _ _ _ _ _ he n1 hlo hhi _ ?_
      split at h
      · rename_i hid
        simp only [Option.some.injEq, Prod.mk.injEq] at h; obtain ⟨rfl, rfl, rfl⟩ := h
        simp only [hid, if_true]
        exact hQ
      · rename_i hid
        simp only [Option.some.injEq, Prod.mk.injEq] at h; obtain ⟨rfl, rfl, rfl⟩ := h
        simp only [hid, if_false]
        exact hQ
    · rename_i hne
      refine ih _ _ _ _ _ h n1 hlo hhi _ ?_
      cases x with
      | normal => exact hQ
      | exit id => exact absurd h (by intro he; exact hne _ _ _ he)
      | ret => exact hQ
  | loop live lout c ih =>
    intro T σ x T' σ' h n1 hlo hhi Q hQ
    simp only [evC] at h
    simp only [ECode.strip, wpC]
    intro c1 hc1
    have hL : TrA P n1 (.loop c.strip) (keepT live T) σ Q := by
      exact trA_of_trL kf (trL_of_iter hmix σ.length hhi (fun T σ x T' σ' => evC_grow hG _ _ _ _ _ _) (fun T σ2 x T' σ' h hl Q hQ => ih _ _ _ _ _ h n1 hlo (by omega) Q hQ) hQ _ _ _ rfl h)
    intro ro B w γ a hro hd hs hT
    exact hL c1 hc1 ro B w γ a hro hd hs (repT_keep live hT)
  | scope c ih => intro T σ x T' σ' h n1 hlo hhi Q hQ; simp only [evC] at h; exact ih _ _ _ _ _ h n1 hlo hhi Q hQ
  | exit id => intro T σ x T' σ' h n1 hlo hhi Q hQ; simp only [evC, Option.some.injEq, Prod.mk.injEq] at h; obtain ⟨rfl, rfl, rfl⟩ := h; exact hQ
  | ret => intro T σ x T' σ' h n1 hlo hhi Q hQ; simp only [evC, Option.some.injEq, Prod.mk.injEq] at h; obtain ⟨rfl, rfl, rfl⟩ := h; exact hQ
  | rfunc live g ps asg body ih1 ih2 =>
    intro T σ x T' σ' h n1 hlo hhi Q hQ
    subst hlo
    exact trA_rfunc hP hF hG h hQ

end
end Go.Av

set_option linter.unusedVariables false
set_option linter.unusedSimpArgs false
namespace Go.Av
open Go.RowKit
variable [TheProg]
set_option linter.unusedSectionVars false

section
variable {P : Program} {B : Nat} {n0 : Fr} {o : Oper} {a : Act} {w w0 : World} {γ γ0 : G} {σ σ' : St} {c : C} {T : List C} {F : CallF}

/-- What an object lies in holds no deferred calls. -/
theorem blk_kind {A : Nat → Prop} {n : Nat} {b : Ob} {g : Nat} (h : InvOb w γ A n b) (hg : ownBlk γ n (some b) = some g) (ds : Option (List Deferred)) : w.heap[g]? ≠ some (.deferred ds) := by
  cases b with
  | box t cs =>
    obtain ⟨_, vs, hh, _⟩ := h
    simp only [ownBlk, Option.some.injEq] at hg
    rw [← hg, hh]; simp
  | map es =>
    obtain ⟨_, ms, ck, hh, _⟩ := h
    simp only [ownBlk, Option.some.injEq] at hg
    rw [← hg, hh]; simp
  | loop T ps asg body st =>
    obtain ⟨_, r, hh, _⟩ := h
    simp only [ownBlk, Option.some.injEq] at hg
    rw [← hg, hh]; simp
  | siter s pos =>
    obtain ⟨_, hh⟩ := h
    simp only [ownBlk, Option.some.injEq] at hg
    rw [← hg, hh]; simp
  | ntok e sz =>
    obtain ⟨_, hh⟩ := h
    simp [ownBlk, hh, blkOf] at hg
  | tok e sz len =>
    obtain ⟨_, ⟨h, _⟩ | ⟨g', cap, cur, h, hh, _⟩⟩ := h
    · simp [ownBlk, h, blkOf] at hg
    · simp only [ownBlk, h, blkOf, Option.some.injEq] at hg
      rw [← hg, hh]; simp

/-- A block for deferred calls is shut. -/
structure Shut (rs : List Nat) (w w' : World) : Prop where
  size : w'.heap.size = w.heap.size
  other : ∀ g, g ∉ rs → w'.heap[g]? = w.heap[g]?
  os : w'.os = w.os
  tape : w'.tape = w.tape
  output : w'.output = w.output
  cell : ∀ a : Addr, w'.cell? a = w.cell? a

theorem Shut.one {r : Nat} (h : w.heap[r]? = some (Obj.deferred (some []))) : Shut [r] w (w.putObj r (.deferred none)) :=
  ⟨by simp, fun g hg => World.putObj_heap_other (by simpa using hg), rfl, rfl, rfl, fun p => by
    by_cases e : p.block = r
    · have h1 : (w.putObj r (.deferred none)).heap[p.block]? = some (.deferred none) := by rw [e]; exact World.putObj_heap_same (heap_lt h)
      have h2 : w.heap[p.block]? = some (.deferred (some [])) := by rw [e]; exact h
      unfold World.cell?
      simp [h1, h2]
    · exact World.cell?_of_block (World.putObj_heap_other e)⟩

theorem Shut.trans {rs rs' : List Nat} {w1 w2 w3 : World} (h : Shut rs w1 w2) (k : Shut rs' w2 w3) : Shut (rs ++ rs') w1 w3 :=
  ⟨k.size.trans h.size, fun g hg => by
    simp only [List.mem_append, not_or] at hg
    exact (k.other g hg.2).trans (h.other g hg.1), k.os.trans h.os, k.tape.trans h.tape, k.output.trans h.output, fun p => (k.cell p).trans (h.cell p)⟩

theorem Shut.ext {rs : List Nat} {w' : World} (h : Shut rs w w') (A : Nat → Prop) (γ : G) : Ext A w γ w' γ :=
  ⟨⟨fun g i _ => h.cell _, fun _ => Nat.le_refl _⟩, fun _ _ => rfl, fun _ _ => Nat.le_refl _, fun _ _ _ => rfl⟩

theorem Shut.sat {rs : List Nat} {w' : World} (h : Shut rs w w') (hrs : ∀ r, r ∈ rs → w.heap[r]? = some (Obj.deferred (some []))) (hs : Sat B n0 w γ σ) : Sat B n0 w' γ σ := by
  refine ⟨⟨fun n b hb => ?_, hs.inv.apart, fun g hg => hs.inv.lt g (by rw [← h.size]; exact hg)⟩, hs.own, hs.n0, by rw [h.size]; exact hs.B⟩
  refine (hs.inv.ob n b hb).kept ⟨b, hb⟩ (h.ext _ γ) (fun _ h => h) rfl (fun g hg => ⟨h.other g fun hm => blk_kind (hs.inv.ob n b hb) hg _ (hrs g hm), rfl⟩)

theorem leaves_marks {ro : Option Nat} {fn : Func} {tmps : Array Value} {R : Ending → World → Prop} : ∀ (rs : List Nat) (w : World), rs.Nodup → (∀ r, r ∈ rs → w.heap[r]? = some (Obj.deferred (some []))) →
    (∀ w', Shut rs w w' → ∃ v, (results fn tmps).run P w' = .ok v w' ∧ R (.returned v) w') → LeavesInM (Fo ro) 0 P fn tmps R (rs.map markOf) .returning w
  | [], w, _, _, h => h w ⟨rfl, fun _ _ => rfl, rfl, rfl, rfl, fun _ => rfl⟩
  | r :: rs, w, hn, hr, h => by
    have h0 := hr r (List.mem_cons_self ..)
    refine ⟨by simp, .inl ⟨r, _, rfl, run_takeDeferred h0, ?_⟩⟩
    refine leaves_marks rs _ (List.nodup_cons.1 hn).2 (fun r' hr' => ?_) (fun w' hw' => h w' ((Shut.one h0).trans hw'))
    have : r' ≠ r := fun e => (List.nodup_cons.1 hn).1 (e ▸ hr')
    rw [World.putObj_heap_other this]
    exact hr r' (List.mem_cons_of_mem _ hr')

theorem cut1_rep {s : Nat} {A : Nat → Prop} {v : Value} (h : RepC w γ A c v) : RepC w γ A (cut1 s c) v := by
  unfold cut1
  split
  · split
    · exact h
    · cases h with | o h => exact .d h
  · exact h

theorem cutA_rep {s : Nat} {A : Nat → Prop} {v : Value} (h : RepC w γ A c v) : RepC w γ A (cutA s c) v := by
  unfold cutA
  split
  · cases h with | agg vs h1 h2 => exact .agg vs (map_rep (fun c v => cut1_rep) ⟨h1, h2⟩).1 (map_rep (fun c v => cut1_rep) ⟨h1, h2⟩).2
  · exact cut1_rep h

theorem finC_sound {v : Value} {c' : C} (hs : Sat B n0 w γ σ') (hhi : n0.hi = σ.length) (hg : Grow σ σ') (hc : RepC w γ (Fil σ') c v) {σ2 : St} (h : finC σ.length σ' c = (c', σ2)) :
    ∃ γ', Fn B n0 w γ w γ' ∧ Sat B n0 w γ' σ2 ∧ (∀ n, Fil σ n → Fil σ2 n) ∧ RepC w γ' (Fil σ2) c' v := by
  obtain ⟨z1, z2⟩ := sat_take hs (s := σ.length) (by omega)
  have keep : ∀ n, Fil σ n → Fil (σ'.take σ.length) n := fun n hn => z2 n ⟨hn.lt, hg.fil n hn⟩
  have cut : ∀ x : C, RepC w γ (Fil σ') x v → C.lt σ.length x = true → (x, σ'.take σ.length) = (c', σ2) → ∃ γ', Fn B n0 w γ w γ' ∧ Sat B n0 w γ' σ2 ∧ (∀ n, Fil σ n → Fil σ2 n) ∧ RepC w γ' (Fil σ2) c' v := by
    intro x hx hl he
    simp only [Prod.mk.injEq] at he
    obtain ⟨rfl, rfl⟩ := he
    exact ⟨γ, .refl _ _ _ _, z1, keep, (hx.lt hl).mono z2⟩
  have all : (c, σ') = (c', σ2) → ∃ γ', Fn B n0 w γ w γ' ∧ Sat B n0 w γ' σ2 ∧ (∀ n, Fil σ n → Fil σ2 n) ∧ RepC w γ' (Fil σ2) c' v := by
    intro he
    simp only [Prod.mk.injEq] at he
    obtain ⟨rfl, rfl⟩ := he
    exact ⟨γ, .refl _ _ _ _, hs, hg.fil, hc⟩
  unfold finC at h
  split at h
  · rename_i sz rows b
    split at h
    · rename_i hb
      exact cut _ hc (by simpa [C.lt] using hb) h
    · rename_i hb
      split at h
      · rename_i e sz' len htok
        simp only [Prod.mk.injEq] at h
        obtain ⟨rfl, rfl⟩ := h
        have hlen : (σ'.take σ.length).length = σ.length := by rw [List.length_take]; have := hg.len; omega
        obtain ⟨y1, y2⟩ := z1.hole
        have hh : (σ'.take σ.length ++ [none])[σ.length]? = some none := by rw [← hlen]; simp
        have hS := hole_not_fil hh
        generalize hγ : ({ γ with tk := fun x => if x = σ.length then γ.tk b else γ.tk x, len := fun x => if x = σ.length then γ.len b else γ.len x } : G) = γ'
        have him : ∀ g, γ'.im g = γ.im g := by intro g; rw [← hγ]
        have hmu : ∀ n, γ'.mu n = γ.mu n := by intro n; rw [← hγ]
        have hln : ∀ n, n ≠ σ.length → γ'.len n = γ.len n ∧ γ'.tk n = γ.tk n := by intro n hn; rw [← hγ]; simp [hn]
        have htk : γ'.tk σ.length = γ.tk b ∧ γ'.len σ.length = γ.len b := by rw [← hγ]; simp
        have himf : γ'.im = γ.im := funext him
        clear hγ
        obtain ⟨hk, hf⟩ := keep_same y1 γ' σ.length (by omega) hS him (fun n _ => hmu n) (fun n hn => (hln n hn).1) (fun n hn => (hln n hn).2)
        have hsat := y1.after hk (fun g hg => by rw [him]; exact hs.inv.lt g hg)
        have e1 : ∀ b : Ob, (σ'.take σ.length ++ [none]).set σ.length (some b) = σ'.take σ.length ++ [some b] := fun b => by
          rw [List.set_append_right _ _ (by omega), hlen]; simp
        obtain ⟨t1, t2⟩ := hs.inv.ob b _ htok
        have hfill := hsat.fill hh (.tok e sz' len) (by
          refine ⟨htk.2.trans t1, ?_⟩
          rw [htk.1]
          rcases t2 with t2 | ⟨g, cap, cur, q1, q2, q3, q4, q5, q6⟩
          · exact .inl t2
          · exact .inr ⟨g, cap, cur, q1, q2, q3, q4, q5, (him g).trans q6⟩) (fun g hg => by
          have hgb : ownBlk γ b (some (.tok e sz' len)) = some g := by
            simp only [ownBlk, htk.1] at hg ⊢; exact hg
          refine ⟨hs.own b _ g (by have := n0.le; omega) htok hgb, fun n c' hn hg' => ?_⟩
          have hn' : n < σ.length ∧ σ'[n]? = some (some c') := by
            rcases Nat.lt_or_ge n σ.length with h' | h'
            · rw [List.getElem?_append_left (by omega), List.getElem?_take, if_pos h'] at hn; exact ⟨h', hn⟩
            · rcases Nat.lt_or_ge σ.length n with h'' | h''
              · rw [List.getElem?_eq_none (by simp; omega)] at hn; cases hn
              · have : n = σ.length := by omega
                subst this
                rw [hh] at hn; cases hn
          have hg2 : ownBlk γ n (some c') = some g := by
            rw [← hg']
            rcases c' with _ | _ | _ | _ | _ | _ <;> simp [ownBlk, hmu, (hln n (by omega)).2]
          have := hs.inv.apart n b _ _ g hn'.2 htok hg2 hgb
          omega)
        rw [e1] at hfill
        refine ⟨γ', hf, hfill, fun n hn => ?_, ?_⟩
        · obtain ⟨x, hx⟩ := keep n hn
          exact ⟨x, by rw [List.getElem?_append_left (List.getElem?_eq_some_iff.1 hx).1]; exact hx⟩
        · cases hc with
          | o hD ha hle hv =>
            exact .o (by rw [himf]; exact hD) ⟨.tok e sz' len, by rw [← hlen]; simp⟩ (by rw [htk.2]; exact hle) (fun he => by rw [htk.1]; exact hv (by rw [he, htk.2]))
      · refine cut _ ?_ rfl h
        cases hc with | o hD ha hle hv => exact .d hD
  · rename_i cs
    split at h
    · rename_i hl
      refine cut _ ?_ (by simpa [C.lt] using hl) h
      cases hc with | tup vs h1 h2 => exact .tup vs (map_rep (fun c v => cutA_rep) ⟨h1, h2⟩).1 (map_rep (fun c v => cutA_rep) ⟨h1, h2⟩).2
    · exact all h
  · split at h
    · rename_i hl
      exact cut _ (cutA_rep hc) hl h
    · exact all h

theorem callX_fn (hP : P = TheProg.prog) (hmix : P.follows .mixedOrders = true) (hF : FOk P F) (hG : FGrow F) {kf : Nat} {f : FuncId} {fn : Func} {ef : EFunc} {args : List C} {r : C} (hf : P.funcs[f]? = some fn) (hname : (fn.name == "runtime.NumGoroutine") = false)
    (hl : linkF P fn = some ef.strip) (h : endE σ.length ef.results (evC F n0.lo kf ef.body (args ++ List.replicate (ef.ntmps - args.length) .undef) σ) = some (r, σ')) : CallX P n0 f args σ fun r' σ'' => r' = r ∧ σ'' = σ' := by
  unfold linkF at hl
  split at hl
  · rename_i c hbody
    split at hl
    · rename_i b rs hb hrs
      simp only [Option.some.injEq, EFunc.strip, AFunc.mk.injEq] at hl
      obtain ⟨hnt, hres, hbs⟩ := hl
      refine ⟨⟨fn, hf, by simp [hbody], hname⟩, fun B w γ vs hs hvl hvr => ?_⟩
      refine (callsIn_wide (n := 0)).1 (callsIn_of_wp_marks (F := Fo none) hf hbody trivial ?_)
      generalize hev : evC F n0.lo kf ef.body _ σ = out at h
      cases out with
      | none => cases h
      | some out =>
        obtain ⟨x, T', σ1⟩ := out
        have hg := evC_grow hG _ _ _ _ _ _ hev
        have hsX : Sat B (⟨n0.lo, σ.length, Nat.le_trans n0.le hs.n0, w.heap.size⟩ : Fr) w γ σ := hs.fr rfl (Nat.le_refl _)
        have hw := wpC_of_evC hP hmix hF hG ef.body _ _ _ _ _ hev (⟨n0.lo, σ.length, Nat.le_trans n0.le hs.n0, w.heap.size⟩ : Fr) rfl (Nat.le_refl _) (fun x' T2 σ2 => x' = x ∧ T2 = T' ∧ σ2 = σ1) ⟨rfl, rfl, rfl⟩
        have hT : RepT w γ (Fil σ) (args ++ List.replicate (ef.ntmps - args.length) .undef) (vs ++ Array.replicate (fn.ntmps - vs.size) undef) := by
          have h1 : RepL w γ (Fil σ) args vs := ⟨hvl, hvr⟩
          have h2 : RepL w γ (Fil σ) (List.replicate (ef.ntmps - args.length) C.undef) (Array.replicate (fn.ntmps - vs.size) undef) := by
            refine ⟨by simp [hvl, hnt], fun i c hc => ?_⟩
            rw [List.getElem?_replicate] at hc
            split at hc
            · simp only [Option.some.injEq] at hc; subst hc; exact .undef _
            · cases hc
          have h3 := repL_append h1 h2
          exact ⟨h3.1, h3.2⟩
        refine wpIn_mono (wpC_sound hmix _ _ _ _ _ (hbs ▸ hb) hw none B w γ ⟨vs ++ Array.replicate (fn.ntmps - vs.size) undef, []⟩ (.none _) (DefOk.nil _ _ (Nat.le_refl _)) hsX hT) ?_
        rintro e a' w' ⟨x', T2, σ2, γ', rfl, k1, k2, k3, k4, rfl, rfl, rfl⟩
        obtain ⟨_, ds, d1, d2, d3⟩ := k1
        have fin : finE σ.length ef.results T2 σ2 = some (r, σ') → LeavesInM (Fo none) 0 P fn a'.tmps (fun e w' => ∃ v γ' r' σ'', e = Ending.returned v ∧ Fn B (n0.up σ.length hs.n0) w γ w' γ' ∧ (∀ n, Fil σ n → Fil σ'' n) ∧ Sat B (n0.up σ.length hs.n0) w' γ' σ'' ∧ RepC w' γ' (Fil σ'') r' v ∧ r' = r ∧ σ'' = σ') a'.defers .returning w' := by
          intro hfin
          unfold finE at hfin
          obtain ⟨cs, hcs, hfc⟩ := Option.map_eq_some_iff.1 hfin
          rw [d1]
          refine leaves_marks ds w' d2 (fun r hr => (d3 r hr).2) (fun wF hw' => ?_)
          have hsF := hw'.sat (fun r hr => (d3 r hr).2) k3
          have hTF := k4.ext (hw'.ext (Fil σ2) γ')
          obtain ⟨v, hv, hrep⟩ := results_run hsF hTF (by rw [← hres]; exact hrs) hcs
          obtain ⟨γ2, f1, f2, f3, f4⟩ := finC_sound hsF rfl hg hrep hfc
          refine ⟨v, hv, v, γ2, r, σ', rfl, ?_, f3, f2.fr rfl ?_, f4, rfl, rfl⟩
          · have hlow : ∀ g, g < w.heap.size → g ∉ ds := fun g hg hm => by have : w.heap.size ≤ g := (d3 g hm).1; omega
            have hfn : Fn B (⟨n0.lo, σ.length, Nat.le_trans n0.le hs.n0, w.heap.size⟩ : Fr) w γ wF γ' :=
              ⟨k2.ext.trans (hw'.ext _ γ'), ⟨hw'.os.trans k2.below.os, hw'.tape.trans k2.below.tape, hw'.output.trans k2.below.output, by rw [hw'.size]; exact k2.below.size, fun g hg => (hw'.other g (hlow g (Nat.lt_of_lt_of_le hg hs.B))).trans (k2.below.block g hg)⟩, k2.im, k2.out,
                fun g hg => (hw'.other g (hlow g (heap_lt hg))).trans (k2.dfr g hg), fun l y hy => by
                  obtain ⟨z, hz⟩ := k2.lps l y hy
                  exact ⟨z, (hw'.other l (hlow l (heap_lt hy))).trans hz⟩⟩
            exact (hfn.trans f1).mono (Nat.le_refl _) (Nat.le_refl _) (Nat.le_refl _)
          · have := f2.n0; exact this
        cases x' with
        | normal => exact fin h
        | ret => exact fin h
        | exit id => cases h
    · cases hl
  · cases hl

end

/-- The table's functions are the program's; of the others contracts are known. -/
structure EnvOk (P : Program) (E : Env) : Prop where
  mix : P.follows .mixedOrders = true
  fn : ∀ f ef, E.tbl f = some ef → ∃ fn, P.funcs[f]? = some fn ∧ (fn.name == "runtime.NumGoroutine") = false ∧ linkF P fn = some ef.strip
  prim : FOk P E.prim
  grow : FGrow E.prim

theorem evF_ok {E : Env} (h : EnvOk TheProg.prog E) : ∀ k, FOk TheProg.prog (evF E k)
  | 0 => ⟨fun _ _ _ _ _ _ h => (by cases h), fun _ _ _ _ _ _ h => (by cases h)⟩
  | k + 1 => by
    have ih := evF_ok h k
    have hg := evF_grow h.grow k
    refine ⟨fun lo f args σ r σ' he n0 hlo => ?_, fun lo n args σ r σ' he n0 hlo => ?_⟩
    · subst hlo
      simp only [evF] at he
      split at he
      · rename_i ef htbl
        obtain ⟨fn, h1, h2, h3⟩ := h.fn f ef htbl
        exact callX_fn rfl h.mix ih hg h1 h2 h3 he
      · exact h.prim.fn _ _ _ _ _ _ he n0 rfl
    · subst hlo
      simp only [evF] at he
      exact callY_of rfl h.mix (fun c T σ x T' σ' hc n1 hlo hhi Q hQ => wpC_of_evC rfl h.mix ih hg c T σ x T' σ' hc n1 hlo hhi Q hQ) hg he

end Go.Av

set_option linter.unusedVariables false
set_option linter.unusedSimpArgs false
namespace Go.Av
open Go.RowKit

/-! ### More fuel -/

def FLe (F F' : CallF) : Prop := ∀ lo f args σ x, F lo f args σ = some x → F' lo f args σ = some x

theorem ev1_le {F F' : CallF} (h : FLe F F') {lo : Nat} {T : List C} {σ : St} {p : AOp} {x : C × St} (he : ev1 F lo T σ p = some x) : ev1 F' lo T σ p = some x := by
  unfold ev1 at he ⊢
  split at he
  · split at he
    · exact h _ _ _ _ _ he
    · exact h _ _ _ _ _ he
    · cases he
  · exact he

theorem evR_le {F F' : CallF} (h : FLe F F') {lo : Nat} : ∀ {os : List AOper} {T : List C} {σ : St} {x : List C × St}, evR F lo os T σ = some x → evR F' lo os T σ = some x
  | [], T, σ, x, he => he
  | o :: os, T, σ, x, he => by
    simp only [evR] at he ⊢
    split at he
    · rename_i hg
      split at he
      · rename_i c σ' h1; rw [ev1_le h h1]; exact evR_le h he
      · cases he
    · rename_i g want hg
      split at he
      · rename_i hd
        split at he
        · rename_i c σ' h1; rw [ev1_le h h1]; exact evR_le h he
        · cases he
      · exact evR_le h he
      · cases he

theorem oneE_le {F F' : CallF} (h : FLe F F') {lo slot : Nat} {T : List C} {view : St} {dst : Option Nat} {p : AOp} {e : Ent} (he : oneE F lo slot T view dst p = some e) : oneE F' lo slot T view dst p = some e := by
  unfold oneE at he ⊢
  split at he
  · split at he
    · unfold callD at he ⊢
      split at he
      · rename_i hR
        rw [if_pos hR]
        split at he
        · rename_i r σ' h1; rw [h _ _ _ _ _ h1]; exact he
        · cases he
      · cases he
    · cases he
  · exact he

theorem evD_le {F F' : CallF} (h : FLe F F') {lo s0 : Nat} {σp : St} : ∀ {qs : List DOp} {D : List Ent} {T : List C} {x : List C × St}, evD F lo σp s0 qs D T = some x → evD F' lo σp s0 qs D T = some x
  | [], D, T, x, he => he
  | q :: qs, D, T, x, he => by
    simp only [evD] at he ⊢
    split at he
    · split at he
      · rename_i e h1
        rw [oneE_le h h1]
        simp only []
        split at he
        · rename_i hc; rw [if_pos hc]; exact evD_le h he
        · cases he
      · cases he
    · split at he
      · split at he
        · rename_i e h1
          rw [oneE_le h h1]
          simp only []
          split at he
          · rename_i hc; rw [if_pos hc]; exact evD_le h he
          · cases he
        · cases he
      · exact evD_le h he
      · cases he

theorem evW_le {F F' : CallF} (h : FLe F F') {lo : Nat} : ∀ {qs : List DOp} {W : List WLog} {T : List C} {σ : St} {x : List C × St}, evW F lo qs W T σ = some x → evW F' lo qs W T σ = some x
  | [], W, T, σ, x, he => he
  | q :: qs, W, T, σ, x, he => by
    simp only [evW] at he ⊢
    split at he
    · split at he
      · rename_i c σ' h1
        rw [ev1_le h h1]
        simp only []
        split at he
        · rename_i hc; rw [if_pos hc]; exact evW_le h he
        · cases he
      · cases he
    · split at he
      · split at he
        · rename_i c σ' h1
          rw [ev1_le h h1]
          simp only []
          split at he
          · rename_i hc; rw [if_pos hc]; exact evW_le h he
          · cases he
        · cases he
      · exact evW_le h he
      · cases he

theorem iter_le {body body' : List C → St → Option Out} (h : ∀ T σ x, body T σ = some x → body' T σ = some x) {live lout : List Bool} {s : Nat} : ∀ {k k' : Nat} {T : List C} {σ : St} {x : Out}, k ≤ k' → iter body live lout s k T σ = some x → iter body' live lout s k' T σ = some x
  | 0, _, T, σ, x, _, he => by simp [iter] at he
  | k + 1, 0, T, σ, x, hk, he => by omega
  | k + 1, k' + 1, T, σ, x, hk, he => by
    simp only [iter] at he ⊢
    split at he
    · cases he
    · rename_i h1; rw [h _ _ _ h1]; exact iter_le h (by omega) he
    · rename_i h1; rw [h _ _ _ h1]; exact he
    · rename_i h1; rw [h _ _ _ h1]; exact he

theorem evC_le {F F' : CallF} (h : FLe F F') {lo kf kf' : Nat} (hk : kf ≤ kf') : ∀ (c : ECode) (T : List C) (σ : St) (x : Out), evC F lo kf c T σ = some x → evC F' lo kf' c T σ = some x := by
  intro c
  induction c with
  | skip => intro T σ x he; exact he
  | region d ops =>
    intro T σ x he
    simp only [evC] at he ⊢
    split at he
    · rename_i h1; rw [evR_le h h1]; exact he
    · cases he
  | draw N ds =>
    intro T σ x he
    simp only [evC] at he ⊢
    split at he
    · rename_i h1; rw [evD_le h h1]; exact he
    · cases he
  | regw ds =>
    intro T σ x he
    simp only [evC] at he ⊢
    split at he
    · rename_i h1; rw [evW_le h h1]; exact he
    · cases he
  | seq a b iha ihb =>
    intro T σ x he
    simp only [evC] at he ⊢
    split at he
    · rename_i T' σ' h1; rw [iha _ _ _ h1]; exact ihb _ _ _ he
    · rename_i hne
      rw [iha _ _ _ he]
      obtain ⟨y, T', σ'⟩ := x
      cases y <;> first
        | rfl
        | exact absurd he (by intro he; exact hne _ _ he)
  | cond c a b iha ihb =>
    intro T σ x he
    simp only [evC] at he ⊢
    split at he
    · exact iha _ _ _ he
    · exact ihb _ _ _ he
    · cases he
  | block id c ih =>
    intro T σ x he
    simp only [evC] at he ⊢
    split at he
    · rename_i h1; rw [ih _ _ _ h1]; exact he
    · rename_i hne
      rw [ih _ _ _ he]
      obtain ⟨y, T', σ'⟩ := x
      cases y <;> first
        | rfl
        | exact absurd he (by intro he; exact hne _ _ _ he)
  | loop live lout c ih => intro T σ x he; simp only [evC] at he ⊢; exact iter_le ih hk he
  | scope c ih => intro T σ x he; simp only [evC] at he ⊢; exact ih _ _ _ he
  | exit id => intro T σ x he; exact he
  | ret => intro T σ x he; exact he
  | rfunc live g ps asg body ih1 ih2 =>
    intro T σ x he
    simp only [evC] at he ⊢
    split at he
    · split at he
      · rename_i hl
        rw [if_pos hl]
        generalize hr : F lo _ _ _ = r at he
        cases r with
        | none => cases he
        | some r => rw [h _ _ _ _ _ hr]; exact he
      · cases he
    · cases he

theorem evY_le {F F' : CallF} (h : FLe F F') {lo kf kf' n : Nat} (hk : kf ≤ kf') {args : List C} {σ : St} {x : C × St} (he : evY F lo kf n args σ = some x) : evY F' lo kf' n args σ = some x := by
  unfold evY at he ⊢
  split at he
  · split at he
    · rename_i hc
      rw [if_pos hc]
      split at he
      · rename_i h1
        rw [evC_le h hk _ _ _ _ h1]
        simp only []
        split at he
        · generalize hr : evC F lo kf _ _ _ = r at he
          cases r with
          | none => cases he
          | some r => rw [evC_le h hk _ _ _ _ hr]; exact he
        · cases he
      · cases he
    · cases he
  · cases he

theorem evF_le {E : Env} : ∀ {k k' : Nat}, k ≤ k' → FLe (evF E k) (evF E k')
  | 0, _, _ => fun _ _ _ _ _ h => by cases h
  | k + 1, 0, h => by omega
  | k + 1, k' + 1, hk => fun lo f args σ x he => by
    have ih := evF_le (E := E) (k := k) (k' := k') (by omega)
    simp only [evF] at he ⊢
    split at he
    · split at he
      · rename_i ef hef
        generalize hr : evC (evF E k) lo k _ _ _ = r at he
        cases r with
        | none => cases he
        | some r => rw [evC_le ih (by omega) _ _ _ _ hr]; exact he
      · exact he
    · exact evY_le ih (by omega) he

/-! ### With enough fuel -/

def Mono {α : Type} (f : Nat → Option α) : Prop := ∀ k k' x, k ≤ k' → f k = some x → f k' = some x

open Classical in
noncomputable def lim {α : Type} (f : Nat → Option α) : Option α := if h : ∃ k, (f k).isSome = true then f h.choose else none

theorem lim_iff {α : Type} {f : Nat → Option α} (hm : Mono f) (x : α) : lim f = some x ↔ ∃ k, f k = some x := by
  unfold lim
  constructor
  · intro h
    split at h
    · exact ⟨_, h⟩
    · cases h
  · rintro ⟨k, hk⟩
    have h : ∃ k, (f k).isSome = true := ⟨k, by rw [hk]; rfl⟩
    rw [dif_pos h]
    obtain ⟨y, hy⟩ := Option.isSome_iff_exists.1 h.choose_spec
    have h1 := hm _ (max k h.choose) _ (Nat.le_max_right _ _) hy
    have h2 := hm _ (max k h.choose) _ (Nat.le_max_left _ _) hk
    rw [h1] at h2
    rw [hy]
    exact h2

theorem opt_ext {α : Type} {a b : Option α} (h : ∀ x, a = some x ↔ b = some x) : a = b := by
  cases a with
  | none => cases b with
    | none => rfl
    | some y => exact absurd ((h y).2 rfl) (by simp)
  | some x => exact ((h x).1 rfl).symm

noncomputable def EvF (E : Env) : CallF := fun lo f args σ => lim fun k => evF E k lo f args σ
noncomputable def EvC (E : Env) (lo : Nat) (c : ECode) (T : List C) (σ : St) : Option Out := lim fun k => evC (evF E k) lo k c T σ
noncomputable def EvL (E : Env) (lo : Nat) (live lout : List Bool) (s : Nat) (c : ECode) (T : List C) (σ : St) : Option Out := lim fun k => iter (fun T σ => evC (evF E k) lo k c T σ) live lout s k T σ

section
variable {E : Env} {lo : Nat}

theorem EvF_iff {f : Cal} {args : List C} {σ : St} {x : C × St} : EvF E lo f args σ = some x ↔ ∃ k, evF E k lo f args σ = some x := lim_iff (fun k k' x h he => evF_le h _ _ _ _ _ he) x
theorem EvC_iff {c : ECode} {T : List C} {σ : St} {x : Out} : EvC E lo c T σ = some x ↔ ∃ k, evC (evF E k) lo k c T σ = some x := lim_iff (fun k k' x h he => evC_le (evF_le h) h _ _ _ _ he) x
theorem EvL_iff {live lout : List Bool} {s : Nat} {c : ECode} {T : List C} {σ : St} {x : Out} : EvL E lo live lout s c T σ = some x ↔ ∃ k, iter (fun T σ => evC (evF E k) lo k c T σ) live lout s k T σ = some x :=
  lim_iff (f := fun k => iter (fun T σ => evC (evF E k) lo k c T σ) live lout s k T σ) (fun k k' x h he => iter_le (fun T σ x he => evC_le (evF_le h) h _ _ _ _ he) h he) x

theorem EvF_up (k : Nat) : FLe (evF E k) (EvF E) := fun _ _ _ _ _ h => EvF_iff.2 ⟨k, h⟩

theorem ev1_lim {T : List C} {σ : St} {p : AOp} {x : C × St} (h : ev1 (EvF E) lo T σ p = some x) : ∃ k, ev1 (evF E k) lo T σ p = some x := by
  unfold ev1 at h ⊢
  split at h
  · split at h
    · exact EvF_iff.1 h
    · exact EvF_iff.1 h
    · cases h
  · exact ⟨0, h⟩

theorem evR_lim : ∀ {os : List AOper} {T : List C} {σ : St} {x : List C × St}, evR (EvF E) lo os T σ = some x → ∃ k, evR (evF E k) lo os T σ = some x
  | [], T, σ, x, he => ⟨0, he⟩
  | o :: os, T, σ, x, he => by
    have two : ∀ {c : C} {σ' : St}, ev1 (EvF E) lo T σ o.op = some (c, σ') → evR (EvF E) lo os (setT T o.dst c) σ' = some x → ∃ k, ev1 (evF E k) lo T σ o.op = some (c, σ') ∧ evR (evF E k) lo os (setT T o.dst c) σ' = some x := by
      intro c σ' h1 h2
      obtain ⟨k1, q1⟩ := ev1_lim h1
      obtain ⟨k2, q2⟩ := evR_lim h2
      exact ⟨max k1 k2, ev1_le (evF_le (Nat.le_max_left _ _)) q1, evR_le (evF_le (Nat.le_max_right _ _)) q2⟩
    simp only [evR] at he ⊢
    split at he
    · split at he
      · rename_i c σ' h1
        obtain ⟨k, q1, q2⟩ := two h1 he
        exact ⟨k, by rw [q1]; exact q2⟩
      · cases he
    · split at he
      · split at he
        · rename_i c σ' h1
          obtain ⟨k, q1, q2⟩ := two h1 he
          exact ⟨k, by rw [q1]; exact q2⟩
        · cases he
      · exact evR_lim he
      · cases he

theorem oneE_lim {slot : Nat} {T : List C} {view : St} {dst : Option Nat} {p : AOp} {e : Ent} (h : oneE (EvF E) lo slot T view dst p = some e) : ∃ k, oneE (evF E k) lo slot T view dst p = some e := by
  unfold oneE at h ⊢
  split at h
  · split at h
    · unfold callD at h ⊢
      split at h
      · rename_i hR
        split at h
        · rename_i r σ' h1
          obtain ⟨k, q⟩ := EvF_iff.1 h1
          exact ⟨k, by rw [if_pos hR, q]; exact h⟩
        · cases h
      · cases h
    · cases h
  · exact ⟨0, h⟩

theorem evD_lim {s0 : Nat} {σp : St} : ∀ {qs : List DOp} {D : List Ent} {T : List C} {x : List C × St}, evD (EvF E) lo σp s0 qs D T = some x → ∃ k, evD (evF E k) lo σp s0 qs D T = some x
  | [], D, T, x, he => ⟨0, he⟩
  | q :: qs, D, T, x, he => by
    have two : (match oneE (EvF E) lo (s0 + q.slot) T (vw D q.bef σp) q.op.dst q.op.op with
      | some e => if pairsB D q.bef e (s0 + q.slot) (vw D q.bef σp) && freshB D e then evD (EvF E) lo σp s0 qs (D ++ [e]) (setT T e.dst e.c) else none
      | none => none) = some x → ∃ k, (match oneE (evF E k) lo (s0 + q.slot) T (vw D q.bef σp) q.op.dst q.op.op with
      | some e => if pairsB D q.bef e (s0 + q.slot) (vw D q.bef σp) && freshB D e then evD (evF E k) lo σp s0 qs (D ++ [e]) (setT T e.dst e.c) else none
      | none => none) = some x := by
      intro h
      split at h
      · rename_i e h1
        split at h
        · rename_i hc
          obtain ⟨k1, q1⟩ := oneE_lim h1
          obtain ⟨k2, q2⟩ := evD_lim h
          refine ⟨max k1 k2, ?_⟩
          rw [oneE_le (evF_le (Nat.le_max_left k1 k2)) q1]
          simp only []
          rw [if_pos hc]
          exact evD_le (evF_le (Nat.le_max_right k1 k2)) q2
        · cases h
      · cases h
    simp only [evD] at he ⊢
    split at he
    · exact two he
    · split at he
      · exact two he
      · exact evD_lim he
      · cases he

theorem evW_lim : ∀ {qs : List DOp} {W : List WLog} {T : List C} {σ : St} {x : List C × St}, evW (EvF E) lo qs W T σ = some x → ∃ k, evW (evF E k) lo qs W T σ = some x
  | [], W, T, σ, x, he => ⟨0, he⟩
  | q :: qs, W, T, σ, x, he => by
    have two : (match ev1 (EvF E) lo T σ q.op.op with
      | some (c, σ') => if chkW W q.bef T q.op.op c σ' then evW (EvF E) lo qs (W ++ [logW T σ q.op.op c]) (setT T q.op.dst c) σ' else none
      | none => none) = some x → ∃ k, (match ev1 (evF E k) lo T σ q.op.op with
      | some (c, σ') => if chkW W q.bef T q.op.op c σ' then evW (evF E k) lo qs (W ++ [logW T σ q.op.op c]) (setT T q.op.dst c) σ' else none
      | none => none) = some x := by
      intro h
      split at h
      · rename_i c σ' h1
        split at h
        · rename_i hc
          obtain ⟨k1, q1⟩ := ev1_lim h1
          obtain ⟨k2, q2⟩ := evW_lim h
          refine ⟨max k1 k2, ?_⟩
          rw [ev1_le (evF_le (Nat.le_max_left k1 k2)) q1]
          simp only []
          rw [if_pos hc]
          exact evW_le (evF_le (Nat.le_max_right k1 k2)) q2
        · cases h
      · cases h
    simp only [evW] at he ⊢
    split at he
    · exact two he
    · split at he
      · exact two he
      · exact evW_lim he
      · cases he

/-! ### Equations -/

theorem EvC_skip (T : List C) (σ : St) : EvC E lo .skip T σ = some (.normal, T, σ) := EvC_iff.2 ⟨0, rfl⟩
theorem EvC_exit (id : Nat) (T : List C) (σ : St) : EvC E lo (.exit id) T σ = some (.exit id, T, σ) := EvC_iff.2 ⟨0, rfl⟩
theorem EvC_ret (T : List C) (σ : St) : EvC E lo .ret T σ = some (.ret, T, σ) := EvC_iff.2 ⟨0, rfl⟩

theorem EvC_region (d : Bool) (ops : List AOper) (T : List C) (σ : St) : EvC E lo (.region d ops) T σ = match evR (EvF E) lo ops T σ with
    | some (T', σ') => some (.normal, T', σ')
    | none => none := by
  refine opt_ext fun x => ?_
  rw [EvC_iff]
  constructor
  · rintro ⟨k, h⟩
    simp only [evC] at h
    split at h
    · rename_i h1; rw [evR_le (EvF_up k) h1]; exact h
    · cases h
  · intro h
    split at h
    · rename_i h1
      obtain ⟨k, q⟩ := evR_lim h1
      exact ⟨k, by simp only [evC, q]; exact h⟩
    · cases h

theorem EvC_draw (N : Nat) (ds : List DOp) (T : List C) (σ : St) : EvC E lo (.draw N ds) T σ = match evD (EvF E) lo (σ ++ List.replicate N none) σ.length ds [] T with
    | some (T', σ') => some (.normal, T', σ')
    | none => none := by
  refine opt_ext fun x => ?_
  rw [EvC_iff]
  constructor
  · rintro ⟨k, h⟩
    simp only [evC] at h
    split at h
    · rename_i h1; rw [evD_le (EvF_up k) h1]; exact h
    · cases h
  · intro h
    split at h
    · rename_i h1
      obtain ⟨k, q⟩ := evD_lim h1
      exact ⟨k, by simp only [evC, q]; exact h⟩
    · cases h

theorem EvC_regw (ds : List DOp) (T : List C) (σ : St) : EvC E lo (.regw ds) T σ = match evW (EvF E) lo ds [] T σ with
    | some (T', σ') => some (.normal, T', σ')
    | none => none := by
  refine opt_ext fun x => ?_
  rw [EvC_iff]
  constructor
  · rintro ⟨k, h⟩
    simp only [evC] at h
    split at h
    · rename_i h1; rw [evW_le (EvF_up k) h1]; exact h
    · cases h
  · intro h
    split at h
    · rename_i h1
      obtain ⟨k, q⟩ := evW_lim h1
      exact ⟨k, by simp only [evC, q]; exact h⟩
    · cases h

theorem EvC_seq (a b : ECode) (T : List C) (σ : St) : EvC E lo (.seq a b) T σ = match EvC E lo a T σ with
    | some (.normal, T', σ') => EvC E lo b T' σ'
    | r => r := by
  refine opt_ext fun x => ?_
  rw [EvC_iff]
  constructor
  · rintro ⟨k, h⟩
    simp only [evC] at h
    split at h
    · rename_i h1
      rw [EvC_iff.2 ⟨k, h1⟩]
      exact EvC_iff.2 ⟨k, h⟩
    · rename_i hne
      rw [EvC_iff.2 ⟨k, h⟩]
      obtain ⟨y, T', σ'⟩ := x
      cases y <;> first
        | rfl
        | exact absurd h (by intro he; exact hne _ _ he)
  · intro h
    split at h
    · rename_i h1
      obtain ⟨k1, q1⟩ := EvC_iff.1 h1
      obtain ⟨k2, q2⟩ := EvC_iff.1 h
      refine ⟨max k1 k2, ?_⟩
      simp only [evC]
      rw [evC_le (evF_le (Nat.le_max_left k1 k2)) (Nat.le_max_left k1 k2) _ _ _ _ q1]
      exact evC_le (evF_le (Nat.le_max_right k1 k2)) (Nat.le_max_right k1 k2) _ _ _ _ q2
    · rename_i hne
      obtain ⟨k, q⟩ := EvC_iff.1 h
      refine ⟨k, ?_⟩
      simp only [evC, q]
      obtain ⟨y, T', σ'⟩ := x
      cases y <;> first
        | rfl
        | exact absurd h (by intro he; exact hne _ _ he)

theorem EvC_cond (c : Opd) (a b : ECode) (T : List C) (σ : St) : EvC E lo (.cond c a b) T σ = match evO T c with
    | .d (.bool true) => EvC E lo a T σ
    | .d (.bool false) => EvC E lo b T σ
    | _ => none := by
  refine opt_ext fun x => ?_
  rw [EvC_iff]
  simp only [evC]
  generalize evO T c = v
  have nn : (∃ _ : Nat, (none : Option Out) = some x) ↔ (none : Option Out) = some x := ⟨fun ⟨_, h⟩ => h, fun h => ⟨0, h⟩⟩
  cases v with
  | d v =>
    cases v with
    | bool q => cases q <;> exact EvC_iff.symm
    | _ => exact nn
  | _ => exact nn

theorem EvC_block (id : Nat) (c : ECode) (T : List C) (σ : St) : EvC E lo (.block id c) T σ = match EvC E lo c T σ with
    | some (.exit i, T', σ') => if i = id then some (.normal, T', σ') else some (.exit i, T', σ')
    | r => r := by
  refine opt_ext fun x => ?_
  rw [EvC_iff]
  constructor
  · rintro ⟨k, h⟩
    simp only [evC] at h
    split at h
    · rename_i h1; rw [EvC_iff.2 ⟨k, h1⟩]; exact h
    · rename_i hne
      rw [EvC_iff.2 ⟨k, h⟩]
      obtain ⟨y, T', σ'⟩ := x
      cases y <;> first
        | rfl
        | exact absurd h (by intro he; exact hne _ _ _ he)
  · intro h
    split at h
    · rename_i h1
      obtain ⟨k, q⟩ := EvC_iff.1 h1
      exact ⟨k, by simp only [evC, q]; exact h⟩
    · rename_i hne
      obtain ⟨k, q⟩ := EvC_iff.1 h
      refine ⟨k, ?_⟩
      simp only [evC, q]
      obtain ⟨y, T', σ'⟩ := x
      cases y <;> first
        | rfl
        | exact absurd h (by intro he; exact hne _ _ _ he)

theorem EvC_scope (c : ECode) (T : List C) (σ : St) : EvC E lo (.scope c) T σ = EvC E lo c T σ := by
  refine opt_ext fun x => ?_
  rw [EvC_iff, EvC_iff]
  simp only [evC]

theorem EvC_loop (live lout : List Bool) (c : ECode) (T : List C) (σ : St) : EvC E lo (.loop live lout c) T σ = EvL E lo live lout σ.length c (keepT live T) σ := by
  refine opt_ext fun x => ?_
  rw [EvC_iff, EvL_iff]
  simp only [evC]

/-- A round, and what comes behind it. -/
theorem EvL_eq (live lout : List Bool) (s : Nat) (c : ECode) (T : List C) (σ : St) : EvL E lo live lout s c T σ = match EvC E lo c T σ with
    | none => none
    | some (.normal, T', σ') => EvL E lo live lout s c ((keepT live T').map (cutC s)) (σ'.take s)
    | some (.exit id, T', σ') => some (.exit id, (keepT lout T').map (cutC s), σ'.take s)
    | some (.ret, T', σ') => some (.ret, (keepT lout T').map (cutC s), σ'.take s) := by
  refine opt_ext fun x => ?_
  rw [EvL_iff]
  constructor
  · rintro ⟨k, h⟩
    cases k with
    | zero => simp [iter] at h
    | succ k =>
      simp only [iter] at h
      split at h
      · cases h
      · rename_i h1
        rw [EvC_iff.2 ⟨_, h1⟩]
        exact EvL_iff.2 ⟨k + 1, iter_le (fun _ _ _ h => h) (Nat.le_succ k) h⟩
      · rename_i h1
        rw [EvC_iff.2 ⟨_, h1⟩]
        exact h
      · rename_i h1
        rw [EvC_iff.2 ⟨_, h1⟩]
        exact h
  · intro h
    split at h
    · cases h
    · rename_i h1
      obtain ⟨k1, q1⟩ := EvC_iff.1 h1
      obtain ⟨k2, q2⟩ := EvL_iff.1 h
      refine ⟨max k1 k2 + 1, ?_⟩
      have hle1 : k1 ≤ max k1 k2 + 1 := by omega
      have hle2 : k2 ≤ max k1 k2 + 1 := by omega
      simp only [iter]
      rw [evC_le (evF_le hle1) hle1 _ _ _ _ q1]
      exact iter_le (fun T σ x he => evC_le (evF_le hle2) hle2 _ _ _ _ he) (Nat.le_max_right _ _) q2
    · rename_i h1
      obtain ⟨k1, q1⟩ := EvC_iff.1 h1
      refine ⟨k1 + 1, ?_⟩
      simp only [iter]
      rw [evC_le (evF_le (Nat.le_succ k1)) (Nat.le_succ k1) _ _ _ _ q1]
      exact h
    · rename_i h1
      obtain ⟨k1, q1⟩ := EvC_iff.1 h1
      refine ⟨k1 + 1, ?_⟩
      simp only [iter]
      rw [evC_le (evF_le (Nat.le_succ k1)) (Nat.le_succ k1) _ _ _ _ q1]
      exact h

theorem EvC_rfunc (live : List Bool) (g : Opd) (ps : List Nat) (asg body : ECode) (T : List C) (σ : St) : EvC E lo (.rfunc live g ps asg body) T σ = match evO T g with
    | .cl fid first caps =>
      if C.ltL σ.length (keepT live T) then
        endRF live T σ.length (EvF E lo (.fn fid) (first ++ [.yl σ.length] ++ caps) (σ ++ [some (.loop (keepT live T) ps asg body .ready)]))
      else none
    | _ => none := by
  refine opt_ext fun x => ?_
  rw [EvC_iff]
  simp only [evC]
  generalize evO T g = v
  have nn : (∃ _ : Nat, (none : Option Out) = some x) ↔ (none : Option Out) = some x := ⟨fun ⟨_, h⟩ => h, fun h => ⟨0, h⟩⟩
  cases v with
  | cl fid first caps =>
    by_cases hl : C.ltL σ.length (keepT live T) = true
    · simp only [hl, if_true]
      constructor
      · rintro ⟨k, h⟩
        generalize hr : evF E k lo _ _ _ = r at h
        cases r with
        | none => cases h
        | some r => rw [EvF_iff.2 ⟨k, hr⟩]; exact h
      · intro h
        generalize hr : EvF E lo _ _ _ = r at h
        cases r with
        | none => cases h
        | some r =>
          obtain ⟨k, q⟩ := EvF_iff.1 hr
          exact ⟨k, by rw [q]; exact h⟩
    · simp only [hl, if_false]
      exact nn
  | _ => exact nn

/-- A function of the table. -/
theorem EvF_fn {f : FuncId} {ef : EFunc} (h : E.tbl f = some ef) (args : List C) (σ : St) : EvF E lo (.fn f) args σ = endE σ.length ef.results (EvC E lo ef.body (args ++ List.replicate (ef.ntmps - args.length) .undef) σ) := by
  refine opt_ext fun x => ?_
  rw [EvF_iff]
  constructor
  · rintro ⟨k, he⟩
    cases k with
    | zero => cases he
    | succ k =>
      simp only [evF, h] at he
      generalize hr : evC (evF E k) lo k _ _ _ = r at he
      cases r with
      | none => cases he
      | some r => rw [EvC_iff.2 ⟨k, hr⟩]; exact he
  · intro he
    generalize hr : EvC E lo _ _ _ = r at he
    cases r with
    | none => cases he
    | some r =>
      obtain ⟨k, q⟩ := EvC_iff.1 hr
      exact ⟨k + 1, by simp only [evF, h]; rw [q]; exact he⟩

theorem EvF_prim {f : FuncId} (h : E.tbl f = none) (args : List C) (σ : St) : EvF E lo (.fn f) args σ = E.prim lo (.fn f) args σ := by
  refine opt_ext fun x => ?_
  rw [EvF_iff]
  constructor
  · rintro ⟨k, he⟩
    cases k with
    | zero => cases he
    | succ k => simp only [evF, h] at he; exact he
  · intro he
    exact ⟨1, by simp only [evF, h]; exact he⟩

end

/-- What the evaluator finds, the machine does. -/
theorem callX_of_EvF [TheProg] {E : Env} (h : EnvOk TheProg.prog E) {lo : Nat} {f : FuncId} {args : List C} {σ σ' : St} {r : C} (he : EvF E lo (.fn f) args σ = some (r, σ')) (n0 : Fr) (hlo : n0.lo = lo) : CallX TheProg.prog n0 f args σ fun r' σ'' => r' = r ∧ σ'' = σ' := by
  obtain ⟨k, hk⟩ := EvF_iff.1 he
  exact (evF_ok h k).fn _ _ _ _ _ _ hk n0 hlo
end Go.Av

set_option linter.unusedVariables false
set_option linter.unusedSimpArgs false
namespace Go.Av
open Go.RowKit
variable [TheProg]
set_option linter.unusedSectionVars false

section
variable {E : Env} {lo : Nat} {F : CallF}

theorem EvC_cond_t {c : Opd} {a b : ECode} {T : List C} {σ : St} (h : evO T c = .d (.bool true)) : EvC E lo (.cond c a b) T σ = EvC E lo a T σ := by rw [EvC_cond, h]
theorem EvC_cond_f {c : Opd} {a b : ECode} {T : List C} {σ : St} (h : evO T c = .d (.bool false)) : EvC E lo (.cond c a b) T σ = EvC E lo b T σ := by rw [EvC_cond, h]

theorem EvC_seq_n {a b : ECode} {T T' : List C} {σ σ' : St} (h : EvC E lo a T σ = some (.normal, T', σ')) : EvC E lo (.seq a b) T σ = EvC E lo b T' σ' := by rw [EvC_seq, h]
theorem EvC_seq_e {a b : ECode} {T T' : List C} {σ σ' : St} {id : Nat} (h : EvC E lo a T σ = some (.exit id, T', σ')) : EvC E lo (.seq a b) T σ = some (.exit id, T', σ') := by rw [EvC_seq, h]
theorem EvC_seq_r {a b : ECode} {T T' : List C} {σ σ' : St} (h : EvC E lo a T σ = some (.ret, T', σ')) : EvC E lo (.seq a b) T σ = some (.ret, T', σ') := by rw [EvC_seq, h]
end

/-- One operation that is wanted anyway. -/
theorem evR_op {F : CallF} {lo : Nat} {d : Option Nat} {p : AOp} {os : List AOper} {T : List C} {σ : St} {c : C} {σ' : St} (h : ev1 F lo T σ p = some (c, σ')) : evR F lo (⟨d, p, none⟩ :: os) T σ = evR F lo os (setT T d c) σ' := by
  simp only [evR, h]

/-! Names: the store of the caller, and what has come since. -/
theorem st_get (σ l : St) (i : Nat) : (σ ++ l)[σ.length + i]? = l[i]? := by rw [List.getElem?_append_right (by omega)]; congr 1; omega
theorem st_get0 (σ l : St) : (σ ++ l)[σ.length]? = l[0]? := st_get σ l 0
theorem st_set (σ l : St) (i : Nat) (b : Option Ob) : (σ ++ l).set (σ.length + i) b = σ ++ l.set i b := by rw [List.set_append_right _ _ (by omega)]; congr 2; omega
theorem st_set0 (σ l : St) (b : Option Ob) : (σ ++ l).set σ.length b = σ ++ l.set 0 b := st_set σ l 0 b
theorem st_take (σ l : St) : (σ ++ l).take σ.length = σ := List.take_left
theorem st_take_i (σ l : St) (i : Nat) : (σ ++ l).take (σ.length + i) = σ ++ l.take i := by rw [List.take_append, List.take_of_length_le (by omega)]; congr 2; omega
theorem st_app (σ l m : St) : (σ ++ l) ++ m = σ ++ (l ++ m) := List.append_assoc ..
theorem st_len (σ l : St) : (σ ++ l).length = σ.length + l.length := List.length_append
theorem lt_self (n : Nat) : decide (n < n) = false := decide_eq_false (Nat.lt_irrefl n)
theorem lt_add (n i : Nat) : decide (n + i < n) = false := decide_eq_false (by omega)

/-! One rule a shape. -/
theorem lenC_d (s : Nat) (r : List (List D)) : lenC false (.d (.sl s r)) = some (r.length : Int) := by first | rfl | (unfold C.lt; rfl) | (simp [cutC, C.lt])
theorem lenC_o (s : Nat) (r : List (List D)) (a : Nat) : lenC false (.o s r a) = some (r.length : Int) := by first | rfl | (unfold C.lt; rfl) | (simp [cutC, C.lt])
theorem lenC_csl (s : Nat) (r : List (List C)) : lenC false (.csl s r) = some (r.length : Int) := by first | rfl | (unfold C.lt; rfl) | (simp [cutC, C.lt])
theorem lenC_nils (e s : Nat) : lenC false (.nils e s) = some 0 := by first | rfl | (unfold C.lt; rfl) | (simp [cutC, C.lt])
theorem lenC_enn (s : Nat) : lenC false (.enn s) = some 0 := by first | rfl | (unfold C.lt; rfl) | (simp [cutC, C.lt])
theorem lenC_str (s : ByteArray) : lenC true (.d (.str s)) = some (s.size : Int) := by first | rfl | (unfold C.lt; rfl) | (simp [cutC, C.lt])
theorem rowsOf_d (z s : Nat) (r : List (List D)) : rowsOf z (.d (.sl s r)) = if s = z then some r else none := by first | rfl | (unfold C.lt; rfl) | (simp [cutC, C.lt])
theorem rowsOf_o (z s : Nat) (r : List (List D)) (a : Nat) : rowsOf z (.o s r a) = if s = z then some r else none := by first | rfl | (unfold C.lt; rfl) | (simp [cutC, C.lt])
theorem rowsOf_nils (z e s : Nat) : rowsOf z (.nils e s) = some [] := by first | rfl | (unfold C.lt; rfl) | (simp [cutC, C.lt])
theorem rowsOf_enn (z s : Nat) : rowsOf z (.enn s) = some [] := by first | rfl | (unfold C.lt; rfl) | (simp [cutC, C.lt])
theorem ixC_d (z s : Nat) (r : List (List D)) (i : Int) : ixC z (.d (.sl s r)) i = if s = z ∧ 0 ≤ i ∧ i < r.length then some (.elt (r.getD i.toNat []) 0) else none := by first | rfl | (unfold C.lt; rfl) | (simp [cutC, C.lt])
theorem ixC_o (z s : Nat) (r : List (List D)) (a : Nat) (i : Int) : ixC z (.o s r a) i = if s = z ∧ 0 ≤ i ∧ i < r.length then some (.elt (r.getD i.toNat []) 0) else none := by first | rfl | (unfold C.lt; rfl) | (simp [cutC, C.lt])
theorem ixC_csl (z s : Nat) (r : List (List C)) (i : Int) : ixC z (.csl s r) i = if s = z ∧ 0 ≤ i ∧ i < r.length then some (.celt (r.getD i.toNat []) 0) else none := by first | rfl | (unfold C.lt; rfl) | (simp [cutC, C.lt])
theorem natOf_int (k : IntKind) (n : Int) : natOf (.d (.int k n)) = some n := by first | rfl | (unfold C.lt; rfl) | (simp [cutC, C.lt])
theorem loadC_elt (σ : St) (g : Bool) (n : Nat) (row : List D) (off : Nat) : loadC σ g n (.elt row off) = if off + n ≤ row.length then aggOf g (((row.drop off).take n).map .d) else none := by first | rfl | (unfold C.lt; rfl) | (simp [cutC, C.lt])
theorem loadC_celt (σ : St) (g : Bool) (n : Nat) (row : List C) (off : Nat) : loadC σ g n (.celt row off) = if off + n ≤ row.length then aggOf g ((row.drop off).take n) else none := by first | rfl | (unfold C.lt; rfl) | (simp [cutC, C.lt])
theorem loadC_ref (σ : St) (g : Bool) (n m off : Nat) : loadC σ g n (.ref m off) = match σ[m]? with | some (some (.box _ cs)) => if off + n ≤ cs.length then aggOf g ((cs.drop off).take n) else none | _ => none := by first | rfl | (unfold C.lt; rfl) | (simp [cutC, C.lt])
theorem rowsY_f (z : Nat) (c : C) : rowsY false z c = rowsOf z c := by first | rfl | (unfold C.lt; rfl) | (simp [cutC, C.lt])
theorem rowsY_s (s : ByteArray) : rowsY true 1 (.d (.str s)) = some (rowsS s) := by first | rfl | (unfold C.lt; rfl) | (simp [cutC, C.lt])
theorem cutC_d (s : Nat) (x : D) : cutC s (.d x) = .d x := by first | rfl | (unfold C.lt; rfl) | (simp [cutC, C.lt])
theorem cutC_u (s : Nat) : cutC s .undef = .undef := by first | rfl | (unfold C.lt; rfl) | (simp [cutC, C.lt])
theorem cutC_elt (s : Nat) (r : List D) (o : Nat) : cutC s (.elt r o) = .elt r o := by first | rfl | (unfold C.lt; rfl) | (simp [cutC, C.lt])
theorem cutC_nils (s e z : Nat) : cutC s (.nils e z) = .nils e z := by first | rfl | (unfold C.lt; rfl) | (simp [cutC, C.lt])
theorem cutC_enn (s z : Nat) : cutC s (.enn z) = .enn z := by first | rfl | (unfold C.lt; rfl) | (simp [cutC, C.lt])
theorem cutC_nilf (s : Nat) : cutC s .nilf = .nilf := by first | rfl | (unfold C.lt; rfl) | (simp [cutC, C.lt])
theorem cutC_cl (s : Nat) (f : FuncId) (a b : List C) : cutC s (.cl f a b) = if (C.ltL s a && C.ltL s b) = true then .cl f a b else .undef := by first | rfl | (unfold C.lt; rfl) | (simp [cutC, C.lt])
theorem cutC_ref (s n o : Nat) : cutC s (.ref n o) = if decide (n < s) = true then .ref n o else .undef := by first | rfl | (unfold C.lt; rfl) | (simp [cutC, C.lt])
theorem cutC_o (s z : Nat) (r : List (List D)) (a : Nat) : cutC s (.o z r a) = if a < s then .o z r a else .d (.sl z r) := by first | rfl | (unfold C.lt; rfl) | (simp [cutC, C.lt])
theorem cutC_csl (s z : Nat) (r : List (List C)) : cutC s (.csl z r) = if C.ltLL s r = true then .csl z r else .undef := by first | rfl | (unfold C.lt; rfl) | (simp [cutC, C.lt])
theorem cutC_map (s n : Nat) : cutC s (.map n) = if decide (n < s) = true then .map n else .undef := by first | rfl | (unfold C.lt; rfl) | (simp [cutC, C.lt])
theorem cutC_agg (s : Nat) (cs : List C) : cutC s (.agg cs) = if C.ltL s cs = true then .agg cs else .undef := by first | rfl | (unfold C.lt; rfl) | (simp [cutC, C.lt])
theorem cutC_tup (s : Nat) (cs : List C) : cutC s (.tup cs) = if C.ltL s cs = true then .tup cs else .undef := by first | rfl | (unfold C.lt; rfl) | (simp [cutC, C.lt])
theorem lt_d (s : Nat) (x : D) : C.lt s (.d x) = true := by first | rfl | (unfold C.lt; rfl) | (simp [cutC, C.lt])
theorem lt_o (s z : Nat) (r : List (List D)) (a : Nat) : C.lt s (.o z r a) = decide (a < s) := by first | rfl | (unfold C.lt; rfl) | (simp [cutC, C.lt])
theorem lt_ref (s n o : Nat) : C.lt s (.ref n o) = decide (n < s) := by first | rfl | (unfold C.lt; rfl) | (simp [cutC, C.lt])
theorem lt_u (s : Nat) : C.lt s .undef = true := by first | rfl | (unfold C.lt; rfl) | (simp [cutC, C.lt])

theorem tokC_d (s : Nat) (x : D) (cs : List C) : tokC s (.d x :: cs) = .d x :: tokC s cs := rfl
theorem tokC_n (s e z : Nat) (cs : List C) : tokC s (.nils e z :: cs) = .o z [] s :: tokC (s + 1) cs := by first | rfl | (cases os <;> rfl)
theorem tokC_nil (s : Nat) : tokC s [] = [] := by first | rfl | (cases os <;> rfl)
theorem toksC_d (x : D) (cs : List C) : toksC (.d x :: cs) = toksC cs := by first | rfl | (cases os <;> rfl)
theorem toksC_n (e z : Nat) (cs : List C) : toksC (.nils e z :: cs) = some (.ntok e z) :: toksC cs := by first | rfl | (cases os <;> rfl)
theorem putC_d (σ : St) (m : Nat) (old : C) (x : D) : putC σ m old (.d x) = .d x := by first | rfl | (cases os <;> rfl)
theorem putCs_c (σ : St) (m : Nat) (old : C) (os : List C) (c : C) (cs : List C) : putCs σ m (old :: os) (c :: cs) = putC σ m old c :: putCs σ m os cs := by first | rfl | (cases os <;> rfl)
theorem putCs_n (σ : St) (m : Nat) (os : List C) : putCs σ m os [] = [] := by first | rfl | (cases os <;> rfl)
theorem cellsOf_a (g : Bool) (n : Nat) (cs : List C) : cellsOf g n (.agg cs) = if (g && cs.length == n && cs.all C.one) = true then some cs else none := by first | rfl | (cases os <;> rfl)
theorem cellsOf_d (g : Bool) (n : Nat) (x : D) : cellsOf g n (.d x) = if (!g && n == 1 && C.one (.d x)) = true then some [.d x] else none := by first | rfl | (cases os <;> rfl)
theorem valsC_a (cs : List C) : valsC (.agg cs) = some cs := by first | rfl | (cases os <;> rfl)
theorem valsC_d (x : D) : valsC (.d x) = some [.d x] := by first | rfl | (cases os <;> rfl)
theorem valsC_o (z : Nat) (r : List (List D)) (a : Nat) : valsC (.o z r a) = some [.o z r a] := by first | rfl | (cases os <;> rfl)
theorem toksC_nil : toksC [] = [] := rfl

theorem lt_nils (s e z : Nat) : C.lt s (.nils e z) = true := by first | rfl | (unfold C.lt; rfl)
theorem lt_enn (s z : Nat) : C.lt s (.enn z) = true := by first | rfl | (unfold C.lt; rfl)
theorem lt_elt (s : Nat) (r : List D) (o : Nat) : C.lt s (.elt r o) = true := by first | rfl | (unfold C.lt; rfl)
theorem lt_map (s n : Nat) : C.lt s (.map n) = decide (n < s) := by first | rfl | (unfold C.lt; rfl)
theorem lt_agg (s : Nat) (cs : List C) : C.lt s (.agg cs) = C.ltL s cs := by first | rfl | (unfold C.lt; rfl)
theorem lt_tup (s : Nat) (cs : List C) : C.lt s (.tup cs) = C.ltL s cs := by first | rfl | (unfold C.lt; rfl)
theorem lt_cl (s : Nat) (f : FuncId) (a b : List C) : C.lt s (.cl f a b) = (C.ltL s a && C.ltL s b) := by first | rfl | (unfold C.lt; rfl)

/-- A slice of data, whosever. -/
structure SlC (s sz : Nat) (x : C) (rows : List (List D)) : Prop where
  row : rowsOf sz x = some rows
  len : lenC false x = some (rows.length : Int)
  ix : ∀ i : Int, 0 ≤ i → i < rows.length → ixC sz x i = some (.elt (rows.getD i.toNat []) 0)
  cut : ∀ s', s ≤ s' → cutC s' x = x
theorem SlC.d (s sz : Nat) (rows : List (List D)) : SlC s sz (.d (.sl sz rows)) rows := ⟨by simp [rowsOf], rfl, fun i h0 h1 => by simp [ixC, h0, h1], fun _ _ => rfl⟩
theorem SlC.o {s sz a : Nat} (rows : List (List D)) (h : a < s) : SlC s sz (.o sz rows a) rows := ⟨by simp [rowsOf], rfl, fun i h0 h1 => by simp [ixC, h0, h1], fun s' hs => by simp [cutC]; omega⟩
theorem SlC.mono {s s' sz : Nat} {x : C} {rows : List (List D)} (h : SlC s sz x rows) (hs : s ≤ s') : SlC s' sz x rows := ⟨h.row, h.len, h.ix, fun t ht => h.cut t (by omega)⟩

/-! What omega knows. -/
theorem nle_t {a b : Nat} (h : a ≤ b) : (a ≤ b) ↔ True := ⟨fun _ => trivial, fun _ => h⟩
theorem nle_f {a b : Nat} (h : ¬ a ≤ b) : (a ≤ b) ↔ False := ⟨h, False.elim⟩
theorem nlt_t {a b : Nat} (h : a < b) : (a < b) ↔ True := ⟨fun _ => trivial, fun _ => h⟩
theorem nlt_f {a b : Nat} (h : ¬ a < b) : (a < b) ↔ False := ⟨h, False.elim⟩
theorem ile_t {a b : Int} (h : a ≤ b) : (a ≤ b) ↔ True := ⟨fun _ => trivial, fun _ => h⟩
theorem ile_f {a b : Int} (h : ¬ a ≤ b) : (a ≤ b) ↔ False := ⟨h, False.elim⟩
theorem ilt_t {a b : Int} (h : a < b) : (a < b) ↔ True := ⟨fun _ => trivial, fun _ => h⟩
theorem ilt_f {a b : Int} (h : ¬ a < b) : (a < b) ↔ False := ⟨h, False.elim⟩
theorem neq_t {a b : Nat} (h : a = b) : (a = b) ↔ True := ⟨fun _ => trivial, fun _ => h⟩
theorem igt (a b : Int) : (a > b) ↔ (b < a) := Iff.rfl
theorem ige (a b : Int) : (a ≥ b) ↔ (b ≤ a) := Iff.rfl
/-! Regions whose order is open, of which all that write are in order. -/
theorem chkW_mv (W : List WLog) (bef : List Bool) (T : List C) (p0 : Opd) (c : C) (σ : St) : chkW W bef T (.mv p0) c σ = true := rfl
theorem logW_mv (T : List C) (σ : St) (p0 : Opd) (c : C) : logW T σ (.mv p0) c = .no := rfl
theorem chkW_nilsl (W : List WLog) (bef : List Bool) (T : List C) (p0 : TypeId) (p1 : Nat) (c : C) (σ : St) : chkW W bef T (.nilsl p0 p1) c σ = chkS σ W bef := rfl
theorem logW_nilsl (T : List C) (σ : St) (p0 : TypeId) (p1 : Nat) (c : C) : logW T σ (.nilsl p0 p1) c = .wr σ := rfl
theorem chkW_pick (W : List WLog) (bef : List Bool) (T : List C) (p0 : Opd) (p1 : Opd) (p2 : Opd) (c : C) (σ : St) : chkW W bef T (.pick p0 p1 p2) c σ = true := rfl
theorem logW_pick (T : List C) (σ : St) (p0 : Opd) (p1 : Opd) (p2 : Opd) (c : C) : logW T σ (.pick p0 p1 p2) c = .no := rfl
theorem chkW_box (W : List WLog) (bef : List Bool) (T : List C) (p0 : TypeId) (p1 : Bool) (p2 : Nat) (p3 : Opd) (c : C) (σ : St) : chkW W bef T (.box p0 p1 p2 p3) c σ = chkS σ W bef := rfl
theorem logW_box (T : List C) (σ : St) (p0 : TypeId) (p1 : Bool) (p2 : Nat) (p3 : Opd) (c : C) : logW T σ (.box p0 p1 p2 p3) c = .wr σ := rfl
theorem chkW_alloc (W : List WLog) (bef : List Bool) (T : List C) (p0 : TypeId) (p1 : List C) (c : C) (σ : St) : chkW W bef T (.alloc p0 p1) c σ = chkS σ W bef := rfl
theorem logW_alloc (T : List C) (σ : St) (p0 : TypeId) (p1 : List C) (c : C) : logW T σ (.alloc p0 p1) c = .wr σ := rfl
theorem chkW_build (W : List WLog) (bef : List Bool) (T : List C) (p0 : List C) (p1 : List (Nat × Nat × Opd)) (c : C) (σ : St) : chkW W bef T (.build p0 p1) c σ = true := rfl
theorem logW_build (T : List C) (σ : St) (p0 : List C) (p1 : List (Nat × Nat × Opd)) (c : C) : logW T σ (.build p0 p1) c = .no := rfl
theorem chkW_bsl (W : List WLog) (bef : List Bool) (T : List C) (p0 : TypeId) (p1 : Nat) (p2 : List Opd) (c : C) (σ : St) : chkW W bef T (.bsl p0 p1 p2) c σ = chkS σ W bef := rfl
theorem logW_bsl (T : List C) (σ : St) (p0 : TypeId) (p1 : Nat) (p2 : List Opd) (c : C) : logW T σ (.bsl p0 p1 p2) c = .wr σ := rfl
theorem chkW_store (W : List WLog) (bef : List Bool) (T : List C) (p0 : Nat) (p1 : Opd) (p2 : Opd) (c : C) (σ : St) : chkW W bef T (.store p0 p1 p2) c σ = chkS σ W bef := rfl
theorem logW_store (T : List C) (σ : St) (p0 : Nat) (p1 : Opd) (p2 : Opd) (c : C) : logW T σ (.store p0 p1 p2) c = .wr σ := rfl
theorem chkW_fld (W : List WLog) (bef : List Bool) (T : List C) (p0 : Nat) (p1 : Opd) (c : C) (σ : St) : chkW W bef T (.fld p0 p1) c σ = true := rfl
theorem logW_fld (T : List C) (σ : St) (p0 : Nat) (p1 : Opd) (c : C) : logW T σ (.fld p0 p1) c = .no := rfl
theorem chkW_ixa (W : List WLog) (bef : List Bool) (T : List C) (p0 : Nat) (p1 : Opd) (p2 : Opd) (c : C) (σ : St) : chkW W bef T (.ixa p0 p1 p2) c σ = true := rfl
theorem logW_ixa (T : List C) (σ : St) (p0 : Nat) (p1 : Opd) (p2 : Opd) (c : C) : logW T σ (.ixa p0 p1 p2) c = .no := rfl
theorem chkW_ixs (W : List WLog) (bef : List Bool) (T : List C) (p0 : Opd) (p1 : Opd) (c : C) (σ : St) : chkW W bef T (.ixs p0 p1) c σ = true := rfl
theorem logW_ixs (T : List C) (σ : St) (p0 : Opd) (p1 : Opd) (c : C) : logW T σ (.ixs p0 p1) c = .no := rfl
theorem chkW_bin (W : List WLog) (bef : List Bool) (T : List C) (p0 : BinOp) (p1 : Opd) (p2 : Opd) (c : C) (σ : St) : chkW W bef T (.bin p0 p1 p2) c σ = true := rfl
theorem logW_bin (T : List C) (σ : St) (p0 : BinOp) (p1 : Opd) (p2 : Opd) (c : C) : logW T σ (.bin p0 p1 p2) c = .no := rfl
theorem chkW_un (W : List WLog) (bef : List Bool) (T : List C) (p0 : UnOp) (p1 : Opd) (c : C) (σ : St) : chkW W bef T (.un p0 p1) c σ = true := rfl
theorem logW_un (T : List C) (σ : St) (p0 : UnOp) (p1 : Opd) (c : C) : logW T σ (.un p0 p1) c = .no := rfl
theorem chkW_ext (W : List WLog) (bef : List Bool) (T : List C) (p0 : Opd) (p1 : Nat) (c : C) (σ : St) : chkW W bef T (.ext p0 p1) c σ = true := rfl
theorem logW_ext (T : List C) (σ : St) (p0 : Opd) (p1 : Nat) (c : C) : logW T σ (.ext p0 p1) c = .no := rfl
theorem chkW_mkfn (W : List WLog) (bef : List Bool) (T : List C) (p0 : FuncId) (p1 : List Opd) (p2 : List Opd) (c : C) (σ : St) : chkW W bef T (.mkfn p0 p1 p2) c σ = true := rfl
theorem logW_mkfn (T : List C) (σ : St) (p0 : FuncId) (p1 : List Opd) (p2 : List Opd) (c : C) : logW T σ (.mkfn p0 p1 p2) c = .no := rfl
theorem chkW_nilck (W : List WLog) (bef : List Bool) (T : List C) (p0 : Opd) (c : C) (σ : St) : chkW W bef T (.nilck p0) c σ = true := rfl
theorem logW_nilck (T : List C) (σ : St) (p0 : Opd) (c : C) : logW T σ (.nilck p0) c = .no := rfl
theorem chkW_len (W : List WLog) (bef : List Bool) (T : List C) (p0 : Bool) (p1 : Opd) (c : C) (σ : St) : chkW W bef T (.len p0 p1) c σ = true := rfl
theorem logW_len (T : List C) (σ : St) (p0 : Bool) (p1 : Opd) (c : C) : logW T σ (.len p0 p1) c = .no := rfl
theorem chkW_mx (W : List WLog) (bef : List Bool) (T : List C) (p0 : List Opd) (c : C) (σ : St) : chkW W bef T (.mx p0) c σ = true := rfl
theorem logW_mx (T : List C) (σ : St) (p0 : List Opd) (c : C) : logW T σ (.mx p0) c = .no := rfl
theorem chkW_mn (W : List WLog) (bef : List Bool) (T : List C) (p0 : List Opd) (c : C) (σ : St) : chkW W bef T (.mn p0) c σ = true := rfl
theorem logW_mn (T : List C) (σ : St) (p0 : List Opd) (c : C) : logW T σ (.mn p0) c = .no := rfl
theorem chkW_app (W : List WLog) (bef : List Bool) (T : List C) (p0 : Bool) (p1 : TypeId) (p2 : Nat) (p3 : Nat) (p4 : Opd) (p5 : Opd) (c : C) (σ : St) : chkW W bef T (.app p0 p1 p2 p3 p4 p5) c σ = chkS σ W bef := rfl
theorem logW_app (T : List C) (σ : St) (p0 : Bool) (p1 : TypeId) (p2 : Nat) (p3 : Nat) (p4 : Opd) (p5 : Opd) (c : C) : logW T σ (.app p0 p1 p2 p3 p4 p5) c = .wr σ := rfl
theorem chkW_cvi (W : List WLog) (bef : List Bool) (T : List C) (p0 : IntKind) (p1 : Opd) (c : C) (σ : St) : chkW W bef T (.cvi p0 p1) c σ = true := rfl
theorem logW_cvi (T : List C) (σ : St) (p0 : IntKind) (p1 : Opd) (c : C) : logW T σ (.cvi p0 p1) c = .no := rfl
theorem chkW_cvid (W : List WLog) (bef : List Bool) (T : List C) (p0 : Opd) (c : C) (σ : St) : chkW W bef T (.cvid p0) c σ = true := rfl
theorem logW_cvid (T : List C) (σ : St) (p0 : Opd) (c : C) : logW T σ (.cvid p0) c = .no := rfl
theorem chkW_cvs (W : List WLog) (bef : List Bool) (T : List C) (p0 : Opd) (c : C) (σ : St) : chkW W bef T (.cvs p0) c σ = true := rfl
theorem logW_cvs (T : List C) (σ : St) (p0 : Opd) (c : C) : logW T σ (.cvs p0) c = .no := rfl
theorem chkW_slc (W : List WLog) (bef : List Bool) (T : List C) (p0 : Nat) (p1 : Opd) (p2 : Option Opd) (p3 : Option Opd) (c : C) (σ : St) : chkW W bef T (.slc p0 p1 p2 p3) c σ = true := rfl
theorem logW_slc (T : List C) (σ : St) (p0 : Nat) (p1 : Opd) (p2 : Option Opd) (p3 : Option Opd) (c : C) : logW T σ (.slc p0 p1 p2 p3) c = .no := rfl
theorem chkW_sls (W : List WLog) (bef : List Bool) (T : List C) (p0 : Opd) (p1 : Option Opd) (p2 : Option Opd) (c : C) (σ : St) : chkW W bef T (.sls p0 p1 p2) c σ = true := rfl
theorem logW_sls (T : List C) (σ : St) (p0 : Opd) (p1 : Option Opd) (p2 : Option Opd) (c : C) : logW T σ (.sls p0 p1 p2) c = .no := rfl
theorem chkW_call (W : List WLog) (bef : List Bool) (T : List C) (p0 : Opd) (p1 : List Opd) (c : C) (σ : St) : chkW W bef T (.call p0 p1) c σ = chkS σ W bef := rfl
theorem logW_call (T : List C) (σ : St) (p0 : Opd) (p1 : List Opd) (c : C) : logW T σ (.call p0 p1) c = .wr σ := rfl
theorem chkW_mkmap (W : List WLog) (bef : List Bool) (T : List C)  (c : C) (σ : St) : chkW W bef T (.mkmap) c σ = chkS σ W bef := rfl
theorem logW_mkmap (T : List C) (σ : St)  (c : C) : logW T σ (.mkmap) c = .wr σ := rfl
theorem chkW_mset (W : List WLog) (bef : List Bool) (T : List C) (p0 : Bool) (p1 : Opd) (p2 : Opd) (p3 : Opd) (c : C) (σ : St) : chkW W bef T (.mset p0 p1 p2 p3) c σ = chkS σ W bef := rfl
theorem logW_mset (T : List C) (σ : St) (p0 : Bool) (p1 : Opd) (p2 : Opd) (p3 : Opd) (c : C) : logW T σ (.mset p0 p1 p2 p3) c = .wr σ := rfl
theorem chkW_look (W : List WLog) (bef : List Bool) (T : List C) (p0 : Bool) (p1 : Bool) (p2 : C) (p3 : Opd) (p4 : Opd) (c : C) (σ : St) : chkW W bef T (.look p0 p1 p2 p3 p4) c σ = true := rfl
theorem logW_look (T : List C) (σ : St) (p0 : Bool) (p1 : Bool) (p2 : C) (p3 : Opd) (p4 : Opd) (c : C) : logW T σ (.look p0 p1 p2 p3 p4) c = .no := rfl
theorem chkW_rng (W : List WLog) (bef : List Bool) (T : List C) (p0 : Opd) (c : C) (σ : St) : chkW W bef T (.rng p0) c σ = chkS σ W bef := rfl
theorem logW_rng (T : List C) (σ : St) (p0 : Opd) (c : C) : logW T σ (.rng p0) c = .wr σ := rfl
theorem chkW_nxt (W : List WLog) (bef : List Bool) (T : List C) (p0 : Opd) (c : C) (σ : St) : chkW W bef T (.nxt p0) c σ = chkS σ W bef := rfl
theorem logW_nxt (T : List C) (σ : St) (p0 : Opd) (c : C) : logW T σ (.nxt p0) c = .wr σ := rfl
theorem chkW_fldv (W : List WLog) (bef : List Bool) (T : List C) (p0 : Bool) (p1 : Nat) (p2 : Nat) (p3 : Opd) (c : C) (σ : St) : chkW W bef T (.fldv p0 p1 p2 p3) c σ = true := rfl
theorem logW_fldv (T : List C) (σ : St) (p0 : Bool) (p1 : Nat) (p2 : Nat) (p3 : Opd) (c : C) : logW T σ (.fldv p0 p1 p2 p3) c = .no := rfl
theorem chkW_ixaa (W : List WLog) (bef : List Bool) (T : List C) (p0 : Nat) (p1 : Nat) (p2 : Opd) (p3 : Opd) (c : C) (σ : St) : chkW W bef T (.ixaa p0 p1 p2 p3) c σ = true := rfl
theorem logW_ixaa (T : List C) (σ : St) (p0 : Nat) (p1 : Nat) (p2 : Opd) (p3 : Opd) (c : C) : logW T σ (.ixaa p0 p1 p2 p3) c = .no := rfl
theorem chkW_ixv (W : List WLog) (bef : List Bool) (T : List C) (p0 : Bool) (p1 : Nat) (p2 : Nat) (p3 : Opd) (p4 : Opd) (c : C) (σ : St) : chkW W bef T (.ixv p0 p1 p2 p3 p4) c σ = true := rfl
theorem logW_ixv (T : List C) (σ : St) (p0 : Bool) (p1 : Nat) (p2 : Nat) (p3 : Opd) (p4 : Opd) (c : C) : logW T σ (.ixv p0 p1 p2 p3 p4) c = .no := rfl
theorem chkW_isn (W : List WLog) (bef : List Bool) (T : List C) (p0 : Bool) (p1 : Opd) (c : C) (σ : St) : chkW W bef T (.isn p0 p1) c σ = true := rfl
theorem logW_isn (T : List C) (σ : St) (p0 : Bool) (p1 : Opd) (c : C) : logW T σ (.isn p0 p1) c = .no := rfl
theorem chkW_eqa (W : List WLog) (bef : List Bool) (T : List C) (p0 : Bool) (p1 : List Nat) (p2 : Opd) (p3 : Opd) (c : C) (σ : St) : chkW W bef T (.eqa p0 p1 p2 p3) c σ = true := rfl
theorem logW_eqa (T : List C) (σ : St) (p0 : Bool) (p1 : List Nat) (p2 : Opd) (p3 : Opd) (c : C) : logW T σ (.eqa p0 p1 p2 p3) c = .no := rfl
theorem chkW_eqb (W : List WLog) (bef : List Bool) (T : List C) (p0 : Bool) (p1 : Opd) (p2 : Opd) (c : C) (σ : St) : chkW W bef T (.eqb p0 p1 p2) c σ = true := rfl
theorem logW_eqb (T : List C) (σ : St) (p0 : Bool) (p1 : Opd) (p2 : Opd) (c : C) : logW T σ (.eqb p0 p1 p2) c = .no := rfl
theorem chkW_load (W : List WLog) (bef : List Bool) (T : List C) (g : Bool) (n : Nat) (a : Opd) (c : C) (σ : St) : chkW W bef T (.load g n a) c σ = chkL g n (evO T a) c W bef := rfl
theorem logW_load (T : List C) (σ : St) (g : Bool) (n : Nat) (a : Opd) (c : C) : logW T σ (.load g n a) c = .ld g n (evO T a) c := rfl
theorem chkL_nil (g : Bool) (n : Nat) (a c : C) (bs : List Bool) : chkL g n a c [] bs = true := rfl
theorem chkL_wt (g : Bool) (n : Nat) (a c : C) (σ : St) (W : List WLog) (bs : List Bool) : chkL g n a c (.wr σ :: W) (true :: bs) = chkL g n a c W bs := by simp [chkL]
theorem chkL_wf (g : Bool) (n : Nat) (a c : C) (σ : St) (W : List WLog) (bs : List Bool) : chkL g n a c (.wr σ :: W) (false :: bs) = (stab σ g n a c && chkL g n a c W bs) := by simp [chkL]
theorem chkL_l (g : Bool) (n : Nat) (a c : C) (g1 : Bool) (n1 : Nat) (a1 c1 : C) (W : List WLog) (b : Bool) (bs : List Bool) : chkL g n a c (.ld g1 n1 a1 c1 :: W) (b :: bs) = chkL g n a c W bs := by simp [chkL]
theorem chkL_n (g : Bool) (n : Nat) (a c : C) (W : List WLog) (b : Bool) (bs : List Bool) : chkL g n a c (.no :: W) (b :: bs) = chkL g n a c W bs := by simp [chkL]
theorem chkS_nil (σ : St) (bs : List Bool) : chkS σ [] bs = true := rfl
theorem chkS_lt (σ : St) (g : Bool) (n : Nat) (a c : C) (W : List WLog) (bs : List Bool) : chkS σ (.ld g n a c :: W) (true :: bs) = chkS σ W bs := by simp [chkS]
theorem chkS_lf (σ : St) (g : Bool) (n : Nat) (a c : C) (W : List WLog) (bs : List Bool) : chkS σ (.ld g n a c :: W) (false :: bs) = (stab σ g n a c && chkS σ W bs) := by simp [chkS]
theorem chkS_w (σ τ : St) (W : List WLog) (b : Bool) (bs : List Bool) : chkS σ (.wr τ :: W) (b :: bs) = chkS σ W bs := by simp [chkS]
theorem chkS_n (σ : St) (W : List WLog) (b : Bool) (bs : List Bool) : chkS σ (.no :: W) (b :: bs) = chkS σ W bs := by simp [chkS]
theorem st_gset {σ : St} {p : Nat} {b : Option Ob} (h : p < σ.length) : (σ.set p b)[p]? = some b := by rw [List.getElem?_set_self h]
theorem st_sset (σ : St) (p : Nat) (b c : Option Ob) : (σ.set p b).set p c = σ.set p c := List.set_set ..
theorem st_tset (σ : St) (p : Nat) (b : Option Ob) : (σ.set p b).take σ.length = σ.set p b := List.take_of_length_le (by simp)
theorem st_lset (σ : St) (p : Nat) (b : Option Ob) : (σ.set p b).length = σ.length := List.length_set ..
theorem valsC_nils (e z : Nat) : valsC (.nils e z) = some [.nils e z] := rfl
theorem cutC_yl (s n : Nat) : cutC s (.yl n) = if decide (n < s) = true then .yl n else .undef := by simp [cutC, C.lt]
theorem ibeq_t {a b : Int} (h : a = b) : (a == b) = true := by simp [h]
theorem ibeq_f {a b : Int} (h : ¬ a = b) : (a == b) = false := by simp [h]
theorem ibne_t {a b : Int} (h : ¬ a = b) : (a != b) = true := by simp [h]
theorem ibne_f {a b : Int} (h : a = b) : (a != b) = false := by simp [h]
theorem beq_ft : (false == true) = false := rfl
theorem beq_tf : (true == false) = false := rfl
theorem bne_ft : (false != true) = true := rfl
theorem bne_tf : (true != false) = true := rfl
theorem putC_ol (σ : St) (m : Nat) (old : C) (z : Nat) (r : List (List D)) (a : Nat) : putC σ m old (.o z r a) = if a < m then .o z r a else .d (.sl z r) := rfl
theorem putC_nl (σ : St) (m s : Nat) (r : List (List D)) (a e z : Nat) : putC σ m (.o s r a) (.nils e z) = match σ[a]? with
    | some (some (.ntok _ _)) => if s = z ∧ a < m then .o z [] a else .nils e z
    | _ => .nils e z := rfl
theorem putC_nd (σ : St) (m : Nat) (x : D) (e z : Nat) : putC σ m (.d x) (.nils e z) = .nils e z := rfl
set_option linter.defProp false in
/-- All the rules. -/
def evs := And.intro (And.intro (And.intro (And.intro (And.intro (And.intro (And.intro (@EvC_seq) (And.intro (@EvC_region) (@EvC_block))) (And.intro (And.intro (@EvC_loop) (@EvC_cond)) (And.intro (@EvC_skip) (@EvC_exit)))) (And.intro (And.intro (And.intro (@EvC_ret) (@EvC_scope)) (And.intro (@List.set_cons_zero.{0}) (@List.set_cons_succ.{0}))) (And.intro (And.intro (@List.getD_cons_zero.{0}) (@List.getD_cons_succ.{0})) (And.intro (@Option.map_some.{0, 0}) (@Option.bind_some.{0, 0}))))) (And.intro (And.intro (And.intro (@Option.bind_eq_bind.{0}) (And.intro (@Option.pure_def.{0}) (@List.mapM_cons.{0, 0, 0}))) (And.intro (And.intro (@List.mapM_nil.{0, 0, 0}) (@List.map_cons.{0, 0})) (And.intro (@List.map_nil.{0, 0}) (@lt_self)))) (And.intro (And.intro (And.intro (@lt_add) (@List.all_cons.{0})) (And.intro (@List.all_nil.{0}) (@Bool.and_true))) (And.intro (And.intro (@Bool.true_and) (@Bool.and_self)) (And.intro (@st_get) (@st_get0)))))) (And.intro (And.intro (And.intro (And.intro (@st_set) (And.intro (@st_set0) (@st_take))) (And.intro (And.intro (@st_take_i) (@st_app)) (And.intro (@st_len) (@List.cons_append.{0})))) (And.intro (And.intro (And.intro (@List.nil_append.{0}) (@List.append_nil.{0})) (And.intro (@List.length_cons.{0}) (@List.length_nil.{0}))) (And.intro (And.intro (@List.getElem?_cons_zero.{0}) (@List.getElem?_cons_succ.{0})) (And.intro (@List.take_succ_cons.{0}) (@List.take_zero.{0}))))) (And.intro (And.intro (And.intro (@Nat.lt_irrefl) (And.intro (@decide_true) (@decide_false))) (And.intro (And.intro (@true_and) (@and_true)) (And.intro (@and_self) (@nle_t)))) (And.intro (And.intro (And.intro (@nlt_t) (@ile_t)) (And.intro (@ilt_t) (@nle_f))) (And.intro (And.intro (@nlt_f) (@ile_f)) (And.intro (@ilt_f) (@igt))))))) (And.intro (And.intro (And.intro (And.intro (And.intro (@ige) (And.intro (@Bool.false_eq_true) (@if_true.{0}))) (And.intro (And.intro (@if_false.{0}) (@Nat.mul_one)) (And.intro (@beq_self_eq_true.{0}) (@bne_self_eq_false.{0})))) (And.intro (And.intro (And.intro (@Option.some.injEq.{0}) (@AEx.exit.injEq)) (And.intro (@Bool.not_true) (@Bool.not_false))) (And.intro (And.intro (@Nat.add_zero) (@Nat.zero_add)) (And.intro (@lenC_d) (@lenC_o))))) (And.intro (And.intro (And.intro (@lenC_csl) (And.intro (@lenC_nils) (@lenC_enn))) (And.intro (And.intro (@lenC_str) (@rowsOf_d)) (And.intro (@rowsOf_o) (@rowsOf_nils)))) (And.intro (And.intro (And.intro (@rowsOf_enn) (@ixC_d)) (And.intro (@ixC_o) (@ixC_csl))) (And.intro (And.intro (@natOf_int) (@loadC_elt)) (And.intro (@loadC_celt) (@loadC_ref)))))) (And.intro (And.intro (And.intro (And.intro (@rowsY_f) (And.intro (@rowsY_s) (@cutC_d))) (And.intro (And.intro (@cutC_u) (@cutC_elt)) (And.intro (@cutC_nils) (@cutC_enn)))) (And.intro (And.intro (And.intro (@cutC_nilf) (@cutC_cl)) (And.intro (@cutC_ref) (@cutC_o))) (And.intro (And.intro (@cutC_csl) (@cutC_map)) (And.intro (@cutC_agg) (@cutC_tup))))) (And.intro (And.intro (And.intro (@lt_d) (And.intro (@lt_o) (@lt_ref))) (And.intro (And.intro (@lt_u) (@List.drop_zero.{0})) (And.intro (@List.drop_succ_cons.{0}) (@tokC_d)))) (And.intro (And.intro (And.intro (@tokC_n) (@tokC_nil)) (And.intro (@toksC_d) (@toksC_n))) (And.intro (And.intro (@toksC_nil) (@putC_d)) (And.intro (@putCs_c) (@putCs_n)))))))) (And.intro (And.intro (And.intro (And.intro (And.intro (And.intro (@cellsOf_a) (And.intro (@cellsOf_d) (@valsC_a))) (And.intro (And.intro (@valsC_d) (@valsC_o)) (And.intro (@beq_iff_eq.{0}) (@lt_nils)))) (And.intro (And.intro (And.intro (@lt_enn) (@lt_elt)) (And.intro (@lt_map) (@lt_agg))) (And.intro (And.intro (@lt_tup) (@lt_cl)) (And.intro (@Nat.add_assoc) (@neq_t))))) (And.intro (And.intro (And.intro (@chkW_mv) (And.intro (@logW_mv) (@chkW_nilsl))) (And.intro (And.intro (@logW_nilsl) (@chkW_pick)) (And.intro (@logW_pick) (@chkW_box)))) (And.intro (And.intro (And.intro (@logW_box) (@chkW_alloc)) (And.intro (@logW_alloc) (@chkW_build))) (And.intro (And.intro (@logW_build) (@chkW_bsl)) (And.intro (@logW_bsl) (@chkW_store)))))) (And.intro (And.intro (And.intro (And.intro (@logW_store) (And.intro (@chkW_fld) (@logW_fld))) (And.intro (And.intro (@chkW_ixa) (@logW_ixa)) (And.intro (@chkW_ixs) (@logW_ixs)))) (And.intro (And.intro (And.intro (@chkW_bin) (@logW_bin)) (And.intro (@chkW_un) (@logW_un))) (And.intro (And.intro (@chkW_ext) (@logW_ext)) (And.intro (@chkW_mkfn) (@logW_mkfn))))) (And.intro (And.intro (And.intro (@chkW_nilck) (And.intro (@logW_nilck) (@chkW_len))) (And.intro (And.intro (@logW_len) (@chkW_mx)) (And.intro (@logW_mx) (@chkW_mn)))) (And.intro (And.intro (And.intro (@logW_mn) (@chkW_app)) (And.intro (@logW_app) (@chkW_cvi))) (And.intro (And.intro (@logW_cvi) (@chkW_cvid)) (And.intro (@logW_cvid) (@chkW_cvs))))))) (And.intro (And.intro (And.intro (And.intro (And.intro (@logW_cvs) (And.intro (@chkW_slc) (@logW_slc))) (And.intro (And.intro (@chkW_sls) (@logW_sls)) (And.intro (@chkW_call) (@logW_call)))) (And.intro (And.intro (And.intro (@chkW_mkmap) (@logW_mkmap)) (And.intro (@chkW_mset) (@logW_mset))) (And.intro (And.intro (@chkW_look) (@logW_look)) (And.intro (@chkW_rng) (@logW_rng))))) (And.intro (And.intro (And.intro (@chkW_nxt) (And.intro (@logW_nxt) (@chkW_fldv))) (And.intro (And.intro (@logW_fldv) (@chkW_ixaa)) (And.intro (@logW_ixaa) (@chkW_ixv)))) (And.intro (And.intro (And.intro (@logW_ixv) (@chkW_isn)) (And.intro (@logW_isn) (@chkW_eqa))) (And.intro (And.intro (@logW_eqa) (@chkW_eqb)) (And.intro (@logW_eqb) (@chkW_load)))))) (And.intro (And.intro (And.intro (And.intro (@logW_load) (And.intro (@chkL_nil) (@chkL_wt))) (And.intro (And.intro (@chkL_wf) (@chkL_l)) (And.intro (@chkL_n) (@chkS_nil)))) (And.intro (And.intro (And.intro (@chkS_lt) (@chkS_lf)) (And.intro (@chkS_w) (@chkS_n))) (And.intro (And.intro (@C.same_refl) (@EvC_regw)) (And.intro (@valsC_nils) (@st_gset))))) (And.intro (And.intro (And.intro (And.intro (@st_sset) (@st_tset)) (And.intro (@st_lset) (@cutC_yl))) (And.intro (And.intro (@ibeq_t) (@ibeq_f)) (And.intro (@ibne_t) (@ibne_f)))) (And.intro (And.intro (And.intro (@beq_ft) (@beq_tf)) (And.intro (@bne_ft) (@bne_tf))) (And.intro (And.intro (@List.take_length.{0}) (@putC_ol)) (And.intro (@putC_nl) (@putC_nd))))))))
end Go.Av

set_option linter.unusedVariables false
set_option linter.unusedSimpArgs false
namespace Go.Av
open Go.RowKit
variable [TheProg]
set_option linter.unusedSectionVars false

theorem callD_o {F : CallF} {slot : Nat} {view : St} {dst : Option Nat} {f : FuncId} {args : List C} {e sz : Nat} {rows : List (List D)} (hn : C.namesL args = [])
    (h : ∀ σ' : St, F σ'.length (.fn f) args σ' = some (.o sz rows σ'.length, σ' ++ [some (.tok e sz rows.length)])) : callD F slot view dst f args = some (entC dst slot (.fr e sz rows)) := by
  have hr : reach view args = [] := by simp [reach, hn]
  unfold callD
  rw [hr]
  have h1 := h (maskS [] view)
  rw [maskS_len] at h1
  simp only [reachOk, List.all_nil, if_true, h1, entE, resQ]
  rw [List.getElem?_append_right (by rw [maskS_len]; exact Nat.le_refl _), maskS_len]
  simp

theorem bytesOf_bR_aux : ∀ (l : List Nat), (l.map fun (b : Nat) => [D.int .u8 (b : Int)]).mapM byteOf = some (l.map fun (b : Nat) => (b : Int))
  | [] => rfl
  | b :: l => by simp [List.mapM_cons, byteOf, bytesOf_bR_aux l]
end Go.Av
