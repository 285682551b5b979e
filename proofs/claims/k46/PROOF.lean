import PyProof.Rows.All
import Wide.All
import OpenK.AllK
import Wide.FinOn
import HandS.ForMost
import HandS.Style
import HandS.Defaults
import KE.GoesMore
import KE.GoesEnum
import KE.KRevSl
import HandS.IsInst
import HandS.Codes
import HandS.More
import HandS.Star
import HandS.Dict
import HandS.Conv
import HandS.TupLen
import HandS.SortInts
import KE.KStateDown
import HandS.Head0
import HandS.Head1
import HandS.Head2
import HandS.Head3
import HandS.HeadEnd
import HandS.HeadHook1
import HandS.HeadHook2
import HandS.HeadHook3
import HandS.HeadHook4
import PySem.Challenge.RW_matedsquares_k46_whole_small_families
set_option Elab.async false
set_option linter.all false
set_option maxRecDepth 100000
set_option maxHeartbeats 4000000
/-! The mathematics: the program's functions as plain functions upon ints and lists of ints. No Python here. -/
namespace Ms
/-! ### figures -/
/-- the figures of x by p, the lowest first -/
def figs (p : Int) : Nat → Int → List Int
  | 0, _ => []
  | n + 1, x => x % p :: figs p n (x / p)
theorem figs_length (p : Int) : ∀ (n : Nat) (x : Int), (figs p n x).length = n
  | 0, _ => rfl
  | n + 1, x => by
    show (figs p n (x / p)).length + 1 = n + 1
    rw [figs_length p n]
/-- the number with some figures -/
def numOf (p : Int) : List Int → Int
  | [] => 0
  | f :: fs => numOf p fs * p + f
/-- all between nought and p -/
def Bd (p : Int) (xs : List Int) : Prop := ∀ x ∈ xs, 0 ≤ x ∧ x < p
theorem bd_nil (p : Int) : Bd p [] := fun _ h => nomatch h
theorem bd_cons {p x : Int} {xs : List Int} (h : 0 ≤ x ∧ x < p) (t : Bd p xs) : Bd p (x :: xs) := fun y hy => by
  rcases List.mem_cons.mp hy with e | hy
  · rw [e]; exact h
  · exact t y hy
theorem bd_append {p : Int} {xs ys : List Int} (a : Bd p xs) (b : Bd p ys) : Bd p (xs ++ ys) := fun y hy => by
  rcases List.mem_append.mp hy with h | h
  · exact a y h
  · exact b y h
theorem bd_rep {p : Int} (hp : 0 < p) (n : Nat) : Bd p (List.replicate n 0) := fun y hy => by
  rw [(List.mem_replicate.mp hy).2]
  exact ⟨Int.le_refl 0, hp⟩
theorem bd_take {p : Int} {xs : List Int} (a : Bd p xs) (n : Nat) : Bd p (xs.take n) := fun y hy => a y (List.mem_of_mem_take hy)
theorem bd_set {p x : Int} {xs : List Int} (a : Bd p xs) (n : Nat) (h : 0 ≤ x ∧ x < p) : Bd p (xs.set n x) := fun y hy => by
  rcases List.mem_or_eq_of_mem_set hy with h' | e
  · exact a y h'
  · rw [e]; exact h
theorem bd_getD {p : Int} (hp : 0 < p) {xs : List Int} (a : Bd p xs) (n : Nat) : 0 ≤ xs.getD n 0 ∧ xs.getD n 0 < p := by
  rw [List.getD_eq_getElem?_getD]
  cases e : xs[n]? with
  | none => exact ⟨Int.le_refl 0, hp⟩
  | some v => exact a v (List.mem_of_getElem? e)
theorem mod_bd {p : Int} (hp : 0 < p) (x : Int) : 0 ≤ x % p ∧ x % p < p := ⟨Int.emod_nonneg x (by omega), Int.emod_lt_of_pos x hp⟩
theorem bd_figs {p : Int} (hp : 0 < p) : ∀ (n : Nat) (x : Int), Bd p (figs p n x)
  | 0, _ => bd_nil p
  | n + 1, x => bd_cons (mod_bd hp x) (bd_figs hp n _)
/-! ### the remainder by a polynomial -/
def remTurn (p top : Int) : List Int → Nat → List Int → List Int
  | [], _, row => row
  | l :: ls, b, row => remTurn p top ls (b + 1) (row.set b ((row.getD b 0 - top * l) % p))
theorem remTurn_length (p top : Int) : ∀ (ls : List Int) (b : Nat) (row : List Int), (remTurn p top ls b row).length = row.length
  | [], _, _ => rfl
  | l :: ls, b, row => by
    show (remTurn p top ls (b + 1) _).length = _
    rw [remTurn_length p top ls, List.length_set]
theorem bd_remTurn {p : Int} (hp : 0 < p) (top : Int) : ∀ (ls : List Int) (b : Nat) (row : List Int), Bd p row → Bd p (remTurn p top ls b row)
  | [], _, _, h => h
  | l :: ls, b, row, h => bd_remTurn hp top ls _ _ (bd_set h b (mod_bd hp _))
/-- the turns that are left: n of them, at = d + n - 1 down to d -/
def remLoop (p : Int) (lower : List Int) (d : Nat) : Nat → List Int → List Int
  | 0, row => row
  | n + 1, row => remLoop p lower d n (remTurn p (row.getD (d + n) 0) lower n row)
theorem remLoop_length (p : Int) (lower : List Int) (d : Nat) : ∀ (n : Nat) (row : List Int), (remLoop p lower d n row).length = row.length
  | 0, _ => rfl
  | n + 1, row => by
    show (remLoop p lower d n _).length = _
    rw [remLoop_length p lower d n, remTurn_length]
theorem bd_remLoop {p : Int} (hp : 0 < p) (lower : List Int) (d : Nat) : ∀ (n : Nat) (row : List Int), Bd p row → Bd p (remLoop p lower d n row)
  | 0, _, h => h
  | n + 1, _, h => bd_remLoop hp lower d n _ (bd_remTurn hp _ _ _ _ h)
def rem0 (lower figures : List Int) : List Int := figures ++ List.replicate (lower.length - figures.length) 0
def rem (p : Int) (lower figures : List Int) : List Int :=
  (remLoop p lower lower.length ((rem0 lower figures).length - lower.length) (rem0 lower figures)).take lower.length
theorem rem0_length (lower figures : List Int) : lower.length ≤ (rem0 lower figures).length := by
  unfold rem0
  rw [List.length_append, List.length_replicate]
  omega
theorem rem_length (p : Int) (lower figures : List Int) : (rem p lower figures).length = lower.length := by
  unfold rem
  rw [List.length_take, remLoop_length]
  have := rem0_length lower figures
  omega
theorem bd_rem {p : Int} (hp : 0 < p) (lower : List Int) {figures : List Int} (h : Bd p figures) : Bd p (rem p lower figures) :=
  bd_take (bd_remLoop hp _ _ _ _ (bd_append h (bd_rep hp _))) _
/-! ### the product of two polynomials -/
def mulRow (p part : Int) : List Int → Nat → List Int → List Int
  | [], _, f => f
  | y :: ys, b, f => mulRow p part ys (b + 1) (f.set b ((f.getD b 0 + part * y) % p))
theorem mulRow_length (p part : Int) : ∀ (ys : List Int) (b : Nat) (f : List Int), (mulRow p part ys b f).length = f.length
  | [], _, _ => rfl
  | y :: ys, b, f => by
    show (mulRow p part ys (b + 1) _).length = _
    rw [mulRow_length p part ys, List.length_set]
theorem bd_mulRow {p : Int} (hp : 0 < p) (part : Int) : ∀ (ys : List Int) (b : Nat) (f : List Int), Bd p f → Bd p (mulRow p part ys b f)
  | [], _, _, h => h
  | y :: ys, b, f, h => bd_mulRow hp part ys _ _ (bd_set h b (mod_bd hp _))
def mulLoop (p : Int) (other : List Int) : List Int → Nat → List Int → List Int
  | [], _, f => f
  | x :: xs, b, f => mulLoop p other xs (b + 1) (mulRow p x other b f)
theorem mulLoop_length (p : Int) (other : List Int) : ∀ (xs : List Int) (b : Nat) (f : List Int), (mulLoop p other xs b f).length = f.length
  | [], _, _ => rfl
  | x :: xs, b, f => by
    show (mulLoop p other xs (b + 1) _).length = _
    rw [mulLoop_length p other xs, mulRow_length]
theorem bd_mulLoop {p : Int} (hp : 0 < p) (other : List Int) : ∀ (xs : List Int) (b : Nat) (f : List Int), Bd p f → Bd p (mulLoop p other xs b f)
  | [], _, _, h => h
  | x :: xs, b, f, h => bd_mulLoop hp other xs _ _ (bd_mulRow hp x other b f h)
def mulP (p : Int) (one other : List Int) : List Int := mulLoop p other one 0 (List.replicate (one.length + other.length - 1) 0)
theorem mulP_length (p : Int) (one other : List Int) : (mulP p one other).length = one.length + other.length - 1 := by
  unfold mulP
  rw [mulLoop_length, List.length_replicate]
theorem bd_mulP {p : Int} (hp : 0 < p) (one other : List Int) : Bd p (mulP p one other) := bd_mulLoop hp _ _ _ _ (bd_rep hp _)
/-! ### powers: a fuel, t below 2 ^ fuel -/
def raiseF (p : Int) (lower : List Int) : Nat → Int → List Int → List Int → List Int
  | 0, _, found, _ => found
  | n + 1, t, found, fi =>
    if 0 < t then raiseF p lower n (t / 2) (if t % 2 = 1 then rem p lower (mulP p found fi) else found) (rem p lower (mulP p fi fi)) else found
def raised (p : Int) (lower fi : List Int) (t : Int) : List Int := raiseF p lower 12 t (rem p lower [1]) fi
theorem raiseF_length (p : Int) (lower : List Int) : ∀ (n : Nat) (t : Int) (a b : List Int), a.length = lower.length → (raiseF p lower n t a b).length = lower.length
  | 0, _, _, _, h => h
  | n + 1, t, a, b, h => by
    unfold raiseF
    split
    · refine raiseF_length p lower n _ _ _ ?_
      split
      · exact rem_length ..
      · exact h
    · exact h
theorem bd_raiseF {p : Int} (hp : 0 < p) (lower : List Int) : ∀ (n : Nat) (t : Int) (a b : List Int), Bd p a → Bd p (raiseF p lower n t a b)
  | 0, _, _, _, h => h
  | n + 1, t, a, b, h => by
    unfold raiseF
    split
    · refine bd_raiseF hp lower n _ _ _ ?_
      split
      · exact bd_rem hp lower (bd_mulP hp _ _)
      · exact h
    · exact h
theorem raised_length (p : Int) (lower fi : List Int) (t : Int) : (raised p lower fi t).length = lower.length := raiseF_length p lower _ _ _ _ (rem_length ..)
theorem bd_one {p : Int} (hp : 1 < p) : Bd p [1] := bd_cons ⟨by decide, hp⟩ (bd_nil p)
theorem bd_raised {p : Int} (hp : 1 < p) (lower fi : List Int) (t : Int) : Bd p (raised p lower fi t) := bd_raiseF (by omega) lower _ _ _ _ (bd_rem (by omega) lower (bd_one hp))
/-! ### without leading zeros -/
def trimN (fs : List Int) : Nat → Nat
  | 0 => 0
  | n + 1 => if fs.getD n 0 = 0 then trimN fs n else n + 1
def trim (fs : List Int) : List Int := fs.take (trimN fs fs.length)
theorem trimN_le (fs : List Int) : ∀ n, trimN fs n ≤ n
  | 0 => Nat.le_refl 0
  | n + 1 => by
    unfold trimN
    split
    · exact Nat.le_succ_of_le (trimN_le fs n)
    · exact Nat.le_refl _
theorem trim_length_le (fs : List Int) : (trim fs).length ≤ fs.length := by
  unfold trim
  rw [List.length_take]
  exact Nat.min_le_right _ _
theorem bd_trim {p : Int} {fs : List Int} (h : Bd p fs) : Bd p (trim fs) := bd_take h _
/-! ### the inverse modulo a prime -/
def turnF (p : Int) : Nat → Int → Int → Int → Int
  | 0, _, found, _ => found
  | n + 1, t, found, x => if 0 < t then turnF p n (t / 2) (if t % 2 = 1 then found * x % p else found) (x * x % p) else found
def turned (p x : Int) : Int := turnF p 12 (p - 2) 1 x
theorem turnF_bd {p : Int} (hp : 0 < p) : ∀ (n : Nat) (t f x : Int), (0 ≤ f ∧ f < p) → 0 ≤ turnF p n t f x ∧ turnF p n t f x < p
  | 0, _, _, _, h => h
  | n + 1, t, f, x, h => by
    unfold turnF
    split
    · refine turnF_bd hp n _ _ _ ?_
      split
      · exact mod_bd hp _
      · exact h
    · exact h
theorem turned_bd {p : Int} (hp : 1 < p) (x : Int) : 0 ≤ turned p x ∧ turned p x < p := turnF_bd (by omega) _ _ _ _ ⟨by decide, hp⟩
/-! ### common divisors -/
def scaled (p : Int) (second : List Int) : List Int := second.dropLast.map fun part => part * turned p (second.getLastD 0) % p
theorem scaled_length (p : Int) (s : List Int) : (scaled p s).length = s.length - 1 := by
  unfold scaled
  rw [List.length_map, List.length_dropLast]
theorem bd_scaled {p : Int} (hp : 0 < p) (s : List Int) : Bd p (scaled p s) := fun y hy => by
  obtain ⟨x, _, e⟩ := List.mem_map.mp hy
  rw [← e]
  exact mod_bd hp _
def hcF (p : Int) : Nat → List Int → List Int → List Int
  | 0, f, _ => f
  | n + 1, f, s => if s = [] then f else hcF p n s (trim (rem p (scaled p s) f))
def haveCommon (p : Int) (one other : List Int) : Bool := decide (1 < (hcF p (trim other).length (trim one) (trim other)).length)
/-! ### irreducible -/
def irrF (p : Int) (lower : List Int) : Nat → List Int → Bool
  | 0, _ => true
  | n + 1, fi =>
    if haveCommon p (lower ++ [1]) ((raised p lower fi p).set 1 (((raised p lower fi p).getD 1 0 - 1) % p)) = true then false else irrF p lower n (raised p lower fi p)
def irr (p : Int) (lower : List Int) : Bool := irrF p lower (lower.length / 2) (rem p lower [0, 1])
/-- the first irreducible one from number on -/
def lowF (p : Int) (k : Nat) : Nat → Int → Int
  | 0, x => x
  | n + 1, x => if irr p (figs p k x) = true then x else lowF p k n (x + 1)
def lowN (p : Int) (k : Nat) : Int := lowF p k 9 0
def lowerOf (p : Int) (k : Nat) : List Int := figs p k (lowN p k)
theorem lowerOf_length (p : Int) (k : Nat) : (lowerOf p k).length = k := figs_length ..
theorem bd_lowerOf {p : Int} (hp : 0 < p) (k : Nat) : Bd p (lowerOf p k) := bd_figs hp _ _
/-! ### sums, differences, products of elements -/
def sumF (p : Int) : Nat → Int → Int → Int → Int → Int
  | 0, found, _, _, _ => found
  | n + 1, found, step, a, b => if 0 < a ∨ 0 < b then sumF p n (found + (a + b) % p * step) (step * p) (a / p) (b / p) else found
def sumOf (p a b : Int) : Int := sumF p 12 0 1 a b
def lessF (p : Int) : Nat → Int → Int → Int → Int → Int
  | 0, found, _, _, _ => found
  | n + 1, found, step, a, b => if 0 < a ∨ 0 < b then lessF p n (found + (a - b) % p * step) (step * p) (a / p) (b / p) else found
def lessOf (p a b : Int) : Int := lessF p 12 0 1 a b
def prodOf (p : Int) (lower : List Int) (a b : Int) : Int := numOf p (rem p lower (mulP p (figs p lower.length a) (figs p lower.length b)))
def powOf (p : Int) (lower : List Int) (a t : Int) : Int := numOf p (raised p lower (figs p lower.length a) t)
def invOf (p : Int) (lower : List Int) (a : Int) : Int := powOf p lower a (p ^ lower.length - 2)
/-! ### families: parts (p, k) -/
abbrev Part := Int × Nat
def sizes (ps : List Part) : List Int := ps.map fun q => q.1 ^ q.2
def splitR : List Int → Int → List Int
  | [], _ => []
  | s :: ss, x => x % s :: splitR ss (x / s)
def split (ss : List Int) (x : Int) : List Int := (splitR ss.reverse x).reverse
def joinF : List Int → List Int → Int → Int
  | s :: ss, f :: fs, x => joinF ss fs (x * s + f)
  | _, _, x => x
def joined (ss fs : List Int) : Int := joinF ss fs 0
def comb (op : Int → Int → Int → Int) (kind : Int) : List Part → List Int → List Int → List Int
  | q :: ps, a :: as, b :: bs => op q.1 a (prodOf q.1 (lowerOf q.1 q.2) kind b) :: comb op kind ps as bs
  | _, _, _ => []
def combined (op : Int → Int → Int → Int) (ps : List Part) (point other kind : Int) : Int :=
  joined (sizes ps) (comb op kind ps (split (sizes ps) point) (split (sizes ps) other))
/-- the sign of the square j at a cell, by the family -/
def sgn (ps : List Part) (j r c : Int) : Int := combined sumOf ps (combined lessOf ps r c 0) c j
end Ms
namespace Ms
open PySem PySem.Spec PyProof.Rows L2
def topS (i : Nat) : Stmt := PySem.Challenge.pw_matedsquares_k46_whole_small_families.main.body.getD i (.Pass ⟨0, 0, 0, 0⟩)
abbrev famS (i : Nat) : Stmt := inClass (topS 36) i
/-! ### heaps -/
theorem same_new {H : Hp} {p : Addr} {o : HO} (h : H p = none) : Same H (upd H p o) := fun b x e => by
  rw [upd_ne (ne_of_none e h)]
  exact e
theorem same_put {H H' : Hp} {p : Addr} {o : HO} (s : Same H H') (h : H p = none) : Same H (upd H' p o) := fun b x e => by
  rw [upd_ne (ne_of_none e h)]
  exact s _ _ e
theorem same_put' {H H' : Hp} {p : Addr} {o : HO} (s : Same H H') (h : H' p = none) : Same H (upd H' p o) := s.trans (same_new h)
theorem seqT {K : PySem.W.Frag} {H H' : Hp} {a : Addr} {xs : List V} (e : Same H H') (h : SqT K H a xs) : SqT K H' a xs := by
  rcases h with (h | ⟨o, h⟩) | h
  · exact .inl (.inl (e _ _ h))
  · exact .inl (.inr ⟨o, e _ _ h⟩)
  · exact .inr h
/-- a new list of ints, a new tuple, an int -/
abbrev NewL (H : Hp) (xs : List Int) (Q : V → Hp → Prop) : Prop := ∀ (H' : Hp) (p : Addr), Same H H' → H p = none → H' p = some (.lst (xs.map V.int)) → Q (.ref p) H'
abbrev NewT (H : Hp) (xs : List Int) (Q : V → Hp → Prop) : Prop := ∀ (H' : Hp) (p : Addr), Same H H' → H p = none → H' p = some (.tup (xs.map V.int)) → Q (.ref p) H'
abbrev NewI (H : Hp) (x : Int) (Q : V → Hp → Prop) : Prop := ∀ H' : Hp, Same H H' → Q (.int x) H'
abbrev NewB (H : Hp) (x : Bool) (Q : V → Hp → Prop) : Prop := ∀ H' : Hp, Same H H' → Q (.bl x) H'
/-- a list or tuple of ints -/
def Sq (K : PySem.W.Frag) (H : Hp) (a : Addr) (xs : List Int) : Prop := SqL K H a (xs.map V.int) ∨ SqT K H a (xs.map V.int)
theorem Sq.same {K : PySem.W.Frag} {H H' : Hp} {a : Addr} {xs : List Int} (h : Sq K H a xs) (e : Same H H') : Sq K H' a xs := by
  rcases h with h | h
  · exact .inl (e.seq h)
  · exact .inr (seqT e h)
theorem sqL {K : PySem.W.Frag} {H : Hp} {a : Addr} {xs : List Int} (h : H a = some (.lst (xs.map V.int))) : Sq K H a xs := .inl (.inl (.inl h))
theorem sqT {K : PySem.W.Frag} {H : Hp} {a : Addr} {xs : List Int} (h : H a = some (.tup (xs.map V.int))) : Sq K H a xs := .inr (.inl (.inl h))
theorem small {n : Nat} (h : n ≤ 1000) : n < sizeLine := small1000 h
theorem map_snoc (xs : List Int) (x : Int) : (xs.map V.int) ++ [V.int x] = (xs ++ [x]).map V.int := by
  rw [List.map_append] <;> rfl
theorem at_ints {xs : List Int} {i : Int} {j : Nat} (e : i = (j : Int)) (h : j < xs.length) : atI (xs.map V.int) i = some (.int (xs.getD j 0)) := by
  refine at_of e ?_
  rw [List.getElem?_map, List.getD_eq_getElem?_getD, List.getElem?_eq_getElem h] <;> rfl
theorem get_int {xs : List Int} {i : Nat} {x : V} (h : (xs.map V.int)[i]? = some x) : i < xs.length ∧ x = .int (xs.getD i 0) := by
  rw [List.getElem?_map] at h
  cases e : xs[i]? with
  | none =>
    rw [e] at h
    cases h
  | some z =>
    rw [e] at h
    refine ⟨(List.getElem?_eq_some_iff.mp e).1, ?_⟩
    rw [List.getD_eq_getElem?_getD, e]
    exact (Option.some.inj h).symm
theorem drop_at {xs : List Int} {i : Nat} (h : i < xs.length) : xs.drop i = xs.getD i 0 :: xs.drop (i + 1) := by
  rw [List.drop_eq_getElem_cons h, List.getD_eq_getElem?_getD, List.getElem?_eq_getElem h] <;> rfl
theorem ixN_of {n : Nat} {i : Int} {j : Nat} (e : i = (j : Int)) (h : j < n) : ixN n i = some j := by
  unfold ixN
  rw [if_pos (by omega), if_pos (by omega)]
  congr 1
  omega
theorem map_set (xs : List Int) (j : Nat) (z : Int) : (xs.map V.int).set j (.int z) = (xs.set j z).map V.int := by
  rw [List.map_set]
/-! ### defs of the text by name -/
/-- the module's name x stands for the def st, without defaults -/
structure DefF (K : PySem.W.Frag) (mg : Str → Option Value) (x : Str) (st : Stmt) : Prop where
  ex : ∃ (f : Addr) (fd : FuncData), FunD K x x (defArgs st) (defBody st) (defScope st) [] [] f fd ∧ mg x = some (.ref f)
/-- a def that may be called by its name -/
structure Cal (P : Program) (w : World) (K : PySem.W.Frag) (mg : Str → Option Value) (base : Heap) (k : Nat) (x : Str) (sp : Sp) (dvs : List V) : Prop where
  ex : ∃ (f : Addr) (fd : FuncData) (ps : List Str) (ds : List Value), (FnOk P w K mg base CX0 k f fd ps sp ∧ mg x = some (.ref f)) ∧ PySem.W.keepIn K (.ref f) = true ∧ Binds K fd ps ds ∧ Vals dvs ds
/-- a method of the class at C -/
structure Met (P : Program) (w : World) (K : PySem.W.Frag) (mg : Str → Option Value) (base : Heap) (k : Nat) (C : Addr) (m : Str) (sp : Sp) : Prop where
  ex : ∃ (f : Addr) (fd : FuncData) (ps : List Str), (Cls K C ∧ Meth K C m f) ∧ FnOk P w K mg base CX0 k f fd ps sp ∧ Binds K fd ps []
/-- how n parameters are bound -/
abbrev BindsBy (x q : Str) (st : Stmt) (ps : List Str) : Prop := ∀ (kV doc pm : Value) (an : Option Addr) (cdv ct : Value) (us : List Value), us.length = ps.length →
  bindArgs (PySem.W.fnOf x q (defArgs st) (defBody st) (defScope st) .none kV doc pm an cdv ct) ⟨us, []⟩ = pure (ps.zip us)
/-- a def's body, by a term of rules and its reading -/
abbrev BodyOk (P : Program) (w : World) (K : PySem.W.Frag) (mg : Str → Option Value) (base : Heap) (k : Nat) (q : Str) (st : Stmt) (N : List Str) (sp : Sp) : Prop :=
  ∀ (f : Addr) (cdv : Value) (A : Around) (outer : List Env) (s : Shared) (H : Hp) (vs : List V) (Q : VK) (E : XK), Room k (A.deeper (envOfC q (defScope st) s.heap.objs.size f cdv)) → sp vs H Q E →
    ∃ t, PSs (cxOf CX0 P w K mg base N q (defScope st) f cdv A outer s H E).nox (defBody st) t ∧ t { nx := fun _ H' => Q .non H', rt := Q } (start N vs) H
section
variable {P : Program} {w : World} {K : PySem.W.Frag} {mg : Str → Option Value} {base : Heap}
theorem DefF.cal {x : Str} {st : Stmt} {N ps : List Str} {k : Nat} {sp : Sp} (D : DefF K mg x st) (S : FnScope N ps (defScope st)) (b : BindsBy x x st ps) (len : ∀ vs H Q E, sp vs H Q E → vs.length = ps.length)
    (h : BodyOk P w K mg base k x st N sp) : Cal P w K mg base (k + 1) x sp [] := by
  obtain ⟨f, fd, F, hm⟩ := D.ex
  refine ⟨f, fd, ps, [], ⟨F.ok S len fun cdv A outer s H vs Q E hr hs => ?_, hm⟩, F.kp, F.bindsN b, .nil⟩
  obtain ⟨t, p, q⟩ := h f cdv A outer s H vs Q E hr hs
  exact ⟨t, p.nox, q⟩
end
section
variable {X : Cx} {k j : Nat} {x m : Str} {sp : Sp} {dvs : List V} {C : Addr} {p pos apos : Pos} {e o : Expr} {es : List Expr} {ta : TE} {t : TA}
theorem pc (c : Cal X.prog X.w X.K X.mg X.base k x sp dvs) (hr : Room j X.A) (ha : PA X (e :: es) t) (hk : k ≤ j := by decide) (hg : Gl X x := by rfl)
    (hdb : (x == ("__debug__" : Str)) = false := by decide) (hst : starEach (e :: es) X.env = (false, eval e X.env) :: starEach es X.env := by rfl) (hpl : (backTo pos (starEach es X.env)).any (·.1) = false := by rfl) :
    PE X (.Call (.Name x p) (e :: es) [] pos) (tCall sp dvs E0 t) := by
  obtain ⟨f, fd, ps, ds, ⟨F, hm⟩, kp, b, d⟩ := c.ex
  exact pe_call F (hr.mono hk) hg hm kp b d pass0 ha hdb hst hpl
theorem pm {pl : Sem Bool} (c : Met X.prog X.w X.K X.mg X.base k C m sp) (hr : Room j X.A) (ho : PE X o ta) (ha : PA X (e :: es) t) (hk : k ≤ j := by decide)
    (hst : starEach (e :: es) X.env = (false, eval e X.env) :: starEach es X.env := by rfl) (hpl : (backTo pos (starEach es X.env)).any (·.1) = false := by rfl)
    (ht : eval (.Call (.Attribute o m apos) (e :: es) [] pos) X.env = (do
      let ov ← eval o X.env
      standAt apos.atName
      let fa ← holding [ov] (getMethod ov m pl)
      callWith pos fa.1 fa.2 (backTo pos (starEach (e :: es) X.env)) (backToKw pos (keywordEach [] X.env))) := by rfl) :
    PE X (.Call (.Attribute o m apos) (e :: es) [] pos) (tMeth C m sp [] E0 ta t) := by
  obtain ⟨f, fd, ps, ⟨hc, hm⟩, F, b⟩ := c.ex
  exact pe_meth (pl := pl) ho hc hm F (hr.mono hk) b .nil pass0 ha hst hpl ht
end
section
variable {P : Program} {w : World} {K : PySem.W.Frag} {mg : Str → Option Value} {base : Heap}
/-! ### size_of -/
abbrev sSize : Stmt := topS 13
theorem scSize : FnScope ["prime", "degree", "size", "_"] ["prime", "degree"] (defScope sSize) := ⟨rfl, rfl, rfl, by decide +kernel, rfl, by decide +kernel, by decide +kernel⟩
def spSize : Sp := fun vs H Q _ => ∃ (p : Int) (k : Nat), vs = [.int p, .int (k : Int)] ∧ 0 ≤ p ∧ p < 2 ^ 64 ∧ k ≤ 1000 ∧ Q (.int (p ^ k)) H
theorem ok_size (D : DefF K mg "size_of" sSize) (mr : mg "range" = none) : Cal P w K mg base 1 "size_of" spSize [] := by
  refine D.cal scSize (fun _ _ _ _ _ _ us hl => match us, hl with | [_, _], _ => rfl) (fun vs H Q E h => ?_) (fun f cdv A outer s H vs Q E hr h => ?_)
  · obtain ⟨p, k, rfl, _⟩ := h
    rfl
  · obtain ⟨p, k, rfl, h0, h1, hk, q⟩ := h
    refine ⟨_, pss_cons (ps_set (i := 2) scSize.nd rfl (.inl rfl) pe_int)
      (pss_cons (ps_for PassesOwn.never rfl (pi_range1 rfl mr (pa_cons (pv 1) pa_nil)) (pg_name (i := 3) scSize.nd rfl (.inl rfl))
        (pss_one (ps_aug (i := 2) scSize.nd rfl (.inl rfl) (pv 0) iop_mul)))
      (pss_one (ps_ret (pv 2)))), ?_⟩
    refine ⟨_, rfl, (k : Int), rfl, by omega, by omega, for_range (lo := 0) (n := k) (fun i σ H' => ∃ y, σ = [some (.int p), some (.int k), some (.int (p ^ i)), y] ∧ H' = H) ⟨none, (by rw [Int.pow_zero] <;> rfl), rfl⟩ ?_ ?_⟩
    · rintro i σ H' hi ⟨y, rfl, rfl⟩
      refine ⟨_, rfl, _, rfl, _, _, rfl, rfl, .inr ⟨by omega, h1⟩, some (.int (0 + i)), ?_, rfl⟩
      show [some (V.int p), some (V.int (k : Int)), some (V.int (p ^ i * p)), some (V.int (0 + i))] = _
      rw [← Int.pow_succ]
    · rintro σ H' ⟨y, rfl, rfl⟩
      exact ⟨_, rfl, q⟩
/-! ### figures_of -/
abbrev sFig : Stmt := topS 15
theorem scFig : FnScope ["prime", "many", "number", "found", "_"] ["prime", "many", "number"] (defScope sFig) := ⟨rfl, rfl, rfl, by decide +kernel, rfl, by decide +kernel, by decide +kernel⟩
def spFig : Sp := fun vs H Q _ => ∃ (p : Int) (k : Nat) (x : Int), vs = [.int p, .int (k : Int), .int x] ∧ 0 < p ∧ p < 1000 ∧ k ≤ 100 ∧ NewL H (figs p k x) Q
theorem ok_fig (D : DefF K mg "figures_of" sFig) (mr : mg "range" = none) : Cal P w K mg base 1 "figures_of" spFig [] := by
  refine D.cal scFig (fun _ _ _ _ _ _ us hl => match us, hl with | [_, _, _], _ => rfl) (fun vs H Q E h => ?_) (fun f cdv A outer s H vs Q E hr h => ?_)
  · obtain ⟨p, k, x, rfl, _⟩ := h
    rfl
  · obtain ⟨p, k, x, rfl, h0, h1, hk, q⟩ := h
    refine ⟨_, pss_cons (ps_set (i := 3) scFig.nd rfl (.inl rfl) (pe_lst pa_nil))
      (pss_cons (ps_for PassesOwn.never rfl (pi_range1 rfl mr (pa_cons (pv 1) pa_nil)) (pg_name (i := 4) scFig.nd rfl (.inl rfl))
        (pss_cons (ps_expr (pe_bm PySem.F.plainAttrs_list PySem.F.slot_list_append PySem.F.type_list_append mt_append (pv 3) (pa_cons (pe_op op_mod (pv 2) (pv 0)) pa_nil)))
        (pss_one (ps_aug (i := 2) scFig.nd rfl (.inl rfl) (pv 0) iop_fdiv))))
      (pss_one (ps_ret (pv 3)))), ?_⟩
    refine ⟨Nat.zero_le _, fun o no => ?_⟩
    refine ⟨_, rfl, (k : Int), rfl, by omega, by omega, for_range (lo := 0) (n := k) (fun i σ H' => ∃ (acc : List Int) (z : Int) (y : Option V), σ = [some (.int p), some (.int k), some (.int z), some (.ref o), y] ∧
      Same H H' ∧ H' o = some (.lst (acc.map V.int)) ∧ acc.length = i ∧ i ≤ k ∧ acc ++ figs p (k - i) z = figs p k x) ⟨[], x, none, rfl, same_new no, upd_same, rfl, Nat.zero_le _, rfl⟩ ?_ ?_⟩
    · rintro i σ H' hi ⟨acc, z, y, rfl, sm, ho, hl, _, e⟩
      refine ⟨_, rfl, .inl ⟨rfl, _, SqL.of ho⟩, _, rfl, _, rfl, _, _, rfl, rfl, h0, o, _, _, rfl, rfl, ho, (by rw [List.length_map]; exact small (by omega)), ?_⟩
      refine ⟨_, rfl, _, rfl, _, _, rfl, rfl, ⟨h0, by omega⟩, acc ++ [z % p], z / p, _, rfl, same_put sm no, (by rw [upd_same, map_snoc]), (by simp [hl]), by omega, ?_⟩
      obtain ⟨m, hm⟩ : ∃ m, k - i = m + 1 := ⟨k - i - 1, by omega⟩
      rw [hm] at e
      rw [show k - (i + 1) = m by omega, List.append_assoc]
      exact e
    · rintro σ H' ⟨acc, z, y, rfl, sm, ho, hl, _, e⟩
      rw [Nat.sub_self] at e
      have e' : acc = figs p k x := by rw [← e]; exact (List.append_nil _).symm
      rw [e'] at ho
      exact ⟨_, rfl, q H' o sm no ho⟩
end
end Ms
namespace Ms
open PySem PySem.Spec PyProof.Rows L2
/-! ### small arithmetic -/
theorem half_lt {p a : Int} {m : Nat} (hp : 2 ≤ p) (h0 : 0 ≤ a) (h : a < 2 ^ (m + 1)) : 0 ≤ a / p ∧ a / p < 2 ^ m := by
  refine ⟨Int.ediv_nonneg h0 (by omega), ?_⟩
  have e : (2 : Int) ^ (m + 1) = 2 ^ m * 2 := Int.pow_succ 2 m
  have h2 : (0 : Int) < 2 ^ m := Int.pow_pos (by decide)
  refine Int.ediv_lt_of_lt_mul (by omega) ?_
  have : (2 : Int) ^ m * 2 ≤ 2 ^ m * p := Int.mul_le_mul_of_nonneg_left hp (by omega)
  omega
theorem zero_of {a : Int} (h0 : 0 ≤ a) (h : a < 2 ^ 0) : ¬ 0 < a := by
  rw [Int.pow_zero] at h
  omega
theorem sumF_done {p fo st a b : Int} (ha : ¬ 0 < a) (hb : ¬ 0 < b) : ∀ m, sumF p m fo st a b = fo
  | 0 => rfl
  | m + 1 => by
    unfold sumF
    rw [if_neg (fun h => h.elim ha hb)]
theorem lessF_done {p fo st a b : Int} (ha : ¬ 0 < a) (hb : ¬ 0 < b) : ∀ m, lessF p m fo st a b = fo
  | 0 => rfl
  | m + 1 => by
    unfold lessF
    rw [if_neg (fun h => h.elim ha hb)]
theorem turnF_done {p t fo x : Int} (ht : ¬ 0 < t) : ∀ m, turnF p m t fo x = fo
  | 0 => rfl
  | m + 1 => by
    unfold turnF
    rw [if_neg ht]
theorem dtrue {c : Prop} [Decidable c] (h : decide c = true) : c := of_decide_eq_true h
theorem dfalse {c : Prop} [Decidable c] (h : ¬ decide c = true) : ¬ c := fun e => h (decide_eq_true e)
section
variable {P : Program} {w : World} {K : PySem.W.Frag} {mg : Str → Option Value} {base : Heap}
/-! ### is_prime -/
abbrev sPrime : Stmt := topS 12
theorem scPrime : FnScope ["number", "divisor"] ["number"] (defScope sPrime) := ⟨rfl, rfl, rfl, by decide +kernel, rfl, by decide +kernel, by decide +kernel⟩
def NoDiv (n : Int) : Prop := ∀ d : Int, 2 ≤ d → d * d ≤ n → ¬ n % d = 0
def spPrime : Sp := fun vs H Q _ => ∃ n : Int, vs = [.int n] ∧ 1 < n ∧ n < 2 ^ 60 ∧ NoDiv n ∧ Q (.bl true) H
theorem ok_prime (D : DefF K mg "is_prime" sPrime) : Cal P w K mg base 1 "is_prime" spPrime [] := by
  refine D.cal scPrime (fun _ _ _ _ _ _ us hl => match us, hl with | [_], _ => rfl) (fun vs H Q E h => ?_) (fun f cdv A outer s H vs Q E hr h => ?_)
  · obtain ⟨n, rfl, _⟩ := h
    rfl
  · obtain ⟨n, rfl, h1, h2, nd, q⟩ := h
    refine ⟨_, pss_cons (ps_set (i := 1) scPrime.nd rfl (.inl rfl) pe_int)
      (pss_cons (ps_while PassesOwn.never (pt_cmpR op_le (pe_op op_mul (pv 1) (pv 1)) (pv 0) (nomark _))
        (pss_cons (ps_if (pt_cmpR op_eq (pe_op op_mod (pv 0) (pv 1)) pe_int (nomark _)) pss_never pss_nil)
          (pss_one (ps_aug (i := 1) scPrime.nd rfl (.inl rfl) pe_int ip_add))))
      (pss_one (ps_ret (pe_cmpR op_gt (pv 0) pe_int (nomark _))))), ?_⟩
    refine ⟨fun m σ H' => ∃ d : Int, σ = [some (.int n), some (.int d)] ∧ H' = H ∧ 2 ≤ d ∧ d ≤ n + 1 ∧ m = (n + 1 - d).toNat, ⟨_, 2, rfl, rfl, by omega, by omega, rfl⟩, ?_⟩
    rintro m σ H' ⟨d, rfl, rfl, d2, dn, rfl⟩
    refine ⟨_, rfl, _, rfl, _, _, rfl, rfl, .inl ⟨by omega, by omega⟩, _, rfl, _, _, rfl, rfl, _, rfl, ite2 (fun e => ?_) (fun e => ?_)⟩
    · have e1 : d * d ≤ n := dtrue e
      have e2 : d * 2 ≤ d * d := Int.mul_le_mul_of_nonneg_left d2 (by omega)
      refine ⟨fun σ' H'' => σ' = [some (.int n), some (.int (d + 1))] ∧ H'' = H', fun σ' H'' z => ?_, ?_⟩
      · obtain ⟨rfl, rfl⟩ := z
        exact ⟨(n + 1 - (d + 1)).toNat, by omega, d + 1, rfl, rfl, by omega, by omega, rfl⟩
      · refine ⟨_, rfl, _, rfl, _, _, rfl, rfl, (by show 0 < d; omega), rfl, _, rfl, ite2 (fun z => ?_) (fun _ => ?_)⟩
        · exact absurd (V.int.inj (dtrue z)) (nd d d2 e1)
        · exact ⟨_, rfl, _, _, rfl, rfl, rfl, rfl⟩
    · refine ⟨_, rfl, _, _, rfl, rfl, ?_⟩
      have e1 : decide (1 < n) = true := decide_eq_true h1
      show Q (.bl (decide (1 < n))) H'
      rw [e1]
      exact q
/-! ### number_of -/
abbrev sNum : Stmt := topS 16
theorem scNum : FnScope ["prime", "figures", "found", "figure"] ["prime", "figures"] (defScope sNum) := ⟨rfl, rfl, rfl, by decide +kernel, rfl, by decide +kernel, by decide +kernel⟩
def spNum (K : PySem.W.Frag) : Sp := fun vs H Q _ => ∃ (p : Int) (a : Addr) (xs : List Int), vs = [.int p, .ref a] ∧ 0 < p ∧ p < 1000 ∧ SqL K H a (xs.map V.int) ∧ NewI H (numOf p xs) Q
theorem numOf_rev {p : Int} (xs : List Int) : numOf p xs = (xs.reverse).foldl (fun a f => a * p + f) 0 := by
  rw [List.foldl_reverse]
  induction xs with
  | nil => rfl
  | cons x xs ih =>
    show numOf p xs * p + x = _
    rw [ih]
    rfl
theorem ok_num (D : DefF K mg "number_of" sNum) : Cal P w K mg base 1 "number_of" (spNum K) [] := by
  refine D.cal scNum (fun _ _ _ _ _ _ us hl => match us, hl with | [_, _], _ => rfl) (fun vs H Q E h => ?_) (fun f cdv A outer s H vs Q E hr h => ?_)
  · obtain ⟨p, a, xs, rfl, _⟩ := h
    rfl
  · obtain ⟨p, a, xs, rfl, h0, h1, hS, q⟩ := h
    refine ⟨_, pss_cons (ps_set (i := 2) scNum.nd rfl (.inl rfl) pe_int)
      (pss_cons (ps_for PassesOwn.never rfl (pi_list (pe_revL (pv 1))) (pg_name (i := 3) scNum.nd rfl (.inl rfl))
        (pss_one (ps_set (i := 2) scNum.nd rfl (.inl rfl) (pe_op op_add (pe_op op_mul (pv 2) (pv 0)) (pv 3)))))
      (pss_one (ps_ret (pv 2)))), ?_⟩
    refine ⟨_, rfl, a, _, rfl, hS, fun o no => ?_⟩
    have eR : (xs.map V.int).reverse = xs.reverse.map V.int := by rw [List.map_reverse]
    rw [eR]
    refine ⟨o, rfl, ⟨_, .inl (.inl upd_same)⟩, for_list (K := K) (a := o) (xs := xs.reverse.map V.int) (fun i σ H' => ∃ y, σ = [some (.int p), some (.ref a), some (.int ((xs.reverse.take i).foldl (fun a f => a * p + f) 0)), y] ∧ H' = upd H o (.lst (xs.reverse.map V.int)))
      ⟨none, rfl, rfl⟩ (fun i σ H' _ h => by obtain ⟨y, _, rfl⟩ := h; exact .inl (.inl upd_same)) ?_ ?_⟩
    · rintro i x σ H' hi ⟨y, rfl, rfl⟩
      obtain ⟨hl, rfl⟩ := get_int hi
      refine ⟨_, rfl, _, rfl, _, _, rfl, rfl, .inr ⟨by omega, by omega⟩, _, rfl, _, _, rfl, rfl, some (.int (xs.reverse.getD i 0)), ?_, rfl⟩
      have e : ((xs.reverse.take i).foldl (fun a f => a * p + f) 0) * p + xs.reverse.getD i 0 = (xs.reverse.take (i + 1)).foldl (fun a f => a * p + f) 0 := by
        rw [List.take_add_one, List.foldl_append, List.getD_eq_getElem?_getD, List.getElem?_eq_getElem hl]
        rfl
      rw [← e]
      rfl
    · rintro σ H' ⟨y, rfl, rfl⟩
      refine ⟨_, rfl, ?_⟩
      rw [List.length_map, List.take_length, ← numOf_rev]
      exact q _ (same_new no)
/-! ### sum_of, less_of -/
abbrev sSum : Stmt := topS 25
theorem scSum : FnScope ["prime", "one", "other", "found", "step"] ["prime", "one", "other"] (defScope sSum) := ⟨rfl, rfl, rfl, by decide +kernel, rfl, by decide +kernel, by decide +kernel⟩
def spTog (op : Int → Int → Int → Int) : Sp := fun vs H Q _ => ∃ p a b : Int, vs = [.int p, .int a, .int b] ∧ 2 ≤ p ∧ p < 1000 ∧ (0 ≤ a ∧ a < 2 ^ 12) ∧ (0 ≤ b ∧ b < 2 ^ 12) ∧ Q (.int (op p a b)) H
theorem ok_sum (D : DefF K mg "sum_of" sSum) : Cal P w K mg base 1 "sum_of" (spTog sumOf) [] := by
  refine D.cal scSum (fun _ _ _ _ _ _ us hl => match us, hl with | [_, _, _], _ => rfl) (fun vs H Q E h => ?_) (fun f cdv A outer s H vs Q E hr h => ?_)
  · obtain ⟨p, a, b, rfl, _⟩ := h
    rfl
  · obtain ⟨p, a, b, rfl, h0, h1, ⟨a0, a1⟩, ⟨b0, b1⟩, q⟩ := h
    refine ⟨_, pss_cons (ps_set (i := 3) scSum.nd rfl (.inl rfl) pe_int) (pss_cons (ps_set (i := 4) scSum.nd rfl (.inl rfl) pe_int)
      (pss_cons (ps_while PassesOwn.never (PW.pt (pw_or (pt_cmpR op_gt (pv 1) pe_int (nomark _)) (pw_or1 (pt_cmpR op_gt (pv 2) pe_int (nomark _)))))
        (pss_cons (ps_aug (i := 3) scSum.nd rfl (.inl rfl) (pe_op op_mul (pe_op op_mod (pe_op op_add (pv 1) (pv 2)) (pv 0)) (pv 4)) ip_add)
          (pss_one (ps_par3 (i := 1) (j := 2) (l := 4) rfl scSum.nd rfl rfl rfl (by decide) (by decide) (by decide) rfl rfl rfl (pa_cons (pe_op op_fdiv (pv 1) (pv 0)) (pa_cons (pe_op op_fdiv (pv 2) (pv 0)) (pa_cons (pe_op op_mul (pv 4) (pv 0)) pa_nil))) (by rfl)))))
      (pss_one (ps_ret (pv 3))))), ?_⟩
    refine ⟨fun m σ H' => ∃ a' b' fo st : Int, σ = [some (.int p), some (.int a'), some (.int b'), some (.int fo), some (.int st)] ∧ H' = H ∧ (0 ≤ a' ∧ a' < 2 ^ m) ∧ (0 ≤ b' ∧ b' < 2 ^ m) ∧ sumF p m fo st a' b' = sumOf p a b,
      ⟨12, a, b, 0, 1, rfl, rfl, ⟨a0, a1⟩, ⟨b0, b1⟩, rfl⟩, ?_⟩
    rintro m σ H' ⟨a', b', fo, st, rfl, rfl, ⟨a0', a1'⟩, ⟨b0', b1'⟩, e⟩
    have turn : (0 < a' ∨ 0 < b') → ∃ N : L2.St → Hp → Prop, (∀ σ' H'', N σ' H'' → ∃ m', m' < m ∧ ∃ a' b' fo st : Int, σ' = [some (.int p), some (.int a'), some (.int b'), some (.int fo), some (.int st)] ∧ H'' = H' ∧ (0 ≤ a' ∧ a' < 2 ^ m') ∧ (0 ≤ b' ∧ b' < 2 ^ m') ∧ sumF p m' fo st a' b' = sumOf p a b) ∧
        N [some (.int p), some (.int (a' / p)), some (.int (b' / p)), some (.int (fo + (a' + b') % p * st)), some (.int (st * p))] H' := fun hpos => by
      cases m with
      | zero => exact absurd hpos (fun z => z.elim (zero_of a0' a1') (zero_of b0' b1'))
      | succ m =>
        refine ⟨fun σ' H'' => σ' = [some (.int p), some (.int (a' / p)), some (.int (b' / p)), some (.int (fo + (a' + b') % p * st)), some (.int (st * p))] ∧ H'' = H', fun σ' H'' z => ?_, rfl, rfl⟩
        obtain ⟨rfl, rfl⟩ := z
        refine ⟨m, Nat.lt_succ_self m, _, _, _, _, rfl, rfl, half_lt h0 a0' a1', half_lt h0 b0' b1', ?_⟩
        unfold sumF at e
        rw [if_pos hpos] at e
        exact e
    have mb := mod_bd (p := p) (by omega) (a' + b')
    refine ⟨_, rfl, _, _, rfl, rfl, _, rfl, ite2 (fun z => ?_) (fun z => ?_)⟩
    · obtain ⟨N, hN, hn⟩ := turn (.inl (dtrue z))
      refine ⟨N, hN, ?_⟩
      exact ⟨_, rfl, _, rfl, _, rfl, _, _, rfl, rfl, _, rfl, _, _, rfl, rfl, (by show 0 < p; omega), _, rfl, _, _, rfl, rfl, .inl ⟨by omega, by omega⟩, _, _, rfl, rfl,
        _, rfl, _, rfl, _, _, rfl, rfl, ⟨by omega, by omega⟩, _, rfl, _, rfl, _, _, rfl, rfl, ⟨by omega, by omega⟩, _, rfl, _, rfl, _, _, rfl, rfl, .inr ⟨by omega, by omega⟩, _, _, _, rfl, hn⟩
    · refine ⟨_, rfl, _, _, rfl, rfl, _, rfl, ite2 (fun z' => ?_) (fun z' => ?_)⟩
      · obtain ⟨N, hN, hn⟩ := turn (.inr (dtrue z'))
        refine ⟨N, hN, ?_⟩
        exact ⟨_, rfl, _, rfl, _, rfl, _, _, rfl, rfl, _, rfl, _, _, rfl, rfl, (by show 0 < p; omega), _, rfl, _, _, rfl, rfl, .inl ⟨by omega, by omega⟩, _, _, rfl, rfl,
          _, rfl, _, rfl, _, _, rfl, rfl, ⟨by omega, by omega⟩, _, rfl, _, rfl, _, _, rfl, rfl, ⟨by omega, by omega⟩, _, rfl, _, rfl, _, _, rfl, rfl, .inr ⟨by omega, by omega⟩, _, _, _, rfl, hn⟩
      · refine ⟨_, rfl, ?_⟩
        rw [sumF_done (dfalse z) (dfalse z')] at e
        rw [e]
        exact q
abbrev sLess : Stmt := topS 26
theorem scLess : FnScope ["prime", "one", "other", "found", "step"] ["prime", "one", "other"] (defScope sLess) := ⟨rfl, rfl, rfl, by decide +kernel, rfl, by decide +kernel, by decide +kernel⟩
theorem ok_less (D : DefF K mg "less_of" sLess) : Cal P w K mg base 1 "less_of" (spTog lessOf) [] := by
  refine D.cal scLess (fun _ _ _ _ _ _ us hl => match us, hl with | [_, _, _], _ => rfl) (fun vs H Q E h => ?_) (fun f cdv A outer s H vs Q E hr h => ?_)
  · obtain ⟨p, a, b, rfl, _⟩ := h
    rfl
  · obtain ⟨p, a, b, rfl, h0, h1, ⟨a0, a1⟩, ⟨b0, b1⟩, q⟩ := h
    refine ⟨_, pss_cons (ps_set (i := 3) scLess.nd rfl (.inl rfl) pe_int) (pss_cons (ps_set (i := 4) scLess.nd rfl (.inl rfl) pe_int)
      (pss_cons (ps_while PassesOwn.never (PW.pt (pw_or (pt_cmpR op_gt (pv 1) pe_int (nomark _)) (pw_or1 (pt_cmpR op_gt (pv 2) pe_int (nomark _)))))
        (pss_cons (ps_aug (i := 3) scLess.nd rfl (.inl rfl) (pe_op op_mul (pe_op op_mod (pe_op op_sub (pv 1) (pv 2)) (pv 0)) (pv 4)) ip_add)
          (pss_one (ps_par3 (i := 1) (j := 2) (l := 4) rfl scLess.nd rfl rfl rfl (by decide) (by decide) (by decide) rfl rfl rfl (pa_cons (pe_op op_fdiv (pv 1) (pv 0)) (pa_cons (pe_op op_fdiv (pv 2) (pv 0)) (pa_cons (pe_op op_mul (pv 4) (pv 0)) pa_nil))) (by rfl)))))
      (pss_one (ps_ret (pv 3))))), ?_⟩
    refine ⟨fun m σ H' => ∃ a' b' fo st : Int, σ = [some (.int p), some (.int a'), some (.int b'), some (.int fo), some (.int st)] ∧ H' = H ∧ (0 ≤ a' ∧ a' < 2 ^ m) ∧ (0 ≤ b' ∧ b' < 2 ^ m) ∧ lessF p m fo st a' b' = lessOf p a b,
      ⟨12, a, b, 0, 1, rfl, rfl, ⟨a0, a1⟩, ⟨b0, b1⟩, rfl⟩, ?_⟩
    rintro m σ H' ⟨a', b', fo, st, rfl, rfl, ⟨a0', a1'⟩, ⟨b0', b1'⟩, e⟩
    have turn : (0 < a' ∨ 0 < b') → ∃ N : L2.St → Hp → Prop, (∀ σ' H'', N σ' H'' → ∃ m', m' < m ∧ ∃ a' b' fo st : Int, σ' = [some (.int p), some (.int a'), some (.int b'), some (.int fo), some (.int st)] ∧ H'' = H' ∧ (0 ≤ a' ∧ a' < 2 ^ m') ∧ (0 ≤ b' ∧ b' < 2 ^ m') ∧ lessF p m' fo st a' b' = lessOf p a b) ∧
        N [some (.int p), some (.int (a' / p)), some (.int (b' / p)), some (.int (fo + (a' - b') % p * st)), some (.int (st * p))] H' := fun hpos => by
      cases m with
      | zero => exact absurd hpos (fun z => z.elim (zero_of a0' a1') (zero_of b0' b1'))
      | succ m =>
        refine ⟨fun σ' H'' => σ' = [some (.int p), some (.int (a' / p)), some (.int (b' / p)), some (.int (fo + (a' - b') % p * st)), some (.int (st * p))] ∧ H'' = H', fun σ' H'' z => ?_, rfl, rfl⟩
        obtain ⟨rfl, rfl⟩ := z
        refine ⟨m, Nat.lt_succ_self m, _, _, _, _, rfl, rfl, half_lt h0 a0' a1', half_lt h0 b0' b1', ?_⟩
        unfold lessF at e
        rw [if_pos hpos] at e
        exact e
    have mb := mod_bd (p := p) (by omega) (a' - b')
    refine ⟨_, rfl, _, _, rfl, rfl, _, rfl, ite2 (fun z => ?_) (fun z => ?_)⟩
    · obtain ⟨N, hN, hn⟩ := turn (.inl (dtrue z))
      refine ⟨N, hN, ?_⟩
      exact ⟨_, rfl, _, rfl, _, rfl, _, _, rfl, rfl, _, rfl, _, _, rfl, rfl, (by show 0 < p; omega), _, rfl, _, _, rfl, rfl, .inl ⟨by omega, by omega⟩, _, _, rfl, rfl,
        _, rfl, _, rfl, _, _, rfl, rfl, ⟨by omega, by omega⟩, _, rfl, _, rfl, _, _, rfl, rfl, ⟨by omega, by omega⟩, _, rfl, _, rfl, _, _, rfl, rfl, .inr ⟨by omega, by omega⟩, _, _, _, rfl, hn⟩
    · refine ⟨_, rfl, _, _, rfl, rfl, _, rfl, ite2 (fun z' => ?_) (fun z' => ?_)⟩
      · obtain ⟨N, hN, hn⟩ := turn (.inr (dtrue z'))
        refine ⟨N, hN, ?_⟩
        exact ⟨_, rfl, _, rfl, _, rfl, _, _, rfl, rfl, _, rfl, _, _, rfl, rfl, (by show 0 < p; omega), _, rfl, _, _, rfl, rfl, .inl ⟨by omega, by omega⟩, _, _, rfl, rfl,
          _, rfl, _, rfl, _, _, rfl, rfl, ⟨by omega, by omega⟩, _, rfl, _, rfl, _, _, rfl, rfl, ⟨by omega, by omega⟩, _, rfl, _, rfl, _, _, rfl, rfl, .inr ⟨by omega, by omega⟩, _, _, _, rfl, hn⟩
      · refine ⟨_, rfl, ?_⟩
        rw [lessF_done (dfalse z) (dfalse z')] at e
        rw [e]
        exact q
end
end Ms
namespace Ms
open PySem PySem.Spec PyProof.Rows L2
/-! ### a loop by an invariant, nothing kept -/
theorem forIn_wp {M : Model} {A : Around} {al be : Type} {E : Value → Shared → Prop} {b0 : be} {body : al → be → Sem (ForInStep be)} :
    ∀ {l : List al} {Iv : Nat → Shared → Prop} {Q : be → Shared → Prop} {s : Shared}, Iv 0 s →
      (∀ j x s', l[j]? = some x → Iv j s' → wpAny M A (body x b0) (fun r s'' => r = .yield b0 ∧ Iv (j + 1) s'') E s') →
      (∀ s', Iv l.length s' → Q b0 s') → wpAny M A (forIn l b0 body) Q E s
  | [], Iv, Q, s, h0, _, hd => by
    rw [List.forIn_nil]
    exact wpAny_pure (hd s h0)
  | x :: l, Iv, Q, s, h0, hs, hd => by
    rw [List.forIn_cons]
    refine wpAny_bind (wpAny_mono (hs 0 x s rfl h0) (fun r s' h => ?_) fun _ _ h => h)
    obtain ⟨rfl, h1⟩ := h
    exact forIn_wp (Iv := fun j => Iv (j + 1)) h1 (fun j x s' e h => hs (j + 1) x s' e h) hd
/-! ### sources: lists and tuples -/
structure Sr where
  k : Bool
  a : Addr
def ItAt (h : Heap) (r : Sr) (it : Addr) (i : Nat) : Prop := match r.k with
  | true => h.IsListIter it r.a i
  | false => h.IsTupleIter it r.a i
def SrIs (h : Heap) (r : Sr) (items : Array Value) : Prop := match r.k with
  | true => h.IsList r.a items
  | false => h.IsTuple r.a items
def SqS (K : PySem.W.Frag) (H : Hp) (r : Sr) (xs : List V) : Prop := match r.k with
  | true => SqL K H r.a xs
  | false => SqT K H r.a xs
def srO (r : Sr) : Obj := match r.k with
  | true => { cls := .type "list_iterator", data := .fields #[.ref r.a, .int 0 0] }
  | false => { cls := .type "tuple_iterator", data := .fields #[.ref r.a, .int 0 0] }
theorem ItAt.live {h : Heap} {r : Sr} {it : Addr} {i : Nat} (x : ItAt h r it i) : ∃ o, h.get? it = some o ∧ ∀ v, o.data ≠ .cell v := by
  obtain ⟨k, a⟩ := r
  cases k with
  | true =>
    obtain ⟨o, e, _, d⟩ := x
    exact ⟨o, e, fun v q => by rw [d] at q; cases q⟩
  | false =>
    obtain ⟨o, e, _, d⟩ := x
    exact ⟨o, e, fun v q => by rw [d] at q; cases q⟩
theorem ItAt.to {h h' : Heap} {r : Sr} {it : Addr} {i : Nat} (x : ItAt h r it i) (e : ∀ o, h.get? it = some o → h'.get? it = some o) : ItAt h' r it i := by
  obtain ⟨k, a⟩ := r
  cases k with
  | true => exact Heap.IsListIter.at x e
  | false => exact Heap.IsTupleIter.at x e
theorem SrIs.to {h h' : Heap} {r : Sr} {items : Array Value} (x : SrIs h r items) (e : ∀ o, h.get? r.a = some o → h'.get? r.a = some o) : SrIs h' r items := by
  obtain ⟨k, a⟩ := r
  cases k with
  | true => exact Heap.IsList.at x e
  | false => exact Heap.IsTuple.at x e
theorem SrIs.lt {h : Heap} {r : Sr} {items : Array Value} (x : SrIs h r items) : r.a < h.objs.size := by
  obtain ⟨k, a⟩ := r
  cases k with
  | true =>
    obtain ⟨o, e, _⟩ := x
    exact Heap.lt_size e
  | false =>
    obtain ⟨o, e, _⟩ := x
    exact Heap.lt_size e
section
variable {prog : Program} {w : World} {A : Around} {E : Value → Shared → Prop} {s : Shared}
theorem draw_item {r : Sr} {it : Addr} {i : Nat} {items : Array Value} {x : Value} {Q : Value → Shared → Prop} (hi : ItAt s.heap r it i) (hs : SrIs s.heap r items) (hx : items[i]? = some x)
    (h : ∀ h', ItAt h' r it (i + 1) → Heap.SameBut it s.heap h' → Q x { s with heap := h' }) : wpAny (model prog w) A (Builtin.SmallTypes.nextOf (.ref it)) Q E s := by
  obtain ⟨k, a⟩ := r
  cases k with
  | true => exact wpAny_nextOf_list_item hi hs hx h
  | false => exact wpAny_nextOf_tuple_item hi hs hx h
theorem draw_end {r : Sr} {it : Addr} {i : Nat} {items : Array Value} {Q : Value → Shared → Prop} (hh : A.handled = none) (hi : ItAt s.heap r it i) (hs : SrIs s.heap r items) (hx : items[i]? = none)
    (h : ∀ h' e, Heap.ExtBut it s.heap h' → (∃ o, h'.get? e = some o ∧ o.cls = .type "StopIteration") → E (.ref e) { s with heap := h' }) : wpAny (model prog w) A (Builtin.SmallTypes.nextOf (.ref it)) Q E s := by
  obtain ⟨k, a⟩ := r
  cases k with
  | true => exact wpAny_nextOf_list_end hh hi hs hx h
  | false => exact wpAny_nextOf_tuple_end hh hi hs hx h
end
/-! ### zip of any number -/
abbrev TupO (h : Heap) (T : Addr) (xs : List Value) : Prop := h.get? T = some { cls := .type "tuple", data := .seq xs.toArray }
/-- the zip at z, its iterators `its` over the sources rs, all at i -/
structure ZipSt (h : Heap) (z TI TO : Addr) (its : List Addr) (rs : List Sr) (i : Nat) : Prop where
  z : IsZip h z TI TO .none
  ti : TupO h TI (its.map Value.ref)
  to : ∃ ys : List Value, ys.length = rs.length ∧ TupO h TO ys
  at_ : ∀ (j : Nat) (r : Sr) (it : Addr), rs[j]? = some r → its[j]? = some it → ItAt h r it i
structure ZipAp (z TI TO : Addr) (its : List Addr) (rs : List Sr) : Prop where
  nd : (z :: TI :: TO :: its).Nodup
  len : its.length = rs.length
  pos : rs ≠ []
  few : rs.length ≤ 1000
  src : ∀ r ∈ rs, r.a ∉ z :: TI :: TO :: its
theorem take_set {vals old : List Value} {j : Nat} {x : Value} (hl : old.length = vals.length) (hj : vals[j]? = some x) :
    ((vals.take j ++ old.drop j).toArray.setIfInBounds j x) = (vals.take (j + 1) ++ old.drop (j + 1)).toArray := by
  have hlt : j < vals.length := (List.getElem?_eq_some_iff.mp hj).1
  rw [List.setIfInBounds_toArray]
  congr 1
  have h1 : (vals.take j).length = j := by rw [List.length_take]; omega
  rw [List.set_append_right _ _ (by omega), h1, Nat.sub_self, List.take_add_one, hj]
  have e : (old.drop j).set 0 x = x :: old.drop (j + 1) := by
    rw [List.drop_eq_getElem_cons (show j < old.length by omega)] <;> rfl
  rw [e, List.append_assoc] <;> rfl
section
variable {prog : Program} {w : World} {A : Around} {E : Value → Shared → Prop} {s : Shared}
theorem zip_item {z TI TO : Addr} {its : List Addr} {rs : List Sr} {i : Nat} {vals : List Value} {Q : Option Value → Shared → Prop} (D : ZipAp z TI TO its rs) (S : ZipSt s.heap z TI TO its rs i) (hl : vals.length = rs.length)
    (hv : ∀ (j : Nat) (r : Sr) (x : Value), rs[j]? = some r → vals[j]? = some x → ∃ items : Array Value, SrIs s.heap r items ∧ items[i]? = some x)
    (hQ : ∀ h', IsZip h' z TI TO (rawInt s.heap.objs.size) → (∀ h'', IsZip h'' z TI TO .none → Heap.SameBut z h' h'' → ZipSt h'' z TI TO its rs (i + 1)) → TupO h' s.heap.objs.size vals →
      (∀ c o, c ∉ z :: TI :: TO :: its → s.heap.get? c = some o → h'.get? c = some o) → Q (some (.ref s.heap.objs.size)) { s with heap := h' }) :
    wpAny (model prog w) A (pyNext (.ref z)) Q E s := by
  have hT : s.TypeIs (.ref z) "zip" := ⟨_, S.z, rfl⟩
  unfold pyNext
  refine wpAny_bind (wpAny_attempt (wpAny_callSpecial?_slot (name := Str.ofString "__next__") hT F.slot_zip_next
    (wpAny_call_entry F.slot_zip_next hT F.entry_zip_next ?_ (F.args_zip_next_1 _))))
  have hz := S.z
  have hTI := S.ti
  obtain ⟨old, lo, hTO⟩ := S.to
  have nz : z ≠ TI ∧ z ≠ TO ∧ z ∉ its ∧ TI ≠ TO ∧ TI ∉ its ∧ TO ∉ its ∧ its.Nodup := by
    have h := D.nd
    simp only [List.nodup_cons, List.mem_cons, not_or] at h
    exact ⟨h.1.1, h.1.2.1, h.1.2.2, h.2.1.1, h.2.1.2, h.2.2.1, h.2.2.2⟩
  obtain ⟨n1, n2, n3, n4, n5, n6, n7⟩ := nz
  show wpAny _ _ (field (.ref z) 2 >>= _) _ _ _
  refine wpAny_bind (wpAny_field hz rfl (x := .bool false) rfl ?_)
  show wpAny _ _ (field (.ref z) 3 >>= _) _ _ _
  refine wpAny_bind (wpAny_field hz rfl (x := .ref TI) rfl ?_)
  refine wpAny_bind (wpAny_seqItems hTI rfl ?_)
  have hne : (its.map Value.ref).toArray.isEmpty = false := by
    have h1 := D.len
    have h2 := D.pos
    cases its with
    | nil =>
      have : rs.length = 0 := h1.symm
      exact absurd (List.length_eq_zero_iff.mp this) h2
    | cons a r => rfl
  dsimp only
  rw [hne]
  show wpAny _ _ (Builtin.SmallTypes.ownedTupleIsFree (.ref z) >>= _) _ _ _
  refine wpAny_bind ?_
  unfold Builtin.SmallTypes.ownedTupleIsFree
  refine wpAny_bind (wpAny_field hz rfl (x := .none) rfl (wpAny_pure ?_))
  simp only [if_true]
  refine wpAny_bind (wpAny_rule ?_)
  refine wpAny_bind (wpAny_field hz rfl (x := .ref TO) rfl ?_)
  refine wpAny_bind (wpAny_setField_rec hz (by simp) fun g0 hz0 hs0 => ?_)
  replace hz0 : IsZip g0 z TI TO .ellipsis := hz0
  refine wpAny_bind ?_
  refine forIn_wp (Iv := fun j s' => ∃ h', s' = { s with heap := h' } ∧ h'.objs.size = g0.objs.size ∧ TupO h' TO (vals.take j ++ old.drop j) ∧
    (∀ (k : Nat) (r : Sr) (it : Addr), rs[k]? = some r → its[k]? = some it → ItAt h' r it (if k < j then i + 1 else i)) ∧ ∀ c o, c ≠ TO → c ∉ its → g0.get? c = some o → h'.get? c = some o) ?start ?turn ?fin
  case start =>
    refine ⟨g0, rfl, rfl, ?_, fun k r it e1 e2 => ?_, fun c o _ _ e => e⟩
    · rw [List.take_zero, List.drop_zero, List.nil_append]
      exact hs0.extBut _ _ n2.symm hTO
    · rw [if_neg (Nat.not_lt_zero k)]
      exact (S.at_ k r it e1 e2).to fun o e => hs0.extBut _ _ (fun q => n3 (by rw [← q]; exact List.mem_of_getElem? e2)) e
  case turn =>
    rintro j ⟨v, k⟩ s' hx ⟨h', rfl, hsz, hto, hat, hkp⟩
    rw [List.getElem?_zipIdx, List.getElem?_map] at hx
    cases eit : its[j]? with
    | none =>
      rw [eit] at hx
      cases hx
    | some it =>
      rw [eit] at hx
      have hx' : ((Value.ref it, 0 + j) : Value × Nat) = (v, k) := Option.some.inj hx
      rw [Nat.zero_add] at hx'
      obtain ⟨hv1, hk1⟩ := Prod.mk.inj hx'
      subst hv1 hk1
      have hj : j < rs.length := by
        rw [← D.len]
        exact (List.getElem?_eq_some_iff.mp eit).1
      have er : rs[j]? = some rs[j] := List.getElem?_eq_getElem hj
      have hjv : j < vals.length := by omega
      have ex : vals[j]? = some vals[j] := List.getElem?_eq_getElem hjv
      obtain ⟨items, hsr, hxi⟩ := hv j rs[j] vals[j] er ex
      have nsrc := D.src rs[j] (List.getElem_mem hj)
      simp only [List.mem_cons, not_or] at nsrc
      have hsr' : SrIs h' rs[j] items := hsr.to fun o e => hkp _ o nsrc.2.2.1 nsrc.2.2.2 (hs0.extBut _ _ nsrc.1 e)
      have hit := hat j rs[j] it er eit
      rw [if_neg (Nat.lt_irrefl j)] at hit
      have itTO : TO ≠ it := fun q => n6 (by rw [q]; exact List.mem_of_getElem? eit)
      refine wpAny_bind (wpAny_onRaise ?_)
      show wpAny _ _ (Builtin.SmallTypes.nextOf (.ref it) >>= _) _ _ _
      refine wpAny_bind (draw_item (s := { s with heap := h' }) hit hsr' hxi fun p hp hsp => wpAny_pure ?_)
      have hto2 : TupO p TO (vals.take j ++ old.drop j) := hsp.extBut _ _ itTO hto
      have hlen : (vals.take j ++ old.drop j).length = rs.length := by
        rw [List.length_append, List.length_take, List.length_drop]
        omega
      have hsl : rs.length ≤ sizeLine := Nat.le_of_lt (small D.few)
      refine wpAny_bind (wpAny_seqItems (s := { s with heap := p }) hto2 rfl ?_)
      refine wpAny_bind (wpAny_updateSeq (s := { s with heap := p }) hto2 rfl ?_ (by rw [List.size_toArray, hlen]; exact hsl) (by rw [Array.size_setIfInBounds, List.size_toArray, hlen]; exact Nat.le_succ_of_le hsl))
      have sbq : Heap.SameBut TO p (p.update TO (Obj.mapSeq fun x => x.setIfInBounds j vals[j])) := Heap.SameBut.update ..
      have gq : TupO (p.update TO (Obj.mapSeq fun x => x.setIfInBounds j vals[j])) TO (vals.take (j + 1) ++ old.drop (j + 1)) := by
        show (p.update TO (Obj.mapSeq fun x => x.setIfInBounds j vals[j])).get? TO = _
        rw [Heap.get?_update_self _ hto2 rfl, ← take_set (by omega) ex]
        simp [Obj.mapSeq]
      refine wpAny_bind (wpAny_letGo (wpAny_pure ⟨rfl, _, rfl, ?_, gq, fun k r it' e1 e2 => ?_, fun c o c1 c2 e => ?_⟩))
      · rw [sbq.1, hsp.1]
        exact hsz
      · have nk : TO ≠ it' := fun q => n6 (by rw [q]; exact List.mem_of_getElem? e2)
        by_cases hkj : k = j
        · subst hkj
          rw [if_pos (Nat.lt_succ_self k)]
          rw [eit] at e2
          rw [er] at e1
          cases e1
          cases e2
          exact hp.to fun o e => sbq.extBut _ _ itTO.symm e
        · have ne : it' ≠ it := fun q => hkj (nd_ix n7 e2 (by rw [q]; exact eit))
          have h1 := hat k r it' e1 e2
          have e3 : (if k < j + 1 then i + 1 else i) = if k < j then i + 1 else i := by
            by_cases hlt : k < j
            · rw [if_pos hlt, if_pos (by omega)]
            · rw [if_neg hlt, if_neg (by omega)]
          rw [e3]
          exact h1.to fun o e => sbq.extBut _ _ nk.symm (hsp.extBut _ _ ne e)
      · have ne : c ≠ it := fun q => c2 (by rw [q]; exact List.mem_of_getElem? eit)
        exact sbq.extBut _ _ c1 (hsp.extBut _ _ ne (hkp c o c1 c2 e))
  case fin =>
    rintro s' ⟨h', rfl, hsz, hto, hat, hkp⟩
    have hL : (its.map Value.ref).toArray.toList.zipIdx.length = rs.length := by
      rw [List.length_zipIdx]
      simp [D.len]
    rw [hL] at hto hat
    have eto : vals.take rs.length ++ old.drop rs.length = vals := by
      rw [← hl, List.take_length, List.drop_eq_nil_of_le (by omega), List.append_nil]
    rw [eto] at hto
    have hszs : h'.objs.size = s.heap.objs.size := by rw [hsz, hs0.1]
    have hz1 : IsZip h' z TI TO .ellipsis := hkp z _ n2 n3 hz0
    refine wpAny_bind (wpAny_seqItems (s := { s with heap := h' }) hto rfl ?_)
    show wpAny _ _ (newTuple vals.toArray.toList >>= _) _ _ _
    rw [List.toList_toArray]
    refine wpAny_bind (wpAny_newTuple ?_ (by rw [hl]; exact Nat.le_of_lt (small D.few)))
    have hz2 : IsZip (h'.push { cls := .type "tuple", data := .seq vals.toArray }) z TI TO .ellipsis := Heap.get?_push_of_some _ hz1
    have ht2 : TupO (h'.push { cls := .type "tuple", data := .seq vals.toArray }) h'.objs.size vals := Heap.get?_push_size _ rfl
    have hzl : z < h'.objs.size := Heap.lt_size hz1
    show wpAny _ _ (Builtin.SmallTypes.ownedTupleHandOut (.ref z) (.ref h'.objs.size) >>= _) _ _ _
    refine wpAny_bind ?_
    unfold Builtin.SmallTypes.ownedTupleHandOut
    refine wpAny_bind (wpAny_setField_rec (s := { s with heap := h'.push { cls := .type "tuple", data := .seq vals.toArray } }) hz2 (by simp) fun h3 hz3 hs3 => ?_)
    replace hz3 : IsZip h3 z TI TO (rawInt h'.objs.size) := hz3
    refine wpAny_setField_rec (s := { s with heap := h3 }) hz3 (by simp) fun h4 hz4 hs4 => ?_
    replace hz4 : IsZip h4 z TI TO (rawInt h'.objs.size) := hz4
    have up : ∀ c o, c ≠ z → h'.get? c = some o → h4.get? c = some o := fun c o c1 e => hs4.extBut _ _ c1 (hs3.extBut _ _ c1 (Heap.get?_push_of_some _ e))
    have ht4 : TupO h4 h'.objs.size vals := hs4.extBut _ _ (Nat.ne_of_gt hzl) (hs3.extBut _ _ (Nat.ne_of_gt hzl) ht2)
    rw [hszs] at hz4 ht4
    refine wpAny_pure ⟨_, rfl, wpAny_pure ?_⟩
    show Q (some (.ref h'.objs.size)) _
    rw [hszs]
    refine hQ h4 hz4 (fun h5 hz5 sb => ?_) ht4 fun c o hc e => ?_
    · have up5 : ∀ c o, c ≠ z → h'.get? c = some o → h5.get? c = some o := fun c o c1 e => sb.extBut _ _ c1 (up c o c1 e)
      refine ⟨hz5, up5 _ _ n1.symm (hkp _ _ n4 n5 (hs0.extBut _ _ n1.symm hTI)), ⟨vals, hl, up5 _ _ n2.symm hto⟩, fun j r it e1 e2 => ?_⟩
      have h1 := hat j r it e1 e2
      rw [if_pos (List.getElem?_eq_some_iff.mp e1).1] at h1
      exact h1.to fun o e => up5 _ _ (fun q => n3 (by rw [← q]; exact List.mem_of_getElem? e2)) e
    · simp only [List.mem_cons, not_or] at hc
      exact up c o hc.1 (hkp c o hc.2.2.1 hc.2.2.2 (hs0.extBut _ _ hc.1 e))
theorem zip_end {z TI TO : Addr} {its : List Addr} {rs rest : List Sr} {r : Sr} {i : Nat} {items : Array Value} {Q : Option Value → Shared → Prop} (hh : A.handled = none) (D : ZipAp z TI TO its rs) (S : ZipSt s.heap z TI TO its rs i)
    (er : rs = r :: rest) (hsr : SrIs s.heap r items) (hx : items[i]? = none)
    (hQ : ∀ h', (∀ c o, c ∉ z :: TI :: TO :: its → s.heap.get? c = some o → h'.get? c = some o) → Q none { s with heap := h' }) :
    wpAny (model prog w) A (pyNext (.ref z)) Q E s := by
  have hT : s.TypeIs (.ref z) "zip" := ⟨_, S.z, rfl⟩
  unfold pyNext
  refine wpAny_bind (wpAny_attempt (wpAny_callSpecial?_slot (name := Str.ofString "__next__") hT F.slot_zip_next
    (wpAny_call_entry F.slot_zip_next hT F.entry_zip_next ?_ (F.args_zip_next_1 _))))
  have hz := S.z
  have hTI := S.ti
  obtain ⟨old, lo, hTO⟩ := S.to
  have nz : z ≠ TI ∧ z ≠ TO ∧ z ∉ its := by
    have h := D.nd
    simp only [List.nodup_cons, List.mem_cons, not_or] at h
    exact ⟨h.1.1, h.1.2.1, h.1.2.2⟩
  obtain ⟨n1, n2, n3⟩ := nz
  have nsrc := D.src r (by rw [er]; exact List.mem_cons_self ..)
  have h1 := D.len
  have hat := S.at_
  subst er
  cases its with
  | nil => cases h1
  | cons it its =>
    simp only [List.mem_cons, not_or] at nsrc n3
    show wpAny _ _ (field (.ref z) 2 >>= _) _ _ _
    refine wpAny_bind (wpAny_field hz rfl (x := .bool false) rfl ?_)
    show wpAny _ _ (field (.ref z) 3 >>= _) _ _ _
    refine wpAny_bind (wpAny_field hz rfl (x := .ref TI) rfl ?_)
    refine wpAny_bind (wpAny_seqItems hTI rfl ?_)
    show wpAny _ _ (Builtin.SmallTypes.ownedTupleIsFree (.ref z) >>= _) _ _ _
    refine wpAny_bind ?_
    unfold Builtin.SmallTypes.ownedTupleIsFree
    refine wpAny_bind (wpAny_field hz rfl (x := .none) rfl (wpAny_pure ?_))
    simp only [if_true]
    refine wpAny_bind (wpAny_rule ?_)
    refine wpAny_bind (wpAny_field hz rfl (x := .ref TO) rfl ?_)
    refine wpAny_bind (wpAny_setField_rec hz (by simp) fun g0 hz0 hs0 => ?_)
    replace hz0 : IsZip g0 z TI TO .ellipsis := hz0
    refine wpAny_bind ?_
    rw [List.map_cons, List.zipIdx_cons, List.forIn_cons]
    refine wpAny_bind (wpAny_bind (wpAny_onRaise ?_))
    show wpAny _ _ (Builtin.SmallTypes.nextOf (.ref it) >>= _) _ _ _
    refine wpAny_bind (draw_end (s := { s with heap := g0 }) hh ((hat 0 r it rfl rfl).to fun o e => hs0.extBut _ _ (Ne.symm n3.1) e) (hsr.to fun o e => hs0.extBut _ _ nsrc.1 e) hx fun h2 e hs2 he => ?_)
    obtain ⟨oe, hoe, hce⟩ := he
    have hz2 : IsZip h2 z TI TO .ellipsis := hs2 _ _ n3.1 hz0
    have hez : e ≠ z := fun q => by
      rw [q, hz2] at hoe
      cases hoe
      simp at hce
    refine wpAny_setField_rec (s := { s with heap := h2 }) hz2 (by simp) fun h3 _ hs3 => ?_
    refine wpAny_bind (wpAny_isInstance (T := "StopIteration") (b := true) ⟨oe, hs3.extBut _ _ hez hoe, hce⟩ isSubtype_stop ?_)
    refine wpAny_pure (hQ _ fun c o hc x => ?_)
    simp only [List.mem_cons, not_or] at hc
    exact hs3.extBut _ _ hc.1 (hs2 _ _ hc.2.2.2.1 (hs0.extBut _ _ hc.1 x))
end
/-! ### the iterator, for a loop -/
def ItZ (K : PySem.W.Frag) (rs : List Sr) : It :=
  ⟨fun i H => ∀ r ∈ rs, ∃ xs, SqS K H r xs ∧ i < xs.length,
    fun i H v H' => ∃ (T : Addr) (ys : List V), v = .ref T ∧ H T = none ∧ H' = upd H T (.tup ys) ∧ ys.length = rs.length ∧ ∀ (j : Nat) (r : Sr) (xs : List V), rs[j]? = some r → SqS K H r xs → ys[j]? = xs[i]?,
    fun i H => ∃ r rest xs, rs = r :: rest ∧ SqS K H r xs ∧ xs.length ≤ i⟩
theorem src_of {X : Cx} {pins : List (Addr × Obj)} {σ : L2.St} {H : Hp} {s : Shared} {r : Sr} {xs : List V} (I : L2.Inv X pins σ H s) (h : SqS X.K H r xs) : ∃ its : List Value, Vals xs its ∧ SrIs s.heap r its.toArray ∧ xs.length ≤ sizeLine := by
  obtain ⟨k, a⟩ := r
  cases k with
  | true =>
    obtain ⟨its, rv, p, hz⟩ := I.list (show SqL X.K H a xs from h)
    exact ⟨its, rv, p.isList, hz⟩
  | false =>
    obtain ⟨its, rv, p, hz⟩ := I.tuple (show SqT X.K H a xs from h)
    exact ⟨its, rv, p, hz⟩
theorem sqS_inj {X : Cx} {pins : List (Addr × Obj)} {σ : L2.St} {H : Hp} {s : Shared} {r : Sr} {xs ys : List V} (I : L2.Inv X pins σ H s) (h : SqS X.K H r xs) (h' : SqS X.K H r ys) : xs = ys := by
  obtain ⟨k, a⟩ := r
  cases k with
  | true => exact I.list_inj (show SqL X.K H a xs from h) h'
  | false => exact I.tuple_inj (show SqT X.K H a xs from h) h'
theorem pick {X : Cx} {pins : List (Addr × Obj)} {σ : L2.St} {H : Hp} {s : Shared} {i : Nat} (I : L2.Inv X pins σ H s) : ∀ rs : List Sr, (∀ r ∈ rs, ∃ xs, SqS X.K H r xs ∧ i < xs.length) →
    ∃ (ys : List V) (vals : List Value), Vals ys vals ∧ ys.length = rs.length ∧ ∀ (j : Nat) (r : Sr), rs[j]? = some r →
      ∃ (xs : List V) (items : Array Value) (y : V) (v : Value), (SqS X.K H r xs ∧ SrIs s.heap r items) ∧ (xs[i]? = some y ∧ ys[j]? = some y) ∧ items[i]? = some v ∧ vals[j]? = some v
  | [], _ => ⟨[], [], .nil, rfl, fun j r e => by simp at e⟩
  | r :: rs, h => by
    obtain ⟨ys, vals, rv, hl, hj⟩ := pick I rs fun r hr => h r (List.mem_cons_of_mem _ hr)
    obtain ⟨xs, hS, hlt⟩ := h r (List.mem_cons_self ..)
    obtain ⟨its, rv2, hsr, _⟩ := src_of I hS
    have ex : xs[i]? = some xs[i] := List.getElem?_eq_getElem hlt
    obtain ⟨u, hu, ru⟩ := rv2.get ex
    refine ⟨xs[i] :: ys, u :: vals, .cons ru rv, by rw [List.length_cons, List.length_cons, hl], fun j r' e => ?_⟩
    cases j with
    | zero =>
      have e' : r = r' := Option.some.inj e
      subst e'
      exact ⟨xs, its.toArray, xs[i], u, ⟨hS, hsr⟩, ⟨ex, rfl⟩, by simpa using hu, rfl⟩
    | succ j => exact hj j r' e
theorem turn_zipN {P : Program} {w : World} {K : PySem.W.Frag} {elts : List Expr} {kk : Nat} {tpos : Pos} {z TI TO : Addr} {its : List Addr} {rs : List Sr} (D : ZipAp z TI TO its rs) :
    Turn P w K (.Tuple elts kk tpos) (ItZ K rs) (z :: TI :: TO :: its) z (fun i h => ZipSt h z TI TO its rs i) where
  mem := List.mem_cons_self ..
  obj := fun i h S c hc => by
    rcases List.mem_cons.mp hc with q | hc
    · rw [q]
      exact ⟨_, S.z, fun v q => nomatch q⟩
    · rcases List.mem_cons.mp hc with q | hc
      · rw [q]
        exact ⟨_, S.ti, fun v q => nomatch q⟩
      · rcases List.mem_cons.mp hc with q | hc
        · obtain ⟨ys, _, e⟩ := S.to
          rw [q]
          exact ⟨_, e, fun v q => nomatch q⟩
        · obtain ⟨j, hj, e⟩ := List.mem_iff_getElem.mp hc
          have hjr : j < rs.length := by rw [← D.len]; exact hj
          exact (S.at_ j rs[j] c (List.getElem?_eq_getElem hjr) (by rw [List.getElem?_eq_getElem hj, e])).live
  keep := fun i h h' S k => by
    obtain ⟨ys, l, e⟩ := S.to
    exact ⟨k z (by simp) _ S.z, k TI (by simp) _ S.ti, ⟨ys, l, k TO (by simp) _ e⟩, fun j r it e1 e2 =>
      (S.at_ j r it e1 e2).to fun o q => k it (List.mem_cons_of_mem _ (List.mem_cons_of_mem _ (List.mem_cons_of_mem _ (List.mem_of_getElem? e2)))) o q⟩
  item := by
    intro X hP hw hK hc i pins s σ H E I hf S hg
    subst hP hw hK
    obtain ⟨ys, vals, rv, hl, hj⟩ := pick I rs hg
    have hz := S.z
    have hzl : z < s.heap.objs.size := Heap.lt_size hz
    have hvl : vals.length = rs.length := by rw [← hl, rv.length]
    refine zip_item D S hvl (fun j r x e1 e2 => ?_) fun h' z' st hT hk => ?_
    · obtain ⟨xs, items, y, v, ⟨h1, h2⟩, _, h3, h4⟩ := hj j r e1
      rw [e2] at h4
      cases h4
      exact ⟨items, h2, h3⟩
    · refine ⟨_, rfl, wpAny_letOwnedTupleGo_zip (s := { s with heap := h' }) z' fun h'' z'' sb => ?_⟩
      have hT2 : h''.get? s.heap.objs.size = some { cls := .type "tuple", data := .seq vals.toArray } := (sb.2 _ (Nat.ne_of_gt hzl)).trans hT
      have new : ObjOk X.prog X.w (upd H s.heap.objs.size (.tup ys)) h'' s.heap.objs.size (.tup ys) :=
        ⟨by rw [hl]; exact Nat.le_of_lt (small D.few), vals, rv, ⟨_, hT2, rfl, _, rfl⟩⟩
      have I1 : L2.Inv X pins σ (upd H s.heap.objs.size (.tup ys)) { s with heap := h'' } :=
        I.turnedNew (t' := s.toks) (ch := z :: TI :: TO :: its) (fun c o hb q => (sb.2 c (fun e => hb (by rw [e]; exact List.mem_cons_self ..))).trans (hk c o hb q)) hf (Nat.le_refl _) new
      refine ⟨.ref s.heap.objs.size, _, I1, rfl, ⟨_, ys, rfl, I.hok.fresh (Nat.le_refl _), rfl, hl, fun j r xs e hS => ?_⟩, st h'' z'' sb, fun c hcm => ?_⟩
      · obtain ⟨xs', items, y, v, ⟨h1, _⟩, ⟨h2, h3⟩, _⟩ := hj j r e
        rw [sqS_inj I hS h1, h2, h3]
      · have hlt : c < s.heap.objs.size := by
          have q : ∃ o, s.heap.get? c = some o := by
            rcases List.mem_cons.mp hcm with q | hcm
            · rw [q]; exact ⟨_, S.z⟩
            · rcases List.mem_cons.mp hcm with q | hcm
              · rw [q]; exact ⟨_, S.ti⟩
              · rcases List.mem_cons.mp hcm with q | hcm
                · obtain ⟨ys, _, e⟩ := S.to
                  rw [q]; exact ⟨_, e⟩
                · obtain ⟨j, hj, e⟩ := List.mem_iff_getElem.mp hcm
                  have hjr : j < rs.length := by rw [← D.len]; exact hj
                  obtain ⟨o, q, _⟩ := (S.at_ j rs[j] c (List.getElem?_eq_getElem hjr) (by rw [List.getElem?_eq_getElem hj, e])).live
                  exact ⟨o, q⟩
          obtain ⟨o, q⟩ := q
          exact Heap.lt_size q
        rw [upd_ne (Nat.ne_of_lt hlt)]
        exact (hf c hcm).1
  done := by
    intro X hP hw hK hc i pins s σ H E I hf S hg
    subst hP hw hK
    obtain ⟨r, rest, xs, er, hS, hlen⟩ := hg
    obtain ⟨items, rv, hsr, _⟩ := src_of I hS
    have hl := rv.length
    exact zip_end (I.ok.hd hc) D S er hsr (by simp; omega) fun h' hk => ⟨rfl, I.turnedL (t' := s.toks) (ch := z :: TI :: TO :: its) (fun c o hb q => hk c o hb q) hf⟩
  self := fun A i s Q E S h => wpAny_pyIter_zip S.z h
/-! ### zip(a, b), zip(a, b, c, d) begin -/
theorem begins_sr (r : Sr) (items : Array Value) : Begins (.ref r.a) (srO r) fun h => SrIs h r items := by
  obtain ⟨k, a⟩ := r
  cases k with
  | true => exact begins_list a items
  | false => exact begins_tuple a items
theorem itAt_new {h : Heap} {r : Sr} {it : Addr} (e : h.get? it = some (srO r)) : ItAt h r it 0 := by
  obtain ⟨k, a⟩ := r
  cases k with
  | true => exact ⟨_, e, rfl, rfl⟩
  | false => exact ⟨_, e, rfl, rfl⟩
theorem typeCall_zip4 (a b c d : Value) : checkTypeCall "zip" ⟨[a, b, c, d], []⟩ = pure () := by kernel_rfl
theorem newCall_zip4 (a b c d : Value) : checkBuiltinCall "zip.__new__" ⟨[.type "zip", a, b, c, d], []⟩ = pure () := by kernel_rfl
theorem args_init5 (o a b c d : Value) : argsOk "object.__init__" ⟨[o, a, b, c, d], []⟩ := by
  unfold argsOk
  kernel_rfl
abbrev zI4 (h : Heap) (o1 o2 o3 o4 : Obj) : Heap := (((h.push o1).push o2).push o3).push o4
abbrev zT4 (h : Heap) (o1 o2 o3 o4 : Obj) : Heap := (zI4 h o1 o2 o3 o4).push { cls := .type "tuple", data := .seq #[.ref h.objs.size, .ref (h.push o1).objs.size, .ref ((h.push o1).push o2).objs.size, .ref (((h.push o1).push o2).push o3).objs.size] }
abbrev zO4 (h : Heap) (o1 o2 o3 o4 : Obj) : Heap := (zT4 h o1 o2 o3 o4).push { cls := .type "tuple", data := .seq #[.none, .none, .none, .none] }
abbrev zZ4 (h : Heap) (o1 o2 o3 o4 : Obj) : Heap := (zO4 h o1 o2 o3 o4).push { cls := .type "zip", data := .fields #[.none, .bool false, .bool false, .ref (zI4 h o1 o2 o3 o4).objs.size, .ref (zT4 h o1 o2 o3 o4).objs.size] }
theorem meets_zip4 {v1 v2 v3 v4 : Value} {o1 o2 o3 o4 : Obj} {H1 H2 H3 H4 : Heap → Prop} (B1 : Begins v1 o1 H1) (B2 : Begins v2 o2 H2) (B3 : Begins v3 o3 H3) (B4 : Begins v4 o4 H4) :
    Meets (Builtin.«zip.__new__» ⟨[.type "zip", v1, v2, v3, v4], []⟩) (fun _ R s => (H1 s.heap ∧ H2 s.heap ∧ H3 s.heap ∧ H4 s.heap) ∧
      R (.ok (.ret (.ref (zO4 s.heap o1 o2 o3 o4).objs.size))) { s with heap := zZ4 s.heap o1 o2 o3 o4 }) :=
  .of_wp fun prog w A R s h => by
    obtain ⟨hp, g, d, tk, os⟩ := s
    obtain ⟨⟨h1, h2, h3, h4⟩, h⟩ := h
    have hsub := sub_zip
    have k1 : ∀ b o', hp.get? b = some o' → (hp.push o1).get? b = some o' := fun b o' e => Heap.get?_push_of_some _ e
    have k2 : ∀ b o', hp.get? b = some o' → ((hp.push o1).push o2).get? b = some o' := fun b o' e => Heap.get?_push_of_some _ (k1 b o' e)
    have k3 : ∀ b o', hp.get? b = some o' → (((hp.push o1).push o2).push o3).get? b = some o' := fun b o' e => Heap.get?_push_of_some _ (k2 b o' e)
    have q1 : ∀ {A' : Around} {E : Value → Shared → Prop} {Q : Value → Shared → Prop}, Q (.ref hp.objs.size) ⟨hp.push o1, g, d, tk, os⟩ → wpAny (model prog w) A' (pyIter v1) Q E ⟨hp, g, d, tk, os⟩ :=
      fun q => B1.iter prog w _ _ ⟨hp, g, d, tk, os⟩ _ h1 q
    have q2 : ∀ {A' : Around} {E : Value → Shared → Prop} {Q : Value → Shared → Prop}, Q (.ref (hp.push o1).objs.size) ⟨(hp.push o1).push o2, g, d, tk, os⟩ → wpAny (model prog w) A' (pyIter v2) Q E ⟨hp.push o1, g, d, tk, os⟩ :=
      fun q => B2.iter prog w _ _ ⟨hp.push o1, g, d, tk, os⟩ _ (B2.keeps _ _ h2 k1) q
    have q3 : ∀ {A' : Around} {E : Value → Shared → Prop} {Q : Value → Shared → Prop}, Q (.ref ((hp.push o1).push o2).objs.size) ⟨((hp.push o1).push o2).push o3, g, d, tk, os⟩ → wpAny (model prog w) A' (pyIter v3) Q E ⟨(hp.push o1).push o2, g, d, tk, os⟩ :=
      fun q => B3.iter prog w _ _ ⟨(hp.push o1).push o2, g, d, tk, os⟩ _ (B3.keeps _ _ h3 k2) q
    have q4 : ∀ {A' : Around} {E : Value → Shared → Prop} {Q : Value → Shared → Prop}, Q (.ref (((hp.push o1).push o2).push o3).objs.size) ⟨(((hp.push o1).push o2).push o3).push o4, g, d, tk, os⟩ → wpAny (model prog w) A' (pyIter v4) Q E ⟨((hp.push o1).push o2).push o3, g, d, tk, os⟩ :=
      fun q => B4.iter prog w _ _ ⟨((hp.push o1).push o2).push o3, g, d, tk, os⟩ _ (B4.keeps _ _ h4 k3) q
    wp_walk using q1, q2, q3, q4
    exact ⟨_, rfl, h⟩
section
variable {prog : Program} {w : World} {A : Around} {E : Value → Shared → Prop} {s : Shared}
theorem call_zip4 {v1 v2 v3 v4 : Value} {o1 o2 o3 o4 : Obj} {H1 H2 H3 H4 : Heap → Prop} {Q : Value → Shared → Prop} (B1 : Begins v1 o1 H1) (B2 : Begins v2 o2 H2) (B3 : Begins v3 o3 H3) (B4 : Begins v4 o4 H4) (h1 : H1 s.heap) (h2 : H2 s.heap) (h3 : H3 s.heap) (h4 : H4 s.heap)
    (h : ∀ h', IsZip h' (s.heap.objs.size + 6) (s.heap.objs.size + 4) (s.heap.objs.size + 5) .none → TupO h' (s.heap.objs.size + 4) [.ref s.heap.objs.size, .ref (s.heap.objs.size + 1), .ref (s.heap.objs.size + 2), .ref (s.heap.objs.size + 3)] →
      TupO h' (s.heap.objs.size + 5) [.none, .none, .none, .none] → (h'.get? s.heap.objs.size = some o1 ∧ h'.get? (s.heap.objs.size + 1) = some o2 ∧ h'.get? (s.heap.objs.size + 2) = some o3 ∧ h'.get? (s.heap.objs.size + 3) = some o4) →
      (∀ c o, s.heap.get? c = some o → h'.get? c = some o) → Q (.ref (s.heap.objs.size + 6)) { s with heap := h' }) :
    wpAny (model prog w) A (call (.type "zip") [v1, v2, v3, v4]) Q E s := by
  refine callType_new F.called_zip (by decide) (typeCall_zip4 _ _ _ _) (newCall_zip4 _ _ _ _) (fun obj => args_init5 obj _ _ _ _) F.entry_zip_new
    (meets_zip4 B1 B2 B3 B4) ⟨⟨h1, h2, h3, h4⟩, ?_⟩
  have z1 : (s.heap.push o1).objs.size = s.heap.objs.size + 1 := by rw [Heap.size_push]
  have z2 : ((s.heap.push o1).push o2).objs.size = s.heap.objs.size + 2 := by rw [Heap.size_push, z1]
  have z3 : (((s.heap.push o1).push o2).push o3).objs.size = s.heap.objs.size + 3 := by rw [Heap.size_push, z2]
  have zI : (zI4 s.heap o1 o2 o3 o4).objs.size = s.heap.objs.size + 4 := by rw [Heap.size_push, z3]
  have zT : (zT4 s.heap o1 o2 o3 o4).objs.size = s.heap.objs.size + 5 := by rw [Heap.size_push, zI]
  have zO : (zO4 s.heap o1 o2 o3 o4).objs.size = s.heap.objs.size + 6 := by rw [Heap.size_push, zT]
  have gZ : (zZ4 s.heap o1 o2 o3 o4).get? (zO4 s.heap o1 o2 o3 o4).objs.size = some _ := Heap.get?_push_size _ rfl
  have gO : (zZ4 s.heap o1 o2 o3 o4).get? (zT4 s.heap o1 o2 o3 o4).objs.size = some _ := Heap.get?_push_of_some _ (Heap.get?_push_size _ rfl)
  have gT : (zZ4 s.heap o1 o2 o3 o4).get? (zI4 s.heap o1 o2 o3 o4).objs.size = some _ := Heap.get?_push_of_some _ (Heap.get?_push_of_some _ (Heap.get?_push_size _ rfl))
  have g4 : (zZ4 s.heap o1 o2 o3 o4).get? (((s.heap.push o1).push o2).push o3).objs.size = some o4 := Heap.get?_push_of_some _ (Heap.get?_push_of_some _ (Heap.get?_push_of_some _ (Heap.get?_push_size _ B4.free)))
  have g3 : (zZ4 s.heap o1 o2 o3 o4).get? ((s.heap.push o1).push o2).objs.size = some o3 := Heap.get?_push_of_some _ (Heap.get?_push_of_some _ (Heap.get?_push_of_some _ (Heap.get?_push_of_some _ (Heap.get?_push_size _ B3.free))))
  have g2 : (zZ4 s.heap o1 o2 o3 o4).get? (s.heap.push o1).objs.size = some o2 := Heap.get?_push_of_some _ (Heap.get?_push_of_some _ (Heap.get?_push_of_some _ (Heap.get?_push_of_some _ (Heap.get?_push_of_some _ (Heap.get?_push_size _ B2.free)))))
  have g1 : (zZ4 s.heap o1 o2 o3 o4).get? s.heap.objs.size = some o1 := Heap.get?_push_of_some _ (Heap.get?_push_of_some _ (Heap.get?_push_of_some _ (Heap.get?_push_of_some _ (Heap.get?_push_of_some _ (Heap.get?_push_of_some _ (Heap.get?_push_size _ B1.free))))))
  rw [zO, zT, zI] at gZ
  rw [zT] at gO
  rw [zI, z3, z2, z1] at gT
  rw [z1] at g2
  rw [z2] at g3
  rw [z3] at g4
  show _ ∧ _
  rw [zO]
  exact ⟨⟨_, gZ, rfl⟩, h _ gZ gT gO ⟨g1, g2, g3, g4⟩ fun c o e => Heap.get?_push_of_some _ (Heap.get?_push_of_some _ (Heap.get?_push_of_some _ (Heap.get?_push_of_some _ (Heap.get?_push_of_some _ (Heap.get?_push_of_some _ (Heap.get?_push_of_some _ e))))))⟩
end
theorem nd5 (N : Nat) : ((N + 4) :: (N + 2) :: (N + 3) :: [N, N + 1]).Nodup := by
  simp
theorem ge5 (N c : Nat) (hc : c ∈ (N + 4) :: (N + 2) :: (N + 3) :: [N, N + 1]) : N ≤ c := by
  simp only [List.mem_cons, List.not_mem_nil, or_false] at hc
  omega
theorem nd7 (N : Nat) : ((N + 6) :: (N + 4) :: (N + 5) :: [N, N + 1, N + 2, N + 3]).Nodup := by
  simp
theorem ge7 (N c : Nat) (hc : c ∈ (N + 6) :: (N + 4) :: (N + 5) :: [N, N + 1, N + 2, N + 3]) : N ≤ c := by
  simp only [List.mem_cons, List.not_mem_nil, or_false] at hc
  omega
theorem not_both {a N : Nat} (h1 : N ≤ a) (h2 : a < N) : False := Nat.lt_irrefl _ (Nat.lt_of_lt_of_le h2 h1)
def iZip2 (K : PySem.W.Frag) (ta : TA) : TI := fun σ H R => ta σ H fun vs H1 => ∃ (r1 r2 : Sr) (xs1 xs2 : List V), vs = [.ref r1.a, .ref r2.a] ∧ (SqS K H1 r1 xs1 ∧ SqS K H1 r2 xs2) ∧ R (ItZ K [r1, r2]) H1
theorem pi_zip2 {X : Cx} {e1 e2 : Expr} {ta : TA} {p pos tpos : Pos} {elts : List Expr} {kk : Nat} (hm : X.mg "zip" = none) (ha : PA X [e1, e2] ta) (hg : Gl X "zip" := by rfl)
    (hs : starEach [e1, e2] X.env = (false, eval e1 X.env) :: starEach [e2] X.env := by rfl) (hpl : (backTo pos (starEach [e2] X.env)).any (·.1) = false := by rfl) :
    PI X (.Tuple elts kk tpos) (.Call (.Name "zip" p) [e1, e2] [] pos) (iZip2 X.K ta) := by
  refine ⟨fun pins s σ H R I h => ?_⟩
  refine Call_ (ld_blt I hg hm PyProof.Rows.boot_zip (PyProof.Rows.callWith_type1 (thn (ha.run pos pins s σ H _ I h) fun us s1 ⟨vs, H1, I1, r1, q1⟩ => ?_) hs hpl))
  obtain ⟨a, b, xs, ys, rfl, ⟨ha1, hb1⟩, q⟩ := q1
  obtain ⟨u1, u2, rfl, rfl, rfl⟩ : ∃ u1 u2, us = [u1, u2] ∧ u1 = Value.ref a.a ∧ u2 = Value.ref b.a := by
    cases r1 with
    | cons p1 t1 =>
      cases t1 with
      | cons p2 t2 =>
        cases t2
        exact ⟨_, _, rfl, p1, p2⟩
  obtain ⟨i1, _, s1', _⟩ := src_of I1 ha1
  obtain ⟨i2, _, s2', _⟩ := src_of I1 hb1
  have l1 := s1'.lt
  have l2 := s2'.lt
  refine zip_begins2 (begins_sr a i1.toArray) (begins_sr b i2.toArray) s1' s2' fun h' hz hTI hTO g1 g2 hsz hk => wpAny_pyIter_zip hz ?_
  have I2 : L2.Inv X pins σ H1 { s1 with heap := h' } := I1.kept (t' := s1.toks) hk
  generalize hN : s1.heap.objs.size = N at *
  have nl := nd5 N
  have big := fun c hc => ge5 N c hc
  refine ⟨N + 4, (N + 4) :: (N + 2) :: (N + 3) :: [N, N + 1], _, _, H1, rfl, I2, turn_zipN (rs := [a, b]) ⟨nl, rfl, List.cons_ne_nil _ _, by simp, fun r hr hc => ?_⟩, ⟨hz, hTI, ⟨[.none, .none], rfl, hTO⟩, fun j r it e1 e2 => ?_⟩, fun c hc => ?_, q⟩
  · refine not_both (big r.a hc) ?_
    have h2 : r.a < N := by
      rcases List.mem_cons.mp hr with e | hr
      · rw [e]; exact l1
      · rw [List.mem_singleton.mp hr]; exact l2
    exact h2
  · match j, e1, e2 with
    | 0, e1, e2 =>
      cases e1
      cases e2
      exact itAt_new g1
    | 1, e1, e2 =>
      cases e1
      cases e2
      exact itAt_new g2
    | j + 2, e1, e2 => cases e1
  · have hle : s1.heap.objs.size ≤ c := by rw [hN]; exact big c hc
    exact I1.fpOk hle (I1.hok.fresh hle)
def iZip4 (K : PySem.W.Frag) (ta : TA) : TI := fun σ H R => ta σ H fun vs H1 => ∃ (r1 r2 r3 r4 : Sr) (xs1 xs2 xs3 xs4 : List V), vs = [.ref r1.a, .ref r2.a, .ref r3.a, .ref r4.a] ∧ (SqS K H1 r1 xs1 ∧ SqS K H1 r2 xs2 ∧ SqS K H1 r3 xs3 ∧ SqS K H1 r4 xs4) ∧ R (ItZ K [r1, r2, r3, r4]) H1
theorem pi_zip4 {X : Cx} {e1 e2 e3 e4 : Expr} {ta : TA} {p pos tpos : Pos} {elts : List Expr} {kk : Nat} (hm : X.mg "zip" = none) (ha : PA X [e1, e2, e3, e4] ta) (hg : Gl X "zip" := by rfl)
    (hs : starEach [e1, e2, e3, e4] X.env = (false, eval e1 X.env) :: starEach [e2, e3, e4] X.env := by rfl) (hpl : (backTo pos (starEach [e2, e3, e4] X.env)).any (·.1) = false := by rfl) :
    PI X (.Tuple elts kk tpos) (.Call (.Name "zip" p) [e1, e2, e3, e4] [] pos) (iZip4 X.K ta) := by
  refine ⟨fun pins s σ H R I h => ?_⟩
  refine Call_ (ld_blt I hg hm PyProof.Rows.boot_zip (PyProof.Rows.callWith_type1 (thn (ha.run pos pins s σ H _ I h) fun us s1 ⟨vs, H1, I1, r1, q1⟩ => ?_) hs hpl))
  obtain ⟨a, b, c, d, xs, ys, zs, ws, rfl, ⟨ha1, hb1, hc1, hd1⟩, q⟩ := q1
  obtain ⟨u1, u2, u3, u4, rfl, rfl, rfl, rfl, rfl⟩ : ∃ u1 u2 u3 u4, us = [u1, u2, u3, u4] ∧ u1 = Value.ref a.a ∧ u2 = Value.ref b.a ∧ u3 = Value.ref c.a ∧ u4 = Value.ref d.a := by
    cases r1 with
    | cons p1 t1 =>
      cases t1 with
      | cons p2 t2 =>
        cases t2 with
        | cons p3 t3 =>
          cases t3 with
          | cons p4 t4 =>
            cases t4
            exact ⟨_, _, _, _, rfl, p1, p2, p3, p4⟩
  obtain ⟨i1, _, s1', _⟩ := src_of I1 ha1
  obtain ⟨i2, _, s2', _⟩ := src_of I1 hb1
  obtain ⟨i3, _, s3', _⟩ := src_of I1 hc1
  obtain ⟨i4, _, s4', _⟩ := src_of I1 hd1
  have l1 := s1'.lt
  have l2 := s2'.lt
  have l3 := s3'.lt
  have l4 := s4'.lt
  refine call_zip4 (begins_sr a i1.toArray) (begins_sr b i2.toArray) (begins_sr c i3.toArray) (begins_sr d i4.toArray) s1' s2' s3' s4' fun h' hz hTI hTO g hk => wpAny_pyIter_zip hz ?_
  obtain ⟨g1, g2, g3, g4⟩ := g
  have I2 : L2.Inv X pins σ H1 { s1 with heap := h' } := I1.kept (t' := s1.toks) hk
  generalize hN : s1.heap.objs.size = N at *
  have nl := nd7 N
  have big := fun c hc => ge7 N c hc
  refine ⟨N + 6, (N + 6) :: (N + 4) :: (N + 5) :: [N, N + 1, N + 2, N + 3], _, _, H1, rfl, I2, turn_zipN (rs := [a, b, c, d]) ⟨nl, rfl, List.cons_ne_nil _ _, by simp, fun r hr hc => ?_⟩, ⟨hz, hTI, ⟨[.none, .none, .none, .none], rfl, hTO⟩, fun j r it e1 e2 => ?_⟩, fun c hc => ?_, q⟩
  · refine not_both (big r.a hc) ?_
    have h2 : r.a < N := by
      simp only [List.mem_cons, List.not_mem_nil, or_false] at hr
      rcases hr with e | e | e | e
      · rw [e]; exact l1
      · rw [e]; exact l2
      · rw [e]; exact l3
      · rw [e]; exact l4
    exact h2
  · match j, e1, e2 with
    | 0, e1, e2 =>
      cases e1
      cases e2
      exact itAt_new g1
    | 1, e1, e2 =>
      cases e1
      cases e2
      exact itAt_new g2
    | 2, e1, e2 =>
      cases e1
      cases e2
      exact itAt_new g3
    | 3, e1, e2 =>
      cases e1
      cases e2
      exact itAt_new g4
    | j + 4, e1, e2 => cases e1
  · have hle : s1.heap.objs.size ≤ c := by rw [hN]; exact big c hc
    exact I1.fpOk hle (I1.hok.fresh hle)
end Ms
namespace Ms
open PySem PySem.Spec PyProof.Rows L2
/-! ### enumerate of a list or a tuple -/
theorem draws_sr {prog : Program} {w : World} {A : Around} (hh : A.handled = none) (r : Sr) (it : Addr) (hne : r.a ≠ it) (items : Array Value) :
    Draws prog w A it [it, r.a] items.size (fun i v => items[i]? = some v) (fun i h => ItAt h r it i ∧ SrIs h r items) := by
  obtain ⟨k, a⟩ := r
  cases k with
  | true => exact Draws.list hh it a hne items
  | false => exact Draws.tuple hh it a hne items
def ItE (K : PySem.W.Frag) (r : Sr) : It :=
  ⟨fun i H => ∃ xs x, SqS K H r xs ∧ xs[i]? = some x,
    fun i H v H' => ∃ T x, v = .ref T ∧ H T = none ∧ H' = upd H T (.tup [.int (i : Nat), x]) ∧ ∀ xs, SqS K H r xs → xs[i]? = some x,
    fun i H => ∃ xs, SqS K H r xs ∧ xs.length = i⟩
theorem turn_enumS {P : Program} {w : World} {K : PySem.W.Frag} {elts : List Expr} {kk : Nat} {tpos : Pos} {r : Sr} {e it : Addr} (hne : e ≠ it) (hae : r.a ≠ e) (hai : r.a ≠ it) :
    Turn P w K (.Tuple elts kk tpos) (ItE K r) [e, it] e (fun i h => (∃ old, IsEnum h e it ((i : Nat) : Int) old) ∧ ItAt h r it i) where
  mem := List.mem_cons_self ..
  obj := fun i h st b hb => by
    obtain ⟨⟨old, he⟩, hi⟩ := st
    rcases List.mem_cons.mp hb with z | hb
    · rw [z]
      exact ⟨_, he, fun v q => nomatch q⟩
    · rw [List.mem_singleton.mp hb]
      exact hi.live
  keep := fun i h h' st k => by
    obtain ⟨⟨old, he⟩, hi⟩ := st
    exact ⟨⟨old, k e (by simp) _ he⟩, hi.to fun o q => k it (by simp) o q⟩
  item := by
    intro X hP hw hK hc i pins s σ H E I hf st hg
    subst hP hw hK
    obtain ⟨⟨old, he⟩, hit⟩ := st
    obtain ⟨xs, x, hq, hx⟩ := hg
    obtain ⟨its, rv, hsr, hz⟩ := src_of I hq
    obtain ⟨u, hu, ru⟩ := rv.get hx
    have hel : e < s.heap.objs.size := Heap.lt_size he
    have hil : it < s.heap.objs.size := by
      obtain ⟨o, q, _⟩ := hit.live
      exact Heap.lt_size q
    have hlt : i < its.toArray.size := by
      rw [List.size_toArray]
      exact (List.getElem?_eq_some_iff.mp hu).1
    have hh : X.A.in1.handled = none := I.ok.hd hc
    refine wpAny_pyNext_enum_itemC (draws_sr hh r it hai its.toArray) he ⟨hit, hsr⟩ hlt hne (fun q => by rcases List.mem_cons.mp q with q | q; exact hne q; exact hae (List.mem_singleton.mp q).symm) fun y h' tk hy ho hs' hT hsz hk => ?_
    have ey : y = u := by
      have h1 : its[i]? = some y := by simpa using hy
      rw [hu] at h1
      exact (Option.some.inj h1).symm
    subst ey
    refine ⟨_, rfl, wpAny_letOwnedTupleGo_enum (s := { s with heap := h', toks := tk + 1 }) ho fun h'' he' sb => ?_⟩
    have hT2 : h''.get? s.heap.objs.size = some { cls := .type "tuple", data := .seq #[.int i tk, y] } := (sb.2 _ (Nat.ne_of_gt hel)).trans hT
    have new : ObjOk X.prog X.w (upd H s.heap.objs.size (.tup [.int (i : Nat), x])) h'' s.heap.objs.size (.tup [.int (i : Nat), x]) :=
      ⟨by show 2 ≤ sizeLine; decide, [.int i tk, y], .cons ⟨_, rfl⟩ (.cons ru .nil), ⟨_, hT2, rfl, _, rfl⟩⟩
    have I1 : L2.Inv X pins σ (upd H s.heap.objs.size (.tup [.int (i : Nat), x])) { s with heap := h'', toks := tk + 1 } :=
      I.turnedNew (ch := [e, it]) (fun b ob hb q => (sb.2 b (fun z => hb (by simp [z]))).trans (hk b ob (fun z => hb (by simp [z])) (fun z => hb (by simp [z])) q)) hf (Nat.le_refl _) new
    refine ⟨.ref s.heap.objs.size, _, I1, rfl, ⟨_, x, rfl, I.hok.fresh (Nat.le_refl _), rfl, fun ys hy => by rw [sqS_inj I hy hq]; exact hx⟩, ⟨⟨y, ?_⟩, hs'.1.to fun o q => (sb.2 it (Ne.symm hne)).trans q⟩, fun b hb => ?_⟩
    · have e1 : ((i + 1 : Nat) : Int) = (i : Int) + 1 := by omega
      rw [e1]
      exact he'
    · have hb' : b < s.heap.objs.size := by
        rcases List.mem_cons.mp hb with z | hb
        · rw [z]; exact hel
        · rw [List.mem_singleton.mp hb]; exact hil
      rw [upd_ne (Nat.ne_of_lt hb')]
      exact (hf b hb).1
  done := by
    intro X hP hw hK hc i pins s σ H E I hf st hg
    subst hP hw hK
    obtain ⟨⟨old, he⟩, hit⟩ := st
    obtain ⟨xs, hq, hx⟩ := hg
    obtain ⟨its, rv, hsr, hz⟩ := src_of I hq
    have hl := rv.length
    have hh : X.A.in1.handled = none := I.ok.hd hc
    have en : i = its.toArray.size := by
      rw [List.size_toArray]
      omega
    have hst : ItAt s.heap r it its.toArray.size ∧ SrIs s.heap r its.toArray := ⟨by rw [← en]; exact hit, hsr⟩
    exact wpAny_pyNext_enum_endD (draws_sr hh r it hai its.toArray) he hst fun h' eb => ⟨rfl, I.turnedL (t' := s.toks) (ch := [e, it]) (fun b o hb q => eb b o (fun z => hb (by simp [z])) q) hf⟩
  self := fun A i s Q E st h => let ⟨⟨_, he⟩, _⟩ := st; wpAny_pyIter_enum he h
theorem meets_enum1 {v : Value} {o : Obj} {H : Heap → Prop} (B : Begins v o H) :
    Meets (Builtin.«enumerate.__new__» ⟨[.type "enumerate", v], []⟩) (fun _ R s => H s.heap ∧
      R (.ok (.ret (.ref (s.heap.push o).objs.size))) { s with heap := (s.heap.push o).push { cls := .type "enumerate", data := .fields #[.none, .bool false, .ref s.heap.objs.size, rawInt 0, .none, .none] } }) :=
  .of_wp fun prog w A R s h => by
    obtain ⟨hp, g, d, tk, os⟩ := s
    obtain ⟨h1, h⟩ := h
    have hsub := sub_enumerate
    have q1 : ∀ {A' : Around} {E : Value → Shared → Prop} {Q : Value → Shared → Prop}, Q (.ref hp.objs.size) ⟨hp.push o, g, d, tk, os⟩ → wpAny (model prog w) A' (pyIter v) Q E ⟨hp, g, d, tk, os⟩ :=
      fun q => B.iter prog w _ _ ⟨hp, g, d, tk, os⟩ _ h1 q
    wp_walk using q1
    refine wpAny_stack_any fun st => wpAny_pure ?_
    split
    · rename_i c _ _ _ _ _
      cases (c == Value.type "enumerate")
      · wp_walk using q1
        exact ⟨_, rfl, h⟩
      · wp_walk using q1
        exact ⟨_, rfl, h⟩
    · wp_walk using q1
      exact ⟨_, rfl, h⟩
theorem call_enum1 {prog : Program} {w : World} {A : Around} {E : Value → Shared → Prop} {s : Shared} {v : Value} {o : Obj} {H : Heap → Prop} {Q : Value → Shared → Prop} (B : Begins v o H) (h1 : H s.heap)
    (h : ∀ h', IsEnum h' (s.heap.objs.size + 1) s.heap.objs.size 0 .none → h'.get? s.heap.objs.size = some o → (∀ b o', s.heap.get? b = some o' → h'.get? b = some o') → Q (.ref (s.heap.objs.size + 1)) { s with heap := h' }) :
    wpAny (model prog w) A (call (.type "enumerate") [v]) Q E s := by
  refine callType_new F.called_enumerate (by decide) (F.typeCall_enumerate_1 _) (F.newCall_enumerate_1 _) (fun obj => F.args_object_init_2 obj _) F.entry_enumerate_new (meets_enum1 B) ⟨h1, ?_⟩
  have hz : (s.heap.push o).objs.size = s.heap.objs.size + 1 := Heap.size_push ..
  show _ ∧ _
  rw [hz]
  have he : ((s.heap.push o).push { cls := .type "enumerate", data := .fields #[.none, .bool false, .ref s.heap.objs.size, rawInt 0, .none, .none] }).get? (s.heap.push o).objs.size = some _ := Heap.get?_push_size _ rfl
  rw [hz] at he
  exact ⟨⟨_, he, rfl⟩, h _ he (Heap.get?_push_of_some _ (Heap.get?_push_size _ B.free)) fun b o' x => Heap.get?_push_of_some _ (Heap.get?_push_of_some _ x)⟩
def iEnumS (K : PySem.W.Frag) (ta : TA) : TI := fun σ H R => ta σ H fun vs H1 => ∃ (r : Sr) (xs : List V), vs = [.ref r.a] ∧ SqS K H1 r xs ∧ R (ItE K r) H1
theorem pi_enumS {X : Cx} {e : Expr} {ta : TA} {p pos tpos : Pos} {elts : List Expr} {kk : Nat} (hm : X.mg "enumerate" = none) (ha : PA X [e] ta) (hg : Gl X "enumerate" := by rfl) (hs : starEach [e] X.env = [(false, eval e X.env)] := by rfl) :
    PI X (.Tuple elts kk tpos) (.Call (.Name "enumerate" p) [e] [] pos) (iEnumS X.K ta) := by
  refine ⟨fun pins s σ H R I h => ?_⟩
  refine Call_ (ld_blt I hg hm boot_enumerate (PyProof.Rows.callWith_type1 (thn (ha.run pos pins s σ H _ I h) fun us s1 ⟨vs, H1, I1, r1, q1⟩ => ?_) hs rfl))
  obtain ⟨r, xs, rfl, hq, q⟩ := q1
  obtain ⟨rfl⟩ : us = [Value.ref r.a] := by
    cases r1 with
    | cons p1 t1 =>
      cases t1
      cases p1
      rfl
  obtain ⟨its, rv, hsr, hz⟩ := src_of I1 hq
  have hl := hsr.lt
  refine call_enum1 (begins_sr r its.toArray) hsr fun h' he hit hk => wpAny_pyIter_enum he ?_
  have I2 : L2.Inv X pins σ H1 { s1 with heap := h' } := I1.kept (t' := s1.toks) hk
  refine ⟨s1.heap.objs.size + 1, [s1.heap.objs.size + 1, s1.heap.objs.size], _, _, H1, rfl, I2, turn_enumS (r := r) (Nat.succ_ne_self _) (Nat.ne_of_lt (Nat.lt_succ_of_lt hl)) (Nat.ne_of_lt hl), ⟨⟨.none, he⟩, itAt_new hit⟩, fun b hb => ?_, q⟩
  have hle : s1.heap.objs.size ≤ b := by
    rcases List.mem_cons.mp hb with z | hb
    · rw [z]; exact Nat.le_add_right _ _
    · rw [List.mem_singleton.mp hb]; exact Nat.le_refl _
  exact I1.fpOk hle (I1.hok.fresh hle)
/-- a loop over enumerate -/
theorem for_enumS {K : PySem.W.Frag} {r : Sr} {xs : List V} {g : TG} {tb : TS} {D : Ends} {σ : L2.St} {H : Hp} (Pv : Nat → L2.St → Hp → Prop) (h0 : Pv 0 σ H) (hl : ∀ i σ H, i ≤ xs.length → Pv i σ H → SqS K H r xs)
    (hs : ∀ i x T σ H, xs[i]? = some x → Pv i σ H → H T = none → g (.ref T) σ (upd H T (.tup [.int (i : Nat), x])) fun σ2 H2 => tb { D with nx := Pv (i + 1), ct := Pv (i + 1), bk := D.nx } σ2 H2) (hd : ∀ σ H, Pv xs.length σ H → D.nx σ H) :
    ∃ W : Nat → Nat → L2.St → Hp → Prop, (∃ m, W 0 m σ H) ∧ ∀ i m σ H, W i m σ H →
      ((ItE K r).stop i H ∧ D.nx σ H) ∨ ((ItE K r).go i H ∧ ∃ N : L2.St → Hp → Prop, (∀ σ' H', N σ' H' → ∃ m', m' < m ∧ W (i + 1) m' σ' H') ∧ ∀ v H', (ItE K r).yld i H v H' → g v σ H' fun σ2 H2 => tb { D with nx := N, ct := N, bk := D.nx } σ2 H2) := by
  refine ⟨fun i m σ H => m = xs.length - i ∧ i ≤ xs.length ∧ Pv i σ H, ⟨xs.length, by simp, Nat.zero_le _, h0⟩, ?_⟩
  rintro i m σ H ⟨rfl, hi, p⟩
  have q := hl i σ H hi p
  by_cases hlt : i < xs.length
  · refine .inr ⟨⟨xs, xs[i], q, by simp [hlt]⟩, Pv (i + 1), fun σ' H' p' => ⟨xs.length - (i + 1), by omega, rfl, hlt, p'⟩, fun v H' y => ?_⟩
    obtain ⟨T, x, rfl, hT, rfl, f⟩ := y
    exact hs i x T σ H (f xs q) p hT
  · have e : i = xs.length := by omega
    subst e
    exact .inl ⟨⟨xs, q, rfl⟩, hd σ H p⟩
/-- a loop over zip, all of one length n -/
theorem for_zipN {K : PySem.W.Frag} {rs : List Sr} {r0 : Sr} {rest : List Sr} {g : TG} {tb : TS} {D : Ends} {σ : L2.St} {H : Hp} {n : Nat} (cols : List (List V)) (er : rs = r0 :: rest) (Pv : Nat → L2.St → Hp → Prop) (h0 : Pv 0 σ H)
    (hl : ∀ i σ H, i ≤ n → Pv i σ H → cols.length = rs.length ∧ ∀ (j : Nat) (r : Sr) (xs : List V), rs[j]? = some r → cols[j]? = some xs → SqS K H r xs ∧ xs.length = n)
    (hs : ∀ i T ys σ H, i < n → ys.length = rs.length → (∀ (j : Nat) (xs : List V), cols[j]? = some xs → ys[j]? = xs[i]?) → Pv i σ H → H T = none → g (.ref T) σ (upd H T (.tup ys)) fun σ2 H2 => tb { D with nx := Pv (i + 1), ct := Pv (i + 1), bk := D.nx } σ2 H2)
    (hd : ∀ σ H, Pv n σ H → D.nx σ H) :
    ∃ W : Nat → Nat → L2.St → Hp → Prop, (∃ m, W 0 m σ H) ∧ ∀ i m σ H, W i m σ H →
      ((ItZ K rs).stop i H ∧ D.nx σ H) ∨ ((ItZ K rs).go i H ∧ ∃ N : L2.St → Hp → Prop, (∀ σ' H', N σ' H' → ∃ m', m' < m ∧ W (i + 1) m' σ' H') ∧ ∀ v H', (ItZ K rs).yld i H v H' → g v σ H' fun σ2 H2 => tb { D with nx := N, ct := N, bk := D.nx } σ2 H2) := by
  refine ⟨fun i m σ H => m = n - i ∧ i ≤ n ∧ Pv i σ H, ⟨n, by simp, Nat.zero_le _, h0⟩, ?_⟩
  rintro i m σ H ⟨rfl, hi, p⟩
  obtain ⟨lc, q⟩ := hl i σ H hi p
  by_cases hlt : i < n
  · refine .inr ⟨fun r hr => ?_, Pv (i + 1), fun σ' H' p' => ⟨n - (i + 1), by omega, rfl, hlt, p'⟩, fun v H' y => ?_⟩
    · obtain ⟨j, hj, e⟩ := List.mem_iff_getElem.mp hr
      have hjc : j < cols.length := by omega
      obtain ⟨q1, q2⟩ := q j r cols[j] (by rw [List.getElem?_eq_getElem hj, e]) (List.getElem?_eq_getElem hjc)
      exact ⟨cols[j], q1, by omega⟩
    · obtain ⟨T, ys, rfl, hT, rfl, hly, f⟩ := y
      refine hs i T ys σ H hlt hly (fun j xs e => ?_) p hT
      have hj : j < rs.length := by
        rw [← lc]
        exact (List.getElem?_eq_some_iff.mp e).1
      exact f j rs[j] xs (List.getElem?_eq_getElem hj) (q j rs[j] xs (List.getElem?_eq_getElem hj) e).1
  · have e : i = n := by omega
    subst e
    have hc0 : 0 < cols.length := by
      rw [lc, er]
      exact Nat.succ_pos _
    obtain ⟨q1, q2⟩ := q 0 r0 cols[0] (by rw [er]; rfl) (List.getElem?_eq_getElem hc0)
    exact .inl ⟨⟨r0, rest, cols[0], er, q1, by omega⟩, hd σ H p⟩
end Ms
namespace Ms
open PySem PySem.Spec PyProof.Rows L2
/-! ### a tuple turned round: t[::-1] -/
theorem rev_adjust (n : Nat) : Builtin.Slice.sliceAdjust none none (-1) (n : Int) = ((n : Int) - 1, -1) := rfl
theorem rev_places (n : Nat) : Builtin.Slice.slicePlaces ((n : Int) - 1) (-1) (-1) = n := by
  unfold Builtin.Slice.slicePlaces
  have h1 : ¬ ((-1 : Int) > 0) := by decide
  have h2 : (-(-1) : Int) = 1 := by decide
  rw [if_neg h1, h2]
  by_cases h : (n : Int) - 1 > -1
  · rw [if_pos h, Int.ediv_one]
    omega
  · rw [if_neg h]
    omega
theorem rev_items (xs : Array Value) : ((List.range xs.size).filterMap fun (k : Nat) => xs[(((xs.size : Int) - 1) + (k : Int) * -1).toNat]?) = xs.toList.reverse := by
  have e : ((List.range xs.size).filterMap fun (k : Nat) => xs[(((xs.size : Int) - 1) + (k : Int) * -1).toNat]?) = ((List.range xs.size).map fun k => xs.size - 1 - k).filterMap (xs[·]?) := by
    rw [List.filterMap_map]
    have key : ∀ l : List Nat, (∀ k ∈ l, k < xs.size) → (l.filterMap fun (k : Nat) => xs[(((xs.size : Int) - 1) + (k : Int) * -1).toNat]?) = l.filterMap ((fun x => xs[x]?) ∘ fun k => xs.size - 1 - k) := fun l => by
      induction l with
      | nil => exact fun _ => rfl
      | cons k l ih =>
        intro h
        have hk := h k (List.mem_cons_self ..)
        have e2 : (((xs.size : Int) - 1) + (k : Int) * -1).toNat = xs.size - 1 - k := by omega
        rw [List.filterMap_cons, List.filterMap_cons, ih fun j hj => h j (List.mem_cons_of_mem _ hj), e2]
        rfl
    exact key _ fun k hk => List.mem_range.mp hk
  rw [e, PySem.W.krv_range, List.filterMap_reverse, PySem.W.krv_all]
theorem getItem_tuple_rev {prog : Program} {w : World} {A : Around} {E : Value → Shared → Prop} {s : Shared} {t sl : Addr} {items : Array Value} {u : Tok} {Q : Value → Shared → Prop} (ht : IsTup s.heap t items) (hs : s.heap.IsSliceOf sl .none .none (.int (-1) u))
    (h : Q (.ref s.heap.objs.size) { s with heap := s.heap.push { cls := .type "tuple", data := .seq items.toList.reverse.toArray } }) (hsz : items.size ≤ sizeLine) : wpAny (model prog w) A (getItem (.ref t) (.ref sl)) Q E s := by
  have hl : sizeOk (.seq items.toList.reverse.toArray) := by
    show items.toList.reverse.toArray.size ≤ sizeLine
    rw [List.size_toArray, List.length_reverse, Array.length_toList]
    exact hsz
  obtain ⟨os, hos, hcs, hds⟩ := id hs
  have hTs : s.TypeIs (.ref sl) "slice" := ⟨os, hos, hcs⟩
  unfold getItem
  try with_reducible refine wpAny_holding ?_
  first | refine wpAny_bind (wpAny_pure ?_) | skip
  refine wpAny_bind (wpAny_sequenceKey ht.typeIs (by decide) ?_)
  refine wpAny_bind (wpAny_callSpecial?_slot (name := Str.ofString "__getitem__") ht.typeIs PyProof.Rows.slot_tuple_getitem
    (wpAny_call_entry PyProof.Rows.slot_tuple_getitem ht.typeIs entry_tuple_getitem ?_ (args_tuple_getitem _ _)))
  show wpAny _ _ (Builtin.Tuple.tupleItemsOf (.ref t) >>= _) _ _ s
  refine wpAny_bind (PyProof.Rows.tupleItemsOf_ ht ?_)
  refine wpAny_bind (wpAny_typeOf hTs ?_)
  rw [if_pos (by decide)]
  refine wpAny_bind ?_
  unfold Builtin.Slice.sliceApplied Builtin.Slice.sliceFields
  refine wpAny_bind (wpAny_bind (wpAny_field hos hds (x := .none) rfl (wpAny_bind (wpAny_field hos hds (x := .none) rfl (wpAny_bind (wpAny_field hos hds (x := .int (-1) u) rfl (wpAny_pure ?_)))))))
  refine wpAny_bind (HT.slicePart_ (.int (-1) u) ?_)
  show wpAny _ _ (if ((-1 : Int) == 0) = true then _ else _) _ _ s
  rw [if_neg (by decide)]
  refine wpAny_bind (HT.slicePart_ .none (wpAny_bind (HT.slicePart_ .none (wpAny_bind (wpAny_pure ?_)))))
  show wpAny _ _ (match Builtin.Slice.sliceAdjust none none (-1) ((items.size : Nat) : Int) with | (lo, hi) => pure (lo, (-1 : Int), Builtin.Slice.slicePlaces lo hi (-1))) _ _ s
  rw [rev_adjust]
  show wpAny _ _ (pure (((items.size : Int) - 1), (-1 : Int), Builtin.Slice.slicePlaces ((items.size : Int) - 1) (-1) (-1))) _ _ s
  rw [rev_places]
  refine wpAny_pure ?_
  have hno : ¬ ((((items.size : Int) - 1) == 0 && (-1 : Int) == 1 && items.size == items.size) = true) := by
    intro q
    rw [Bool.and_eq_true, Bool.and_eq_true] at q
    exact absurd q.1.2 (by decide)
  show wpAny _ _ (if (((items.size : Int) - 1) == 0 && (-1 : Int) == 1 && items.size == items.size) = true then _ else _) _ _ s
  rw [if_neg hno, rev_items]
  first
    | exact wpAny_bind (m := Builtin.Tuple.tupleExact _) (wpAny_newObj_type (wpAny_pure ⟨_, rfl, wpAny_pure h⟩) hl)
    | exact wpAny_bind (m := Builtin.Tuple.tupleExact _) (wpAny_newObj_type (wpAny_bind (wpAny_pure (wpAny_pure ⟨_, rfl, wpAny_pure h⟩))) hl)
    | exact wpAny_bind (wpAny_bind (m := Builtin.Tuple.tupleExact _) (wpAny_newObj_type (wpAny_pure (wpAny_pure ⟨_, rfl, wpAny_pure h⟩)) hl))
    | exact wpAny_bind (wpAny_bind (m := Builtin.Tuple.tupleExact _) (wpAny_newObj_type (wpAny_pure ⟨_, rfl, wpAny_pure h⟩) hl))
def tRevT (K : PySem.W.Frag) (te : TE) : TE := fun σ H Q => te σ H fun x H1 => ∃ a xs, x = .ref a ∧ SqT K H1 a xs ∧ ∀ p, H1 p = none → Q (.ref p) (upd H1 p (.tup xs.reverse))
theorem pe_revT {X : Cx} {e : Expr} {te : TE} {k : Nat} {p1 p2 p3 pos : Pos} (he : PE X e te) : PE X (.Subscript e (.Slice none none (some (.UnaryOp .USub (.Constant (.int 1) k p1) p2)) p3) pos) (tRevT X.K te) := by
  refine ⟨fun pins s σ H Q I h => ?_⟩
  refine Subscript_ (thn (he.run pins s σ H _ I h) fun v s1 ⟨x, H1, I1, r1, q1⟩ => ?_)
  obtain ⟨a, xs, ex, hx, q⟩ := q1
  subst ex
  cases r1
  have hst : PO X (some (.UnaryOp .USub (.Constant (.int 1) k p1) p2)) (tPart (tUn (rU fun i => .int (-i)) (tC (.int 1)))) := po_some (pe_un un_neg pe_int)
  refine wpAny_Slice (thn (po_none.run pins s1 σ H1 (fun o H2 => o = none ∧ H2 = H1) I1 ⟨rfl, rfl⟩) fun vl s2 ⟨l, H2, I2, pl, el, e2⟩ => ?_)
  subst el e2
  refine thn (po_none.run pins s2 σ H2 (fun o H3 => o = none ∧ H3 = H2) I2 ⟨rfl, rfl⟩) fun vu s3 ⟨u, H3, I3, pu, eu, e3⟩ => ?_
  subst eu e3
  refine thn (hst.run pins s3 σ H3 (fun o H4 => o = some (-1) ∧ H4 = H3) I3 ⟨1, rfl, -1, rfl, rfl, rfl⟩) fun vs s4 ⟨o, H4, I4, ps, eo, e4⟩ => ?_
  subst eo e4
  have I5 : L2.Inv X pins σ H4 { s4 with heap := s4.heap.push { cls := .type "slice", data := .fields #[vl, vu, vs] } } := I4.kept (t' := s4.toks) fun b ob q => Heap.get?_push_of_some _ q
  obtain ⟨its, r, ht, hz⟩ := I5.tuple hx
  have hlen := r.length
  cases pl
  cases pu
  cases ps with
  | int _ tk =>
    refine tail_any (ops := [.ref a, .ref s4.heap.objs.size]) ht.typeIs (PyProof.Rows.slot_tuple_getitem.lookup) ?_ (by with_unfolding_all rfl)
    refine getItem_tuple_rev ht (Heap.IsSliceOf.new _ .none .none (.int (-1) tk)) ?_ (by rw [List.size_toArray]; omega)
    refine ⟨.ref _, _, I5.laid (t' := s4.toks) (o := .tup xs.reverse) (fun b ob q => Heap.get?_push_of_some _ q) (Nat.le_refl _) ?_, rfl, q _ (I5.hok.fresh (Nat.le_refl _))⟩
    exact ⟨by rw [List.length_reverse]; exact hz, _, r.reverse, IsTup.new _ _⟩
/-! ### min of a tuple of ints -/
theorem min_intTup {prog : Program} {w : World} {A : Around} {E : Value → Shared → Prop} {s : Shared} {l : Addr} {xs : Array (Int × Tok)} {Q : Value → Shared → Prop} (hh : A.handled = none) (hl : s.heap.IsTuple l (intItems xs)) (hne : 0 < xs.size)
    (h : ∀ v h' tk, (intItems xs)[argBest (fun i j => decide (numAt xs i < numAt xs j)) (xs.size - 1)]? = some v → (∀ b o, s.heap.get? b = some o → h'.get? b = some o) → Q v { s with heap := h', toks := tk }) :
    wpAny (model prog w) A (call (.builtin "min") [.ref l]) Q E s := by
  have hlt : l < s.heap.objs.size := by
    obtain ⟨_, e, _⟩ := id hl
    exact Heap.lt_size e
  refine call_min_walk (wpAny_pyIter_tuple hl ?_)
  refine ⟨_, _, _, _, _, _, _, rfl, Walks.tuple (A := A.in1) hh s.heap.objs.size l (Nat.ne_of_lt hlt) (intItems xs), ⟨⟨_, Heap.get?_push_size _ rfl, rfl, rfl⟩, hl.push _⟩, fun b hb => ?_, by simpa [intItems] using hne, CmpOf.ints_lt (numAt xs) (fun _ _ => intItems_at), fun v h' tk hP hk => ?_⟩
  · show b < (s.heap.push _).objs.size
    rw [Heap.size_push]
    rcases List.mem_cons.mp hb with e | hb
    · rw [e]; exact Nat.lt_succ_self _
    · rw [List.mem_singleton.mp hb]; exact Nat.lt_succ_of_lt hlt
  · refine h v h' tk (by simpa [intItems] using hP) fun b o e => hk b o (fun hb => ?_) (Heap.get?_push_of_some _ e)
    rw [List.mem_singleton.mp hb] at e
    exact Nat.lt_irrefl _ (Heap.lt_size e)
def rMinT (K : PySem.W.Frag) : List V → Hp → VK → Prop := fun vs H Q => ∃ (a : Addr) (ns : List Int), vs = [V.ref a] ∧ SqT K H a (ns.map V.int) ∧ 0 < ns.length ∧ ∀ m, m ∈ ns → (∀ y, y ∈ ns → m ≤ y) → Q (.int m) H
theorem cr_minT {X : Cx} (hc : X.calm = true) : CallR X (.builtin "min") (rMinT X.K) := by
  intro pins s σ H vs us Q I r h
  obtain ⟨a, ns, rfl, hs, hne, q⟩ := h
  obtain ⟨its, rv, hl, _⟩ := I.tuple hs
  rw [Vals.ref1 r]
  have hi : IntsAre its ns := rv.ints
  obtain ⟨xs, e⟩ := hi.allInts.items
  have hn : numsOf (intItems xs).toList = ns := by
    rw [← e]
    exact hi.numsOf
  rw [nums_intItems] at hn
  subst hn
  rw [e] at hl
  have hsz : 0 < xs.size := by simpa using hne
  refine min_intTup (I.ok.hd hc) hl hsz fun v h' tk hv hk => ?_
  obtain ⟨t, rfl⟩ := intItems_at hv
  obtain ⟨h1, h2⟩ := argBest_lt (numAt xs) (xs.size - 1)
  refine ⟨.int _, H, I.kept hk, ⟨_, rfl⟩, q _ ?_ fun y hy => ?_⟩
  · rw [numAt_eq]
    exact PySem.getD_mem (by rw [List.length_map, Array.length_toList]; omega)
  · obtain ⟨j, hj, rfl⟩ := mem_getD hy
    rw [List.length_map, Array.length_toList] at hj
    rw [← numAt_eq]
    exact h2 j (by omega)
end Ms
namespace Ms
open PySem PySem.Spec PyProof.Rows L2
theorem rep_flat (n : Nat) (x : V) : (List.replicate n [x]).flatten = List.replicate n x := by
  induction n with
  | zero => rfl
  | succ n ih =>
    rw [List.replicate_succ, List.replicate_succ, List.flatten_cons, ih]
    rfl
theorem rep_ints (n : Nat) : List.replicate n (V.int 0) = (List.replicate n (0 : Int)).map V.int := by
  rw [List.map_replicate]
theorem cut_to (xs : List V) (k : Nat) : cutV xs none (some (k : Int)) = xs.take k := by
  unfold cutV
  rw [show HT.sIx xs.length xs.length (some (k : Int)) = min k xs.length from HT.sIx_nat _ _ _, HT.sIx_none, List.drop_zero, Nat.sub_zero]
  rw [← List.take_take, List.take_length]
theorem sq_sr {K : PySem.W.Frag} {H : Hp} {a : Addr} {xs : List Int} (h : Sq K H a xs) : ∃ k, SqS K H ⟨k, a⟩ (xs.map V.int) := by
  rcases h with h | h
  · exact ⟨true, h⟩
  · exact ⟨false, h⟩
theorem sqS_same {K : PySem.W.Frag} {H H' : Hp} {r : Sr} {xs : List V} (s : Same H H') (h : SqS K H r xs) : SqS K H' r xs := by
  obtain ⟨k, a⟩ := r
  cases k with
  | true => exact s.seq h
  | false => exact seqT s h
section
variable {P : Program} {w : World} {K : PySem.W.Frag} {mg : Str → Option Value} {base : Heap}
/-! ### turned_round -/
abbrev sTurn : Stmt := topS 22
theorem scTurn : FnScope ["prime", "number", "found", "times"] ["prime", "number"] (defScope sTurn) := ⟨rfl, rfl, rfl, by decide +kernel, rfl, by decide +kernel, by decide +kernel⟩
def spTurn : Sp := fun vs H Q _ => ∃ p x : Int, vs = [.int p, .int x] ∧ 2 ≤ p ∧ p < 1000 ∧ (0 ≤ x ∧ x < p) ∧ Q (.int (turned p x)) H
theorem ok_turn (D : DefF K mg "turned_round" sTurn) : Cal P w K mg base 1 "turned_round" spTurn [] := by
  refine D.cal scTurn (fun _ _ _ _ _ _ us hl => match us, hl with | [_, _], _ => rfl) (fun vs H Q E h => ?_) (fun f cdv A outer s H vs Q E hr h => ?_)
  · obtain ⟨p, x, rfl, _⟩ := h
    rfl
  · obtain ⟨p, x, rfl, h0, h1, hx, q⟩ := h
    refine ⟨_, pss_cons (ps_set (i := 2) scTurn.nd rfl (.inl rfl) pe_int) (pss_cons (ps_set (i := 3) scTurn.nd rfl (.inl rfl) (pe_op op_sub (pv 0) pe_int))
      (pss_cons (ps_while PassesOwn.never (pt_cmpR op_gt (pv 3) pe_int (nomark _))
        (pss_cons (ps_if (pt_cmpR op_eq (pe_op op_mod (pv 3) pe_int) pe_int (nomark _)) (pss_one (ps_set (i := 2) scTurn.nd rfl (.inl rfl) (pe_op op_mod (pe_op op_mul (pv 2) (pv 1)) (pv 0)))) pss_nil)
        (pss_cons (ps_set (i := 1) scTurn.nd rfl (.inl rfl) (pe_op op_mod (pe_op op_mul (pv 1) (pv 1)) (pv 0)))
        (pss_one (ps_aug (i := 3) scTurn.nd rfl (.inl rfl) pe_int iop_fdiv)))))
      (pss_one (ps_ret (pv 2))))), ?_⟩
    refine ⟨_, rfl, _, _, rfl, rfl, fun m σ H' => ∃ z fo t : Int, σ = [some (.int p), some (.int z), some (.int fo), some (.int t)] ∧ H' = H ∧ (0 ≤ z ∧ z < p) ∧ (0 ≤ fo ∧ fo < p) ∧ (0 ≤ t ∧ t < 2 ^ m) ∧ turnF p m t fo z = turned p x,
      ⟨12, x, 1, p - 2, rfl, rfl, hx, ⟨by decide, by omega⟩, ⟨by omega, by omega⟩, rfl⟩, ?_⟩
    rintro m σ H' ⟨z, fo, t, rfl, rfl, hz, hfo, ⟨t0, t1⟩, e⟩
    refine ⟨_, rfl, _, _, rfl, rfl, _, rfl, ite2 (fun c => ?_) (fun c => ?_)⟩
    · have tp : 0 < t := dtrue c
      cases m with
      | zero => exact absurd tp (zero_of t0 t1)
      | succ m =>
        have ht := half_lt (p := 2) (by decide) t0 t1
        have pm : ∀ a b : Int, 0 ≤ a ∧ a < p → (-(2 ^ 64) < a ∧ a < 2 ^ 64) := fun a b h => by omega
        unfold turnF at e
        rw [if_pos tp] at e
        refine ⟨fun σ' H'' => ∃ fo', (0 ≤ fo' ∧ fo' < p) ∧ turnF p m (t / 2) fo' (z * z % p) = turned p x ∧ σ' = [some (.int p), some (.int (z * z % p)), some (.int fo'), some (.int (t / 2))] ∧ H'' = H', fun σ' H'' hN => ?_, ?_⟩
        · obtain ⟨fo', hf, e', rfl, rfl⟩ := hN
          exact ⟨m, Nat.lt_succ_self m, _, _, _, rfl, rfl, mod_bd (by omega) _, hf, ht, e'⟩
        · refine ⟨_, rfl, _, _, rfl, rfl, (by show (0 : Int) < 2; decide), rfl, _, rfl, ite2 (fun d => ?_) (fun d => ?_)⟩
          · rw [if_pos (V.int.inj (dtrue d))] at e
            exact ⟨_, rfl, _, rfl, _, _, rfl, rfl, .inl (pm fo 0 hfo), _, rfl, _, _, rfl, rfl, (by show 0 < p; omega), _, rfl, _, rfl, _, _, rfl, rfl, .inl (pm z 0 hz), _, rfl, _, _, rfl, rfl, (by show 0 < p; omega), _, rfl, _, _, rfl, rfl, ⟨by decide, by decide⟩,
              _, mod_bd (by omega) _, e, rfl, rfl⟩
          · rw [if_neg (fun q => d (decide_eq_true (congrArg V.int q)))] at e
            exact ⟨_, rfl, _, rfl, _, _, rfl, rfl, .inl (pm z 0 hz), _, rfl, _, _, rfl, rfl, (by show 0 < p; omega), _, rfl, _, _, rfl, rfl, ⟨by decide, by decide⟩, _, hfo, e, rfl, rfl⟩
    · refine ⟨_, rfl, ?_⟩
      rw [turnF_done (dfalse c)] at e
      rw [e]
      exact q
/-! ### remainder -/
abbrev sRem : Stmt := topS 17
theorem scRem : FnScope ["prime", "lower", "figures", "degree", "row", "at", "top", "place", "part"] ["prime", "lower", "figures"] (defScope sRem) := ⟨rfl, rfl, rfl, by decide +kernel, rfl, by decide +kernel, by decide +kernel⟩
def spRem (K : PySem.W.Frag) : Sp := fun vs H Q _ => ∃ (p : Int) (la fa : Addr) (lower figures : List Int), vs = [.int p, .ref la, .ref fa] ∧ (2 ≤ p ∧ p < 1000) ∧ (Sq K H la lower ∧ Sq K H fa figures) ∧ (lower.length ≤ 100 ∧ figures.length ≤ 300) ∧ Bd p lower ∧ Bd p figures ∧ NewL H (rem p lower figures) Q
theorem ok_rem (D : DefF K mg "remainder" sRem) (ml : mg "len" = none) (mli : mg "list" = none) (mr : mg "range" = none) (me : mg "enumerate" = none) : Cal P w K mg base 1 "remainder" (spRem K) [] := by
  refine D.cal scRem (fun _ _ _ _ _ _ us hl => match us, hl with | [_, _, _], _ => rfl) (fun vs H Q E h => ?_) (fun f cdv A outer s H vs Q E hr h => ?_)
  · obtain ⟨p, la, fa, lower, figures, rfl, _⟩ := h
    rfl
  · obtain ⟨p, la, fa, lower, figures, rfl, ⟨p2, p1⟩, ⟨hl, hf⟩, ⟨l1, l2⟩, bl, bf, q⟩ := h
    refine ⟨_, pss_cons (ps_set (i := 3) scRem.nd rfl (.inl rfl) (pe_callB call_len_seq (by rfl) ml PySem.boot_len (pa_cons (pv 1) pa_nil)))
      (pss_cons (ps_set (i := 4) scRem.nd rfl (.inl rfl) (pe_op op_cat (pe_callTy call_list_of (by rfl) mli (by decide +kernel) (pa_cons (pv 2) pa_nil)) (pe_op op_rep (pe_lst (pa_cons pe_int pa_nil)) (pe_op op_sub (pv 3) (pe_callB call_len_seq (by rfl) ml PySem.boot_len (pa_cons (pv 2) pa_nil))))))
      (pss_cons (ps_for PassesOwn.never rfl (pi_range3 rfl mr (pa_cons (pe_op op_sub (pe_callB call_len_seq (by rfl) ml PySem.boot_len (pa_cons (pv 4) pa_nil)) pe_int) (pa_cons (pe_op op_sub (pv 3) pe_int) (pa_cons (pe_un un_neg pe_int) pa_nil)))) (pg_name (i := 5) scRem.nd rfl (.inl rfl))
        (pss_cons (ps_set (i := 6) scRem.nd rfl (.inl rfl) (pe_ix ix_list (pv 4) (pv 5) (fun _ _ => rfl)))
        (pss_one (ps_for PassesOwn.never rfl (pi_enumS me (pa_cons (pv 1) pa_nil)) (pg_tup (by rfl) (pgs_cons (pg_name (i := 7) scRem.nd rfl (.inl rfl)) (pgs_cons (pg_name (i := 8) scRem.nd rfl (.inl rfl)) pgs_nil)))
          (pss_one (ps_asg (pe_op op_mod (pe_op op_sub (pe_ix ix_list (pv 4) (pe_op op_add (pe_op op_sub (pv 5) (pv 3)) (pv 7)) (fun _ _ => rfl)) (pe_op op_mul (pv 6) (pv 8))) (pv 0)) (pg_sub (pv 4) (pe_op op_add (pe_op op_sub (pv 5) (pv 3)) (pv 7)) set_list)))))))
      (pss_one (ps_ret (pe_slice sl_list (pv 4) po_none (po_some (pv 3))))))), ?_⟩
    have hp : 0 < p := by omega
    obtain ⟨k, hk0⟩ := sq_sr hl
    have szs : ∀ n : Nat, n ≤ 1000 → n ≤ sizeLine := fun n h => Nat.le_of_lt (small h)
    -- degree = len(lower)
    refine ⟨_, rfl, la, _, rfl, hl, ?_⟩
    rw [List.length_map]
    -- row = list(figures) + [0] * (degree - len(figures))
    refine ⟨_, rfl, fa, _, rfl, hf, fun o1 n1 => ⟨szs 1 (by decide), fun o2 n2 => ⟨_, rfl, _, rfl, fa, figures.map V.int, rfl, (hf.same (same_new n1)).same (same_new n2), _, _, rfl, rfl, ?_⟩⟩⟩
    have s1 : Same H (upd H o1 (.lst (figures.map V.int))) := same_new n1
    have s2 : Same (upd H o1 (.lst (figures.map V.int))) (upd (upd H o1 (.lst (figures.map V.int))) o2 (.lst [.int 0])) := same_new n2
    have n12 : o1 ≠ o2 := fun e => by
      rw [← e, upd_same] at n2
      cases n2
    have eN : ((lower.length : Int) - ((figures.map V.int).length : Int)).toNat = lower.length - figures.length := by
      rw [List.length_map]
      omega
    refine ⟨o2, _, [.int 0], rfl, rfl, upd_same, by rw [List.length_map]; omega, by rw [List.length_map]; omega, by rw [eN]; exact szs _ (by show 1 * (lower.length - figures.length) ≤ 1000; omega), fun o3 n3 => ?_⟩
    rw [eN, rep_flat, rep_ints]
    have n13 : o1 ≠ o3 := fun e => by
      rw [← e, upd_ne n12, upd_same] at n3
      cases n3
    refine ⟨o1, o3, figures.map V.int, (List.replicate (lower.length - figures.length) 0).map V.int, rfl, rfl, by rw [upd_ne n13, upd_ne n12, upd_same], upd_same, szs _ (by rw [List.length_map, List.length_map, List.length_replicate]; omega), fun o no => ?_⟩
    rw [← List.map_append]
    show _
    have sm3 := (s1.trans s2).trans (same_new (o := .lst ((List.replicate (lower.length - figures.length) 0).map V.int)) n3)
    have noH : H o = none := sm3.free no
    have sm4 := same_put' (o := HO.lst (((rem0 lower figures)).map V.int)) sm3 no
    have L0 := rem0_length lower figures
    have L1 : (rem0 lower figures).length ≤ 400 := by
      unfold rem0
      rw [List.length_append, List.length_replicate]
      omega
    -- for at in range(..)
    refine ⟨_, rfl, o, (rem0 lower figures).map V.int, rfl, .inl (.inl (.inl upd_same)), _, _, rfl, rfl, _, rfl, _, _, rfl, rfl, _, rfl, _, _, _, _, rfl, RgC.neg (by rw [List.length_map]; omega) (by rw [List.length_map]; omega) (by omega) (by omega), ?_⟩
    have eT : ((((rem0 lower figures).map V.int).length : Int) - 1 - ((lower.length : Int) - 1)).toNat = (rem0 lower figures).length - lower.length := by
      rw [List.length_map]
      omega
    refine for_rangeC (fun i σ H' => ∃ (row : List Int) (y5 y6 y7 y8 : Option V), σ = [some (.int p), some (.ref la), some (.ref fa), some (.int (lower.length : Int)), some (.ref o), y5, y6, y7, y8] ∧ Same H H' ∧ H' o = some (.lst (row.map V.int)) ∧ row.length = (rem0 lower figures).length ∧ Bd p row ∧
      remLoop p lower lower.length ((rem0 lower figures).length - lower.length - i) row = remLoop p lower lower.length ((rem0 lower figures).length - lower.length) (rem0 lower figures))
      ⟨rem0 lower figures, none, none, none, none, rfl, sm4, upd_same, rfl, bd_append bf (bd_rep hp _), rfl⟩ ?_ ?_
    · rintro i σ H' hi ⟨row, y5, y6, y7, y8, rfl, sm, ho, hlr, hb, e⟩
      rw [eT] at hi
      obtain ⟨m, hm⟩ : ∃ m, (rem0 lower figures).length - lower.length - i = m + 1 := ⟨(rem0 lower figures).length - lower.length - i - 1, by omega⟩
      rw [hm] at e
      have eat : (((rem0 lower figures).map V.int).length : Int) - 1 + (i : Int) * -1 = ((lower.length + m : Nat) : Int) := by
        rw [List.length_map]
        omega
      show _
      rw [eat]
      have hlm : lower.length + m < row.length := by omega
      have btop := bd_getD hp hb (lower.length + m)
      -- top = row[at]
      refine ⟨_, rfl, _, rfl, o, row.map V.int, _, _, rfl, rfl, .inl (.inl ho), at_ints rfl hlm, ?_⟩
      -- for place, part in enumerate(lower)
      have hk := sqS_same sm hk0
      refine ⟨_, rfl, ⟨k, la⟩, lower.map V.int, rfl, hk, for_enumS (K := K) (r := ⟨k, la⟩) (xs := lower.map V.int) (fun j σ H'' => ∃ (row' : List Int) (y7 y8 : Option V), σ = [some (.int p), some (.ref la), some (.ref fa), some (.int (lower.length : Int)), some (.ref o), some (.int ((lower.length + m : Nat) : Int)), some (.int (row.getD (lower.length + m) 0)), y7, y8] ∧
        Same H H'' ∧ SqS K H'' ⟨k, la⟩ (lower.map V.int) ∧ H'' o = some (.lst (row'.map V.int)) ∧ row'.length = row.length ∧ Bd p row' ∧ remTurn p (row.getD (lower.length + m) 0) (lower.drop j) (m + j) row' = remTurn p (row.getD (lower.length + m) 0) lower m row)
        ⟨row, y7, y8, rfl, sm, hk, ho, rfl, hb, rfl⟩ (fun j σ H'' _ h => by obtain ⟨_, _, _, _, _, h, _⟩ := h; exact h) ?_ ?_⟩
      · rintro j x T σ H'' hx ⟨row', z7, z8, rfl, sm', hk', ho', hlr', hb', e'⟩ hT
        obtain ⟨hj, rfl⟩ := get_int hx
        have nT : o ≠ T := ne_of_none ho' hT
        have eix : ((lower.length + m : Nat) : Int) - (lower.length : Int) + ((j : Nat) : Int) = ((m + j : Nat) : Int) := by omega
        have hmj : m + j < row'.length := by omega
        have hoT : (upd H'' T (.tup [.int ((j : Nat) : Int), .int (lower.getD j 0)])) o = some (.lst (row'.map V.int)) := by
          rw [upd_ne nT]
          exact ho'
        refine ⟨T, _, rfl, .inl (.inl upd_same), rfl, _, _, rfl, _, _, rfl, rfl, ?_⟩
        refine ⟨_, rfl, _, rfl, _, rfl, _, _, rfl, rfl, _, rfl, _, _, rfl, rfl, o, row'.map V.int, _, _, rfl, rfl, .inl (.inl hoT), at_ints eix hmj, _, rfl, _, rfl, _, _, rfl, rfl, .inl ⟨by omega, by omega⟩, _, _, rfl, rfl, _, rfl, _, _, rfl, rfl, hp,
          _, rfl, _, rfl, _, rfl, _, _, rfl, rfl, _, rfl, _, _, rfl, rfl, o, row'.map V.int, _, m + j, rfl, rfl, hoT, ixN_of eix (by rw [List.length_map]; exact hmj), ?_⟩
        refine ⟨row'.set (m + j) ((row'.getD (m + j) 0 - row.getD (lower.length + m) 0 * lower.getD j 0) % p), _, _, rfl, same_put (same_put' sm' hT) noH, ?_, by rw [upd_same, map_set], by rw [List.length_set]; exact hlr', bd_set hb' _ (mod_bd hp _), ?_⟩
        · exact sqS_same (same_put (same_put' sm' hT) noH) hk0
        · rw [drop_at hj] at e'
          exact e'
      · rintro σ H'' ⟨row', z7, z8, rfl, sm', hk', ho', hlr', hb', e'⟩
        rw [List.length_map, List.drop_length] at e'
        have er : row' = remTurn p (row.getD (lower.length + m) 0) lower m row := e'
        refine ⟨row', _, _, _, _, rfl, sm', ho', by omega, hb', ?_⟩
        rw [er, show (rem0 lower figures).length - lower.length - (i + 1) = m by omega]
        exact e
    · rintro σ H' ⟨row, y5, y6, y7, y8, rfl, sm, ho, hlr, hb, e⟩
      rw [eT, Nat.sub_self] at e
      have er : row = remLoop p lower lower.length ((rem0 lower figures).length - lower.length) (rem0 lower figures) := e
      refine ⟨_, rfl, _, rfl, _, rfl, o, row.map V.int, rfl, .inl (.inl ho), fun r nr => ?_⟩
      have eC : cutV (row.map V.int) none (some ((lower.length : Nat) : Int)) = (rem p lower figures).map V.int := by
        rw [cut_to, ← List.map_take, er]
        rfl
      rw [eC]
      exact q _ r (same_put' sm nr) (sm.free nr) upd_same
end
end Ms
namespace Ms
open PySem PySem.Spec PyProof.Rows L2
theorem raiseF_done {p t : Int} {lower fo fi : List Int} (ht : ¬ 0 < t) : ∀ m, raiseF p lower m t fo fi = fo
  | 0 => rfl
  | m + 1 => by
    unfold raiseF
    rw [if_neg ht]
theorem szl {n : Nat} (h : n ≤ 1000) : n ≤ sizeLine := Nat.le_of_lt (small h)
section
variable {P : Program} {w : World} {K : PySem.W.Frag} {mg : Str → Option Value} {base : Heap}
/-! ### multiplied -/
abbrev sMul : Stmt := topS 18
theorem scMul : FnScope ["prime", "one", "other", "found", "at", "part", "place", "far"] ["prime", "one", "other"] (defScope sMul) := ⟨rfl, rfl, rfl, by decide +kernel, rfl, by decide +kernel, by decide +kernel⟩
def spMul (K : PySem.W.Frag) : Sp := fun vs H Q _ => ∃ (p : Int) (a b : Addr) (xs ys : List Int), vs = [.int p, .ref a, .ref b] ∧ (2 ≤ p ∧ p < 1000) ∧ (Sq K H a xs ∧ Sq K H b ys) ∧ (xs.length ≤ 100 ∧ ys.length ≤ 100) ∧ Bd p xs ∧ NewL H (mulP p xs ys) Q
theorem ok_mul (D : DefF K mg "multiplied" sMul) (ml : mg "len" = none) (me : mg "enumerate" = none) : Cal P w K mg base 1 "multiplied" (spMul K) [] := by
  refine D.cal scMul (fun _ _ _ _ _ _ us hl => match us, hl with | [_, _, _], _ => rfl) (fun vs H Q E h => ?_) (fun f cdv A outer s H vs Q E hr h => ?_)
  · obtain ⟨p, a, b, xs, ys, rfl, _⟩ := h
    rfl
  · obtain ⟨p, a, b, xs, ys, rfl, ⟨p2, p1⟩, ⟨hx, hy⟩, ⟨lx, ly⟩, bx, q⟩ := h
    refine ⟨_, pss_cons (ps_set (i := 3) scMul.nd rfl (.inl rfl) (pe_op op_rep (pe_lst (pa_cons pe_int pa_nil)) (pe_op op_sub (pe_op op_add (pe_callB call_len_seq (by rfl) ml PySem.boot_len (pa_cons (pv 1) pa_nil)) (pe_callB call_len_seq (by rfl) ml PySem.boot_len (pa_cons (pv 2) pa_nil))) pe_int)))
      (pss_cons (ps_for PassesOwn.never rfl (pi_enumS me (pa_cons (pv 1) pa_nil)) (pg_tup (by rfl) (pgs_cons (pg_name (i := 4) scMul.nd rfl (.inl rfl)) (pgs_cons (pg_name (i := 5) scMul.nd rfl (.inl rfl)) pgs_nil)))
        (pss_one (ps_for PassesOwn.never rfl (pi_enumS me (pa_cons (pv 2) pa_nil)) (pg_tup (by rfl) (pgs_cons (pg_name (i := 6) scMul.nd rfl (.inl rfl)) (pgs_cons (pg_name (i := 7) scMul.nd rfl (.inl rfl)) pgs_nil)))
          (pss_one (ps_asg (pe_op op_mod (pe_op op_add (pe_ix ix_list (pv 3) (pe_op op_add (pv 4) (pv 6)) (fun _ _ => rfl)) (pe_op op_mul (pv 5) (pv 7))) (pv 0)) (pg_sub (pv 3) (pe_op op_add (pv 4) (pv 6)) set_list))))))
      (pss_one (ps_ret (pv 3)))), ?_⟩
    have hp : 0 < p := by omega
    obtain ⟨kx, hx0⟩ := sq_sr hx
    obtain ⟨ky, hy0⟩ := sq_sr hy
    -- found = [0] * ..
    refine ⟨szl (by decide : 1 ≤ 1000), fun o1 n1 => ⟨_, rfl, a, xs.map V.int, rfl, hx.same (same_new n1), _, rfl, b, ys.map V.int, rfl, hy.same (same_new n1), _, _, rfl, rfl, _, _, rfl, rfl, ?_⟩⟩
    have eN : (((xs.map V.int).length : Int) + ((ys.map V.int).length : Int) - 1).toNat = xs.length + ys.length - 1 := by
      rw [List.length_map, List.length_map]
      omega
    refine ⟨o1, _, [.int 0], rfl, rfl, upd_same, by rw [List.length_map, List.length_map]; omega, by rw [List.length_map, List.length_map]; omega, by rw [eN]; exact szl (by show 1 * (xs.length + ys.length - 1) ≤ 1000; omega), fun o no => ?_⟩
    rw [eN, rep_flat, rep_ints]
    have s1 : Same H (upd H o1 (.lst [.int 0])) := same_new n1
    have noH : H o = none := s1.free no
    have sm0 := same_put' (o := HO.lst ((List.replicate (xs.length + ys.length - 1) (0 : Int)).map V.int)) s1 no
    -- for at, part in enumerate(one)
    refine ⟨_, rfl, ⟨kx, a⟩, xs.map V.int, rfl, sqS_same sm0 hx0, for_enumS (K := K) (r := ⟨kx, a⟩) (xs := xs.map V.int) (fun i σ H' => ∃ (fo : List Int) (y4 y5 y6 y7 : Option V), σ = [some (.int p), some (.ref a), some (.ref b), some (.ref o), y4, y5, y6, y7] ∧ Same H H' ∧ H' o = some (.lst (fo.map V.int)) ∧ fo.length = xs.length + ys.length - 1 ∧
      mulLoop p ys (xs.drop i) i fo = mulP p xs ys) ⟨_, none, none, none, none, rfl, sm0, upd_same, List.length_replicate, rfl⟩ (fun j σ H'' _ h => by obtain ⟨_, _, _, _, _, _, h, _⟩ := h; exact sqS_same h hx0) ?_ ?_⟩
    · rintro i x T σ H' hxi ⟨fo, y4, y5, y6, y7, rfl, sm, ho, hlo, e⟩ hT
      obtain ⟨hi, rfl⟩ := get_int hxi
      have nT : o ≠ T := ne_of_none ho hT
      have smT := same_put' (o := HO.tup [.int ((i : Nat) : Int), .int (xs.getD i 0)]) sm hT
      have bpart := bd_getD hp bx i
      refine ⟨T, _, rfl, .inl (.inl upd_same), rfl, _, _, rfl, _, _, rfl, rfl, ?_⟩
      -- for place, far in enumerate(other)
      refine ⟨_, rfl, ⟨ky, b⟩, ys.map V.int, rfl, sqS_same smT hy0, for_enumS (K := K) (r := ⟨ky, b⟩) (xs := ys.map V.int) (fun j σ H'' => ∃ (fo' : List Int) (y6 y7 : Option V), σ = [some (.int p), some (.ref a), some (.ref b), some (.ref o), some (.int ((i : Nat) : Int)), some (.int (xs.getD i 0)), y6, y7] ∧
        Same H H'' ∧ H'' o = some (.lst (fo'.map V.int)) ∧ fo'.length = fo.length ∧ mulRow p (xs.getD i 0) (ys.drop j) (i + j) fo' = mulRow p (xs.getD i 0) ys i fo)
        ⟨fo, y6, y7, rfl, smT, by rw [upd_ne nT]; exact ho, rfl, rfl⟩ (fun j σ H'' _ h => by obtain ⟨_, _, _, _, h, _⟩ := h; exact sqS_same h hy0) ?_ ?_⟩
      · rintro j y T2 σ H'' hyj ⟨fo', z6, z7, rfl, sm', ho', hlo', e'⟩ hT2
        obtain ⟨hj, rfl⟩ := get_int hyj
        have nT2 : o ≠ T2 := ne_of_none ho' hT2
        have eix : ((i : Nat) : Int) + ((j : Nat) : Int) = ((i + j : Nat) : Int) := by omega
        have hij : i + j < fo'.length := by omega
        have hoT : (upd H'' T2 (.tup [.int ((j : Nat) : Int), .int (ys.getD j 0)])) o = some (.lst (fo'.map V.int)) := by
          rw [upd_ne nT2]
          exact ho'
        refine ⟨T2, _, rfl, .inl (.inl upd_same), rfl, _, _, rfl, _, _, rfl, rfl, ?_⟩
        refine ⟨_, rfl, _, rfl, _, rfl, _, _, rfl, rfl, o, fo'.map V.int, _, _, rfl, rfl, .inl (.inl hoT), at_ints eix hij, _, rfl, _, rfl, _, _, rfl, rfl, .inl ⟨by omega, by omega⟩, _, _, rfl, rfl, _, rfl, _, _, rfl, rfl, hp,
          _, rfl, _, rfl, _, rfl, _, _, rfl, rfl, o, fo'.map V.int, _, i + j, rfl, rfl, hoT, ixN_of eix (by rw [List.length_map]; exact hij), ?_⟩
        refine ⟨fo'.set (i + j) ((fo'.getD (i + j) 0 + xs.getD i 0 * ys.getD j 0) % p), _, _, rfl, same_put (same_put' sm' hT2) noH, by rw [upd_same, map_set], by rw [List.length_set]; exact hlo', ?_⟩
        rw [drop_at hj] at e'
        exact e'
      · rintro σ H'' ⟨fo', z6, z7, rfl, sm', ho', hlo', e'⟩
        rw [List.length_map, List.drop_length] at e'
        have er : fo' = mulRow p (xs.getD i 0) ys i fo := e'
        refine ⟨fo', _, _, _, _, rfl, sm', ho', by omega, ?_⟩
        rw [drop_at hi] at e
        rw [er]
        exact e
    · rintro σ H' ⟨fo, y4, y5, y6, y7, rfl, sm, ho, hlo, e⟩
      rw [List.length_map, List.drop_length] at e
      have er : fo = mulP p xs ys := e
      rw [er] at ho
      exact ⟨_, rfl, q H' o sm noH ho⟩
/-! ### raised -/
abbrev sRaise : Stmt := topS 19
theorem scRaise : FnScope ["prime", "lower", "figures", "times", "found"] ["prime", "lower", "figures", "times"] (defScope sRaise) := ⟨rfl, rfl, rfl, by decide +kernel, rfl, by decide +kernel, by decide +kernel⟩
def spRaise (K : PySem.W.Frag) : Sp := fun vs H Q _ => ∃ (p : Int) (la fa : Addr) (lower fi : List Int) (t : Int), vs = [.int p, .ref la, .ref fa, .int t] ∧ (2 ≤ p ∧ p < 1000) ∧ (Sq K H la lower ∧ Sq K H fa fi) ∧ (lower.length ≤ 100 ∧ fi.length ≤ 100) ∧ Bd p lower ∧ Bd p fi ∧ (0 ≤ t ∧ t < 2 ^ 12) ∧ NewL H (raised p lower fi t) Q
theorem ok_raise (D : DefF K mg "raised" sRaise) (CR : Cal P w K mg base 1 "remainder" (spRem K) []) (CM : Cal P w K mg base 1 "multiplied" (spMul K) []) : Cal P w K mg base 2 "raised" (spRaise K) [] := by
  refine D.cal scRaise (fun _ _ _ _ _ _ us hl => match us, hl with | [_, _, _, _], _ => rfl) (fun vs H Q E h => ?_) (fun f cdv A outer s H vs Q E hr h => ?_)
  · obtain ⟨p, la, fa, lower, fi, t, rfl, _⟩ := h
    rfl
  · obtain ⟨p, la, fa, lower, fi, t, rfl, ⟨p2, p1⟩, ⟨hl, hf⟩, ⟨l1, l2⟩, bl, bf, ⟨t0, t1⟩, q⟩ := h
    refine ⟨_, pss_cons (ps_set (i := 4) scRaise.nd rfl (.inl rfl) (pc CR hr (pa_cons (pv 0) (pa_cons (pv 1) (pa_cons (pe_lst (pa_cons pe_int pa_nil)) pa_nil)))))
      (pss_cons (ps_while PassesOwn.never (pt_cmpR op_gt (pv 3) pe_int (nomark _))
        (pss_cons (ps_if (pt_cmpR op_eq (pe_op op_mod (pv 3) pe_int) pe_int (nomark _)) (pss_one (ps_set (i := 4) scRaise.nd rfl (.inl rfl) (pc CR hr (pa_cons (pv 0) (pa_cons (pv 1) (pa_cons (pc CM hr (pa_cons (pv 0) (pa_cons (pv 4) (pa_cons (pv 2) pa_nil)))) pa_nil)))))) pss_nil)
        (pss_cons (ps_set (i := 2) scRaise.nd rfl (.inl rfl) (pc CR hr (pa_cons (pv 0) (pa_cons (pv 1) (pa_cons (pc CM hr (pa_cons (pv 0) (pa_cons (pv 2) (pa_cons (pv 2) pa_nil)))) pa_nil)))))
        (pss_one (ps_aug (i := 3) scRaise.nd rfl (.inl rfl) pe_int iop_fdiv)))))
      (pss_one (ps_ret (pv 4)))), ?_⟩
    have hp : 0 < p := by omega
    -- found = remainder(prime, lower, [1])
    refine ⟨_, rfl, _, rfl, szl (by decide : 1 ≤ 1000), fun o1 n1 => ⟨p, la, o1, lower, [1], rfl, ⟨p2, p1⟩, ⟨hl.same (same_new n1), sqL upd_same⟩, ⟨l1, by decide⟩, bl, bd_one (by omega), fun H1 a1 s1 na e1 => ?_⟩⟩
    have sm1 : Same H H1 := (same_new n1).trans s1
    have na1 : H a1 = none := (same_new (o := HO.lst [.int 1]) n1).free na
    refine ⟨fun m σ H' => ∃ (a b : Addr) (fo fi' : List Int) (t' : Int), σ = [some (.int p), some (.ref la), some (.ref b), some (.int t'), some (.ref a)] ∧ Same H H' ∧ H a = none ∧ H' a = some (.lst (fo.map V.int)) ∧ Sq K H' b fi' ∧ (fo.length ≤ 100 ∧ fi'.length ≤ 100) ∧ Bd p fo ∧ Bd p fi' ∧ (0 ≤ t' ∧ t' < 2 ^ m) ∧ raiseF p lower m t' fo fi' = raised p lower fi t,
      ⟨12, a1, fa, _, fi, t, rfl, sm1, na1, e1, hf.same sm1, ⟨by rw [rem_length]; exact l1, l2⟩, bd_rem hp lower (bd_one (by omega)), bf, ⟨t0, t1⟩, rfl⟩, ?_⟩
    rintro m σ H' ⟨a, b, fo, fi', t', rfl, sm, na', ha, hb, ⟨lf, lg⟩, bfo, bfi, ⟨t0', t1'⟩, e⟩
    refine ⟨_, rfl, _, _, rfl, rfl, _, rfl, ite2 (fun c => ?_) (fun c => ?_)⟩
    · have tp : 0 < t' := dtrue c
      cases m with
      | zero => exact absurd tp (zero_of t0' t1')
      | succ m =>
        have ht := half_lt (p := 2) (by decide) t0' t1'
        unfold raiseF at e
        rw [if_pos tp] at e
        refine ⟨fun σ' H'' => ∃ (a b : Addr) (fo2 fi2 : List Int), (raiseF p lower m (t' / 2) fo2 fi2 = raised p lower fi t ∧ (fo2.length ≤ 100 ∧ fi2.length ≤ 100) ∧ Bd p fo2 ∧ Bd p fi2) ∧ σ' = [some (.int p), some (.ref la), some (.ref b), some (.int (t' / 2)), some (.ref a)] ∧ Same H H'' ∧ H a = none ∧ H'' a = some (.lst (fo2.map V.int)) ∧ Sq K H'' b fi2, fun σ' H'' hN => ?_, ?_⟩
        · obtain ⟨a2, b2, fo2, fi2, ⟨e2, le2, b1, b2'⟩, rfl, sm2, na2, ha2, hb2⟩ := hN
          exact ⟨m, Nat.lt_succ_self m, a2, b2, fo2, fi2, _, rfl, sm2, na2, ha2, hb2, le2, b1, b2', ht, e2⟩
        · have len2 : (mulP p fi' fi').length ≤ 300 := by rw [mulP_length]; omega
          have len1 : (mulP p fo fi').length ≤ 300 := by rw [mulP_length]; omega
          refine ⟨_, rfl, _, _, rfl, rfl, (by show (0 : Int) < 2; decide), rfl, _, rfl, ite2 (fun d => ?_) (fun d => ?_)⟩
          · rw [if_pos (V.int.inj (dtrue d))] at e
            refine ⟨_, rfl, _, rfl, _, rfl, _, rfl, _, rfl, p, a, b, fo, fi', rfl, ⟨p2, p1⟩, ⟨sqL ha, hb⟩, ⟨lf, lg⟩, bfo, fun H2 m2 s2 nm em => ?_⟩
            refine ⟨p, la, m2, lower, _, rfl, ⟨p2, p1⟩, ⟨(hl.same sm).same s2, sqL em⟩, ⟨l1, len1⟩, bl, bd_mulP hp _ _, fun H3 a3 s3 n3 e3 => ?_⟩
            have sm3 := (sm.trans s2).trans s3
            refine ⟨_, rfl, _, rfl, _, rfl, _, rfl, _, rfl, p, b, b, fi', fi', rfl, ⟨p2, p1⟩, ⟨(hb.same s2).same s3, (hb.same s2).same s3⟩, ⟨lg, lg⟩, bfi, fun H4 m4 s4 nm4 em4 => ?_⟩
            refine ⟨p, la, m4, lower, _, rfl, ⟨p2, p1⟩, ⟨((hl.same sm3)).same s4, sqL em4⟩, ⟨l1, len2⟩, bl, bd_mulP hp _ _, fun H5 a5 s5 n5 e5 => ?_⟩
            refine ⟨_, rfl, _, _, rfl, rfl, ⟨by decide, by decide⟩, a3, a5, _, _, ⟨e, ⟨by rw [rem_length]; exact l1, by rw [rem_length]; exact l1⟩, bd_rem hp _ (bd_mulP hp _ _), bd_rem hp _ (bd_mulP hp _ _)⟩, rfl, (sm3.trans s4).trans s5, (sm.trans s2).free n3, s5 _ _ (s4 _ _ e3), sqL e5⟩
          · rw [if_neg (fun q => d (decide_eq_true (congrArg V.int q)))] at e
            refine ⟨_, rfl, _, rfl, _, rfl, _, rfl, _, rfl, p, b, b, fi', fi', rfl, ⟨p2, p1⟩, ⟨hb, hb⟩, ⟨lg, lg⟩, bfi, fun H4 m4 s4 nm4 em4 => ?_⟩
            refine ⟨p, la, m4, lower, _, rfl, ⟨p2, p1⟩, ⟨(hl.same sm).same s4, sqL em4⟩, ⟨l1, len2⟩, bl, bd_mulP hp _ _, fun H5 a5 s5 n5 e5 => ?_⟩
            refine ⟨_, rfl, _, _, rfl, rfl, ⟨by decide, by decide⟩, a, a5, _, _, ⟨e, ⟨lf, by rw [rem_length]; exact l1⟩, bfo, bd_rem hp _ (bd_mulP hp _ _)⟩, rfl, (sm.trans s4).trans s5, na', s5 _ _ (s4 _ _ ha), sqL e5⟩
    · refine ⟨_, rfl, ?_⟩
      rw [raiseF_done (dfalse c)] at e
      rw [e] at ha
      exact q H' a sm na' ha
/-! ### trimmed -/
abbrev sTrim : Stmt := topS 20
theorem scTrim : FnScope ["figures", "many"] ["figures"] (defScope sTrim) := ⟨rfl, rfl, rfl, by decide +kernel, rfl, by decide +kernel, by decide +kernel⟩
def spTrim (K : PySem.W.Frag) : Sp := fun vs H Q _ => ∃ (a : Addr) (xs : List Int), vs = [.ref a] ∧ SqL K H a (xs.map V.int) ∧ xs.length ≤ 1000 ∧ NewL H (trim xs) Q
theorem ok_trim (D : DefF K mg "trimmed" sTrim) (ml : mg "len" = none) (mli : mg "list" = none) : Cal P w K mg base 1 "trimmed" (spTrim K) [] := by
  refine D.cal scTrim (fun _ _ _ _ _ _ us hl => match us, hl with | [_], _ => rfl) (fun vs H Q E h => ?_) (fun f cdv A outer s H vs Q E hr h => ?_)
  · obtain ⟨a, xs, rfl, _⟩ := h
    rfl
  · obtain ⟨a, xs, rfl, hS, hl, q⟩ := h
    refine ⟨_, pss_cons (ps_set (i := 1) scTrim.nd rfl (.inl rfl) (pe_callB call_len_seq (by rfl) ml PySem.boot_len (pa_cons (pv 0) pa_nil)))
      (pss_cons (ps_while PassesOwn.never (PW.pt (pw_and (pt_cmpR op_gt (pv 1) pe_int (nomark _)) (pw_and1 (pt_cmpR op_eq (pe_ix ix_list (pv 0) (pe_op op_sub (pv 1) pe_int) (fun _ _ => rfl)) pe_int (nomark _)))))
        (pss_one (ps_aug (i := 1) scTrim.nd rfl (.inl rfl) pe_int ip_sub)))
      (pss_one (ps_ret (pe_callTy call_list_of (by rfl) mli (by decide +kernel) (pa_cons (pe_slice sl_list (pv 0) po_none (po_some (pv 1))) pa_nil))))), ?_⟩
    refine ⟨_, rfl, a, _, rfl, .inl hS, fun m σ H' => ∃ n : Nat, σ = [some (.ref a), some (.int (n : Int))] ∧ H' = H ∧ n ≤ xs.length ∧ m = n ∧ trimN xs n = trimN xs xs.length, ⟨_, xs.length, by rw [List.length_map]; rfl, rfl, Nat.le_refl _, rfl, rfl⟩, ?_⟩
    rintro m σ H' ⟨n, rfl, rfl, hn, rfl, e⟩
    have done_ : trimN xs m = m → tRet (tCB (fun xs H Q => ∃ p ys, xs = [.ref p] ∧ (SqL K H p ys ∨ SqT K H p ys) ∧ ∀ l, H l = none → Q (.ref l) (upd H l (.lst ys))) (tCons (tSl (rSlL K) (tVar 0) tNoPart (tPart (tVar 1))) tNil)) { nx := fun _ H' => Q .non H', rt := Q } [some (.ref a), some (.int (m : Int))] H' := fun et => by
      refine ⟨_, rfl, _, rfl, _, rfl, a, _, rfl, hS, fun p np => ?_⟩
      refine ⟨p, _, rfl, .inl (.inl (.inl upd_same)), fun l nl => ?_⟩
      have eC : cutV (xs.map V.int) none (some ((m : Nat) : Int)) = (trim xs).map V.int := by
        rw [cut_to, ← List.map_take]
        unfold trim
        rw [← e, et]
      rw [eC] at nl ⊢
      exact q _ l (same_put' (same_new np) nl) ((same_new (o := HO.lst _) np).free nl) upd_same
    refine ⟨_, rfl, _, _, rfl, rfl, _, rfl, ite2 (fun c => ?_) (fun c => ?_)⟩
    · obtain ⟨k, rfl⟩ : ∃ k, m = k + 1 := ⟨m - 1, by have : (0 : Int) < (m : Int) := dtrue c; omega⟩
      have hk : k < xs.length := by omega
      refine ⟨_, rfl, _, rfl, _, _, rfl, rfl, a, _, _, _, rfl, rfl, hS, at_ints (j := k) (by omega) hk, rfl, _, rfl, ite2 (fun d => ?_) (fun d => ?_)⟩
      · refine ⟨fun σ' H'' => σ' = [some (.ref a), some (.int (k : Int))] ∧ H'' = H', fun σ' H'' hN => ?_, ?_⟩
        · obtain ⟨rfl, rfl⟩ := hN
          refine ⟨k, Nat.lt_succ_self k, k, rfl, rfl, by omega, rfl, ?_⟩
          have e2 : trimN xs (k + 1) = trimN xs k := if_pos (V.int.inj (dtrue d))
          exact e2.symm.trans e
        · refine ⟨_, rfl, _, _, rfl, rfl, ?_, rfl⟩
          have e1 : ((k + 1 : Nat) : Int) - 1 = (k : Int) := by omega
          show [some (V.ref a), some (V.int (((k + 1 : Nat) : Int) - 1))] = _
          rw [e1]
      · refine done_ ?_
        unfold trimN
        rw [if_neg (fun q => d (decide_eq_true (congrArg V.int q)))]
    · refine done_ ?_
      have : ¬ (0 : Int) < (m : Int) := dfalse c
      have e0 : m = 0 := by omega
      rw [e0]
      rfl
end
end Ms
namespace Ms
open PySem PySem.Spec PyProof.Rows L2
theorem last_split {s : List Int} (h : s ≠ []) : s = s.dropLast ++ [s.getLastD 0] := by
  have e := (List.dropLast_concat_getLast h).symm
  have e2 : s.getLastD 0 = s.getLast h := by
    cases s with
    | nil => exact absurd rfl h
    | cons a r => rfl
  rw [e2]
  exact e
theorem at_last {s : List Int} (h : s ≠ []) : atI (s.map V.int) (-1) = some (.int (s.getLastD 0)) := by
  have e := last_split h
  have e2 : s.map V.int = s.dropLast.map V.int ++ [.int (s.getLastD 0)] := by
    have := congrArg (List.map V.int) e
    rw [List.map_append] at this
    exact this
  rw [e2]
  exact atI_last _ _
theorem cut_last (s : List Int) : cutV (s.map V.int) none (some (-1)) = s.dropLast.map V.int := by
  unfold cutV
  have e : HT.sIx (s.map V.int).length (s.map V.int).length (some (-1)) = s.length - 1 := by
    show (if (-1 : Int) < 0 then (-1 + ((s.map V.int).length : Int)).toNat else min (-1 : Int).toNat (s.map V.int).length) = _
    rw [if_pos (by decide), List.length_map]
    omega
  rw [e, HT.sIx_none, List.drop_zero, Nat.sub_zero, List.dropLast_eq_take, List.map_take]
theorem map_take_snoc {al : Type} (g : Int → al) {xs : List Int} {i : Nat} (h : i < xs.length) : (xs.take i).map g ++ [g (xs.getD i 0)] = (xs.take (i + 1)).map g := by
  rw [List.take_add_one, List.map_append, List.getD_eq_getElem?_getD, List.getElem?_eq_getElem h]
  rfl
theorem bd_dropLast {p : Int} {xs : List Int} (h : Bd p xs) : Bd p xs.dropLast := by
  rw [List.dropLast_eq_take]
  exact bd_take h _
theorem last_bd {p : Int} {s : List Int} (h : s ≠ []) (b : Bd p s) : 0 ≤ s.getLastD 0 ∧ s.getLastD 0 < p := by
  refine b _ ?_
  have e := last_split h
  rw [e]
  simp
section
variable {P : Program} {w : World} {K : PySem.W.Frag} {mg : Str → Option Value} {base : Heap}
/-! ### have_common -/
abbrev sHc : Stmt := topS 21
abbrev nHc : List Str := ["prime", "one", "other", "first", "second", "lead", "lower", "part"]
theorem scHc : FnScope nHc ["prime", "one", "other"] (defScope sHc) := ⟨rfl, rfl, rfl, by decide +kernel, rfl, by decide +kernel, by decide +kernel⟩
def spHc (K : PySem.W.Frag) : Sp := fun vs H Q _ => ∃ (p : Int) (a b : Addr) (xs ys : List Int), vs = [.int p, .ref a, .ref b] ∧ (2 ≤ p ∧ p < 1000) ∧ (SqL K H a (xs.map V.int) ∧ SqL K H b (ys.map V.int)) ∧ (xs.length ≤ 100 ∧ ys.length ≤ 100) ∧ Bd p xs ∧ Bd p ys ∧ NewB H (haveCommon p xs ys) Q
theorem ok_hc (D : DefF K mg "have_common" sHc) (ml : mg "len" = none) (CT : Cal P w K mg base 1 "trimmed" (spTrim K) []) (CU : Cal P w K mg base 1 "turned_round" spTurn []) (CR : Cal P w K mg base 1 "remainder" (spRem K) []) : Cal P w K mg base 2 "have_common" (spHc K) [] := by
  refine D.cal scHc (fun _ _ _ _ _ _ us hl => match us, hl with | [_, _, _], _ => rfl) (fun vs H Q E h => ?_) (fun f cdv A outer s H vs Q E hr h => ?_)
  · obtain ⟨p, a, b, xs, ys, rfl, _⟩ := h
    rfl
  · obtain ⟨p, a, b, xs, ys, rfl, ⟨p2, p1⟩, ⟨hx, hy⟩, ⟨lx, ly⟩, bx, bY, q⟩ := h
    refine ⟨_, pss_cons (ps_set (i := 3) scHc.nd rfl (.inl rfl) (pc CT hr (pa_cons (pv 1) pa_nil)))
      (pss_cons (ps_set (i := 4) scHc.nd rfl (.inl rfl) (pc CT hr (pa_cons (pv 2) pa_nil)))
      (pss_cons (ps_while PassesOwn.never (pt_truth (pv 4) (by intro _; rfl))
        (pss_cons (ps_set (i := 5) scHc.nd rfl (.inr rfl) (pc CU hr (pa_cons (pv 0) (pa_cons (pe_ix ix_list (pv 4) (pe_un un_neg pe_int) (fun _ _ => rfl)) pa_nil))))
        (pss_cons (ps_setLc (i := 6) (own := [("part", 7)]) (g := gName 7) (tt := tYes) rfl scHc.nd rfl rfl (sw_true rfl rfl rfl (by decide +kernel)) (pi_list (pe_slice sl_list (pv 4) po_none (po_some (pe_un un_neg pe_int))))
          (blkOk_by (N := nHc) (sc := defScope sHc) (by decide +kernel)) (fun _ _ _ _ _ => pg_name (i := 7) scHc.nd rfl (Or.inl rfl)) (fun _ _ _ _ _ => pts_nil) (fun _ _ _ _ _ => pe_op op_mod (pe_op op_mul (pv 7) (pv 5)) (pv 0)))
        (pss_one (ps_par (i := 3) (j := 4) rfl scHc.nd rfl rfl (by decide) rfl rfl (pa_cons (pv 4) (pa_cons (pc CT hr (pa_cons (pc CR hr (pa_cons (pv 0) (pa_cons (pv 6) (pa_cons (pv 3) pa_nil)))) pa_nil)) pa_nil)) (by rfl))))))
      (pss_one (ps_ret (pe_cmpR op_gt (pe_callB call_len_seq (by rfl) ml PySem.boot_len (pa_cons (pv 3) pa_nil)) pe_int (nomark _)))))), ?_⟩
    have hp : 0 < p := by omega
    -- first, second
    refine ⟨_, rfl, a, xs, rfl, hx, by omega, fun H1 a1 s1 n1 e1 => ?_⟩
    refine ⟨_, rfl, b, ys, rfl, s1.seq hy, by omega, fun H2 a2 s2 n2 e2 => ?_⟩
    refine ⟨fun m σ H' => ∃ (fa sa : Addr) (fs ss : List Int) (y5 y6 y7 : Option V), σ = [some (.int p), some (.ref a), some (.ref b), some (.ref fa), some (.ref sa), y5, y6, y7] ∧ Same H H' ∧ H' fa = some (.lst (fs.map V.int)) ∧ H' sa = some (.lst (ss.map V.int)) ∧ (fs.length ≤ 100 ∧ ss.length ≤ 100) ∧ ss.length ≤ m ∧ Bd p fs ∧ Bd p ss ∧
      hcF p m fs ss = hcF p (trim ys).length (trim xs) (trim ys), ⟨(trim ys).length, a1, a2, trim xs, trim ys, none, none, none, rfl, s1.trans s2, s2 _ _ e1, e2, ⟨Nat.le_trans (trim_length_le _) lx, Nat.le_trans (trim_length_le _) ly⟩, Nat.le_refl _, bd_trim bx, bd_trim bY, rfl⟩, ?_⟩
    rintro m σ H' ⟨fa, sa, fs, ss, y5, y6, y7, rfl, sm, hf, hs, ⟨lf, ls⟩, hm, bf, bs, e⟩
    refine ⟨_, rfl, !(ss.map V.int).isEmpty, .inl ⟨_, .inl (.inl hs), rfl⟩, ite2 (fun c => ?_) (fun c => ?_)⟩
    · have hne : ss ≠ [] := fun z => by
        rw [z] at c
        exact absurd c (by decide)
      cases m with
      | zero => exact absurd (List.length_eq_zero_iff.mp (Nat.le_zero.mp hm)) hne
      | succ m =>
        have e' : hcF p m ss (trim (rem p (scaled p ss) fs)) = hcF p (trim ys).length (trim xs) (trim ys) := by
          rw [← e]
          exact (if_neg hne).symm
        refine ⟨fun σ' H'' => ∃ (sa2 : Addr) (y5 y6 y7 : Option V), σ' = [some (.int p), some (.ref a), some (.ref b), some (.ref sa), some (.ref sa2), y5, y6, y7] ∧ Same H H'' ∧ H'' sa = some (.lst (ss.map V.int)) ∧ H'' sa2 = some (.lst ((trim (rem p (scaled p ss) fs)).map V.int)), fun σ' H'' hN => ?_, ?_⟩
        · obtain ⟨sa2, z5, z6, z7, rfl, sm2, h1, h2⟩ := hN
          have l3 : (trim (rem p (scaled p ss) fs)).length ≤ ss.length - 1 := by
            refine Nat.le_trans (trim_length_le _) ?_
            rw [rem_length, scaled_length]
            exact Nat.le_refl _
          exact ⟨m, Nat.lt_succ_self m, sa, sa2, ss, _, z5, z6, z7, rfl, sm2, h1, h2, ⟨ls, by omega⟩, by omega, bs, bd_trim (bd_rem hp _ bf), e'⟩
        · -- lead = turned_round(prime, second[-1])
          have bl := last_bd hne bs
          have bt := turned_bd (p := p) (by omega) (ss.getLastD 0)
          refine ⟨_, rfl, _, rfl, 1, rfl, sa, _, -1, _, rfl, rfl, .inl (.inl hs), at_last hne, p, _, rfl, p2, p1, bl, ?_⟩
          -- lower = [..]
          refine ⟨_, rfl, 1, rfl, -1, rfl, sa, _, rfl, .inl (.inl hs), fun c nc => ?_⟩
          rw [cut_last]
          refine ⟨c, rfl, ⟨_, .inl (.inl upd_same)⟩, fun D nD => ?_⟩
          have sc := same_put' (o := HO.lst (ss.dropLast.map V.int)) sm nc
          have ncD : c ≠ D := ne_of_none upd_same nD
          have nDH : H D = none := sc.free nD
          refine lc_list (K := K) (a := c) (xs := ss.dropLast.map V.int) (fun i H'' => Same (upd H' c (.lst (ss.dropLast.map V.int))) H'' ∧ H'' D = some (.lst (((ss.dropLast.take i).map fun part => part * turned p (ss.getLastD 0) % p).map V.int)))
            ⟨same_new nD, upd_same⟩ (fun i H'' _ h => .inl (.inl (h.1 _ _ upd_same))) ?_ ?_
          · rintro i x H'' hxi ⟨s3, hD⟩
            obtain ⟨hi, rfl⟩ := get_int hxi
            have hb : 0 ≤ ss.dropLast.getD i 0 ∧ ss.dropLast.getD i 0 < p := bd_getD hp (bd_dropLast bs) i
            refine ⟨rfl, _, rfl, _, rfl, _, _, rfl, rfl, .inl ⟨by omega, by omega⟩, _, rfl, _, _, rfl, rfl, hp, _, hD, ?_, same_put s3 nD, ?_⟩
            · rw [List.length_map, List.length_map, List.length_take]
              exact small (Nat.le_trans (Nat.min_le_right _ _) (by rw [List.length_dropLast]; omega))
            · rw [upd_same, map_snoc]
              exact congrArg (fun l : List Int => some (HO.lst (l.map V.int))) (map_take_snoc (fun part => part * turned p (ss.getLastD 0) % p) hi)
          · rintro H'' ⟨s3, hD⟩
            rw [List.length_map, List.take_length] at hD
            have eD : H'' D = some (.lst ((scaled p ss).map V.int)) := hD
            have s4 := sc.trans s3
            have s5 : Same H' H'' := (same_new nc).trans s3
            -- first, second = second, trimmed(remainder(prime, lower, first))
            refine ⟨_, rfl, _, rfl, _, rfl, _, rfl, p, D, fa, scaled p ss, fs, rfl, ⟨p2, p1⟩, ⟨sqL eD, sqL (s5 _ _ hf)⟩, ⟨by rw [scaled_length]; omega, by omega⟩, bd_scaled hp ss, bf, fun H4 r4 s6 n6 e6 => ?_⟩
            refine ⟨r4, _, rfl, .inl (.inl e6), by rw [rem_length, scaled_length]; omega, fun H5 r5 s7 n7 e7 => ?_⟩
            exact ⟨_, _, rfl, r5, _, _, _, rfl, ((s4.trans s6).trans s7), s7 _ _ (s6 _ _ (s5 _ _ hs)), e7⟩
    · have hne : ss = [] := by
        cases ss with
        | nil => rfl
        | cons x r => exact absurd rfl c
      subst hne
      have ef : fs = hcF p (trim ys).length (trim xs) (trim ys) := by
        rw [← e]
        cases m with
        | zero => rfl
        | succ m => exact (if_pos rfl).symm
      refine ⟨_, rfl, fa, _, rfl, .inl (.inl (.inl hf)), _, _, rfl, rfl, ?_⟩
      have eB : decide ((1 : Int) < (((fs.map V.int).length : Nat) : Int)) = haveCommon p xs ys := by
        unfold haveCommon
        rw [← ef, List.length_map]
        by_cases h : 1 < fs.length
        · rw [decide_eq_true h, decide_eq_true (by omega)]
        · rw [decide_eq_false h, decide_eq_false (by omega)]
      show Q (.bl (decide ((1 : Int) < (((fs.map V.int).length : Nat) : Int)))) H'
      rw [eB]
      exact q H' sm
end
end Ms
namespace Ms
open PySem PySem.Spec PyProof.Rows L2
section
variable {P : Program} {w : World} {K : PySem.W.Frag} {mg : Str → Option Value} {base : Heap}
/-! ### is_irreducible -/
abbrev sIrr : Stmt := topS 23
theorem scIrr : FnScope ["prime", "lower", "degree", "figures", "_", "apart"] ["prime", "lower"] (defScope sIrr) := ⟨rfl, rfl, rfl, by decide +kernel, rfl, by decide +kernel, by decide +kernel⟩
def spIrr (K : PySem.W.Frag) : Sp := fun vs H Q _ => ∃ (p : Int) (la : Addr) (lower : List Int), vs = [.int p, .ref la] ∧ (2 ≤ p ∧ p < 1000) ∧ SqL K H la (lower.map V.int) ∧ lower.length ≤ 50 ∧ Bd p lower ∧ NewB H (irr p lower) Q
theorem ok_irr (D : DefF K mg "is_irreducible" sIrr) (ml : mg "len" = none) (mli : mg "list" = none) (mr : mg "range" = none) (CR : Cal P w K mg base 1 "remainder" (spRem K) []) (CP : Cal P w K mg base 2 "raised" (spRaise K) []) (CH : Cal P w K mg base 2 "have_common" (spHc K) []) :
    Cal P w K mg base 3 "is_irreducible" (spIrr K) [] := by
  refine D.cal scIrr (fun _ _ _ _ _ _ us hl => match us, hl with | [_, _], _ => rfl) (fun vs H Q E h => ?_) (fun f cdv A outer s H vs Q E hr h => ?_)
  · obtain ⟨p, la, lower, rfl, _⟩ := h
    rfl
  · obtain ⟨p, la, lower, rfl, ⟨p2, p1⟩, hl, ll, bl, q⟩ := h
    refine ⟨_, pss_cons (ps_set (i := 2) scIrr.nd rfl (.inl rfl) (pe_callB call_len_seq (by rfl) ml PySem.boot_len (pa_cons (pv 1) pa_nil)))
      (pss_cons (ps_set (i := 3) scIrr.nd rfl (.inl rfl) (pc CR hr (pa_cons (pv 0) (pa_cons (pv 1) (pa_cons (pe_lst (pa_cons pe_int (pa_cons pe_int pa_nil))) pa_nil)))))
      (pss_cons (ps_for PassesOwn.never rfl (pi_range1 rfl mr (pa_cons (pe_op op_fdiv (pv 2) pe_int) pa_nil)) (pg_name (i := 4) scIrr.nd rfl (.inl rfl))
        (pss_cons (ps_set (i := 3) scIrr.nd rfl (.inl rfl) (pc CP hr (pa_cons (pv 0) (pa_cons (pv 1) (pa_cons (pv 3) (pa_cons (pv 0) pa_nil))))))
        (pss_cons (ps_set (i := 5) scIrr.nd rfl (.inl rfl) (pe_callTy call_list_of (by rfl) mli (by decide +kernel) (pa_cons (pv 3) pa_nil)))
        (pss_cons (ps_asg (pe_op op_mod (pe_op op_sub (pe_ix ix_list (pv 5) pe_int (fun _ _ => rfl)) pe_int) (pv 0)) (pg_sub (pv 5) pe_int set_list))
        (pss_one (ps_if (pt_val (pc CH hr (pa_cons (pv 0) (pa_cons (pe_op op_cat (pe_callTy call_list_of (by rfl) mli (by decide +kernel) (pa_cons (pv 1) pa_nil)) (pe_lst (pa_cons pe_int pa_nil))) (pa_cons (pv 5) pa_nil))))) (pss_one (ps_ret pe_bl)) pss_nil))))))
      (pss_one (ps_ret pe_bl)))), ?_⟩
    have hp : 0 < p := by omega
    refine ⟨_, rfl, la, _, rfl, .inl hl, ?_⟩
    rw [List.length_map]
    refine ⟨_, rfl, _, rfl, szl (by decide : 2 ≤ 1000), fun o1 n1 => ⟨p, la, o1, lower, [0, 1], rfl, ⟨p2, p1⟩, ⟨.inl ((same_new n1).seq hl), sqL upd_same⟩, ⟨by omega, by decide⟩, bl, bd_cons ⟨by decide, hp⟩ (bd_one (by omega)), fun H1 a1 s1 na e1 => ?_⟩⟩
    have sm1 : Same H H1 := (same_new n1).trans s1
    have eH : ((lower.length : Int) / 2).toNat = lower.length / 2 := by omega
    refine ⟨_, rfl, _, _, rfl, rfl, ⟨by decide, by decide⟩, _, rfl, by omega, by omega, ?_⟩
    show _
    rw [eH]
    refine for_range (lo := 0) (n := lower.length / 2) (fun i σ H' => ∃ (fa : Addr) (fi : List Int) (y4 y5 : Option V), σ = [some (.int p), some (.ref la), some (.int (lower.length : Int)), some (.ref fa), y4, y5] ∧ Same H H' ∧ H' fa = some (.lst (fi.map V.int)) ∧ fi.length = lower.length ∧ Bd p fi ∧ irrF p lower (lower.length / 2 - i) fi = irr p lower)
      ⟨a1, _, none, none, rfl, sm1, e1, rem_length .., bd_rem hp _ (bd_cons ⟨by decide, hp⟩ (bd_one (by omega))), rfl⟩ ?_ ?_
    · rintro i σ H' hi ⟨fa, fi, y4, y5, rfl, sm, hf, lf, bf, e⟩
      obtain ⟨m, hm⟩ : ∃ m, lower.length / 2 - i = m + 1 := ⟨lower.length / 2 - i - 1, by omega⟩
      rw [hm] at e
      have h1l : 1 < lower.length := by omega
      -- figures = raised(prime, lower, figures, prime)
      refine ⟨_, rfl, _, rfl, _, rfl, _, rfl, p, la, fa, lower, fi, p, rfl, ⟨p2, p1⟩, ⟨.inl (sm.seq hl), sqL hf⟩, ⟨by omega, by omega⟩, bl, bf, ⟨by omega, by omega⟩, fun H2 a2 s2 n2 e2 => ?_⟩
      have lr := raised_length p lower fi p
      have br := bd_raised (p := p) (by omega) lower fi p
      -- apart = list(figures)
      refine ⟨_, rfl, a2, _, rfl, .inl (.inl (.inl e2)), fun ap np => ?_⟩
      have n2p : a2 ≠ ap := ne_of_none e2 np
      -- apart[1] = (apart[1] - 1) % prime
      refine ⟨_, rfl, ap, _, 1, _, rfl, rfl, .inl (.inl upd_same), at_ints (j := 1) rfl (by omega), _, _, rfl, rfl, _, rfl, _, _, rfl, rfl, hp, _, rfl, ap, _, 1, 1, rfl, rfl, upd_same, ixN_of rfl (by rw [List.length_map]; omega), ?_⟩
      rw [map_set, upd_upd]
      generalize hA : (raised p lower fi p).set 1 (((raised p lower fi p).getD 1 0 - 1) % p) = apart
      have la2 : apart.length = lower.length := by rw [← hA, List.length_set]; exact lr
      have bA : Bd p apart := by rw [← hA]; exact bd_set br _ (mod_bd hp _)
      have sm2 := same_put' (o := HO.lst (apart.map V.int)) (sm.trans s2) np
      -- have_common(prime, list(lower) + [1], apart)
      refine ⟨_, rfl, _, rfl, la, _, rfl, .inl (sm2.seq hl), fun o2 m2 => ⟨szl (by decide : 1 ≤ 1000), fun o3 m3 => ?_⟩⟩
      have n23 : o2 ≠ o3 := fun z => by
        rw [← z, upd_same] at m3
        cases m3
      refine ⟨o2, o3, lower.map V.int, [.int 1], rfl, rfl, by rw [upd_ne n23, upd_same], upd_same, szl (by rw [List.length_map]; show lower.length + 1 ≤ 1000; omega), fun o4 m4 => ?_⟩
      have e4 : lower.map V.int ++ [V.int 1] = (lower ++ [1]).map V.int := map_snoc lower 1
      have sm3 := ((same_new (o := HO.lst (lower.map V.int)) m2).trans (same_new (o := HO.lst [V.int 1]) m3)).trans (same_new (o := HO.lst (lower.map V.int ++ [V.int 1])) m4)
      rw [e4] at sm3 ⊢
      refine ⟨_, rfl, p, o4, ap, lower ++ [1], apart, rfl, ⟨p2, p1⟩, ⟨.inl (.inl upd_same), .inl (.inl (sm3 _ _ upd_same))⟩, ⟨by rw [List.length_append]; show lower.length + 1 ≤ 100; omega, by omega⟩, bd_append bl (bd_one (by omega)), bA, fun H5 s5 => ?_⟩
      refine ⟨_, rfl, ite2 (fun c => ?_) (fun c => ?_)⟩
      · have ef : irr p lower = false := by
          rw [← e]
          unfold irrF
          rw [hA, if_pos c]
        show Q (.bl false) H5
        rw [← ef]
        exact q H5 ((sm2.trans sm3).trans s5)
      · refine ⟨a2, raised p lower fi p, _, _, rfl, (sm2.trans sm3).trans s5, s5 _ _ (sm3 _ _ (same_new np _ _ e2)), lr, br, ?_⟩
        rw [← e, show lower.length / 2 - (i + 1) = m by omega]
        show _ = if _ then _ else _
        rw [hA, if_neg c]
    · rintro σ H' ⟨fa, fi, y4, y5, rfl, sm, hf, lf, bf, e⟩
      rw [Nat.sub_self] at e
      have et : irr p lower = true := e.symm
      show Q (.bl true) H'
      rw [← et]
      exact q H' sm
/-! ### lower_of -/
abbrev sLow : Stmt := topS 24
theorem scLow : FnScope ["prime", "degree", "number"] ["prime", "degree"] (defScope sLow) := ⟨rfl, rfl, rfl, by decide +kernel, rfl, by decide +kernel, by decide +kernel⟩
def spLow : Sp := fun vs H Q _ => ∃ (p : Int) (k : Nat), vs = [.int p, .int (k : Int)] ∧ (2 ≤ p ∧ p < 1000) ∧ k ≤ 50 ∧ irr p (lowerOf p k) = true ∧ NewT H (lowerOf p k) Q
theorem ok_low (D : DefF K mg "lower_of" sLow) (mt : mg "tuple" = none) (CI : Cal P w K mg base 3 "is_irreducible" (spIrr K) []) (CF : Cal P w K mg base 1 "figures_of" spFig []) : Cal P w K mg base 4 "lower_of" spLow [] := by
  refine D.cal scLow (fun _ _ _ _ _ _ us hl => match us, hl with | [_, _], _ => rfl) (fun vs H Q E h => ?_) (fun f cdv A outer s H vs Q E hr h => ?_)
  · obtain ⟨p, k, rfl, _⟩ := h
    rfl
  · obtain ⟨p, k, rfl, ⟨p2, p1⟩, hk, ei, q⟩ := h
    refine ⟨_, pss_cons (ps_set (i := 2) scLow.nd rfl (.inl rfl) pe_int)
      (pss_cons (ps_while PassesOwn.never (pt_not (pt_val (pc CI hr (pa_cons (pv 0) (pa_cons (pc CF hr (pa_cons (pv 0) (pa_cons (pv 1) (pa_cons (pv 2) pa_nil)))) pa_nil)))))
        (pss_one (ps_aug (i := 2) scLow.nd rfl (.inl rfl) pe_int ip_add)))
      (pss_one (ps_ret (pe_callTy call_tuple_of (by rfl) mt (by decide +kernel) (pa_cons (pc CF hr (pa_cons (pv 0) (pa_cons (pv 1) (pa_cons (pv 2) pa_nil)))) pa_nil))))), ?_⟩
    have hp : 0 < p := by omega
    refine ⟨fun m σ H' => ∃ x : Int, σ = [some (.int p), some (.int (k : Int)), some (.int x)] ∧ Same H H' ∧ lowF p k m x = lowN p k, ⟨9, 0, rfl, Same.refl H, rfl⟩, ?_⟩
    rintro m σ H' ⟨x, rfl, sm, e⟩
    refine ⟨_, rfl, _, rfl, _, rfl, _, rfl, p, k, x, rfl, hp, p1, by omega, fun H1 a1 s1 n1 e1 => ?_⟩
    refine ⟨p, a1, figs p k x, rfl, ⟨p2, p1⟩, .inl (.inl e1), by rw [figs_length]; exact hk, bd_figs hp _ _, fun H2 s2 => ?_⟩
    refine ⟨_, rfl, ite2 (fun c => ?_) (fun c => ?_)⟩
    · have ef : irr p (figs p k x) = false := by
        cases hb : irr p (figs p k x) with
        | false => rfl
        | true =>
          rw [hb] at c
          cases c
      cases m with
      | zero =>
        have ex : x = lowN p k := e
        rw [ex] at ef
        exact absurd (ei.symm.trans ef) (by decide)
      | succ m =>
        have e' : lowF p k m (x + 1) = lowN p k := by
          rw [← e]
          exact (if_neg (by rw [ef]; exact Bool.false_ne_true)).symm
        refine ⟨fun σ' H'' => σ' = [some (.int p), some (.int (k : Int)), some (.int (x + 1))] ∧ Same H H'', fun σ' H'' z => ?_, _, rfl, _, _, rfl, rfl, rfl, (sm.trans s1).trans s2⟩
        obtain ⟨rfl, sm'⟩ := z
        exact ⟨m, Nat.lt_succ_self m, x + 1, rfl, sm', e'⟩
    · have et : irr p (figs p k x) = true := by
        cases hb : irr p (figs p k x) with
        | true => rfl
        | false =>
          rw [hb] at c
          exact absurd rfl c
      have ex : x = lowN p k := by
        rw [← e]
        cases m with
        | zero => rfl
        | succ m => exact (if_pos et).symm
      have sm2 := (sm.trans s1).trans s2
      refine ⟨_, rfl, _, rfl, _, rfl, p, k, x, rfl, hp, p1, by omega, fun H3 a3 s3 n3 e3 => ?_⟩
      refine ⟨a3, _, rfl, .inl ⟨.inl (.inl e3), fun t nt => ?_⟩⟩
      rw [ex]
      exact q _ t (same_put' (sm2.trans s3) nt) ((sm2.trans s3).free nt) upd_same
/-! ### product_of -/
abbrev sProd : Stmt := topS 27
theorem scProd : FnScope ["prime", "lower", "one", "other", "degree", "parts"] ["prime", "lower", "one", "other"] (defScope sProd) := ⟨rfl, rfl, rfl, by decide +kernel, rfl, by decide +kernel, by decide +kernel⟩
def spProd (K : PySem.W.Frag) : Sp := fun vs H Q _ => ∃ (p : Int) (la : Addr) (lower : List Int) (a b : Int), vs = [.int p, .ref la, .int a, .int b] ∧ (2 ≤ p ∧ p < 1000) ∧ Sq K H la lower ∧ lower.length ≤ 50 ∧ Bd p lower ∧ NewI H (prodOf p lower a b) Q
theorem ok_prod (D : DefF K mg "product_of" sProd) (ml : mg "len" = none) (CM : Cal P w K mg base 1 "multiplied" (spMul K) []) (CF : Cal P w K mg base 1 "figures_of" spFig []) (CN : Cal P w K mg base 1 "number_of" (spNum K) []) (CR : Cal P w K mg base 1 "remainder" (spRem K) []) : Cal P w K mg base 2 "product_of" (spProd K) [] := by
  refine D.cal scProd (fun _ _ _ _ _ _ us hl => match us, hl with | [_, _, _, _], _ => rfl) (fun vs H Q E h => ?_) (fun f cdv A outer s H vs Q E hr h => ?_)
  · obtain ⟨p, la, lower, a, b, rfl, _⟩ := h
    rfl
  · obtain ⟨p, la, lower, a, b, rfl, ⟨p2, p1⟩, hl, ll, bl, q⟩ := h
    refine ⟨_, pss_cons (ps_set (i := 4) scProd.nd rfl (.inl rfl) (pe_callB call_len_seq (by rfl) ml PySem.boot_len (pa_cons (pv 1) pa_nil)))
      (pss_cons (ps_set (i := 5) scProd.nd rfl (.inl rfl) (pc CM hr (pa_cons (pv 0) (pa_cons (pc CF hr (pa_cons (pv 0) (pa_cons (pv 4) (pa_cons (pv 2) pa_nil)))) (pa_cons (pc CF hr (pa_cons (pv 0) (pa_cons (pv 4) (pa_cons (pv 3) pa_nil)))) pa_nil)))))
      (pss_one (ps_ret (pc CN hr (pa_cons (pv 0) (pa_cons (pc CR hr (pa_cons (pv 0) (pa_cons (pv 1) (pa_cons (pv 5) pa_nil)))) pa_nil)))))), ?_⟩
    have hp : 0 < p := by omega
    refine ⟨_, rfl, la, _, rfl, hl, ?_⟩
    rw [List.length_map]
    refine ⟨_, rfl, _, rfl, _, rfl, _, rfl, p, lower.length, a, rfl, hp, p1, by omega, fun H1 a1 s1 n1 e1 => ?_⟩
    refine ⟨_, rfl, _, rfl, _, rfl, p, lower.length, b, rfl, hp, p1, by omega, fun H2 a2 s2 n2 e2 => ?_⟩
    refine ⟨p, a1, a2, figs p lower.length a, figs p lower.length b, rfl, ⟨p2, p1⟩, ⟨sqL (s2 _ _ e1), sqL e2⟩, ⟨by rw [figs_length]; omega, by rw [figs_length]; omega⟩, bd_figs hp _ _, fun H3 a3 s3 n3 e3 => ?_⟩
    have sm := (s1.trans s2).trans s3
    refine ⟨_, rfl, _, rfl, _, rfl, _, rfl, p, la, a3, lower, mulP p (figs p lower.length a) (figs p lower.length b), rfl, ⟨p2, p1⟩, ⟨hl.same sm, sqL e3⟩, ⟨by omega, by rw [mulP_length, figs_length, figs_length]; omega⟩, bl, bd_mulP hp _ _, fun H4 a4 s4 n4 e4 => ?_⟩
    exact ⟨p, a4, _, rfl, hp, p1, .inl (.inl e4), fun H5 s5 => q H5 ((sm.trans s4).trans s5)⟩
/-! ### power_of, inverse_of -/
abbrev sPow : Stmt := topS 28
theorem scPow : FnScope ["prime", "lower", "one", "times"] ["prime", "lower", "one", "times"] (defScope sPow) := ⟨rfl, rfl, rfl, by decide +kernel, rfl, by decide +kernel, by decide +kernel⟩
def spPow (K : PySem.W.Frag) : Sp := fun vs H Q _ => ∃ (p : Int) (la : Addr) (lower : List Int) (a t : Int), vs = [.int p, .ref la, .int a, .int t] ∧ (2 ≤ p ∧ p < 1000) ∧ Sq K H la lower ∧ lower.length ≤ 50 ∧ Bd p lower ∧ (0 ≤ t ∧ t < 2 ^ 12) ∧ NewI H (powOf p lower a t) Q
theorem ok_pow (D : DefF K mg "power_of" sPow) (ml : mg "len" = none) (CN : Cal P w K mg base 1 "number_of" (spNum K) []) (CP : Cal P w K mg base 2 "raised" (spRaise K) []) (CF : Cal P w K mg base 1 "figures_of" spFig []) : Cal P w K mg base 3 "power_of" (spPow K) [] := by
  refine D.cal scPow (fun _ _ _ _ _ _ us hl => match us, hl with | [_, _, _, _], _ => rfl) (fun vs H Q E h => ?_) (fun f cdv A outer s H vs Q E hr h => ?_)
  · obtain ⟨p, la, lower, a, t, rfl, _⟩ := h
    rfl
  · obtain ⟨p, la, lower, a, t, rfl, ⟨p2, p1⟩, hl, ll, bl, ht, q⟩ := h
    refine ⟨_, pss_one (ps_ret (pc CN hr (pa_cons (pv 0) (pa_cons (pc CP hr (pa_cons (pv 0) (pa_cons (pv 1) (pa_cons (pc CF hr (pa_cons (pv 0) (pa_cons (pe_callB call_len_seq (by rfl) ml PySem.boot_len (pa_cons (pv 1) pa_nil)) (pa_cons (pv 2) pa_nil)))) (pa_cons (pv 3) pa_nil))))) pa_nil)))), ?_⟩
    have hp : 0 < p := by omega
    refine ⟨_, rfl, _, rfl, _, rfl, _, rfl, _, rfl, la, _, rfl, hl, _, rfl, p, lower.length, a, by rw [List.length_map]; rfl, hp, p1, by omega, fun H1 a1 s1 n1 e1 => ?_⟩
    refine ⟨_, rfl, p, la, a1, lower, figs p lower.length a, t, rfl, ⟨p2, p1⟩, ⟨hl.same s1, sqL e1⟩, ⟨by omega, by rw [figs_length]; omega⟩, bl, bd_figs hp _ _, ht, fun H2 a2 s2 n2 e2 => ?_⟩
    exact ⟨p, a2, _, rfl, hp, p1, .inl (.inl e2), fun H5 s5 => q H5 ((s1.trans s2).trans s5)⟩
abbrev sInv : Stmt := topS 29
theorem scInv : FnScope ["prime", "lower", "one"] ["prime", "lower", "one"] (defScope sInv) := ⟨rfl, rfl, rfl, by decide +kernel, rfl, by decide +kernel, by decide +kernel⟩
def spInv (K : PySem.W.Frag) : Sp := fun vs H Q _ => ∃ (p : Int) (la : Addr) (lower : List Int) (a : Int), vs = [.int p, .ref la, .int a] ∧ (2 ≤ p ∧ p < 1000) ∧ Sq K H la lower ∧ lower.length ≤ 50 ∧ Bd p lower ∧ (2 ≤ p ^ lower.length ∧ p ^ lower.length < 2 ^ 12) ∧ NewI H (invOf p lower a) Q
theorem ok_inv (D : DefF K mg "inverse_of" sInv) (ml : mg "len" = none) (CP : Cal P w K mg base 3 "power_of" (spPow K) []) (CS : Cal P w K mg base 1 "size_of" spSize []) : Cal P w K mg base 4 "inverse_of" (spInv K) [] := by
  refine D.cal scInv (fun _ _ _ _ _ _ us hl => match us, hl with | [_, _, _], _ => rfl) (fun vs H Q E h => ?_) (fun f cdv A outer s H vs Q E hr h => ?_)
  · obtain ⟨p, la, lower, a, rfl, _⟩ := h
    rfl
  · obtain ⟨p, la, lower, a, rfl, ⟨p2, p1⟩, hl, ll, bl, ht, q⟩ := h
    refine ⟨_, pss_one (ps_ret (pc CP hr (pa_cons (pv 0) (pa_cons (pv 1) (pa_cons (pv 2) (pa_cons (pe_op op_sub (pc CS hr (pa_cons (pv 0) (pa_cons (pe_callB call_len_seq (by rfl) ml PySem.boot_len (pa_cons (pv 1) pa_nil)) pa_nil))) pe_int) pa_nil)))))), ?_⟩
    refine ⟨_, rfl, _, rfl, _, rfl, _, rfl, _, rfl, la, _, rfl, hl, p, lower.length, by rw [List.length_map]; rfl, by omega, by omega, by omega, _, _, rfl, rfl, ?_⟩
    exact ⟨p, la, lower, a, _, rfl, ⟨p2, p1⟩, hl, ll, bl, ⟨by omega, by omega⟩, q⟩
end
end Ms
namespace Ms
open PySem PySem.Spec PyProof.Rows L2
/-! ### words -/
abbrev GInt (mg : Str → Option Value) (x : Str) (i : Int) : Prop := ∃ t, mg x = some (.int i t)
theorem pgi {X : Cx} {x : Str} {i : Int} {pos : Pos} (h : GInt X.mg x i) (hg : Gl X x := by rfl) (hd : (x == ("__debug__" : Str)) = false := by decide) : PE X (.Name x pos) (tC (.int i)) := by
  obtain ⟨t, h⟩ := h
  exact pe_glob hg h ⟨t, rfl⟩ hd
theorem iteD {c A B : Prop} [Decidable c] (h : c) (a : A) : if decide c = true then A else B := by
  rw [decide_eq_true h]
  exact iteT a
theorem iteDF {c A B : Prop} [Decidable c] (h : ¬ c) (b : B) : if decide c = true then A else B := by
  rw [decide_eq_false h]
  exact iteF b
theorem iteDI {a b : Int} {A B : Prop} (h : a = b) (x : A) : if decide (V.int a = V.int b) = true then A else B := iteD (congrArg V.int h) x
theorem iteDIF {a b : Int} {A B : Prop} (h : ¬ a = b) (x : B) : if decide (V.int a = V.int b) = true then A else B := iteDF (fun q => h (V.int.inj q)) x
theorem iteNDI {a b : Int} {A B : Prop} (h : a = b) (x : B) : if (!decide (V.int a = V.int b)) = true then A else B := iteNS (congrArg V.int h) x
structure Fld (p : Int) (k : Nat) : Prop where
  p2 : 2 ≤ p
  p97 : p ≤ 97
  nd : NoDiv p
  k1 : 1 ≤ k
  k12 : k ≤ 12
  sz : p ^ k < 2 ^ 12
  sz2 : 2 ≤ p ^ k
  ir : irr p (lowerOf p k) = true
structure GF (mg : Str → Option Value) : Prop where
  mp : GInt mg "MOST_PRIME" (10 ^ 6)
  mb : GInt mg "MOST_BASE" 97
  md : GInt mg "MOST_DEGREE" 12
  ms : GInt mg "MOST_SIZE" (10 ^ 15)
section
variable {P : Program} {w : World} {K : PySem.W.Frag} {mg : Str → Option Value} {base : Heap}
/-! ### is_field -/
abbrev sFld_ : Stmt := topS 14
theorem scFld : FnScope ["prime", "degree"] ["prime", "degree"] (defScope sFld_) := ⟨rfl, rfl, rfl, by decide +kernel, rfl, by decide +kernel, by decide +kernel⟩
def spField : Sp := fun vs H Q _ => ∃ (p : Int) (k : Nat), vs = [.int p, .int (k : Int)] ∧ Fld p k ∧ Q (.bl true) H
theorem ok_field (D : DefF K mg "is_field" sFld_) (G : GF mg) (CP : Cal P w K mg base 1 "is_prime" spPrime []) (CS : Cal P w K mg base 1 "size_of" spSize []) : Cal P w K mg base 2 "is_field" spField [] := by
  refine D.cal scFld (fun _ _ _ _ _ _ us hl => match us, hl with | [_, _], _ => rfl) (fun vs H Q E h => ?_) (fun f cdv A outer s H vs Q E hr h => ?_)
  · obtain ⟨p, k, rfl, _⟩ := h
    rfl
  · obtain ⟨p, k, rfl, F, q⟩ := h
    obtain ⟨p2, p97, nd, k1, k12, sz, sz2, _⟩ := F
    refine ⟨_, pss_cons (ps_if (pt_cmpR op_eq (pv 1) pe_int (nomark _)) (pss_one (ps_ret (pe_and (pe_cmpR op_le (pv 0) (pgi G.mp) (nomark _)) (pe_one (pc CP hr (pa_cons (pv 0) pa_nil)))))) pss_nil)
      (pss_cons (ps_if (PW.pt (pw_or (pt_not (pt_chain op_le op_le pe_int (pv 1) (pgi G.md))) (pw_or1 (pt_not (pt_chain op_le op_le pe_int (pv 0) (pgi G.mb)))))) pss_never pss_nil)
      (pss_one (ps_ret (pe_and (pc CP hr (pa_cons (pv 0) pa_nil)) (pe_one (pe_cmpR op_le (pc CS hr (pa_cons (pv 0) (pa_cons (pv 1) pa_nil))) (pgi G.ms) (nomark _))))))), ?_⟩
    refine ⟨_, rfl, rfl, _, rfl, ite2 (fun c => ?_) (fun c => ?_)⟩
    · refine ⟨_, rfl, _, _, rfl, rfl, _, rfl, iteD (by omega) ?_⟩
      exact ⟨_, rfl, p, rfl, by omega, by omega, nd, q⟩
    · have hk : ¬ (k : Int) = 1 := fun e => c (decide_eq_true (congrArg V.int e))
      refine ⟨_, rfl, _, _, rfl, rfl, _, rfl, iteD (by omega) ⟨_, _, rfl, rfl, _, rfl, ?_⟩⟩
      rw [decide_eq_true (show (k : Int) ≤ 12 by omega)]
      refine iteF ⟨_, rfl, _, _, rfl, rfl, _, rfl, iteD p2 ⟨_, _, rfl, rfl, _, rfl, ?_⟩⟩
      rw [decide_eq_true p97]
      refine iteF ⟨_, rfl, p, rfl, by omega, by omega, nd, true, rfl, iteT ⟨_, rfl, _, rfl, p, k, rfl, by omega, by omega, by omega, _, _, rfl, rfl, ?_⟩⟩
      show Q (.bl (decide (p ^ k ≤ 10 ^ 15))) H
      rw [decide_eq_true (show p ^ k ≤ 10 ^ 15 by omega)]
      exact q
/-! ### is_prime_power -/
structure GI (mg : Str → Option Value) : Prop where
  isi : mg "isinstance" = none
  tup : mg "tuple" = none
  lst : mg "list" = none
  len : mg "len" = none
  all : mg "all" = none
  int : mg "int" = none
abbrev sPp : Stmt := topS 34
abbrev nPp : List Str := ["part", "number"]
theorem scPp : FnScope nPp ["part"] (defScope sPp) := ⟨rfl, rfl, rfl, by decide +kernel, rfl, by decide +kernel, by decide +kernel⟩
def spPp : Sp := fun vs H Q _ => ∃ (a : Addr) (p : Int) (k : Nat), vs = [.ref a] ∧ H a = some (.tup [.int p, .int (k : Int)]) ∧ Fld p k ∧ NewB H true Q
theorem kit_tl {K : PySem.W.Frag} : PySem.W.kitAny K (.type "tuple") [.type "tuple", .type "list"] = some true :=
  kitAny_cons (b := true) (kit_ty (by decide +kernel)) (fun h => nomatch h) (fun _ => rfl)
theorem kit_ll {K : PySem.W.Frag} : PySem.W.kitAny K (.type "list") [.type "tuple", .type "list"] = some true :=
  kitAny_cons (b := false) (kit_ty (by decide +kernel)) (fun _ => kitAny_cons (b := true) (kit_ty (by decide +kernel)) (fun h => nomatch h) (fun _ => rfl)) (fun h => nomatch h)
theorem ok_pp (D : DefF K mg "is_prime_power" sPp) (G : GI mg) (CF : Cal P w K mg base 2 "is_field" spField []) : Cal P w K mg base 3 "is_prime_power" spPp [] := by
  refine D.cal scPp (fun _ _ _ _ _ _ us hl => match us, hl with | [_], _ => rfl) (fun vs H Q E h => ?_) (fun f cdv A outer s H vs Q E hr h => ?_)
  · obtain ⟨a, p, k, rfl, _⟩ := h
    rfl
  · obtain ⟨a, p, k, rfl, ha, F, q⟩ := h
    refine ⟨_, pss_cons (ps_if (PW.pt (pw_or (pt_not (pt_val (pe_callB call_isiT (by rfl) G.isi (by decide +kernel) (pa_cons (pv 0) (pa_cons (pe_tup (pa_cons (pe_bltn (v := .ty "tuple") (by rfl) G.tup (by decide +kernel) rfl) (pa_cons (pe_bltn (v := .ty "list") (by rfl) G.lst (by decide +kernel) rfl) pa_nil))) pa_nil)))))
        (pw_or (pt_cmpR op_ne (pe_callB call_len_seq (by rfl) G.len PySem.boot_len (pa_cons (pv 0) pa_nil)) pe_int (nomark _))
        (pw_or1 (pt_not (pt_val (pe_callB (cr_all rfl) (by rfl) G.all (by decide +kernel) (pa_cons (pe_lc (own := [("number", 1)]) (g := gName 1) (tt := tYes) (by rfl) scPp.nd (pi_tup (pv 0)) (blkOk_by (N := nPp) (sc := defScope sPp) (by decide +kernel))
          (fun _ _ _ _ _ => pg_name (i := 1) scPp.nd rfl (Or.inl rfl)) (fun _ _ _ _ _ => pts_nil) (fun _ _ _ _ _ => pe_callB (id := "isinstance") (r := rIsi K) call_isi (by rfl) G.isi (by decide +kernel) (pa_cons (pv 1) (pa_cons (pe_bltn (v := .ty "int") (by rfl) G.int (by decide +kernel) rfl) pa_nil)))) pa_nil)))))))) pss_never pss_nil)
      (pss_one (ps_ret (pc CF hr (pa_cons (pe_ix ix_tup (pv 0) pe_int (fun _ _ => rfl)) (pa_cons (pe_ix ix_tup (pv 0) pe_int (fun _ _ => rfl)) pa_nil))))), ?_⟩
    refine ⟨_, rfl, szl (by decide : 2 ≤ 1000), fun o no => ?_⟩
    have nao : a ≠ o := ne_of_none ha no
    have ha2 : (upd H o (.tup [.ty "tuple", .ty "list"])) a = some (.tup [.int p, .int (k : Int)]) := by
      rw [upd_ne nao]
      exact ha
    refine ⟨.ref a, o, [.ty "tuple", .ty "list"], .type "tuple", [.type "tuple", .type "list"], true, rfl, upd_same, .cons (.ty _) (.cons (.ty _) .nil), .base (.tup ha2), kit_tl, true, rfl, iteF ?_⟩
    refine ⟨_, rfl, a, _, rfl, .inr (.inl (.inl ha2)), rfl, _, rfl, ?_⟩
    refine iteNDI rfl ⟨_, rfl, a, rfl, ⟨_, .inl (.inl ha2)⟩, fun D nD => ?_⟩
    have naD : a ≠ D := ne_of_none ha2 nD
    refine lc_tup (K := K) (a := a) (xs := [.int p, .int (k : Int)]) (fun i H' => Same (upd H o (.tup [.ty "tuple", .ty "list"])) H' ∧ H' D = some (.lst ((List.replicate i true).map V.bl))) ⟨same_new nD, upd_same⟩ (fun i H' _ h => .inl (.inl (h.1 _ _ ha2))) ?_ ?_
    · rintro i x H' hx ⟨s1, hD⟩
      have hi : i < 2 := (List.getElem?_eq_some_iff.mp hx).1
      obtain ⟨z, rfl⟩ : ∃ z, x = V.int z := by
        match i, hx with
        | 0, hx => exact ⟨p, (Option.some.inj hx).symm⟩
        | 1, hx => exact ⟨k, (Option.some.inj hx).symm⟩
      refine ⟨rfl, _, rfl, .int z, .ty "int", .type "int", .type "int", true, rfl, .ty _, .base (.int z), kit_ty (by decide +kernel), _, hD, ?_, same_put s1 nD, ?_⟩
      · rw [List.length_map, List.length_replicate]
        exact small (by omega)
      · rw [upd_same, List.replicate_succ', List.map_append]
        rfl
    · rintro H' ⟨s1, hD⟩
      have s2 := (same_new (o := HO.tup [.ty "tuple", .ty "list"]) no).trans s1
      have ha3 := s1 _ _ ha2
      refine ⟨D, [true, true], rfl, .inl (.inl hD), true, rfl, iteF ?_⟩
      refine ⟨_, rfl, a, _, 0, .int p, rfl, rfl, .inl (.inl ha3), atI_nat (j := 0) rfl, _, rfl, a, _, 1, .int (k : Int), rfl, rfl, .inl (.inl ha3), atI_nat (j := 1) rfl, p, k, rfl, F, q H' s2⟩
/-! ### checked_parts -/
/-- the parts as objects: tuples of a prime and a degree -/
structure PartsAt (H : Hp) (pas : List Addr) (ps : List Part) : Prop where
  len : pas.length = ps.length
  at_ : ∀ (j : Nat) (a : Addr) (q : Part), pas[j]? = some a → ps[j]? = some q → H a = some (.tup [.int q.1, .int (q.2 : Int)])
theorem PartsAt.same {H H' : Hp} {pas : List Addr} {ps : List Part} (h : PartsAt H pas ps) (s : Same H H') : PartsAt H' pas ps := ⟨h.len, fun j a q e1 e2 => s _ _ (h.at_ j a q e1 e2)⟩
def prodL (ps : List Part) : Int := (sizes ps).foldl (fun a b => a * b) 1
structure GoodPs (ps : List Part) : Prop where
  pos : ps ≠ []
  few : ps.length ≤ 6
  fld : ∀ q ∈ ps, Fld q.1 q.2
  nd : (ps.map (·.1)).Nodup
  big : prodL ps ≤ 10 ^ 30
abbrev sChk : Stmt := topS 35
abbrev nChk : List Str := ["parts", "found", "order", "part", "prime", "_"]
theorem scChk : FnScope nChk ["parts"] (defScope sChk) := ⟨rfl, rfl, rfl, by decide +kernel, rfl, by decide +kernel, by decide +kernel⟩
def spChk : Sp := fun vs H Q _ => ∃ (a : Addr) (pas : List Addr) (ps : List Part), vs = [.ref a] ∧ H a = some (.lst (pas.map V.ref)) ∧ PartsAt H pas ps ∧ GoodPs ps ∧
  ∀ (H' : Hp) (t : Addr), Same H H' → H t = none → H' t = some (.tup (pas.map V.ref)) → Q (.ref t) H'
theorem get_ref {pas : List Addr} {i : Nat} {x : V} (h : (pas.map V.ref)[i]? = some x) : ∃ a, pas[i]? = some a ∧ x = .ref a := by
  rw [List.getElem?_map] at h
  cases e : pas[i]? with
  | none =>
    rw [e] at h
    cases h
  | some a =>
    rw [e] at h
    exact ⟨a, rfl, (Option.some.inj h).symm⟩
theorem take_snoc {al : Type} {xs : List al} {i : Nat} {x : al} (h : xs[i]? = some x) : xs.take i ++ [x] = xs.take (i + 1) := by
  rw [List.take_add_one, h]
  rfl
theorem inV_ints {z : Int} {xs : List Int} (h : z ∉ xs) : inV (.int z) (xs.map V.int) = false := by
  unfold inV
  rw [List.any_map]
  refine List.any_eq_false.mpr fun y hy e => h ?_
  have e1 : (y == z) = true := e
  rw [← eq_of_beq e1]
  exact hy
theorem all_flat (xs : List Int) : (xs.map V.int).all flatV = true := by
  rw [List.all_map]
  exact List.all_eq_true.mpr fun _ _ => rfl
theorem prodL_take {ps : List Part} {i : Nat} {q : Part} (h : ps[i]? = some q) : prodL (ps.take i) * q.1 ^ q.2 = prodL (ps.take (i + 1)) := by
  unfold prodL sizes
  rw [← take_snoc h, List.map_append, List.foldl_append]
  rfl
theorem take_get {al : Type} {xs : List al} {i j : Nat} (h : j < i) : (xs.take i)[j]? = xs[j]? := by
  rw [List.getElem?_take, if_pos h]
theorem nd_fst {ps : List Part} {i : Nat} {q : Part} (nd : (ps.map (·.1)).Nodup) (h : ps[i]? = some q) : q.1 ∉ (ps.take i).map (·.1) := fun hm => by
  rw [List.map_take] at hm
  obtain ⟨j, hj, e⟩ := List.mem_iff_getElem.mp hm
  rw [List.length_take] at hj
  rw [List.getElem_take] at e
  have e1 : (ps.map (·.1))[j]? = some q.1 := by rw [List.getElem?_eq_getElem (by omega), e]
  have e2 : (ps.map (·.1))[i]? = some q.1 := by rw [List.getElem?_map, h] <;> rfl
  have := nd_ix nd e1 e2
  omega
theorem ok_chk (D : DefF K mg "checked_parts" sChk) (G : GI mg) (gm : GInt mg "MOST_ORDER_families" (10 ^ 30)) (CP : Cal P w K mg base 3 "is_prime_power" spPp []) (CS : Cal P w K mg base 1 "size_of" spSize []) : Cal P w K mg base 4 "checked_parts" spChk [] := by
  refine D.cal scChk (fun _ _ _ _ _ _ us hl => match us, hl with | [_], _ => rfl) (fun vs H Q E h => ?_) (fun f cdv A outer s H vs Q E hr h => ?_)
  · obtain ⟨a, pas, ps, rfl, _⟩ := h
    rfl
  · obtain ⟨a, pas, ps, rfl, ha, hP, hG, q⟩ := h
    refine ⟨_, pss_cons (ps_if (pt_not (pt_val (pe_callB call_isiT (by rfl) G.isi (by decide +kernel) (pa_cons (pv 0) (pa_cons (pe_tup (pa_cons (pe_bltn (v := .ty "tuple") (by rfl) G.tup (by decide +kernel) rfl) (pa_cons (pe_bltn (v := .ty "list") (by rfl) G.lst (by decide +kernel) rfl) pa_nil))) pa_nil))))) pss_never pss_nil)
      (pss_cons (ps_set (i := 1) scChk.nd rfl (.inl rfl) (pe_lst pa_nil))
      (pss_cons (ps_set (i := 2) scChk.nd rfl (.inl rfl) pe_int)
      (pss_cons (ps_for PassesOwn.never rfl (pi_list (pv 0)) (pg_name (i := 3) scChk.nd rfl (.inl rfl))
        (pss_cons (ps_if (PW.pt (pw_or (pt_not (pt_val (pc CP hr (pa_cons (pv 3) pa_nil)))) (pw_or1 (pt_cmpR op_in_seq (pe_ix ix_tup (pv 3) pe_int (fun _ _ => rfl))
            (pe_lc (own := [("prime", 4), ("_", 5)]) (g := gTup K 2 (gCons (gName 4) (gCons (gName 5) gNil))) (tt := tYes) (by rfl) scChk.nd (pi_list (pv 1)) (blkOk_by (N := nChk) (sc := defScope sChk) (by decide +kernel))
              (fun _ _ _ _ _ => pg_tup (by rfl) (pgs_cons (pg_name (i := 4) scChk.nd rfl (Or.inl rfl)) (pgs_cons (pg_name (i := 5) scChk.nd rfl (Or.inl rfl)) pgs_nil))) (fun _ _ _ _ _ => pts_nil) (fun _ _ _ _ _ => pv 4)) (by rfl))))) pss_never pss_nil)
        (pss_cons (ps_expr (pe_bm PySem.F.plainAttrs_list PySem.F.slot_list_append PySem.F.type_list_append mt_append (pv 1) (pa_cons (pe_callTy call_tuple_of (by rfl) G.tup (by decide +kernel) (pa_cons (pv 3) pa_nil)) pa_nil)))
        (pss_one (ps_aug (i := 2) scChk.nd rfl (.inl rfl) (pc CS hr (pa_cons (pe_ix ix_tup (pv 3) pe_int (fun _ _ => rfl)) (pa_cons (pe_ix ix_tup (pv 3) pe_int (fun _ _ => rfl)) pa_nil))) iop_mul)))))
      (pss_cons (ps_if (PW.pt (pw_or (pt_cmpR op_eq (pe_callB call_len_seq (by rfl) G.len PySem.boot_len (pa_cons (pv 1) pa_nil)) pe_int (nomark _)) (pw_or1 (pt_cmpR op_gt (pv 2) (pgi gm) (nomark _))))) pss_never pss_nil)
      (pss_one (ps_ret (pe_callTy call_tuple_of (by rfl) G.tup (by decide +kernel) (pa_cons (pv 1) pa_nil)))))))), ?_⟩
    -- isinstance
    refine ⟨_, rfl, szl (by decide : 2 ≤ 1000), fun o no => ?_⟩
    have ha1 : (upd H o (.tup [.ty "tuple", .ty "list"])) a = some (.lst (pas.map V.ref)) := by
      rw [upd_ne (ne_of_none ha no)]
      exact ha
    refine ⟨.ref a, o, [.ty "tuple", .ty "list"], .type "list", [.type "tuple", .type "list"], true, rfl, upd_same, .cons (.ty _) (.cons (.ty _) .nil), .base (.lst ha1), kit_ll, true, rfl, iteF ?_⟩
    have s0 : Same H (upd H o (.tup [.ty "tuple", .ty "list"])) := same_new no
    refine ⟨Nat.zero_le _, fun fo nf => ?_⟩
    have nfH : H fo = none := s0.free nf
    refine ⟨_, rfl, a, rfl, ⟨_, .inl (.inl (same_new nf _ _ ha1))⟩, for_list (K := K) (a := a) (xs := pas.map V.ref) (fun i σ H' => ∃ y3, σ = [some (.ref a), some (.ref fo), some (.int (prodL (ps.take i))), y3, none, none] ∧ Same H H' ∧ H' fo = some (.lst ((pas.take i).map V.ref)))
      ⟨none, rfl, same_put s0 nfH, upd_same⟩ (fun i σ H' _ h => by obtain ⟨_, _, h, _⟩ := h; exact .inl (.inl (h _ _ ha))) ?_ ?_⟩
    · rintro i x σ H' hx ⟨y3, rfl, sm, hf⟩
      obtain ⟨pa, hpa, rfl⟩ := get_ref hx
      have hip : i < pas.length := (List.getElem?_eq_some_iff.mp hpa).1
      have hi : i < ps.length := by rw [← hP.len]; exact hip
      have hq : ps[i]? = some ps[i] := List.getElem?_eq_getElem hi
      generalize ps[i] = qq at hq
      have F := hG.fld qq (List.mem_of_getElem? hq)
      have few := hG.few
      have hT := sm _ _ (hP.at_ i pa qq hpa hq)
      refine ⟨_, rfl, pa, qq.1, qq.2, rfl, hT, F, fun H1 s1 => ⟨true, rfl, iteF ?_⟩⟩
      have hT1 := s1 _ _ hT
      have sm1 := sm.trans s1
      refine ⟨_, rfl, pa, _, 0, .int qq.1, rfl, rfl, .inl (.inl hT1), atI_nat (j := 0) rfl, ?_⟩
      refine ⟨_, rfl, fo, rfl, ⟨_, .inl (.inl (s1 _ _ hf))⟩, fun D nD => ?_⟩
      have nDH : H D = none := sm1.free nD
      refine lc_list (K := K) (a := fo) (xs := (pas.take i).map V.ref) (fun j H'' => Same H1 H'' ∧ H'' D = some (.lst (((ps.take j).map (·.1)).map V.int))) ⟨same_new nD, upd_same⟩ (fun j H'' _ h => .inl (.inl (h.1 _ _ (s1 _ _ hf)))) ?_ ?_
      · rintro j x H'' hxj ⟨s2, hD⟩
        obtain ⟨pb, hpb, rfl⟩ := get_ref hxj
        have hj : j < i := by
          have := (List.getElem?_eq_some_iff.mp hpb).1
          rw [List.length_take] at this
          omega
        rw [take_get hj] at hpb
        have hjl : j < ps.length := by omega
        have hqj : ps[j]? = some ps[j] := List.getElem?_eq_getElem hjl
        generalize ps[j] = qj at hqj
        have hTj := s2 _ _ (sm1 _ _ (hP.at_ j pb qj hpb hqj))
        refine ⟨pb, _, rfl, .inl (.inl hTj), rfl, _, _, rfl, _, _, rfl, rfl, rfl, _, rfl, _, hD, ?_, same_put s2 nD, ?_⟩
        · rw [List.length_map, List.length_map, List.length_take]
          exact small (by omega)
        · have e : (ps.take (j + 1)).map (·.1) = (ps.take j).map (·.1) ++ [qj.1] := by
            rw [← take_snoc hqj, List.map_append]
            rfl
          rw [upd_same, map_snoc, e]
      · rintro H'' ⟨s2, hD⟩
        rw [List.length_map, List.length_take, Nat.min_eq_left (by omega)] at hD
        refine ⟨D, _, rfl, .inl (.inl (.inl hD)), rfl, all_flat _, ?_⟩
        refine ⟨inV (.int qq.1) (((ps.take i).map (·.1)).map V.int), rfl, ?_⟩
        rw [inV_ints (nd_fst hG.nd hq)]
        refine iteF ?_
        have sm2 := sm1.trans s2
        have hf2 := s2 _ _ (s1 _ _ hf)
        have hT2 := s2 _ _ hT1
        -- found.append(tuple(part))
        refine ⟨_, rfl, .inl ⟨rfl, _, SqL.of hf2⟩, _, rfl, pa, _, rfl, .inr ⟨.inl (.inl hT2), fo, _, _, rfl, rfl, hf2, ?_, ?_⟩⟩
        · rw [List.length_map, List.length_take]
          exact small (by omega)
        have hT3 : (upd H'' fo (.lst ((pas.take i).map V.ref ++ [.ref pa]))) pa = some (.tup [.int qq.1, .int (qq.2 : Int)]) := by
          rw [upd_ne (ne_of hT2 hf2 (fun z => nomatch z))]
          exact hT2
        refine ⟨_, rfl, _, rfl, pa, _, 0, .int qq.1, rfl, rfl, .inl (.inl hT3), atI_nat (j := 0) rfl, _, rfl, pa, _, 1, .int (qq.2 : Int), rfl, rfl, .inl (.inl hT3), atI_nat (j := 1) rfl, qq.1, qq.2, rfl, ?_⟩
        have f1 := F.p2
        have f2 := F.p97
        have f3 := F.k12
        have f4 := F.sz
        have f5 := F.sz2
        refine ⟨by omega, by omega, by omega, _, _, rfl, rfl, .inr ⟨by omega, by omega⟩, some (.ref pa), ?_, same_put sm2 nfH, ?_⟩
        · show [some (V.ref a), some (V.ref fo), some (V.int (prodL (ps.take i) * qq.1 ^ qq.2)), some (V.ref pa), none, none] = _
          rw [prodL_take hq]
        · rw [upd_same]
          have e : (pas.take i).map V.ref ++ [V.ref pa] = (pas.take (i + 1)).map V.ref := by
            rw [← take_snoc hpa, List.map_append]
            rfl
          rw [e]
    · rintro σ H' ⟨y3, rfl, sm, hf⟩
      have e1 : ps.take pas.length = ps := by rw [hP.len, List.take_length]
      rw [List.length_map, List.take_length] at hf
      rw [List.length_map, e1]
      have np : ¬ ((pas.map V.ref).length : Int) = 0 := fun z => hG.pos (by
        have h0 : pas.length = 0 := by
          rw [List.length_map] at z
          omega
        exact List.length_eq_zero_iff.mp (by rw [← hP.len]; exact h0))
      refine ⟨_, rfl, fo, _, rfl, .inl (.inl (.inl hf)), rfl, _, rfl, iteDIF np ⟨_, rfl, _, _, rfl, rfl, _, rfl, iteDF (by have := hG.big; omega) ?_⟩⟩
      refine ⟨_, rfl, fo, _, rfl, .inl ⟨.inl (.inl hf), fun t nt => ?_⟩⟩
      exact q _ t (same_put' sm nt) (sm.free nt) upd_same
end
end Ms
namespace Ms
open PySem PySem.Spec PyProof.Rows L2
/-! ### the class Family: its text, its instances -/
structure TF (K : PySem.W.Frag) (C : Addr) : Prop where
  cl : Cls K C
  nP : NoAttr K C "parts"
  nS : NoAttr K C "sizes"
  nM : NoAttr K C "many"
  nL : NoAttr K C "lowers"
  nO : NoAttr K C "order"
structure DefM (K : PySem.W.Frag) (C : Addr) (m q : Str) (st : Stmt) : Prop where
  ex : ∃ (f : Addr) (fd : FuncData), FunD K m q (defArgs st) (defBody st) (defScope st) [] [] f fd ∧ Cls K C ∧ Meth K C m f
theorem DefM.met {P : Program} {w : World} {K : PySem.W.Frag} {mg : Str → Option Value} {base : Heap} {C : Addr} {m q : Str} {st : Stmt} {N ps : List Str} {k : Nat} {sp : Sp} (D : DefM K C m q st) (S : FnScope N ps (defScope st)) (b : BindsBy m q st ps)
    (len : ∀ vs H Q E, sp vs H Q E → vs.length = ps.length) (h : BodyOk P w K mg base k q st N sp) : Met P w K mg base (k + 1) C m sp := by
  obtain ⟨f, fd, F, hc, hm⟩ := D.ex
  refine ⟨f, fd, ps, ⟨hc, hm⟩, F.ok S len fun cdv A outer s H vs Q E hr hs => ?_, F.bindsN b⟩
  obtain ⟨t, p, q⟩ := h f cdv A outer s H vs Q E hr hs
  exact ⟨t, p.nox, q⟩
theorem lk_ne {f g : Str} {v : V} {fs : List (Str × V)} (h : ¬ g = f) : (putF f v fs).lookup g = fs.lookup g := by
  rw [lookup_putF, if_neg h]
theorem lk_eq {f : Str} {v : V} {fs : List (Str × V)} : (putF f v fs).lookup f = some v := by
  rw [lookup_putF, if_pos rfl]
abbrev fam2 (pA sA : Addr) : List (Str × V) := putF "sizes" (.ref sA) (putF "parts" (.ref pA) [])
abbrev fam4 (pA sA lA : Addr) (many : Int) : List (Str × V) := putF "lowers" (.ref lA) (putF "many" (.int many) (fam2 pA sA))
def famF (pA sA lA : Addr) (many order : Int) : List (Str × V) := putF "order" (.int order) (fam4 pA sA lA many)
theorem f4_sizes (pA sA lA : Addr) (m : Int) : (fam4 pA sA lA m).lookup ("sizes" : Str) = some (.ref sA) := by
  rw [lk_ne (by decide +kernel), lk_ne (by decide +kernel), lk_eq]
theorem ff_sizes (pA sA lA : Addr) (m o : Int) : (famF pA sA lA m o).lookup ("sizes" : Str) = some (.ref sA) := by
  unfold famF
  rw [lk_ne (by decide +kernel), f4_sizes]
theorem ff_parts (pA sA lA : Addr) (m o : Int) : (famF pA sA lA m o).lookup ("parts" : Str) = some (.ref pA) := by
  unfold famF
  rw [lk_ne (by decide +kernel), lk_ne (by decide +kernel), lk_ne (by decide +kernel), lk_ne (by decide +kernel), lk_eq]
theorem ff_many (pA sA lA : Addr) (m o : Int) : (famF pA sA lA m o).lookup ("many" : Str) = some (.int m) := by
  unfold famF
  rw [lk_ne (by decide +kernel), lk_ne (by decide +kernel), lk_eq]
theorem ff_lowers (pA sA lA : Addr) (m o : Int) : (famF pA sA lA m o).lookup ("lowers" : Str) = some (.ref lA) := by
  unfold famF
  rw [lk_ne (by decide +kernel), lk_eq]
theorem ff_order (pA sA lA : Addr) (m o : Int) : (famF pA sA lA m o).lookup ("order" : Str) = some (.int o) := lk_eq
theorem f4_no {g : Str} (pA sA lA : Addr) (m : Int) (h1 : ¬ g = "parts") (h2 : ¬ g = "sizes") (h3 : ¬ g = "many") (h4 : ¬ g = "lowers") : (fam4 pA sA lA m).lookup g = none := by
  rw [lk_ne h4, lk_ne h3, lk_ne h2, lk_ne h1]
  rfl
theorem ff_no {g : Str} (pA sA lA : Addr) (m o : Int) (h1 : ¬ g = "parts") (h2 : ¬ g = "sizes") (h3 : ¬ g = "many") (h4 : ¬ g = "lowers") (h5 : ¬ g = "order") : (famF pA sA lA m o).lookup g = none := by
  unfold famF
  rw [lk_ne h5, f4_no pA sA lA m h1 h2 h3 h4]
/-! ### the least size -/
def minL : List Int → Int
  | [] => 0
  | [x] => x
  | x :: y :: r => min x (minL (y :: r))
theorem minL_mem : ∀ (x : Int) (r : List Int), minL (x :: r) ∈ x :: r
  | x, [] => List.mem_cons_self ..
  | x, y :: r => by
    show min x (minL (y :: r)) ∈ x :: y :: r
    have ih := minL_mem y r
    by_cases h : x ≤ minL (y :: r)
    · rw [Int.min_eq_left h]
      exact List.mem_cons_self ..
    · rw [Int.min_eq_right (by omega)]
      exact List.mem_cons_of_mem _ ih
theorem minL_le : ∀ (x : Int) (r : List Int) (z : Int), z ∈ x :: r → minL (x :: r) ≤ z
  | x, [], z, h => by
    rw [List.mem_singleton.mp h]
    exact Int.le_refl _
  | x, y :: r, z, h => by
    show min x (minL (y :: r)) ≤ z
    rcases List.mem_cons.mp h with e | h
    · rw [e]
      exact Int.min_le_left _ _
    · exact Int.le_trans (Int.min_le_right _ _) (minL_le y r z h)
theorem minL_is {ns : List Int} {m : Int} (hm : m ∈ ns) (hl : ∀ y ∈ ns, m ≤ y) : m = minL ns := by
  cases ns with
  | nil => cases hm
  | cons x r => exact Int.le_antisymm (hl _ (minL_mem x r)) (minL_le x r m hm)
def manyF (ps : List Part) : Int := minL (sizes ps) - 1
def ordF (ps : List Part) : Int := joined (sizes ps) ((sizes ps).map fun s => s - 1) + 1
/-- an instance of the class, with its parts, sizes, polynomials -/
structure FamAt (C : Addr) (H : Hp) (x : Addr) (ps : List Part) : Prop where
  ex : ∃ (dx pA sA lA : Addr) (pas las : List Addr), H x = some (.ins C dx (famF pA sA lA (manyF ps) (ordF ps))) ∧ (H pA = some (.tup (pas.map V.ref)) ∧ PartsAt H pas ps) ∧ H sA = some (.tup ((sizes ps).map V.int)) ∧
    H lA = some (.tup (las.map V.ref)) ∧ las.length = ps.length ∧ ∀ (j : Nat) (a : Addr) (q : Part), las[j]? = some a → ps[j]? = some q → H a = some (.tup ((lowerOf q.1 q.2).map V.int))
theorem FamAt.same {C x : Addr} {H H' : Hp} {ps : List Part} (F : FamAt C H x ps) (s : Same H H') : FamAt C H' x ps := by
  obtain ⟨dx, pA, sA, lA, pas, las, h1, ⟨h2, h3⟩, h4, h5, h6, h7⟩ := F.ex
  exact ⟨dx, pA, sA, lA, pas, las, s _ _ h1, ⟨s _ _ h2, h3.same s⟩, s _ _ h4, s _ _ h5, h6, fun j a q e1 e2 => s _ _ (h7 j a q e1 e2)⟩
theorem sizes_len (ps : List Part) : (sizes ps).length = ps.length := List.length_map ..
theorem GoodPs.sz {ps : List Part} (G : GoodPs ps) : ∀ s ∈ sizes ps, 2 ≤ s ∧ s < 2 ^ 12 := fun s hs => by
  obtain ⟨q, hq, e⟩ := List.mem_map.mp hs
  rw [← e]
  exact ⟨(G.fld q hq).sz2, (G.fld q hq).sz⟩
theorem splitR_len : ∀ (ss : List Int) (x : Int), (splitR ss x).length = ss.length
  | [], _ => rfl
  | s :: ss, x => by
    show (splitR ss (x / s)).length + 1 = ss.length + 1
    rw [splitR_len ss]
theorem split_len (ss : List Int) (x : Int) : (split ss x).length = ss.length := by
  unfold split
  rw [List.length_reverse, splitR_len, List.length_reverse]
theorem sq_getD {al : Type} {xs : List al} {i : Nat} {x d : al} (h : xs[i]? = some x) : xs.getD i d = x := by
  rw [List.getD_eq_getElem?_getD, h] <;> rfl
theorem joinF_cons {ss fs : List Int} {x : Int} {i : Nat} (h1 : i < ss.length) (h2 : i < fs.length) : joinF (ss.drop i) (fs.drop i) x = joinF (ss.drop (i + 1)) (fs.drop (i + 1)) (x * ss.getD i 0 + fs.getD i 0) := by
  rw [drop_at h1, drop_at h2]
  rfl
section
variable {P : Program} {w : World} {K : PySem.W.Frag} {mg : Str → Option Value} {base : Heap} {C : Addr}
/-! ### split -/
abbrev sSplit : Stmt := famS 1
theorem scSplit : FnScope ["self", "point", "found", "size"] ["self", "point"] (defScope sSplit) := ⟨rfl, rfl, rfl, by decide +kernel, rfl, by decide +kernel, by decide +kernel⟩
def spSplit (K : PySem.W.Frag) (C : Addr) : Sp := fun vs H Q _ => ∃ (x dx sA : Addr) (fs : List (Str × V)) (ss : List Int) (pt : Int), vs = [.ref x, .int pt] ∧ H x = some (.ins C dx fs) ∧ fs.lookup ("sizes" : Str) = some (.ref sA) ∧ SqT K H sA (ss.map V.int) ∧ ss.length ≤ 100 ∧ (∀ s ∈ ss, 2 ≤ s ∧ s < 2 ^ 12) ∧ NewL H (split ss pt) Q
theorem ok_split (D : DefM K C "split" "Family.split" sSplit) (T : TF K C) : Met P w K mg base 1 C "split" (spSplit K C) := by
  refine D.met scSplit (fun _ _ _ _ _ _ us hl => match us, hl with | [_, _], _ => rfl) (fun vs H Q E h => ?_) (fun f cdv A outer s H vs Q E hr h => ?_)
  · obtain ⟨x, dx, sA, fs, ss, pt, rfl, _⟩ := h
    rfl
  · obtain ⟨x, dx, sA, fs, ss, pt, rfl, hx, hl, hS, hlen, hb, q⟩ := h
    refine ⟨_, pss_cons (ps_set (i := 2) scSplit.nd rfl (.inl rfl) (pe_lst pa_nil))
      (pss_cons (ps_for PassesOwn.never rfl (pi_tup (pe_revT (pe_fld (pv 0) rfl))) (pg_name (i := 3) scSplit.nd rfl (.inl rfl))
        (pss_cons (ps_expr (pe_bm PySem.F.plainAttrs_list PySem.F.slot_list_append PySem.F.type_list_append mt_append (pv 2) (pa_cons (pe_op op_mod (pv 1) (pv 3)) pa_nil)))
        (pss_one (ps_aug (i := 1) scSplit.nd rfl (.inl rfl) (pv 3) iop_fdiv))))
      (pss_one (ps_ret (pe_revL (pv 2))))), ?_⟩
    refine ⟨Nat.zero_le _, fun o no => ?_⟩
    have s1 : Same H (upd H o (.lst [])) := same_new no
    refine ⟨_, rfl, x, C, dx, fs, _, rfl, s1 _ _ hx, T.cl, T.nS, hl, sA, ss.map V.int, rfl, seqT s1 hS, fun r nr => ?_⟩
    have er : (ss.map V.int).reverse = ss.reverse.map V.int := by rw [List.map_reverse]
    rw [er]
    have s2 := same_put' (o := HO.tup (ss.reverse.map V.int)) s1 nr
    have nor : o ≠ r := ne_of_none upd_same nr
    refine ⟨r, rfl, ⟨_, .inl (.inl upd_same)⟩, for_tup (K := K) (a := r) (xs := ss.reverse.map V.int) (fun i σ H' => ∃ (acc : List Int) (z : Int) (y3 : Option V), σ = [some (.ref x), some (.int z), some (.ref o), y3] ∧ Same H H' ∧ H' r = some (.tup (ss.reverse.map V.int)) ∧ H' o = some (.lst (acc.map V.int)) ∧ acc.length = i ∧ acc ++ splitR (ss.reverse.drop i) z = splitR ss.reverse pt)
      ⟨[], pt, none, rfl, s2, upd_same, by rw [upd_ne nor, upd_same]; rfl, rfl, rfl⟩ (fun i σ H' _ h => by obtain ⟨_, _, _, _, _, h, _⟩ := h; exact .inl (.inl h)) ?_ ?_⟩
    · rintro i y σ H' hy ⟨acc, z, y3, rfl, sm, hr', ho, hla, e⟩
      obtain ⟨hi, rfl⟩ := get_int hy
      have hm : ss.reverse.getD i 0 ∈ ss := by
        rw [List.getD_eq_getElem?_getD, List.getElem?_eq_getElem hi]
        exact List.mem_reverse.mp (List.getElem_mem hi)
      obtain ⟨b1, b2⟩ := hb _ hm
      have hil : i < ss.length := by
        rw [List.length_reverse] at hi
        exact hi
      have nro : r ≠ o := nor.symm
      refine ⟨_, rfl, .inl ⟨rfl, _, SqL.of ho⟩, _, rfl, _, rfl, _, _, rfl, rfl, (by show 0 < ss.reverse.getD i 0; omega), o, _, _, rfl, rfl, ho, (by rw [List.length_map]; exact small (by omega)), ?_⟩
      refine ⟨_, rfl, _, rfl, _, _, rfl, rfl, ⟨by omega, by omega⟩, acc ++ [z % ss.reverse.getD i 0], z / ss.reverse.getD i 0, _, rfl, same_put sm no, by rw [upd_ne nro]; exact hr', by rw [upd_same, map_snoc], by rw [List.length_append, hla]; rfl, ?_⟩
      rw [drop_at hi] at e
      rw [List.append_assoc]
      exact e
    · rintro σ H' ⟨acc, z, y3, rfl, sm, hr', ho, hla, e⟩
      rw [List.length_map, List.drop_length] at e
      have ea : acc = splitR ss.reverse pt := by
        rw [← e]
        exact (List.append_nil _).symm
      refine ⟨_, rfl, o, _, rfl, .inl (.inl ho), fun t nt => ?_⟩
      have e2 : (acc.map V.int).reverse = (split ss pt).map V.int := by
        rw [← List.map_reverse, ea]
        rfl
      rw [e2]
      exact q _ t (same_put' sm nt) (sm.free nt) upd_same
/-! ### joined -/
abbrev sJoin : Stmt := famS 2
theorem scJoin : FnScope ["self", "figures", "point", "size", "figure"] ["self", "figures"] (defScope sJoin) := ⟨rfl, rfl, rfl, by decide +kernel, rfl, by decide +kernel, by decide +kernel⟩
def spJoin (K : PySem.W.Frag) (C : Addr) : Sp := fun vs H Q _ => ∃ (x dx sA fa : Addr) (fs : List (Str × V)) (ss figures : List Int), vs = [.ref x, .ref fa] ∧ H x = some (.ins C dx fs) ∧ fs.lookup ("sizes" : Str) = some (.ref sA) ∧ SqT K H sA (ss.map V.int) ∧ SqL K H fa (figures.map V.int) ∧ (ss.length = figures.length ∧ ss.length ≤ 100) ∧ (∀ s ∈ ss, 2 ≤ s ∧ s < 2 ^ 12) ∧ NewI H (joined ss figures) Q
theorem ok_join (D : DefM K C "joined" "Family.joined" sJoin) (T : TF K C) (mz : mg "zip" = none) : Met P w K mg base 1 C "joined" (spJoin K C) := by
  refine D.met scJoin (fun _ _ _ _ _ _ us hl => match us, hl with | [_, _], _ => rfl) (fun vs H Q E h => ?_) (fun f cdv A outer s H vs Q E hr h => ?_)
  · obtain ⟨x, dx, sA, fa, fs, ss, figures, rfl, _⟩ := h
    rfl
  · obtain ⟨x, dx, sA, fa, fs, ss, figures, rfl, hx, hl, hS, hF, ⟨hlen, hl1⟩, hb, q⟩ := h
    refine ⟨_, pss_cons (ps_set (i := 2) scJoin.nd rfl (.inl rfl) pe_int)
      (pss_cons (ps_for PassesOwn.never rfl (pi_zip2 mz (pa_cons (pe_fld (pv 0) rfl) (pa_cons (pv 1) pa_nil))) (pg_tup (by rfl) (pgs_cons (pg_name (i := 3) scJoin.nd rfl (.inl rfl)) (pgs_cons (pg_name (i := 4) scJoin.nd rfl (.inl rfl)) pgs_nil)))
        (pss_one (ps_set (i := 2) scJoin.nd rfl (.inl rfl) (pe_op op_add (pe_op op_mul (pv 2) (pv 3)) (pv 4)))))
      (pss_one (ps_ret (pv 2)))), ?_⟩
    refine ⟨_, rfl, x, C, dx, fs, _, rfl, hx, T.cl, T.nS, hl, _, rfl, ⟨false, sA⟩, ⟨true, fa⟩, ss.map V.int, figures.map V.int, rfl, ⟨hS, hF⟩, ?_⟩
    refine for_zipN (K := K) (n := ss.length) [ss.map V.int, figures.map V.int] rfl (fun i σ H' => ∃ (z : Int) (y3 y4 : Option V), σ = [some (.ref x), some (.ref fa), some (.int z), y3, y4] ∧ Same H H' ∧ joinF (ss.drop i) (figures.drop i) z = joined ss figures) ⟨0, none, none, rfl, Same.refl H, rfl⟩ ?_ ?_ ?_
    · rintro i σ H' hi ⟨z, y3, y4, rfl, sm, e⟩
      refine ⟨rfl, fun j r xs e1 e2 => ?_⟩
      match j, e1, e2 with
      | 0, e1, e2 =>
        cases e1
        cases e2
        exact ⟨seqT sm hS, List.length_map ..⟩
      | 1, e1, e2 =>
        cases e1
        cases e2
        exact ⟨sm.seq hF, by rw [List.length_map, hlen]⟩
      | j + 2, e1, e2 => cases e1
    · rintro i T2 ys σ H' hi hly hys ⟨z, y3, y4, rfl, sm, e⟩ nT
      have g0 := hys 0 _ rfl
      have g1 := hys 1 _ rfl
      obtain ⟨u0, u1, rfl⟩ : ∃ u0 u1, ys = [u0, u1] := by
        match ys, hly with
        | [u0, u1], _ => exact ⟨u0, u1, rfl⟩
      have hi2 : i < figures.length := by omega
      have w0 : u0 = .int (ss.getD i 0) := (get_int (show (ss.map V.int)[i]? = some u0 from g0.symm)).2
      have w1 : u1 = .int (figures.getD i 0) := (get_int (show (figures.map V.int)[i]? = some u1 from g1.symm)).2
      subst w0 w1
      have hm : ss.getD i 0 ∈ ss := by
        rw [List.getD_eq_getElem?_getD, List.getElem?_eq_getElem hi]
        exact List.getElem_mem hi
      obtain ⟨b1, b2⟩ := hb _ hm
      refine ⟨T2, _, rfl, .inl (.inl upd_same), rfl, _, _, rfl, _, _, rfl, rfl, ?_⟩
      refine ⟨_, rfl, _, rfl, _, _, rfl, rfl, .inr ⟨by omega, by omega⟩, _, rfl, _, _, rfl, rfl, _, _, _, rfl, same_put' sm nT, ?_⟩
      rw [← e, joinF_cons hi hi2]
    · rintro σ H' ⟨z, y3, y4, rfl, sm, e⟩
      have ez : z = joined ss figures := by
        rw [← e, List.drop_length]
        rfl
      refine ⟨_, rfl, ?_⟩
      rw [ez]
      exact q H' sm
end
end Ms
namespace Ms
open PySem PySem.Spec PyProof.Rows L2
/-! ### heaps but for one address -/
def SameX (x : Addr) (H H' : Hp) : Prop := ∀ b o, H b = some o → b ≠ x → H' b = some o
theorem SameX.trans {x : Addr} {H H1 H2 : Hp} (a : SameX x H H1) (s : Same H1 H2) : SameX x H H2 := fun b o e n => s _ _ (a b o e n)
theorem SameX.put {x : Addr} {H H1 : Hp} {o : HO} (a : SameX x H H1) : SameX x H (upd H1 x o) := fun b u e n => by
  rw [upd_ne n]
  exact a b u e n
theorem kt {G : Hp} {x C dx b : Addr} {fs : List (Str × V)} {xs : List V} {o : HO} (hx : G x = some (.ins C dx fs)) (hb : G b = some (.tup xs)) : upd G x o b = some (.tup xs) := by
  rw [upd_ne (ne_of hb hx (fun z => nomatch z))]
  exact hb
theorem PartsAt.kt {G : Hp} {x C dx : Addr} {fs : List (Str × V)} {o : HO} {pas : List Addr} {ps : List Part} (hx : G x = some (.ins C dx fs)) (h : PartsAt G pas ps) : PartsAt (upd G x o) pas ps :=
  ⟨h.len, fun j a q e1 e2 => Ms.kt hx (h.at_ j a q e1 e2)⟩
theorem len1 (f : Str) (v : V) (fs : List (Str × V)) : (putF f v fs).length ≤ fs.length + 1 := by
  induction fs with
  | nil => exact Nat.le_refl _
  | cons y r ih =>
    obtain ⟨g, z⟩ := y
    unfold putF
    split
    · exact Nat.le_succ _
    · exact Nat.succ_le_succ ih
section
variable {P : Program} {w : World} {K : PySem.W.Frag} {mg : Str → Option Value} {base : Heap} {C : Addr}
/-! ### __init__ -/
abbrev sInit : Stmt := famS 0
abbrev nInit : List Str := ["self", "parts", "prime", "degree", "size"]
theorem scInit : FnScope nInit ["self", "parts"] (defScope sInit) := ⟨rfl, rfl, rfl, by decide +kernel, rfl, by decide +kernel, by decide +kernel⟩
def spInit (C : Addr) : Sp := fun vs H Q _ => ∃ (x dx a : Addr) (pas : List Addr) (ps : List Part), vs = [.ref x, .ref a] ∧ H x = some (.ins C dx []) ∧ H a = some (.lst (pas.map V.ref)) ∧ PartsAt H pas ps ∧ GoodPs ps ∧
  ∀ H' : Hp, SameX x H H' → FamAt C H' x ps → Q .non H'
theorem ok_init (D : DefM K C "__init__" "Family.__init__" sInit) (T : TF K C) (G : GI mg) (mm : mg "min" = none) (CK : Cal P w K mg base 4 "checked_parts" spChk []) (CS : Cal P w K mg base 1 "size_of" spSize []) (CL : Cal P w K mg base 4 "lower_of" spLow []) (MJ : Met P w K mg base 1 C "joined" (spJoin K C)) :
    Met P w K mg base 5 C "__init__" (spInit C) := by
  refine D.met scInit (fun _ _ _ _ _ _ us hl => match us, hl with | [_, _], _ => rfl) (fun vs H Q E h => ?_) (fun f cdv A outer s H vs Q E hr h => ?_)
  · obtain ⟨x, dx, a, pas, ps, rfl, _⟩ := h
    rfl
  · obtain ⟨x, dx, a, pas, ps, rfl, hx, ha, hP, hG, q⟩ := h
    refine ⟨_, pss_cons (ps_fld (pv 0) (pc CK hr (pa_cons (pv 1) pa_nil)) rfl)
      (pss_cons (ps_fld (pv 0) (pe_callTy call_tuple_of (by rfl) G.tup (by decide +kernel) (pa_cons (pe_lc (own := [("prime", 2), ("degree", 3)]) (g := gTup K 2 (gCons (gName 2) (gCons (gName 3) gNil))) (tt := tYes) (by rfl) scInit.nd (pi_tup (pe_fld (pv 0) rfl)) (blkOk_by (N := nInit) (sc := defScope sInit) (by decide +kernel))
        (fun _ _ _ _ _ => pg_tup (by rfl) (pgs_cons (pg_name (i := 2) scInit.nd rfl (Or.inl rfl)) (pgs_cons (pg_name (i := 3) scInit.nd rfl (Or.inl rfl)) pgs_nil))) (fun _ _ _ _ _ => pts_nil) (fun _ _ _ _ _ => pc (sp := spSize) CS hr (pa_cons (pv 2) (pa_cons (pv 3) pa_nil)))) pa_nil)) rfl)
      (pss_cons (ps_fld (pv 0) (pe_op op_sub (pe_callB (cr_minT rfl) (by rfl) mm (by decide +kernel) (pa_cons (pe_fld (pv 0) rfl) pa_nil)) pe_int) rfl)
      (pss_cons (ps_fld (pv 0) (pe_callTy call_tuple_of (by rfl) G.tup (by decide +kernel) (pa_cons (pe_lc (own := [("prime", 2), ("degree", 3)]) (g := gTup K 2 (gCons (gName 2) (gCons (gName 3) gNil))) (tt := tYes) (by rfl) scInit.nd (pi_tup (pe_fld (pv 0) rfl)) (blkOk_by (N := nInit) (sc := defScope sInit) (by decide +kernel))
        (fun _ _ _ _ _ => pg_tup (by rfl) (pgs_cons (pg_name (i := 2) scInit.nd rfl (Or.inl rfl)) (pgs_cons (pg_name (i := 3) scInit.nd rfl (Or.inl rfl)) pgs_nil))) (fun _ _ _ _ _ => pts_nil) (fun _ _ _ _ _ => pc (sp := spLow) CL hr (pa_cons (pv 2) (pa_cons (pv 3) pa_nil)))) pa_nil)) rfl)
      (pss_one (ps_fld (pv 0) (pe_op op_add (pm MJ hr (pv 0) (pa_cons (pe_lc (own := [("size", 4)]) (g := gName 4) (tt := tYes) (by rfl) scInit.nd (pi_tup (pe_fld (pv 0) rfl)) (blkOk_by (N := nInit) (sc := defScope sInit) (by decide +kernel))
        (fun _ _ _ _ _ => pg_name (i := 4) scInit.nd rfl (Or.inl rfl)) (fun _ _ _ _ _ => pts_nil) (fun _ _ _ _ _ => pe_op op_sub (pv 4) pe_int)) pa_nil)) pe_int) rfl))))), ?_⟩
    have few := hG.few
    have hlen := hP.len
    -- self.parts
    refine ⟨_, rfl, a, pas, ps, rfl, ha, hP, hG, fun H1 pA s1 n1 e1 => ?_⟩
    have hx1 := s1 _ _ hx
    refine ⟨_, rfl, x, C, dx, [], rfl, hx1, T.cl, T.nP, by decide, ?_⟩
    generalize hG1 : upd H1 x (.ins C dx (putF "parts" (.ref pA) [])) = G1
    have x1 : SameX x H G1 := by
      rw [← hG1]
      exact SameX.put (fun b o e _ => s1 b o e)
    have g1x : G1 x = some (.ins C dx (putF "parts" (.ref pA) [])) := by rw [← hG1, upd_same]
    have g1p : G1 pA = some (.tup (pas.map V.ref)) := by
      rw [← hG1]
      exact kt hx1 e1
    have g1q : PartsAt G1 pas ps := by
      rw [← hG1]
      exact (hP.same s1).kt hx1
    -- self.sizes
    refine ⟨_, rfl, x, C, dx, _, _, rfl, g1x, T.cl, T.nP, lk_eq, pA, rfl, ⟨_, .inl (.inl g1p)⟩, fun D nD => ?_⟩
    refine lc_tup (K := K) (a := pA) (xs := pas.map V.ref) (fun j H'' => Same G1 H'' ∧ H'' D = some (.lst ((sizes (ps.take j)).map V.int))) ⟨same_new nD, upd_same⟩ (fun j H'' _ h => .inl (.inl (h.1 _ _ g1p))) ?_ ?_
    · rintro j y H'' hy ⟨s2, hD⟩
      obtain ⟨pb, hpb, rfl⟩ := get_ref hy
      have hj : j < ps.length := by
        rw [← hlen]
        exact (List.getElem?_eq_some_iff.mp hpb).1
      have hq : ps[j]? = some ps[j] := List.getElem?_eq_getElem hj
      generalize ps[j] = qq at hq
      have F := hG.fld qq (List.mem_of_getElem? hq)
      have f1 := F.p2
      have f2 := F.p97
      have f3 := F.k12
      have hT := s2 _ _ (g1q.at_ j pb qq hpb hq)
      refine ⟨pb, _, rfl, .inl (.inl hT), rfl, _, _, rfl, _, _, rfl, rfl, rfl, _, rfl, _, rfl, qq.1, qq.2, rfl, by omega, by omega, by omega, _, hD, ?_, same_put s2 nD, ?_⟩
      · rw [List.length_map, sizes_len, List.length_take]
        exact small (by omega)
      · have e : sizes (ps.take (j + 1)) = sizes (ps.take j) ++ [qq.1 ^ qq.2] := by
          rw [← take_snoc hq]
          exact List.map_append
        rw [upd_same, map_snoc, e]
    rintro H2 ⟨s2, hD⟩
    rw [List.length_map, hlen, List.take_length] at hD
    refine ⟨D, _, rfl, .inl ⟨.inl (.inl hD), fun sA nS => ?_⟩⟩
    have s3 := same_put' (o := HO.tup ((sizes ps).map V.int)) s2 nS
    have g2x := s3 _ _ g1x
    refine ⟨_, rfl, x, C, dx, _, rfl, g2x, T.cl, T.nS, Nat.lt_of_le_of_lt (len1 _ _ _) (by decide), ?_⟩
    generalize hG2 : upd (upd H2 sA (.tup ((sizes ps).map V.int))) x (.ins C dx (putF "sizes" (.ref sA) (putF "parts" (.ref pA) []))) = G2
    have x2 : SameX x H G2 := by
      rw [← hG2]
      exact (x1.trans s3).put
    have g2x' : G2 x = some (.ins C dx (fam2 pA sA)) := by rw [← hG2, upd_same]
    have g2p : G2 pA = some (.tup (pas.map V.ref)) := by
      rw [← hG2]
      exact kt g2x (s3 _ _ g1p)
    have g2q : PartsAt G2 pas ps := by
      rw [← hG2]
      exact (g1q.same s3).kt g2x
    have g2s : G2 sA = some (.tup ((sizes ps).map V.int)) := by
      rw [← hG2]
      exact kt g2x upd_same
    -- self.many
    have hpos : 0 < (sizes ps).length := by
      rw [sizes_len]
      exact List.length_pos_iff.mpr hG.pos
    refine ⟨_, rfl, x, C, dx, _, _, rfl, g2x', T.cl, T.nS, lk_eq, sA, sizes ps, rfl, .inl (.inl g2s), hpos, fun m hm hle => ⟨_, _, rfl, rfl, _, rfl, x, C, dx, _, rfl, g2x', T.cl, T.nM, Nat.lt_of_le_of_lt (len1 _ _ _) (Nat.lt_of_le_of_lt (Nat.succ_le_succ (len1 _ _ _)) (by decide)), ?_⟩⟩
    have em : m - 1 = manyF ps := by
      unfold manyF
      rw [minL_is hm hle]
    dsimp only
    rw [em]
    generalize hG3 : upd G2 x (.ins C dx (putF "many" (.int (manyF ps)) (fam2 pA sA))) = G3
    have x3 : SameX x H G3 := by
      rw [← hG3]
      exact x2.put
    have g3x : G3 x = some (.ins C dx (putF "many" (.int (manyF ps)) (fam2 pA sA))) := by rw [← hG3, upd_same]
    have g3p : G3 pA = some (.tup (pas.map V.ref)) := by
      rw [← hG3]
      exact kt g2x' g2p
    have g3q : PartsAt G3 pas ps := by
      rw [← hG3]
      exact g2q.kt g2x'
    have g3s : G3 sA = some (.tup ((sizes ps).map V.int)) := by
      rw [← hG3]
      exact kt g2x' g2s
    -- self.lowers
    refine ⟨_, rfl, x, C, dx, _, _, rfl, g3x, T.cl, T.nP, ?_, pA, rfl, ⟨_, .inl (.inl g3p)⟩, fun D2 nD2 => ?_⟩
    · rw [lk_ne (by decide +kernel), lk_ne (by decide +kernel), lk_eq]
    refine lc_tup (K := K) (a := pA) (xs := pas.map V.ref) (fun j H'' => Same G3 H'' ∧ ∃ las : List Addr, las.length = j ∧ H'' D2 = some (.lst (las.map V.ref)) ∧ ∀ (i : Nat) (a : Addr) (q : Part), las[i]? = some a → ps[i]? = some q → H'' a = some (.tup ((lowerOf q.1 q.2).map V.int)))
      ⟨same_new nD2, [], rfl, upd_same, fun i a q e => by simp at e⟩ (fun j H'' _ h => .inl (.inl (h.1 _ _ g3p))) ?_ ?_
    · rintro j y H'' hy ⟨s4, las, hla, hD2, hat⟩
      obtain ⟨pb, hpb, rfl⟩ := get_ref hy
      have hj : j < ps.length := by
        rw [← hlen]
        exact (List.getElem?_eq_some_iff.mp hpb).1
      have hq : ps[j]? = some ps[j] := List.getElem?_eq_getElem hj
      generalize ps[j] = qq at hq
      have F := hG.fld qq (List.mem_of_getElem? hq)
      have f1 := F.p2
      have f2 := F.p97
      have f3 := F.k12
      have hT := s4 _ _ (g3q.at_ j pb qq hpb hq)
      refine ⟨pb, _, rfl, .inl (.inl hT), rfl, _, _, rfl, _, _, rfl, rfl, rfl, _, rfl, _, rfl, qq.1, qq.2, rfl, ⟨by omega, by omega⟩, by omega, F.ir, fun H5 tl s5 n5 e5 => ⟨las.map V.ref, s5 _ _ hD2, ?_, same_put (s4.trans s5) nD2, las ++ [tl], ?_, ?_, fun i a q ei eq => ?_⟩⟩
      · rw [List.length_map]
        exact small (by omega)
      · rw [List.length_append, hla]
        rfl
      · rw [upd_same, List.map_append]
        rfl
      · have h5 : H5 a = some (.tup ((lowerOf q.1 q.2).map V.int)) := by
          by_cases hij : i < las.length
          · rw [List.getElem?_append_left hij] at ei
            exact s5 _ _ (hat i a q ei eq)
          · rw [List.getElem?_append_right (by omega)] at ei
            have hi0 : i - las.length = 0 := by
              have := (List.getElem?_eq_some_iff.mp ei).1
              rw [List.length_singleton] at this
              omega
            rw [hi0] at ei
            have ea : tl = a := Option.some.inj ei
            have eij : i = j := by omega
            rw [eij, hq] at eq
            cases eq
            rw [← ea]
            exact e5
        rw [upd_ne (ne_of h5 (s5 _ _ hD2) (fun z => nomatch z))]
        exact h5
    rintro H6 ⟨s6, las, hla, hD2, hat⟩
    rw [List.length_map, hlen] at hla
    refine ⟨D2, _, rfl, .inl ⟨.inl (.inl hD2), fun lA nL => ?_⟩⟩
    have s7 := same_put' (o := HO.tup (las.map V.ref)) s6 nL
    have g4x := s7 _ _ g3x
    refine ⟨_, rfl, x, C, dx, _, rfl, g4x, T.cl, T.nL, Nat.lt_of_le_of_lt (len1 _ _ _) (Nat.lt_of_le_of_lt (Nat.succ_le_succ (len1 _ _ _)) (Nat.lt_of_le_of_lt (Nat.succ_le_succ (Nat.succ_le_succ (len1 _ _ _))) (by decide))), ?_⟩
    generalize hG4 : upd (upd H6 lA (.tup (las.map V.ref))) x (.ins C dx (putF "lowers" (.ref lA) (putF "many" (.int (manyF ps)) (fam2 pA sA)))) = G4
    have x4 : SameX x H G4 := by
      rw [← hG4]
      exact (x3.trans s7).put
    have g4x' : G4 x = some (.ins C dx (fam4 pA sA lA (manyF ps))) := by rw [← hG4, upd_same]
    have g4p : G4 pA = some (.tup (pas.map V.ref)) := by
      rw [← hG4]
      exact kt g4x (s7 _ _ g3p)
    have g4q : PartsAt G4 pas ps := by
      rw [← hG4]
      exact (g3q.same s7).kt g4x
    have g4s : G4 sA = some (.tup ((sizes ps).map V.int)) := by
      rw [← hG4]
      exact kt g4x (s7 _ _ g3s)
    have g4l : G4 lA = some (.tup (las.map V.ref)) := by
      rw [← hG4]
      exact kt g4x upd_same
    have g4t : ∀ (i : Nat) (a : Addr) (q : Part), las[i]? = some a → ps[i]? = some q → G4 a = some (.tup ((lowerOf q.1 q.2).map V.int)) := fun i a q e1 e2 => by
      rw [← hG4]
      exact kt g4x (same_new nL _ _ (hat i a q e1 e2))
    -- self.order
    refine ⟨_, rfl, x, dx, _, rfl, g4x', f4_no pA sA lA _ (by decide +kernel) (by decide +kernel) (by decide +kernel) (by decide +kernel), ?_⟩
    refine ⟨_, rfl, x, C, dx, _, _, rfl, g4x', T.cl, T.nS, f4_sizes _ _ _ _, sA, rfl, ⟨_, .inl (.inl g4s)⟩, fun D3 nD3 => ?_⟩
    refine lc_tup (K := K) (a := sA) (xs := (sizes ps).map V.int) (fun j H'' => Same G4 H'' ∧ H'' D3 = some (.lst ((((sizes ps).take j).map fun s => s - 1).map V.int))) ⟨same_new nD3, upd_same⟩ (fun j H'' _ h => .inl (.inl (h.1 _ _ g4s))) ?_ ?_
    · rintro j y H'' hy ⟨s8, hD3⟩
      obtain ⟨hj, rfl⟩ := get_int hy
      refine ⟨rfl, _, rfl, _, _, rfl, rfl, _, hD3, ?_, same_put s8 nD3, ?_⟩
      · rw [List.length_map, List.length_map, List.length_take, sizes_len]
        exact small (by omega)
      · rw [upd_same, map_snoc]
        exact congrArg (fun l : List Int => some (HO.lst (l.map V.int))) (map_take_snoc (fun s => s - 1) hj)
    rintro H8 ⟨s8, hD3⟩
    rw [List.length_map, List.take_length] at hD3
    refine ⟨x, dx, sA, D3, _, sizes ps, _, rfl, s8 _ _ g4x', f4_sizes _ _ _ _, .inl (.inl (s8 _ _ g4s)), .inl (.inl hD3), ⟨(List.length_map ..).symm, by rw [sizes_len]; omega⟩, hG.sz, fun H9 s9 => ?_⟩
    have s10 := s8.trans s9
    have g5x := s10 _ _ g4x'
    refine ⟨_, _, rfl, rfl, _, rfl, x, C, dx, _, rfl, g5x, T.cl, T.nO, ?_, ?_⟩
    · exact Nat.lt_of_le_of_lt (len1 _ _ _) (Nat.lt_of_le_of_lt (Nat.succ_le_succ (len1 _ _ _)) (Nat.lt_of_le_of_lt (Nat.succ_le_succ (Nat.succ_le_succ (len1 _ _ _))) (Nat.lt_of_le_of_lt (Nat.succ_le_succ (Nat.succ_le_succ (Nat.succ_le_succ (len1 _ _ _)))) (by decide))))
    · refine q _ (x4.trans s10).put ⟨dx, pA, sA, lA, pas, las, upd_same, ⟨kt g5x (s10 _ _ g4p), (g4q.same s10).kt g5x⟩, kt g5x (s10 _ _ g4s), kt g5x (s10 _ _ g4l), hla, fun i a q e1 e2 => kt g5x (s10 _ _ (g4t i a q e1 e2))⟩
end
end Ms
namespace Ms
open PySem PySem.Spec PyProof.Rows L2
/-! ### bounds -/
theorem numOf_bd {p : Int} (hp : 0 < p) : ∀ (xs : List Int), Bd p xs → 0 ≤ numOf p xs ∧ numOf p xs < p ^ xs.length
  | [], _ => ⟨Int.le_refl 0, by show (0 : Int) < p ^ 0; rw [Int.pow_zero]; decide⟩
  | x :: xs, h => by
    obtain ⟨h1, h2⟩ := numOf_bd hp xs fun y hy => h y (List.mem_cons_of_mem _ hy)
    obtain ⟨h3, h4⟩ := h x (List.mem_cons_self ..)
    show 0 ≤ numOf p xs * p + x ∧ numOf p xs * p + x < p ^ (xs.length + 1)
    rw [Int.pow_succ]
    have e1 : 0 ≤ numOf p xs * p := Int.mul_nonneg h1 (by omega)
    have e2 : (numOf p xs + 1) * p ≤ p ^ xs.length * p := Int.mul_le_mul_of_nonneg_right (by omega) (by omega)
    rw [Int.add_mul, Int.one_mul] at e2
    omega
theorem prodOf_bd {p : Int} (hp : 0 < p) (lower : List Int) (a b : Int) : 0 ≤ prodOf p lower a b ∧ prodOf p lower a b < p ^ lower.length := by
  unfold prodOf
  have h := numOf_bd hp _ (bd_rem hp lower (bd_mulP hp (figs p lower.length a) (figs p lower.length b)))
  rw [rem_length] at h
  exact h
theorem splitR_bd : ∀ (ss : List Int) (x : Int), (∀ s ∈ ss, 2 ≤ s ∧ s < 2 ^ 12) → ∀ z ∈ splitR ss x, 0 ≤ z ∧ z < 2 ^ 12
  | [], _, _, z, hz => nomatch (show z ∈ ([] : List Int) from hz)
  | s :: ss, x, h, z, hz => by
    obtain ⟨h1, h2⟩ := h s (List.mem_cons_self ..)
    have hz2 : z ∈ x % s :: splitR ss (x / s) := hz
    rcases List.mem_cons.mp hz2 with e | hz3
    · rw [e]
      have := mod_bd (p := s) (by omega) x
      omega
    · exact splitR_bd ss (x / s) (fun y hy => h y (List.mem_cons_of_mem _ hy)) z hz3
theorem split_bd {ss : List Int} (h : ∀ s ∈ ss, 2 ≤ s ∧ s < 2 ^ 12) (x : Int) (i : Nat) : 0 ≤ (split ss x).getD i 0 ∧ (split ss x).getD i 0 < 2 ^ 12 := by
  rw [List.getD_eq_getElem?_getD]
  cases e : (split ss x)[i]? with
  | none => exact ⟨Int.le_refl 0, by decide⟩
  | some v =>
    have hm : v ∈ split ss x := List.mem_of_getElem? e
    unfold split at hm
    exact splitR_bd ss.reverse x (fun s hs => h s (List.mem_reverse.mp hs)) v (List.mem_reverse.mp hm)
theorem comb_len (op : Int → Int → Int → Int) (kind : Int) : ∀ (ps : List Part) (as bs : List Int), as.length = ps.length → bs.length = ps.length → (comb op kind ps as bs).length = ps.length
  | [], _, _, _, _ => rfl
  | q :: ps, a :: as, b :: bs, h1, h2 => congrArg Nat.succ (comb_len op kind ps as bs (Nat.succ.inj h1) (Nat.succ.inj h2))
  | q :: ps, [], _, h1, _ => nomatch h1
  | q :: ps, _ :: _, [], _, h2 => nomatch h2
theorem comb_drop {op : Int → Int → Int → Int} {kind : Int} {ps : List Part} {as bs : List Int} {i : Nat} {q : Part} (h : ps[i]? = some q) (h1 : i < as.length) (h2 : i < bs.length) :
    comb op kind (ps.drop i) (as.drop i) (bs.drop i) = op q.1 (as.getD i 0) (prodOf q.1 (lowerOf q.1 q.2) kind (bs.getD i 0)) :: comb op kind (ps.drop (i + 1)) (as.drop (i + 1)) (bs.drop (i + 1)) := by
  have hi := (List.getElem?_eq_some_iff.mp h)
  obtain ⟨hl, e⟩ := hi
  rw [drop_at h1, drop_at h2, List.drop_eq_getElem_cons hl, e]
  rfl
section
variable {P : Program} {w : World} {K : PySem.W.Frag} {mg : Str → Option Value} {base : Heap} {C : Addr}
theorem Cal.at_ {k : Nat} {x : Str} {sp : Sp} (c : Cal P w K mg base k x sp []) : ∃ f, mg x = some (.ref f) ∧ C8.CalAt P w K mg base k f sp := by
  obtain ⟨f, fd, ps, ds, ⟨F, hm⟩, kp, b, d⟩ := c.ex
  cases d
  exact ⟨f, hm, ⟨fd, ps, F, kp, b⟩⟩
/-! ### the checks -/
abbrev sCk : Stmt := famS 3
theorem scCk : FnScope ["self", "kind"] ["self", "kind"] (defScope sCk) := ⟨rfl, rfl, rfl, by decide +kernel, rfl, by decide +kernel, by decide +kernel⟩
def spCk (C : Addr) : Sp := fun vs H Q _ => ∃ (x : Addr) (k : Int) (ps : List Part), vs = [.ref x, .int k] ∧ FamAt C H x ps ∧ (-1 ≤ k ∧ k ≤ manyF ps) ∧ Q .non H
theorem ok_ck (D : DefM K C "check_kind" "Family.check_kind" sCk) (T : TF K C) (gc : GInt mg "COLUMN_families" (-1)) : Met P w K mg base 1 C "check_kind" (spCk C) := by
  refine D.met scCk (fun _ _ _ _ _ _ us hl => match us, hl with | [_, _], _ => rfl) (fun vs H Q E h => ?_) (fun f cdv A outer s H vs Q E hr h => ?_)
  · obtain ⟨x, k, ps, rfl, _⟩ := h
    rfl
  · obtain ⟨x, k, ps, rfl, F, ⟨h1, h2⟩, q⟩ := h
    obtain ⟨dx, pA, sA, lA, pas, las, hx, _⟩ := F.ex
    refine ⟨_, pss_one (ps_if (pt_not (pt_chain op_le op_le (pgi gc) (pv 1) (pe_fld (pv 0) rfl))) pss_never pss_nil), ?_⟩
    exact ⟨_, rfl, _, _, rfl, rfl, _, rfl, iteD h1 ⟨_, rfl, x, C, dx, _, _, rfl, hx, T.cl, T.nM, ff_many _ _ _ _ _, _, _, rfl, rfl, _, rfl, iteNS h2 q⟩⟩
abbrev sCp : Stmt := famS 4
theorem scCp : FnScope ["self", "point"] ["self", "point"] (defScope sCp) := ⟨rfl, rfl, rfl, by decide +kernel, rfl, by decide +kernel, by decide +kernel⟩
def spCp (C : Addr) : Sp := fun vs H Q _ => ∃ (x : Addr) (k : Int) (ps : List Part), vs = [.ref x, .int k] ∧ FamAt C H x ps ∧ (0 ≤ k ∧ k < ordF ps) ∧ Q .non H
theorem ok_cp (D : DefM K C "check_point" "Family.check_point" sCp) (T : TF K C) : Met P w K mg base 1 C "check_point" (spCp C) := by
  refine D.met scCp (fun _ _ _ _ _ _ us hl => match us, hl with | [_, _], _ => rfl) (fun vs H Q E h => ?_) (fun f cdv A outer s H vs Q E hr h => ?_)
  · obtain ⟨x, k, ps, rfl, _⟩ := h
    rfl
  · obtain ⟨x, k, ps, rfl, F, ⟨h1, h2⟩, q⟩ := h
    obtain ⟨dx, pA, sA, lA, pas, las, hx, _⟩ := F.ex
    refine ⟨_, pss_one (ps_if (pt_not (pt_chain op_le op_lt pe_int (pv 1) (pe_fld (pv 0) rfl))) pss_never pss_nil), ?_⟩
    exact ⟨_, rfl, _, _, rfl, rfl, _, rfl, iteD h1 ⟨_, rfl, x, C, dx, _, _, rfl, hx, T.cl, T.nO, ff_order _ _ _ _ _, _, _, rfl, rfl, _, rfl, iteNS h2 q⟩⟩
abbrev sCs : Stmt := famS 11
theorem scCs : FnScope ["self", "number"] ["self", "number"] (defScope sCs) := ⟨rfl, rfl, rfl, by decide +kernel, rfl, by decide +kernel, by decide +kernel⟩
def spCs (C : Addr) : Sp := fun vs H Q _ => ∃ (x : Addr) (k : Int) (ps : List Part), vs = [.ref x, .int k] ∧ FamAt C H x ps ∧ (1 ≤ k ∧ k ≤ manyF ps) ∧ Q .non H
theorem ok_cs (D : DefM K C "check_square" "Family.check_square" sCs) (T : TF K C) : Met P w K mg base 1 C "check_square" (spCs C) := by
  refine D.met scCs (fun _ _ _ _ _ _ us hl => match us, hl with | [_, _], _ => rfl) (fun vs H Q E h => ?_) (fun f cdv A outer s H vs Q E hr h => ?_)
  · obtain ⟨x, k, ps, rfl, _⟩ := h
    rfl
  · obtain ⟨x, k, ps, rfl, F, ⟨h1, h2⟩, q⟩ := h
    obtain ⟨dx, pA, sA, lA, pas, las, hx, _⟩ := F.ex
    refine ⟨_, pss_one (ps_if (pt_not (pt_chain op_le op_le pe_int (pv 1) (pe_fld (pv 0) rfl))) pss_never pss_nil), ?_⟩
    exact ⟨_, rfl, _, _, rfl, rfl, _, rfl, iteD h1 ⟨_, rfl, x, C, dx, _, _, rfl, hx, T.cl, T.nM, ff_many _ _ _ _ _, _, _, rfl, rfl, _, rfl, iteNS h2 q⟩⟩
/-! ### combined -/
abbrev sComb : Stmt := famS 7
theorem scComb : FnScope ["self", "point", "other", "kind", "together", "found", "prime", "_", "lower", "one", "far"] ["self", "point", "other", "kind", "together"] (defScope sComb) := ⟨rfl, rfl, rfl, by decide +kernel, rfl, by decide +kernel, by decide +kernel⟩
def spComb (C fL fS : Addr) : Sp := fun vs H Q _ => ∃ (x f : Addr) (ps : List Part) (pt ot kind : Int) (op : Int → Int → Int → Int), vs = [.ref x, .int pt, .int ot, .int kind, .ref f] ∧ FamAt C H x ps ∧ GoodPs ps ∧ ((f = fL ∧ op = lessOf) ∨ (f = fS ∧ op = sumOf)) ∧ NewI H (combined op ps pt ot kind) Q
theorem ok_comb {fL fS : Addr} (D : DefM K C "combined" "Family.combined" sComb) (T : TF K C) (mz : mg "zip" = none) (cL : C8.CalAt P w K mg base 1 fL (spTog lessOf)) (cS : C8.CalAt P w K mg base 1 fS (spTog sumOf)) (CP : Cal P w K mg base 2 "product_of" (spProd K) [])
    (MS : Met P w K mg base 1 C "split" (spSplit K C)) (MJ : Met P w K mg base 1 C "joined" (spJoin K C)) : Met P w K mg base 3 C "combined" (spComb C fL fS) := by
  refine D.met scComb (fun _ _ _ _ _ _ us hl => match us, hl with | [_, _, _, _, _], _ => rfl) (fun vs H Q E h => ?_) (fun f cdv A outer s H vs Q E hr h => ?_)
  · obtain ⟨x, f, ps, pt, ot, kind, op, rfl, _⟩ := h
    rfl
  · obtain ⟨x, f, ps, pt, ot, kind, op, rfl, F, G, hop, q⟩ := h
    obtain ⟨dx, pA, sA, lA, pas, las, hx, ⟨hpA, hP⟩, hsA, hlA, hla, hlt⟩ := F.ex
    refine ⟨_, pss_cons (ps_set (i := 5) scComb.nd rfl (.inl rfl) (pe_lst pa_nil))
      (pss_cons (ps_for PassesOwn.never rfl (pi_zip4 mz (pa_cons (pe_fld (pv 0) rfl) (pa_cons (pe_fld (pv 0) rfl) (pa_cons (pm MS hr (pv 0) (pa_cons (pv 1) pa_nil)) (pa_cons (pm MS hr (pv 0) (pa_cons (pv 2) pa_nil)) pa_nil)))))
          (pg_tup (by rfl) (pgs_cons (pg_tup (by rfl) (pgs_cons (pg_name (i := 6) scComb.nd rfl (.inl rfl)) (pgs_cons (pg_name (i := 7) scComb.nd rfl (.inl rfl)) pgs_nil))) (pgs_cons (pg_name (i := 8) scComb.nd rfl (.inl rfl)) (pgs_cons (pg_name (i := 9) scComb.nd rfl (.inl rfl)) (pgs_cons (pg_name (i := 10) scComb.nd rfl (.inl rfl)) pgs_nil)))))
        (pss_one (ps_expr (pe_bm PySem.F.plainAttrs_list PySem.F.slot_list_append PySem.F.type_list_append mt_append (pv 5) (pa_cons (C8.pe_cv (i := 4) cL cS hr (by decide) (by decide) rfl (.inl rfl) (pa_cons (pv 6) (pa_cons (pv 9) (pa_cons (pc CP hr (pa_cons (pv 6) (pa_cons (pv 8) (pa_cons (pv 3) (pa_cons (pv 10) pa_nil))))) pa_nil)))) pa_nil)))))
      (pss_one (ps_ret (pm MJ hr (pv 0) (pa_cons (pv 5) pa_nil))))), ?_⟩
    have few := G.few
    have hsz := sizes_len ps
    have hplen := hP.len
    refine ⟨Nat.zero_le _, fun o no => ?_⟩
    have s1 : Same H (upd H o (.lst [])) := same_new no
    refine ⟨_, rfl, x, C, dx, _, _, rfl, s1 _ _ hx, T.cl, T.nP, ff_parts _ _ _ _ _, _, rfl, x, C, dx, _, _, rfl, s1 _ _ hx, T.cl, T.nL, ff_lowers _ _ _ _ _, ?_⟩
    refine ⟨_, rfl, x, dx, _, rfl, s1 _ _ hx, ff_no _ _ _ _ _ (by decide +kernel) (by decide +kernel) (by decide +kernel) (by decide +kernel) (by decide +kernel), _, rfl, x, dx, sA, _, sizes ps, pt, rfl, s1 _ _ hx, ff_sizes _ _ _ _ _, .inl (.inl (s1 _ _ hsA)), by omega, G.sz, fun H2 a2 s2 n2 e2 => ?_⟩
    have s12 := s1.trans s2
    refine ⟨_, rfl, x, dx, _, rfl, s12 _ _ hx, ff_no _ _ _ _ _ (by decide +kernel) (by decide +kernel) (by decide +kernel) (by decide +kernel) (by decide +kernel), _, rfl, x, dx, sA, _, sizes ps, ot, rfl, s12 _ _ hx, ff_sizes _ _ _ _ _, .inl (.inl (s12 _ _ hsA)), by omega, G.sz, fun H3 a3 s3 n3 e3 => ?_⟩
    have s13 := s12.trans s3
    have e2' := s3 _ _ e2
    have noH3 : H3 o = some (.lst []) := s3 _ _ (s2 _ _ upd_same)
    generalize hAs : split (sizes ps) pt = as at *
    generalize hBs : split (sizes ps) ot = bs at *
    have las' : as.length = ps.length := by rw [← hAs, split_len, hsz]
    have lbs' : bs.length = ps.length := by rw [← hBs, split_len, hsz]
    refine ⟨⟨false, pA⟩, ⟨false, lA⟩, ⟨true, a2⟩, ⟨true, a3⟩, pas.map V.ref, las.map V.ref, as.map V.int, bs.map V.int, rfl, ⟨.inl (.inl (s13 _ _ hpA)), .inl (.inl (s13 _ _ hlA)), .inl (.inl e2'), .inl (.inl e3)⟩, ?_⟩
    refine for_zipN (K := K) (n := ps.length) [pas.map V.ref, las.map V.ref, as.map V.int, bs.map V.int] rfl (fun i σ H' => ∃ (acc : List Int) (y6 y7 y8 y9 y10 : Option V), σ = [some (.ref x), some (.int pt), some (.int ot), some (.int kind), some (.ref f), some (.ref o), y6, y7, y8, y9, y10] ∧
      Same H H' ∧ H' a2 = some (.lst (as.map V.int)) ∧ H' a3 = some (.lst (bs.map V.int)) ∧ H' o = some (.lst (acc.map V.int)) ∧ acc.length = i ∧ acc ++ comb op kind (ps.drop i) (as.drop i) (bs.drop i) = comb op kind ps as bs)
      ⟨[], none, none, none, none, none, rfl, s13, e2', e3, noH3, rfl, rfl⟩ ?_ ?_ ?_
    · rintro i σ H' hi ⟨acc, y6, y7, y8, y9, y10, rfl, sm, h2, h3, ho, hl, e⟩
      refine ⟨rfl, fun j r xs e1 e2 => ?_⟩
      match j, e1, e2 with
      | 0, e1, e2 =>
        cases e1
        cases e2
        exact ⟨.inl (.inl (sm _ _ hpA)), by rw [List.length_map]; exact hplen⟩
      | 1, e1, e2 =>
        cases e1
        cases e2
        exact ⟨.inl (.inl (sm _ _ hlA)), by rw [List.length_map]; exact hla⟩
      | 2, e1, e2 =>
        cases e1
        cases e2
        exact ⟨.inl (.inl h2), by rw [List.length_map]; exact las'⟩
      | 3, e1, e2 =>
        cases e1
        cases e2
        exact ⟨.inl (.inl h3), by rw [List.length_map]; exact lbs'⟩
      | j + 4, e1, e2 => cases e1
    · rintro i T2 ys σ H' hi hly hys ⟨acc, y6, y7, y8, y9, y10, rfl, sm, h2, h3, ho, hl, e⟩ nT
      have g0 := hys 0 _ rfl
      have g1 := hys 1 _ rfl
      have g2 := hys 2 _ rfl
      have g3 := hys 3 _ rfl
      obtain ⟨u0, u1, u2, u3, rfl⟩ : ∃ u0 u1 u2 u3, ys = [u0, u1, u2, u3] := by
        match ys, hly with
        | [u0, u1, u2, u3], _ => exact ⟨u0, u1, u2, u3, rfl⟩
      obtain ⟨pa, hpa, w0⟩ := get_ref (show (pas.map V.ref)[i]? = some u0 from g0.symm)
      obtain ⟨la, hla', w1⟩ := get_ref (show (las.map V.ref)[i]? = some u1 from g1.symm)
      have w2 : u2 = .int (as.getD i 0) := (get_int (show (as.map V.int)[i]? = some u2 from g2.symm)).2
      have w3 : u3 = .int (bs.getD i 0) := (get_int (show (bs.map V.int)[i]? = some u3 from g3.symm)).2
      subst w0 w1 w2 w3
      have hq : ps[i]? = some ps[i] := List.getElem?_eq_getElem hi
      generalize ps[i] = qq at hq
      have FF := G.fld qq (List.mem_of_getElem? hq)
      have f1 := FF.p2
      have f2 := FF.p97
      have f3 := FF.k12
      have f4 := FF.sz
      have hp : 0 < qq.1 := by omega
      have smT := same_put' (o := HO.tup [.ref pa, .ref la, .int (as.getD i 0), .int (bs.getD i 0)]) sm nT
      have hT := smT _ _ (hP.at_ i pa qq hpa hq)
      have hL := smT _ _ (hlt i la qq hla' hq)
      have nTo : o ≠ T2 := ne_of_none ho nT
      have hoT : (upd H' T2 (.tup [.ref pa, .ref la, .int (as.getD i 0), .int (bs.getD i 0)])) o = some (.lst (acc.map V.int)) := by
        rw [upd_ne nTo]
        exact ho
      have ba : 0 ≤ as.getD i 0 ∧ as.getD i 0 < 2 ^ 12 := by
        rw [← hAs]
        exact split_bd G.sz pt i
      have bp := prodOf_bd hp (lowerOf qq.1 qq.2) kind (bs.getD i 0)
      rw [lowerOf_length] at bp
      refine ⟨T2, _, rfl, .inl (.inl upd_same), rfl, _, _, rfl, pa, _, rfl, .inl (.inl hT), rfl, _, _, rfl, _, _, rfl, rfl, _, _, rfl, _, _, rfl, _, _, rfl, rfl, ?_⟩
      refine ⟨_, rfl, .inl ⟨rfl, _, SqL.of hoT⟩, ?_⟩
      have fin : ∀ H4 : Hp, Same (upd H' T2 (.tup [.ref pa, .ref la, .int (as.getD i 0), .int (bs.getD i 0)])) H4 → ∃ (acc' : List Int) (y6 y7 y8 y9 y10 : Option V), [some (V.ref x), some (.int pt), some (.int ot), some (.int kind), some (.ref f), some (.ref o), some (.int qq.1), some (.int (qq.2 : Int)), some (.ref la), some (.int (as.getD i 0)), some (.int (bs.getD i 0))] = [some (.ref x), some (.int pt), some (.int ot), some (.int kind), some (.ref f), some (.ref o), y6, y7, y8, y9, y10] ∧
          Same H (upd H4 o (.lst (acc.map V.int ++ [.int (op qq.1 (as.getD i 0) (prodOf qq.1 (lowerOf qq.1 qq.2) kind (bs.getD i 0)))]))) ∧ (upd H4 o (.lst (acc.map V.int ++ [.int (op qq.1 (as.getD i 0) (prodOf qq.1 (lowerOf qq.1 qq.2) kind (bs.getD i 0)))]))) a2 = some (.lst (as.map V.int)) ∧
          (upd H4 o (.lst (acc.map V.int ++ [.int (op qq.1 (as.getD i 0) (prodOf qq.1 (lowerOf qq.1 qq.2) kind (bs.getD i 0)))]))) a3 = some (.lst (bs.map V.int)) ∧ (upd H4 o (.lst (acc.map V.int ++ [.int (op qq.1 (as.getD i 0) (prodOf qq.1 (lowerOf qq.1 qq.2) kind (bs.getD i 0)))]))) o = some (.lst (acc'.map V.int)) ∧
          acc'.length = i + 1 ∧ acc' ++ comb op kind (ps.drop (i + 1)) (as.drop (i + 1)) (bs.drop (i + 1)) = comb op kind ps as bs := fun H4 s4 => by
        have n2o : a2 ≠ o := fun z => by
          rw [z, upd_same] at n2
          cases n2
        have n3o : a3 ≠ o := fun z => by
          have := s2 _ _ (upd_same (H := H) (a := o) (o := HO.lst []))
          rw [z, this] at n3
          cases n3
        refine ⟨acc ++ [op qq.1 (as.getD i 0) (prodOf qq.1 (lowerOf qq.1 qq.2) kind (bs.getD i 0))], _, _, _, _, _, rfl, same_put (smT.trans s4) no, ?_, ?_, by rw [upd_same, map_snoc], by rw [List.length_append, hl]; rfl, ?_⟩
        · rw [upd_ne n2o]
          exact s4 _ _ (same_new nT _ _ h2)
        · rw [upd_ne n3o]
          exact s4 _ _ (same_new nT _ _ h3)
        · rw [comb_drop hq (by omega) (by omega)] at e
          rw [List.append_assoc]
          exact e
      rcases hop with ⟨rfl, rfl⟩ | ⟨rfl, rfl⟩
      · refine .inl ⟨rfl, _, rfl, _, rfl, _, rfl, _, rfl, _, rfl, _, rfl, qq.1, la, lowerOf qq.1 qq.2, kind, bs.getD i 0, rfl, ⟨f1, by omega⟩, sqT hL, by rw [lowerOf_length]; omega, bd_lowerOf hp _, fun H4 s4 => ⟨qq.1, as.getD i 0, _, rfl, f1, by omega, ba, ⟨bp.1, by omega⟩, o, _, _, rfl, rfl, s4 _ _ hoT, ?_, fin H4 s4⟩⟩
        rw [List.length_map]
        exact small (by omega)
      · refine .inr ⟨rfl, _, rfl, _, rfl, _, rfl, _, rfl, _, rfl, _, rfl, qq.1, la, lowerOf qq.1 qq.2, kind, bs.getD i 0, rfl, ⟨f1, by omega⟩, sqT hL, by rw [lowerOf_length]; omega, bd_lowerOf hp _, fun H4 s4 => ⟨qq.1, as.getD i 0, _, rfl, f1, by omega, ba, ⟨bp.1, by omega⟩, o, _, _, rfl, rfl, s4 _ _ hoT, ?_, fin H4 s4⟩⟩
        rw [List.length_map]
        exact small (by omega)
    · rintro σ H' ⟨acc, y6, y7, y8, y9, y10, rfl, sm, h2, h3, ho, hl, e⟩
      have ea : acc = comb op kind ps as bs := by
        rw [← e, List.drop_length]
        exact (List.append_nil _).symm
      refine ⟨_, rfl, x, dx, _, rfl, sm _ _ hx, ff_no _ _ _ _ _ (by decide +kernel) (by decide +kernel) (by decide +kernel) (by decide +kernel) (by decide +kernel), _, rfl, x, dx, sA, o, _, sizes ps, acc, rfl, sm _ _ hx, ff_sizes _ _ _ _ _, .inl (.inl (sm _ _ hsA)), .inl (.inl ho), ⟨by omega, by omega⟩, G.sz, fun H5 s5 => ?_⟩
      have ec : joined (sizes ps) acc = combined op ps pt ot kind := by
        unfold combined
        rw [hAs, hBs, ea]
      rw [ec]
      exact q H5 (sm.trans s5)
end
end Ms
namespace Ms
open PySem PySem.Spec PyProof.Rows L2
/-! ### bounds -/
theorem manyF_pos {ps : List Part} (G : GoodPs ps) : 1 ≤ manyF ps := by
  unfold manyF
  have h := G.sz
  cases e : sizes ps with
  | nil =>
    have h0 := sizes_len ps
    rw [e] at h0
    exact absurd (List.length_eq_zero_iff.mp h0.symm) G.pos
  | cons x r =>
    rw [e] at h
    have := (h _ (minL_mem x r)).1
    omega
section
variable {P : Program} {w : World} {K : PySem.W.Frag} {mg : Str → Option Value} {base : Heap} {C : Addr}
/-! ### cell_of -/
abbrev sCo : Stmt := famS 6
theorem scCo : FnScope ["self", "one", "other", "kind", "point", "column"] ["self", "one", "other"] (defScope sCo) := ⟨rfl, rfl, rfl, by decide +kernel, rfl, by decide +kernel, by decide +kernel⟩
def spCo (C : Addr) : Sp := fun vs H Q _ => ∃ (x t1 t2 : Addr) (ps : List Part) (r c : Int), vs = [.ref x, .ref t1, .ref t2] ∧ FamAt C H x ps ∧ GoodPs ps ∧ H t1 = some (.tup [.int 0, .int r]) ∧ H t2 = some (.tup [.int (-1), .int c]) ∧
  ∀ (H' : Hp) (t : Addr), Same H H' → H t = none → H' t = some (.tup [.int (combined lessOf ps r c 0), .int c]) → Q (.ref t) H'
theorem ok_co {fL fS : Addr} (D : DefM K C "cell_of" "Family.cell_of" sCo) (gc : GInt mg "COLUMN_families" (-1)) (mL : mg "less_of" = some (.ref fL)) (MC : Met P w K mg base 3 C "combined" (spComb C fL fS)) : Met P w K mg base 4 C "cell_of" (spCo C) := by
  refine D.met scCo (fun _ _ _ _ _ _ us hl => match us, hl with | [_, _, _], _ => rfl) (fun vs H Q E h => ?_) (fun f cdv A outer s H vs Q E hr h => ?_)
  · obtain ⟨x, t1, t2, ps, r, c, rfl, _⟩ := h
    rfl
  · obtain ⟨x, t1, t2, ps, r, c, rfl, F, G, h1, h2, q⟩ := h
    obtain ⟨dx, pA, sA, lA, pas, las, hx, _⟩ := F.ex
    refine ⟨_, pss_cons (ps_if (pt_cmpR op_eq (pe_ix ix_tup (pv 1) pe_int (fun _ _ => rfl)) (pgi gc) (nomark _)) pss_never pss_nil)
      (pss_cons (ps_asg (pv 1) (pg_tup (by rfl) (pgs_cons (pg_name (i := 3) scCo.nd rfl (.inl rfl)) (pgs_cons (pg_name (i := 4) scCo.nd rfl (.inl rfl)) pgs_nil))))
      (pss_cons (ps_if (pt_cmpR op_eq (pe_ix ix_tup (pv 2) pe_int (fun _ _ => rfl)) (pgi gc) (nomark _))
        (pss_one (ps_ret (pe_tup (pa_cons (pm MC hr (pv 0) (pa_cons (pv 4) (pa_cons (pe_ix ix_tup (pv 2) pe_int (fun _ _ => rfl)) (pa_cons (pv 3) (pa_cons (pe_glob (v := V.ref fL) rfl mL rfl) pa_nil))))) (pa_cons (pe_ix ix_tup (pv 2) pe_int (fun _ _ => rfl)) pa_nil))))) pss_nil)
      pss_never)), ?_⟩
    refine ⟨_, rfl, t1, _, 0, .int 0, rfl, rfl, .inl (.inl h1), atI_nat (j := 0) rfl, rfl, _, rfl, iteDIF (by decide) ?_⟩
    refine ⟨_, rfl, t1, _, rfl, .inl (.inl h1), rfl, _, _, rfl, _, _, rfl, rfl, ?_⟩
    refine ⟨_, rfl, t2, _, 0, .int (-1), rfl, rfl, .inl (.inl h2), atI_nat (j := 0) rfl, rfl, _, rfl, iteDI rfl ?_⟩
    refine ⟨_, rfl, x, dx, _, rfl, hx, ff_no _ _ _ _ _ (by decide +kernel) (by decide +kernel) (by decide +kernel) (by decide +kernel) (by decide +kernel), _, rfl, _, rfl, t2, _, 1, .int c, rfl, rfl, .inl (.inl h2), atI_nat (j := 1) rfl, _, rfl,
      x, fL, ps, r, c, 0, lessOf, rfl, F, G, .inl ⟨rfl, rfl⟩, fun H1 s1 => ?_⟩
    refine ⟨_, rfl, t2, _, 1, .int c, rfl, rfl, .inl (.inl (s1 _ _ h2)), atI_nat (j := 1) rfl, szl (by decide : 2 ≤ 1000), fun t nt => ?_⟩
    exact q _ t (same_put' s1 nt) (s1.free nt) upd_same
/-! ### cell -/
abbrev sCell : Stmt := famS 5
theorem scCell : FnScope ["self", "one", "other", "kind", "point"] ["self", "one", "other"] (defScope sCell) := ⟨rfl, rfl, rfl, by decide +kernel, rfl, by decide +kernel, by decide +kernel⟩
def spCell (C : Addr) : Sp := fun vs H Q _ => ∃ (x t1 t2 : Addr) (ps : List Part) (r c : Int), vs = [.ref x, .ref t1, .ref t2] ∧ FamAt C H x ps ∧ GoodPs ps ∧ H t1 = some (.tup [.int 0, .int r]) ∧ H t2 = some (.tup [.int (-1), .int c]) ∧ ((0 ≤ r ∧ r < ordF ps) ∧ 0 ≤ c ∧ c < ordF ps) ∧
  ∀ (H' : Hp) (t : Addr), Same H H' → H t = none → H' t = some (.tup [.int (combined lessOf ps r c 0), .int c]) → Q (.ref t) H'
theorem ok_cell (D : DefM K C "cell" "Family.cell" sCell) (MK : Met P w K mg base 1 C "check_kind" (spCk C)) (MP : Met P w K mg base 1 C "check_point" (spCp C)) (MO : Met P w K mg base 4 C "cell_of" (spCo C)) : Met P w K mg base 5 C "cell" (spCell C) := by
  refine D.met scCell (fun _ _ _ _ _ _ us hl => match us, hl with | [_, _, _], _ => rfl) (fun vs H Q E h => ?_) (fun f cdv A outer s H vs Q E hr h => ?_)
  · obtain ⟨x, t1, t2, ps, r, c, rfl, _⟩ := h
    rfl
  · obtain ⟨x, t1, t2, ps, r, c, rfl, F, G, h1, h2, ⟨hr1, hc1⟩, q⟩ := h
    obtain ⟨dx, pA, sA, lA, pas, las, hx, _⟩ := F.ex
    have hm := manyF_pos G
    refine ⟨_, pss_cons (ps_for PassesOwn.never rfl (pi_tup (pe_tup (pa_cons (pv 1) (pa_cons (pv 2) pa_nil)))) (pg_tup (by rfl) (pgs_cons (pg_name (i := 3) scCell.nd rfl (.inl rfl)) (pgs_cons (pg_name (i := 4) scCell.nd rfl (.inl rfl)) pgs_nil)))
        (pss_cons (ps_expr (pm MK hr (pv 0) (pa_cons (pv 3) pa_nil))) (pss_one (ps_expr (pm MP hr (pv 0) (pa_cons (pv 4) pa_nil))))))
      (pss_cons (ps_if (pt_cmpR op_eq (pe_ix ix_tup (pv 1) pe_int (fun _ _ => rfl)) (pe_ix ix_tup (pv 2) pe_int (fun _ _ => rfl)) (nomark _)) pss_never pss_nil)
      (pss_one (ps_ret (pm MO hr (pv 0) (pa_cons (pv 1) (pa_cons (pv 2) pa_nil)))))), ?_⟩
    refine ⟨_, rfl, _, rfl, szl (by decide : 2 ≤ 1000), fun o no => ⟨o, rfl, ⟨_, .inl (.inl upd_same)⟩, ?_⟩⟩
    have s0 : Same H (upd H o (.tup [.ref t1, .ref t2])) := same_new no
    refine for_tup (K := K) (a := o) (xs := [.ref t1, .ref t2]) (fun i σ H' => ∃ y3 y4, σ = [some (.ref x), some (.ref t1), some (.ref t2), y3, y4] ∧ H' = upd H o (.tup [.ref t1, .ref t2])) ⟨none, none, rfl, rfl⟩ (fun i σ H' _ h => by obtain ⟨_, _, _, rfl⟩ := h; exact .inl (.inl upd_same)) ?_ ?_
    · rintro i y σ H' hy ⟨y3, y4, rfl, rfl⟩
      have F1 := F.same s0
      match i, hy with
      | 0, hy =>
        have ey : V.ref t1 = y := Option.some.inj hy
        subst ey
        refine ⟨t1, _, rfl, .inl (.inl (s0 _ _ h1)), rfl, _, _, rfl, _, _, rfl, rfl, ?_⟩
        refine ⟨_, rfl, x, dx, _, rfl, s0 _ _ hx, ff_no _ _ _ _ _ (by decide +kernel) (by decide +kernel) (by decide +kernel) (by decide +kernel) (by decide +kernel), _, rfl, x, 0, ps, rfl, F1, ⟨by omega, by omega⟩, ?_⟩
        exact ⟨_, rfl, x, dx, _, rfl, s0 _ _ hx, ff_no _ _ _ _ _ (by decide +kernel) (by decide +kernel) (by decide +kernel) (by decide +kernel) (by decide +kernel), _, rfl, x, r, ps, rfl, F1, hr1, _, _, rfl, rfl⟩
      | 1, hy =>
        have ey : V.ref t2 = y := Option.some.inj hy
        subst ey
        refine ⟨t2, _, rfl, .inl (.inl (s0 _ _ h2)), rfl, _, _, rfl, _, _, rfl, rfl, ?_⟩
        refine ⟨_, rfl, x, dx, _, rfl, s0 _ _ hx, ff_no _ _ _ _ _ (by decide +kernel) (by decide +kernel) (by decide +kernel) (by decide +kernel) (by decide +kernel), _, rfl, x, -1, ps, rfl, F1, ⟨by omega, by omega⟩, ?_⟩
        exact ⟨_, rfl, x, dx, _, rfl, s0 _ _ hx, ff_no _ _ _ _ _ (by decide +kernel) (by decide +kernel) (by decide +kernel) (by decide +kernel) (by decide +kernel), _, rfl, x, c, ps, rfl, F1, hc1, _, _, rfl, rfl⟩
      | i + 2, hy => cases hy
    · rintro σ H' ⟨y3, y4, rfl, rfl⟩
      refine ⟨_, rfl, t1, _, 0, .int 0, rfl, rfl, .inl (.inl (s0 _ _ h1)), atI_nat (j := 0) rfl, _, rfl, t2, _, 0, .int (-1), rfl, rfl, .inl (.inl (s0 _ _ h2)), atI_nat (j := 0) rfl, rfl, _, rfl, iteDIF (by decide) ?_⟩
      refine ⟨_, rfl, x, dx, _, rfl, s0 _ _ hx, ff_no _ _ _ _ _ (by decide +kernel) (by decide +kernel) (by decide +kernel) (by decide +kernel) (by decide +kernel), _, rfl, _, rfl, x, t1, t2, ps, r, c, rfl, F.same s0, G, s0 _ _ h1, s0 _ _ h2, fun H1 t s1 n1 e1 => q H1 t (s0.trans s1) (s0.free n1) e1⟩
/-! ### at_cell -/
abbrev sAt : Stmt := famS 9
theorem scAt : FnScope ["self", "row", "column", "kind"] ["self", "row", "column", "kind"] (defScope sAt) := ⟨rfl, rfl, rfl, by decide +kernel, rfl, by decide +kernel, by decide +kernel⟩
def spAt (C : Addr) : Sp := fun vs H Q _ => ∃ (x : Addr) (ps : List Part) (r c k : Int), vs = [.ref x, .int r, .int c, .int k] ∧ FamAt C H x ps ∧ GoodPs ps ∧ 0 ≤ k ∧ NewI H (combined sumOf ps r c k) Q
theorem ok_at {fL fS : Addr} (D : DefM K C "at_cell" "Family.at_cell" sAt) (gc : GInt mg "COLUMN_families" (-1)) (mS : mg "sum_of" = some (.ref fS)) (MC : Met P w K mg base 3 C "combined" (spComb C fL fS)) : Met P w K mg base 4 C "at_cell" (spAt C) := by
  refine D.met scAt (fun _ _ _ _ _ _ us hl => match us, hl with | [_, _, _, _], _ => rfl) (fun vs H Q E h => ?_) (fun f cdv A outer s H vs Q E hr h => ?_)
  · obtain ⟨x, ps, r, c, k, rfl, _⟩ := h
    rfl
  · obtain ⟨x, ps, r, c, k, rfl, F, G, hk, q⟩ := h
    obtain ⟨dx, pA, sA, lA, pas, las, hx, _⟩ := F.ex
    refine ⟨_, pss_one (ps_ret (pe_ifExp (pt_cmpR op_eq (pv 3) (pgi gc) (nomark _)) (pv 2) (pm MC hr (pv 0) (pa_cons (pv 1) (pa_cons (pv 2) (pa_cons (pv 3) (pa_cons (pe_glob (v := V.ref fS) rfl mS rfl) pa_nil))))))), ?_⟩
    refine ⟨_, rfl, rfl, _, rfl, iteDIF (by omega) ?_⟩
    exact ⟨_, rfl, x, dx, _, rfl, hx, ff_no _ _ _ _ _ (by decide +kernel) (by decide +kernel) (by decide +kernel) (by decide +kernel) (by decide +kernel), _, rfl, _, rfl, _, rfl, x, fS, ps, r, c, k, sumOf, rfl, F, G, .inr ⟨rfl, rfl⟩, q⟩
/-! ### told -/
abbrev sTold : Stmt := famS 10
theorem scTold : FnScope ["self", "one", "other", "wanted", "row", "column"] ["self", "one", "other", "wanted"] (defScope sTold) := ⟨rfl, rfl, rfl, by decide +kernel, rfl, by decide +kernel, by decide +kernel⟩
def spTold (C : Addr) : Sp := fun vs H Q _ => ∃ (x t1 t2 : Addr) (ps : List Part) (r c k : Int), vs = [.ref x, .ref t1, .ref t2, .int k] ∧ FamAt C H x ps ∧ GoodPs ps ∧ H t1 = some (.tup [.int 0, .int r]) ∧ H t2 = some (.tup [.int (-1), .int c]) ∧ ((0 ≤ r ∧ r < ordF ps) ∧ 0 ≤ c ∧ c < ordF ps) ∧ (1 ≤ k ∧ k ≤ manyF ps) ∧ NewI H (sgn ps k r c) Q
theorem ok_told (D : DefM K C "told" "Family.told" sTold) (ME : Met P w K mg base 5 C "cell" (spCell C)) (MK : Met P w K mg base 1 C "check_kind" (spCk C)) (MA : Met P w K mg base 4 C "at_cell" (spAt C)) : Met P w K mg base 6 C "told" (spTold C) := by
  refine D.met scTold (fun _ _ _ _ _ _ us hl => match us, hl with | [_, _, _, _], _ => rfl) (fun vs H Q E h => ?_) (fun f cdv A outer s H vs Q E hr h => ?_)
  · obtain ⟨x, t1, t2, ps, r, c, k, rfl, _⟩ := h
    rfl
  · obtain ⟨x, t1, t2, ps, r, c, k, rfl, F, G, h1, h2, hb, ⟨hk1, hk2⟩, q⟩ := h
    obtain ⟨dx, pA, sA, lA, pas, las, hx, _⟩ := F.ex
    refine ⟨_, pss_cons (ps_asg (pm ME hr (pv 0) (pa_cons (pv 1) (pa_cons (pv 2) pa_nil))) (pg_tup (by rfl) (pgs_cons (pg_name (i := 4) scTold.nd rfl (.inl rfl)) (pgs_cons (pg_name (i := 5) scTold.nd rfl (.inl rfl)) pgs_nil))))
      (pss_cons (ps_expr (pm MK hr (pv 0) (pa_cons (pv 3) pa_nil)))
      (pss_one (ps_ret (pm MA hr (pv 0) (pa_cons (pv 4) (pa_cons (pv 5) (pa_cons (pv 3) pa_nil))))))), ?_⟩
    refine ⟨_, rfl, x, dx, _, rfl, hx, ff_no _ _ _ _ _ (by decide +kernel) (by decide +kernel) (by decide +kernel) (by decide +kernel) (by decide +kernel), _, rfl, _, rfl, x, t1, t2, ps, r, c, rfl, F, G, h1, h2, hb, fun H1 t s1 n1 e1 => ?_⟩
    refine ⟨t, _, rfl, .inl (.inl e1), rfl, _, _, rfl, _, _, rfl, rfl, ?_⟩
    have F1 := F.same s1
    refine ⟨_, rfl, x, dx, _, rfl, s1 _ _ hx, ff_no _ _ _ _ _ (by decide +kernel) (by decide +kernel) (by decide +kernel) (by decide +kernel) (by decide +kernel), _, rfl, x, k, ps, rfl, F1, ⟨by omega, hk2⟩, ?_⟩
    exact ⟨_, rfl, x, dx, _, rfl, s1 _ _ hx, ff_no _ _ _ _ _ (by decide +kernel) (by decide +kernel) (by decide +kernel) (by decide +kernel) (by decide +kernel), _, rfl, _, rfl, _, rfl, x, ps, _, c, k, rfl, F1, G, by omega, fun H2 s2 => q H2 (s1.trans s2)⟩
/-! ### sign -/
abbrev sSgn : Stmt := famS 12
theorem scSgn : FnScope ["self", "number", "row", "column"] ["self", "number", "row", "column"] (defScope sSgn) := ⟨rfl, rfl, rfl, by decide +kernel, rfl, by decide +kernel, by decide +kernel⟩
def spSgn (C : Addr) : Sp := fun vs H Q _ => ∃ (x : Addr) (ps : List Part) (k r c : Int), vs = [.ref x, .int k, .int r, .int c] ∧ FamAt C H x ps ∧ GoodPs ps ∧ ((0 ≤ r ∧ r < ordF ps) ∧ 0 ≤ c ∧ c < ordF ps) ∧ (1 ≤ k ∧ k ≤ manyF ps) ∧ NewI H (sgn ps k r c) Q
theorem ok_sgn (D : DefM K C "sign" "Family.sign" sSgn) (gc : GInt mg "COLUMN_families" (-1)) (gr : GInt mg "ROW_families" 0) (MS : Met P w K mg base 1 C "check_square" (spCs C)) (MT : Met P w K mg base 6 C "told" (spTold C)) : Met P w K mg base 7 C "sign" (spSgn C) := by
  refine D.met scSgn (fun _ _ _ _ _ _ us hl => match us, hl with | [_, _, _, _], _ => rfl) (fun vs H Q E h => ?_) (fun f cdv A outer s H vs Q E hr h => ?_)
  · obtain ⟨x, ps, k, r, c, rfl, _⟩ := h
    rfl
  · obtain ⟨x, ps, k, r, c, rfl, F, G, hb, hk, q⟩ := h
    obtain ⟨dx, pA, sA, lA, pas, las, hx, _⟩ := F.ex
    refine ⟨_, pss_cons (ps_expr (pm MS hr (pv 0) (pa_cons (pv 1) pa_nil)))
      (pss_one (ps_ret (pm MT hr (pv 0) (pa_cons (pe_tup (pa_cons (pgi gr) (pa_cons (pv 2) pa_nil))) (pa_cons (pe_tup (pa_cons (pgi gc) (pa_cons (pv 3) pa_nil))) (pa_cons (pv 1) pa_nil)))))), ?_⟩
    refine ⟨_, rfl, x, dx, _, rfl, hx, ff_no _ _ _ _ _ (by decide +kernel) (by decide +kernel) (by decide +kernel) (by decide +kernel) (by decide +kernel), _, rfl, x, k, ps, rfl, F, hk, ?_⟩
    refine ⟨_, rfl, x, dx, _, rfl, hx, ff_no _ _ _ _ _ (by decide +kernel) (by decide +kernel) (by decide +kernel) (by decide +kernel) (by decide +kernel), _, rfl, szl (by decide : 2 ≤ 1000), fun o1 n1 => ?_⟩
    refine ⟨_, rfl, szl (by decide : 2 ≤ 1000), fun o2 n2 => ?_⟩
    have s1 : Same H (upd H o1 (.tup [.int 0, .int r])) := same_new n1
    have s2 := same_put' (o := HO.tup [.int (-1), .int c]) s1 n2
    refine ⟨_, rfl, x, o1, o2, ps, r, c, k, rfl, F.same s2, G, same_new n2 _ _ upd_same, upd_same, hb, hk, fun H3 s3 => q H3 (s2.trans s3)⟩
end
end Ms
namespace Ms
open PySem PySem.Spec PyProof.Rows L2
/-! ### trees of one or two parts -/
def LeafAt (H : Hp) (a : Addr) (q : Part) (j : Int) : Prop := H a = some (.tup [.str "field", .int q.1, .int (q.2 : Int), .int j])
def TreeAt (H : Hp) (a : Addr) (ps : List Part) (j : Int) : Prop :=
  (∃ q, ps = [q] ∧ LeafAt H a q j) ∨ (∃ (q1 q2 : Part) (t1 t2 : Addr), ps = [q1, q2] ∧ H a = some (.tup [.str "product", .ref t1, .ref t2]) ∧ LeafAt H t1 q1 j ∧ LeafAt H t2 q2 j)
theorem TreeAt.same {H H' : Hp} {a : Addr} {ps : List Part} {j : Int} (h : TreeAt H a ps j) (s : Same H H') : TreeAt H' a ps j := by
  rcases h with ⟨q, e, l⟩ | ⟨q1, q2, t1, t2, e, h1, h2, h3⟩
  · exact .inl ⟨q, e, s _ _ l⟩
  · exact .inr ⟨q1, q2, t1, t2, e, s _ _ h1, s _ _ h2, s _ _ h3⟩
section
variable {P : Program} {w : World} {K : PySem.W.Frag} {mg : Str → Option Value} {base : Heap} {C : Addr}
/-! ### tree_of -/
abbrev sTr : Stmt := topS 39
abbrev nTr : List Str := ["family", "number", "trees", "prime", "degree"]
theorem scTr : FnScope nTr ["family", "number"] (defScope sTr) := ⟨rfl, rfl, rfl, by decide +kernel, rfl, by decide +kernel, by decide +kernel⟩
def spTr (C : Addr) : Sp := fun vs H Q _ => ∃ (x : Addr) (ps : List Part) (j : Int), vs = [.ref x, .int j] ∧ FamAt C H x ps ∧ GoodPs ps ∧ ps.length ≤ 2 ∧ (1 ≤ j ∧ j ≤ manyF ps) ∧
  ∀ (H' : Hp) (t : Addr), Same H H' → TreeAt H' t ps j → Q (.ref t) H'
theorem ok_tr (D : DefF K mg "tree_of" sTr) (T : TF K C) (ml : mg "len" = none) (gm : GInt mg "MOST_FIELDS" 6) (MS : Met P w K mg base 1 C "check_square" (spCs C)) : Cal P w K mg base 2 "tree_of" (spTr C) [] := by
  refine D.cal scTr (fun _ _ _ _ _ _ us hl => match us, hl with | [_, _], _ => rfl) (fun vs H Q E h => ?_) (fun f cdv A outer s H vs Q E hr h => ?_)
  · obtain ⟨x, ps, j, rfl, _⟩ := h
    rfl
  · obtain ⟨x, ps, j, rfl, F, G, h2, hj, q⟩ := h
    obtain ⟨dx, pA, sA, lA, pas, las, hx, ⟨hpA, hP⟩, _⟩ := F.ex
    refine ⟨_, pss_cons (ps_expr (pm MS hr (pv 0) (pa_cons (pv 1) pa_nil)))
      (pss_cons (ps_if (pt_cmpR op_gt (pe_callB call_len_seq (by rfl) ml PySem.boot_len (pa_cons (pe_fld (pv 0) rfl) pa_nil)) (pgi gm) (nomark _)) pss_never pss_nil)
      (pss_cons (ps_setLc (i := 2) (own := [("prime", 3), ("degree", 4)]) (g := gTup K 2 (gCons (gName 3) (gCons (gName 4) gNil))) (tt := tYes) rfl scTr.nd rfl rfl (sw_true rfl rfl rfl (by decide +kernel)) (pi_tup (pe_fld (pv 0) rfl))
          (blkOk_by (N := nTr) (sc := defScope sTr) (by decide +kernel)) (fun _ _ _ _ _ => pg_tup (by rfl) (pgs_cons (pg_name (i := 3) scTr.nd rfl (Or.inl rfl)) (pgs_cons (pg_name (i := 4) scTr.nd rfl (Or.inl rfl)) pgs_nil))) (fun _ _ _ _ _ => pts_nil)
          (fun _ _ _ _ _ => pe_tup (pa_cons pe_str (pa_cons (pv 3) (pa_cons (pv 4) (pa_cons (pv 1) pa_nil))))))
      (pss_cons (ps_while PassesOwn.never (pt_cmpR op_gt (pe_callB call_len_seq (by rfl) ml PySem.boot_len (pa_cons (pv 2) pa_nil)) pe_int (nomark _))
        (pss_one (ps_set (i := 2) scTr.nd rfl (.inl rfl) (pe_op op_cat (pe_slice sl_list (pv 2) po_none (po_some (pe_un un_neg pe_int))) (pe_lst (pa_cons (pe_tup (pa_cons pe_str (pa_cons (pe_ix ix_list (pv 2) (pe_un un_neg pe_int) (fun _ _ => rfl)) (pa_cons (pe_ix ix_list (pv 2) (pe_un un_neg pe_int) (fun _ _ => rfl)) pa_nil)))) pa_nil))))))
      (pss_one (ps_ret (pe_ix ix_list (pv 2) pe_int (fun _ _ => rfl))))))), ?_⟩
    have hlen := hP.len
    refine ⟨_, rfl, x, dx, _, rfl, hx, ff_no _ _ _ _ _ (by decide +kernel) (by decide +kernel) (by decide +kernel) (by decide +kernel) (by decide +kernel), _, rfl, x, j, ps, rfl, F, hj, ?_⟩
    refine ⟨_, rfl, x, C, dx, _, _, rfl, hx, T.cl, T.nP, ff_parts _ _ _ _ _, pA, _, rfl, .inr (.inl (.inl hpA)), _, _, rfl, rfl, _, rfl, iteDF (by rw [List.length_map]; omega) ?_⟩
    refine ⟨_, rfl, x, C, dx, _, _, rfl, hx, T.cl, T.nP, ff_parts _ _ _ _ _, pA, rfl, ⟨_, .inl (.inl hpA)⟩, fun L nL => ?_⟩
    refine lc_tup (K := K) (a := pA) (xs := pas.map V.ref) (fun i H' => Same H H' ∧ ∃ ts : List Addr, ts.length = i ∧ H' L = some (.lst (ts.map V.ref)) ∧ ∀ (n : Nat) (a : Addr) (q : Part), ts[n]? = some a → ps[n]? = some q → LeafAt H' a q j)
      ⟨same_new nL, [], rfl, upd_same, fun n a q e => by simp at e⟩ (fun i H' _ h => .inl (.inl (h.1 _ _ hpA))) ?_ ?_
    · rintro i y H' hy ⟨s1, ts, hts, hL, hat⟩
      obtain ⟨pb, hpb, rfl⟩ := get_ref hy
      have hi : i < ps.length := by
        rw [← hlen]
        exact (List.getElem?_eq_some_iff.mp hpb).1
      have hq : ps[i]? = some ps[i] := List.getElem?_eq_getElem hi
      generalize ps[i] = qq at hq
      have hT := s1 _ _ (hP.at_ i pb qq hpb hq)
      refine ⟨pb, _, rfl, .inl (.inl hT), rfl, _, _, rfl, _, _, rfl, rfl, rfl, _, rfl, _, rfl, _, rfl, szl (by decide : 4 ≤ 1000), fun t nt => ?_⟩
      have s2 := same_put' (o := HO.tup [.str "field", .int qq.1, .int (qq.2 : Int), .int j]) s1 nt
      have hL2 : (upd H' t (.tup [.str "field", .int qq.1, .int (qq.2 : Int), .int j])) L = some (.lst (ts.map V.ref)) := same_new nt _ _ hL
      refine ⟨ts.map V.ref, hL2, ?_, same_put s2 nL, ts ++ [t], ?_, ?_, fun n a q ei eq => ?_⟩
      · rw [List.length_map, hts]
        exact small (by omega)
      · rw [List.length_append, hts]
        rfl
      · rw [upd_same, List.map_append]
        rfl
      · have h5 : (upd H' t (.tup [.str "field", .int qq.1, .int (qq.2 : Int), .int j])) a = some (.tup [.str "field", .int q.1, .int (q.2 : Int), .int j]) := by
          by_cases hij : n < ts.length
          · rw [List.getElem?_append_left hij] at ei
            exact same_new nt _ _ (hat n a q ei eq)
          · rw [List.getElem?_append_right (by omega)] at ei
            have hn0 : n - ts.length = 0 := by
              have := (List.getElem?_eq_some_iff.mp ei).1
              rw [List.length_singleton] at this
              omega
            rw [hn0] at ei
            have ea : t = a := Option.some.inj ei
            have eij : n = i := by omega
            rw [eij, hq] at eq
            cases eq
            rw [← ea, upd_same]
        show (upd _ L _) a = _
        rw [upd_ne (ne_of h5 hL2 (fun z => nomatch z))]
        exact h5
    rintro H1 ⟨s1, ts, hts, hL, hat⟩
    rw [List.length_map, hlen] at hts
    show tWhile _ _ _ _ _
    refine ⟨fun m σ H' => ∃ (L2 : Addr) (y3 y4 : Option V), σ = [some (.ref x), some (.int j), some (.ref L2), y3, y4] ∧ Same H H' ∧ ((∃ (t1 t2 : Addr) (q1 q2 : Part), ps = [q1, q2] ∧ m = 1 ∧ H' L2 = some (.lst [.ref t1, .ref t2]) ∧ LeafAt H' t1 q1 j ∧ LeafAt H' t2 q2 j) ∨ (∃ t, m = 0 ∧ H' L2 = some (.lst [.ref t]) ∧ TreeAt H' t ps j)), ?_, ?_⟩
    · match ps, ts, G.pos, h2, hts, hat, hL with
      | [], _, z, _, _, _, _ => exact absurd rfl z
      | [qa], [ta], _, _, _, hat, hL => exact ⟨0, L, _, _, rfl, s1, .inr ⟨ta, rfl, hL, .inl ⟨qa, rfl, hat 0 _ _ rfl rfl⟩⟩⟩
      | [qa, qb], [ta, tb], _, _, _, hat, hL => exact ⟨1, L, _, _, rfl, s1, .inl ⟨ta, tb, qa, qb, rfl, rfl, hL, hat 0 _ _ rfl rfl, hat 1 _ _ rfl rfl⟩⟩
    · rintro m σ H' ⟨L2, y3, y4, rfl, sm, ⟨t1, t2, q1, q2, eps, rfl, hL2, l1, l2⟩ | ⟨t, rfl, hL2, ht⟩⟩
      · refine ⟨_, rfl, L2, _, rfl, .inl (.inl (.inl hL2)), _, _, rfl, rfl, _, rfl, iteD (by show (1 : Int) < 2; decide) ?_⟩
        refine ⟨fun σ' H'' => ∃ (L2 : Addr) (y3 y4 : Option V), σ' = [some (.ref x), some (.int j), some (.ref L2), y3, y4] ∧ Same H H'' ∧ ∃ t, H'' L2 = some (.lst [.ref t]) ∧ TreeAt H'' t ps j, fun σ' H'' hN => ?_, ?_⟩
        · obtain ⟨L3, z3, z4, rfl, s3, t, hL3, ht⟩ := hN
          exact ⟨0, Nat.zero_lt_one, L3, z3, z4, rfl, s3, .inr ⟨t, rfl, hL3, ht⟩⟩
        · refine ⟨_, rfl, 2, rfl, -2, rfl, L2, _, rfl, .inl (.inl hL2), fun c nc => ?_⟩
          have s2 := same_put' (o := HO.lst []) sm nc
          have hL3 : (upd H' c (.lst [])) L2 = some (.lst [.ref t1, .ref t2]) := same_new nc _ _ hL2
          refine ⟨_, rfl, 2, rfl, L2, _, -2, .ref t1, rfl, rfl, .inl (.inl hL3), rfl, ?_⟩
          refine ⟨_, rfl, 1, rfl, L2, _, -1, .ref t2, rfl, rfl, .inl (.inl hL3), rfl, ?_⟩
          refine ⟨szl (by decide : 3 ≤ 1000), fun u nu => ?_⟩
          have s3 := same_put' (o := HO.tup [.str "product", .ref t1, .ref t2]) s2 nu
          refine ⟨szl (by decide : 1 ≤ 1000), fun v nv => ?_⟩
          have s4 := same_put' (o := HO.lst [.ref u]) s3 nv
          have hc2 : (upd (upd (upd H' c (.lst [])) u (.tup [.str "product", .ref t1, .ref t2])) v (.lst [.ref u])) c = some (.lst []) := same_new nv _ _ (same_new nu _ _ upd_same)
          refine ⟨c, v, [], [.ref u], rfl, rfl, hc2, upd_same, szl (by decide : 1 ≤ 1000), fun r nr => ?_⟩
          have s5 := same_put' (o := HO.lst [.ref u]) s4 nr
          refine ⟨r, _, _, rfl, s5, u, upd_same, .inr ⟨q1, q2, t1, t2, eps, ?_, ?_, ?_⟩⟩
          · exact same_new nr _ _ (same_new nv _ _ upd_same)
          · exact same_new nr _ _ (same_new nv _ _ (same_new nu _ _ (same_new nc _ _ l1)))
          · exact same_new nr _ _ (same_new nv _ _ (same_new nu _ _ (same_new nc _ _ l2)))
      · refine ⟨_, rfl, L2, _, rfl, .inl (.inl (.inl hL2)), _, _, rfl, rfl, _, rfl, iteDF (by show ¬ (1 : Int) < 1; decide) ?_⟩
        exact ⟨_, rfl, L2, _, 0, .ref t, rfl, rfl, .inl (.inl hL2), rfl, q H' t sm ht⟩
end
end Ms
namespace Ms
open PySem PySem.Spec PyProof.Rows L2
/-! ### words on strings -/
theorem iteDS {a b : Str} {A B : Prop} (h : a = b) (x : A) : if decide (V.str a = V.str b) = true then A else B := iteD (congrArg V.str h) x
theorem iteDSF {a b : Str} {A B : Prop} (h : ¬ a = b) (x : B) : if decide (V.str a = V.str b) = true then A else B := iteDF (fun q => h (V.str.inj q)) x
def cntT : List Part → Int
  | [] => 1
  | [q] => q.1 ^ q.2
  | q :: r :: t => q.1 ^ q.2 * cntT (r :: t)
/-- the numbers that a tree of those parts may have -/
structure Num (ps : List Part) (j : Int) : Prop where
  lo : 1 ≤ j
  hi : ∀ q ∈ ps, j < q.1 ^ q.2
/-- a def with the one default 1 -/
structure DefF1 (K : PySem.W.Frag) (mg : Str → Option Value) (x : Str) (st : Stmt) : Prop where
  ex : ∃ (f : Addr) (fd : FuncData), FunD K x x (defArgs st) (defBody st) (defScope st) [.int 1] [] f fd ∧ mg x = some (.ref f)
section
variable {P : Program} {w : World} {K : PySem.W.Frag} {mg : Str → Option Value} {base : Heap} {C : Addr}
/-! ### require -/
abbrev sReq : Stmt := topS 48
theorem scReq : FnScope ["holds"] ["holds"] (defScope sReq) := ⟨rfl, rfl, rfl, by decide +kernel, rfl, by decide +kernel, by decide +kernel⟩
def spReq : Sp := fun vs H Q _ => vs = [.bl true] ∧ Q .non H
theorem ok_req (D : DefF K mg "require" sReq) : Cal P w K mg base 1 "require" spReq [] := by
  refine D.cal scReq (fun _ _ _ _ _ _ us hl => match us, hl with | [_], _ => rfl) (fun vs H Q E h => ?_) (fun f cdv A outer s H vs Q E hr h => ?_)
  · obtain ⟨rfl, _⟩ := h
    rfl
  · obtain ⟨rfl, q⟩ := h
    exact ⟨_, pss_one (ps_if (pt_not (pt_val (pv 0))) pss_never pss_nil), _, rfl, true, rfl, iteF q⟩
/-! ### checked_leaf -/
abbrev sLf : Stmt := topS 50
abbrev nLf : List Str := ["tree", "rows", "_", "count", "a", "b", "prime", "power"]
theorem scLf : FnScope nLf ["tree"] (defScope sLf) := ⟨rfl, rfl, rfl, by decide +kernel, rfl, by decide +kernel, by decide +kernel⟩
def spLf : Sp := fun vs H Q _ => ∃ (t : Addr) (q : Part) (j : Int), vs = [.ref t] ∧ LeafAt H t q j ∧ Fld q.1 q.2 ∧ (1 ≤ j ∧ j < q.1 ^ q.2) ∧
  ∀ (H' : Hp) (r : Addr), Same H H' → H' r = some (.tup [.ref t, .int (q.1 ^ q.2)]) → Q (.ref r) H'
theorem ok_lf (D : DefF K mg "checked_leaf" sLf) (mt : mg "tuple" = none) (CR : Cal P w K mg base 1 "require" spReq []) (CF : Cal P w K mg base 2 "is_field" spField []) (CS : Cal P w K mg base 1 "size_of" spSize []) : Cal P w K mg base 3 "checked_leaf" spLf [] := by
  refine D.cal scLf (fun _ _ _ _ _ _ us hl => match us, hl with | [_], _ => rfl) (fun vs H Q E h => ?_) (fun f cdv A outer s H vs Q E hr h => ?_)
  · obtain ⟨t, q, j, rfl, _⟩ := h
    rfl
  · obtain ⟨t, q, j, rfl, ht, F, ⟨h1, h2⟩, k⟩ := h
    have f1 := F.p2
    have f2 := F.p97
    have f3 := F.k12
    refine ⟨_, pss_cons (ps_if (pt_cmpR op_eq (pe_ix ix_tup (pv 0) pe_int (fun _ _ => rfl)) pe_str (nomark _)) pss_never pss_nil)
      (pss_cons (ps_if (pt_cmpR op_eq (pe_ix ix_tup (pv 0) pe_int (fun _ _ => rfl)) pe_str (nomark _)) pss_never pss_nil)
      (pss_cons (ps_asg (pv 0) (pg_tup (by rfl) (pgs_cons (pg_name (i := 2) scLf.nd rfl (.inl rfl)) (pgs_cons (pg_name (i := 6) scLf.nd rfl (.inl rfl)) (pgs_cons (pg_name (i := 7) scLf.nd rfl (.inl rfl)) (pgs_cons (pg_name (i := 4) scLf.nd rfl (.inl rfl)) pgs_nil))))))
      (pss_cons (ps_expr (pc CR hr (pa_cons (pc CF hr (pa_cons (pv 6) (pa_cons (pv 7) pa_nil))) pa_nil)))
      (pss_cons (ps_set (i := 3) scLf.nd rfl (.inl rfl) (pc CS hr (pa_cons (pv 6) (pa_cons (pv 7) pa_nil))))
      (pss_cons (ps_expr (pc CR hr (pa_cons (pe_chain op_le op_lt pe_int (pv 4) (pv 3)) pa_nil)))
      (pss_one (ps_ret (pe_tup (pa_cons (pe_callTy call_tuple_of (by rfl) mt (by decide +kernel) (pa_cons (pv 0) pa_nil)) (pa_cons (pv 3) pa_nil)))))))))), ?_⟩
    refine ⟨_, rfl, t, _, 0, .str "field", rfl, rfl, .inl (.inl ht), atI_nat (j := 0) rfl, rfl, _, rfl, iteDSF (by decide +kernel) ?_⟩
    refine ⟨_, rfl, t, _, 0, .str "field", rfl, rfl, .inl (.inl ht), atI_nat (j := 0) rfl, rfl, _, rfl, iteDSF (by decide +kernel) ?_⟩
    refine ⟨_, rfl, t, _, rfl, .inl (.inl ht), rfl, _, _, rfl, _, _, rfl, _, _, rfl, _, _, rfl, rfl, ?_⟩
    refine ⟨_, rfl, _, rfl, q.1, q.2, rfl, F, rfl, ?_⟩
    refine ⟨_, rfl, _, rfl, q.1, q.2, rfl, by omega, by omega, by omega, ?_⟩
    refine ⟨_, rfl, _, _, rfl, rfl, _, rfl, iteD h1 ⟨_, rfl, _, _, rfl, rfl, ?_⟩⟩
    refine ⟨congrArg (fun b => [V.bl b]) (decide_eq_true h2), ?_⟩
    refine ⟨_, rfl, t, _, rfl, .inr ⟨.inl (.inl ht), _, rfl, szl (by decide : 2 ≤ 1000), fun r nr => ?_⟩⟩
    exact k _ r (same_new nr) upd_same
/-! ### checked_part -/
abbrev sPt : Stmt := topS 51
abbrev nPt : List Str := ["tree", "depth", "part", "parts", "count", "one", "other", "more", "size", "leaf"]
theorem scPt : FnScope nPt ["tree", "depth"] (defScope sPt) := ⟨rfl, rfl, rfl, by decide +kernel, rfl, by decide +kernel, by decide +kernel⟩
/-- what the checks of a tree read -/
structure GT (mg : Str → Option Value) (K : PySem.W.Frag) (w : World) : Prop where
  mp : GInt mg "MOST_PARTS" 12
  mo : GInt mg "MOST_ORDER_squares" (10 ^ 30)
  len : mg "len" = none
  tup : mg "tuple" = none
  mem : ∃ (d : Addr) (es : Array DictEntry) (n : Nat), mg "MEMBERS" = some (.ref d) ∧ KDict K w d es n ∧ (∃ u, PySem.W.nsIn K d "field" = some (some u) ∧ RelV (.int 4) u) ∧ (∃ u, PySem.W.nsIn K d "product" = some (some u) ∧ RelV (.int 3) u)
def spPt1 : Sp := fun vs H Q _ => ∃ (t : Addr) (q : Part) (j d : Int), vs = [.ref t, .int d] ∧ LeafAt H t q j ∧ Fld q.1 q.2 ∧ (1 ≤ j ∧ j < q.1 ^ q.2) ∧ d ≤ 12 ∧
  ∀ (H' : Hp) (r : Addr), Same H H' → H' r = some (.tup [.ref t, .int 1, .int (q.1 ^ q.2)]) → Q (.ref r) H'
theorem bo_pt1 (G : GT mg K w) (CR : Cal P w K mg base 1 "require" spReq []) (CL : Cal P w K mg base 3 "checked_leaf" spLf []) : BodyOk P w K mg base 3 "checked_part" sPt nPt spPt1 := by
  intro f cdv A outer s H vs Q E hr h
  obtain ⟨t, q, j, d, rfl, ht, F, hj, hd, k⟩ := h
  obtain ⟨dm, es, n, mm, KD, ⟨u1, n1, r1⟩, _⟩ := G.mem
  refine ⟨_, pss_cons (ps_expr (pc CR hr (pa_cons (pe_and (pe_cmpR op_le (pv 1) (pgi G.mp) (nomark _)) (pe_and (pe_cmpR op_gt (pe_callB call_len_seq (by rfl) G.len PySem.boot_len (pa_cons (pv 0) pa_nil)) pe_int (nomark _))
        (pe_and (pe_cmpR (op_in_kd KD) (pe_ix ix_tup (pv 0) pe_int (fun _ _ => rfl)) (pe_glob (v := V.ref dm) rfl mm rfl) (by rfl)) (pe_one (pe_cmpR op_eq (pe_callB call_len_seq (by rfl) G.len PySem.boot_len (pa_cons (pv 0) pa_nil)) (pe_ix ix_kdict (pe_glob (v := V.ref dm) rfl mm rfl) (pe_ix ix_tup (pv 0) pe_int (fun _ _ => rfl)) (fun _ _ => rfl)) (nomark _)))))) pa_nil)))
    (pss_cons (ps_if (pt_cmpR op_eq (pe_ix ix_tup (pv 0) pe_int (fun _ _ => rfl)) pe_str (nomark _)) pss_never pss_nil)
    (pss_cons (ps_if (pt_cmpR op_eq (pe_ix ix_tup (pv 0) pe_int (fun _ _ => rfl)) pe_str (nomark _)) pss_never pss_nil)
    (pss_cons (ps_asg (pc CL hr (pa_cons (pv 0) pa_nil)) (pg_tup (by rfl) (pgs_cons (pg_name (i := 9) scPt.nd rfl (.inl rfl)) (pgs_cons (pg_name (i := 4) scPt.nd rfl (.inl rfl)) pgs_nil))))
    (pss_one (ps_ret (pe_tup (pa_cons (pv 9) (pa_cons pe_int (pa_cons (pv 4) pa_nil))))))))), ?_⟩
  refine ⟨_, rfl, _, _, rfl, rfl, _, rfl, iteD hd ?_⟩
  refine ⟨_, rfl, t, _, rfl, .inr (.inl (.inl ht)), _, _, rfl, rfl, _, rfl, iteD (by show (0 : Int) < 4; decide) ?_⟩
  refine ⟨_, rfl, t, _, 0, .str "field", rfl, rfl, .inl (.inl ht), atI_nat (j := 0) rfl, "field", _, rfl, rfl, n1, _, rfl, iteT ?_⟩
  refine ⟨_, rfl, t, _, rfl, .inr (.inl (.inl ht)), _, rfl, t, _, 0, .str "field", rfl, rfl, .inl (.inl ht), atI_nat (j := 0) rfl, dm, "field", .int 4, rfl, rfl, ⟨es, n, u1, KD.at_, KD.lit, n1, r1⟩, rfl, ?_⟩
  refine ⟨congrArg (fun b => [V.bl b]) (decide_eq_true rfl), ?_⟩
  refine ⟨_, rfl, t, _, 0, .str "field", rfl, rfl, .inl (.inl ht), atI_nat (j := 0) rfl, rfl, _, rfl, iteDSF (by decide +kernel) ?_⟩
  refine ⟨_, rfl, t, _, 0, .str "field", rfl, rfl, .inl (.inl ht), atI_nat (j := 0) rfl, rfl, _, rfl, iteDSF (by decide +kernel) ?_⟩
  refine ⟨_, rfl, t, q, j, rfl, ht, F, hj, fun H1 r s1 e1 => ?_⟩
  refine ⟨r, _, rfl, .inl (.inl e1), rfl, _, _, rfl, _, _, rfl, rfl, ?_⟩
  refine ⟨_, rfl, _, rfl, szl (by decide : 3 ≤ 1000), fun r2 n2 => ?_⟩
  exact k _ r2 (same_put' s1 n2) upd_same
end
end Ms
namespace Ms
open PySem PySem.Spec PyProof.Rows L2
section
variable {P : Program} {w : World} {K : PySem.W.Frag} {mg : Str → Option Value} {base : Heap} {C : Addr}
theorem DefF1.cal0 {x : Str} {st : Stmt} {N : List Str} {p1 p2 : Str} {k : Nat} {sp : Sp} (D : DefF1 K mg x st) (S : FnScope N [p1, p2] (defScope st)) (len : ∀ vs H Q E, sp vs H Q E → vs.length = [p1, p2].length) (h : BodyOk P w K mg base k x st N sp)
    (hb : ∀ (T : Addr) (kV doc pm : Value) (an : Option Addr) (cdv ct : Value) (u v : Value), ∃ k, bindArgs (PySem.W.fnOf x x (defArgs st) (defBody st) (defScope st) (.ref T) kV doc pm an cdv ct) ⟨[u], []⟩ = seqItems? (.ref T) >>= k ∧ k (some [v].toArray) = pure ([p1, p2].zip [u, v])) : Cal P w K mg base (k + 1) x sp [.int 1] := by
  obtain ⟨f, fd, F, hm⟩ := D.ex
  obtain ⟨ds, vd, b⟩ := F.binds1 (ps := [p1, p2]) 1 0 (fun z => nomatch z) rfl (fun T kV doc pm an cdv ct us its h1 h2 => by
    match us, its, h1, h2 with
    | [u], [v], _, _ => exact hb T kV doc pm an cdv ct u v)
  refine ⟨f, fd, [p1, p2], ds, ⟨F.ok S len fun cdv A outer s H vs Q E hr hs => ?_, hm⟩, F.kp, b, vd⟩
  obtain ⟨t, p, q⟩ := h f cdv A outer s H vs Q E hr hs
  exact ⟨t, p.nox, q⟩
theorem DefF1.cal1 {x : Str} {st : Stmt} {N : List Str} {p1 p2 : Str} {k : Nat} {sp : Sp} (D : DefF1 K mg x st) (S : FnScope N [p1, p2] (defScope st)) (len : ∀ vs H Q E, sp vs H Q E → vs.length = [p1, p2].length) (h : BodyOk P w K mg base k x st N sp)
    (hb : ∀ (T : Addr) (kV doc pm : Value) (an : Option Addr) (cdv ct : Value) (u u2 v : Value), ∃ k, bindArgs (PySem.W.fnOf x x (defArgs st) (defBody st) (defScope st) (.ref T) kV doc pm an cdv ct) ⟨[u, u2], []⟩ = seqItems? (.ref T) >>= k ∧ k (some [v].toArray) = pure ([p1, p2].zip [u, u2])) : Cal P w K mg base (k + 1) x sp [] := by
  obtain ⟨f, fd, F, hm⟩ := D.ex
  obtain ⟨ds, vd, b⟩ := F.binds1 (ps := [p1, p2]) 2 1 (fun z => nomatch z) rfl (fun T kV doc pm an cdv ct us its h1 h2 => by
    match us, its, h1, h2 with
    | [u, u2], [v], _, _ => exact hb T kV doc pm an cdv ct u u2 v)
  cases vd
  refine ⟨f, fd, [p1, p2], [], ⟨F.ok S len fun cdv A outer s H vs Q E hr hs => ?_, hm⟩, F.kp, b, .nil⟩
  obtain ⟨t, p, q⟩ := h f cdv A outer s H vs Q E hr hs
  exact ⟨t, p.nox, q⟩
theorem ok_pt1 (D : DefF1 K mg "checked_part" sPt) (G : GT mg K w) (CR : Cal P w K mg base 1 "require" spReq []) (CL : Cal P w K mg base 3 "checked_leaf" spLf []) : Cal P w K mg base 4 "checked_part" spPt1 [] := by
  refine D.cal1 scPt (fun vs H Q E h => ?_) (bo_pt1 G CR CL) (fun T kV doc pm an cdv ct u u2 v => ⟨_, rfl, rfl⟩)
  obtain ⟨t, q, j, d, rfl, _⟩ := h
  rfl
def spPt : Sp := fun vs H Q _ => ∃ (t : Addr) (ps : List Part) (j d : Int), vs = [.ref t, .int d] ∧ TreeAt H t ps j ∧ GoodPs ps ∧ Num ps j ∧ d ≤ 11 ∧
  ∀ (H' : Hp) (r t' : Addr) (n : Int), Same H H' → H' r = some (.tup [.ref t', .int n, .int (cntT ps)]) → TreeAt H' t' ps j → Q (.ref r) H'
theorem bo_pt (G : GT mg K w) (CR : Cal P w K mg base 1 "require" spReq []) (CL : Cal P w K mg base 3 "checked_leaf" spLf []) (CP : Cal P w K mg base 4 "checked_part" spPt1 []) : BodyOk P w K mg base 4 "checked_part" sPt nPt spPt := by
  intro f cdv A outer s H vs Q E hr h
  obtain ⟨t, ps, j, d, rfl, hT, GP, NJ, hd, k⟩ := h
  rcases hT with ⟨q, rfl, ht⟩ | ⟨q1, q2, t1, t2, rfl, ht, l1, l2⟩
  · refine bo_pt1 G CR CL f cdv A outer s H _ Q E (hr.mono (by decide)) ⟨t, q, j, d, rfl, ht, GP.fld q (List.mem_cons_self ..), ⟨NJ.lo, NJ.hi q (List.mem_cons_self ..)⟩, by omega, fun H1 r s1 e1 => ?_⟩
    exact k H1 r t 1 s1 e1 (.inl ⟨q, rfl, s1 _ _ ht⟩)
  · obtain ⟨dm, es, n, mm, KD, _, ⟨u1, n1, r1⟩⟩ := G.mem
    refine ⟨_, pss_cons (ps_expr (pc CR hr (pa_cons (pe_and (pe_cmpR op_le (pv 1) (pgi G.mp) (nomark _)) (pe_and (pe_cmpR op_gt (pe_callB call_len_seq (by rfl) G.len PySem.boot_len (pa_cons (pv 0) pa_nil)) pe_int (nomark _))
        (pe_and (pe_cmpR (op_in_kd KD) (pe_ix ix_tup (pv 0) pe_int (fun _ _ => rfl)) (pe_glob (v := V.ref dm) rfl mm rfl) (by rfl)) (pe_one (pe_cmpR op_eq (pe_callB call_len_seq (by rfl) G.len PySem.boot_len (pa_cons (pv 0) pa_nil)) (pe_ix ix_kdict (pe_glob (v := V.ref dm) rfl mm rfl) (pe_ix ix_tup (pv 0) pe_int (fun _ _ => rfl)) (fun _ _ => rfl)) (nomark _)))))) pa_nil)))
      (pss_cons (ps_if (pt_cmpR op_eq (pe_ix ix_tup (pv 0) pe_int (fun _ _ => rfl)) pe_str (nomark _)) pss_never pss_nil)
      (pss_cons (ps_if (pt_cmpR op_eq (pe_ix ix_tup (pv 0) pe_int (fun _ _ => rfl)) pe_str (nomark _))
        (pss_cons (ps_asg (pc CP hr (pa_cons (pe_ix ix_tup (pv 0) pe_int (fun _ _ => rfl)) (pa_cons (pe_op op_add (pv 1) pe_int) pa_nil))) (pg_tup (by rfl) (pgs_cons (pg_name (i := 5) scPt.nd rfl (.inl rfl)) (pgs_cons (pg_name (i := 3) scPt.nd rfl (.inl rfl)) (pgs_cons (pg_name (i := 4) scPt.nd rfl (.inl rfl)) pgs_nil)))))
        (pss_cons (ps_asg (pc CP hr (pa_cons (pe_ix ix_tup (pv 0) pe_int (fun _ _ => rfl)) (pa_cons (pe_op op_add (pv 1) pe_int) pa_nil))) (pg_tup (by rfl) (pgs_cons (pg_name (i := 6) scPt.nd rfl (.inl rfl)) (pgs_cons (pg_name (i := 7) scPt.nd rfl (.inl rfl)) (pgs_cons (pg_name (i := 8) scPt.nd rfl (.inl rfl)) pgs_nil)))))
        (pss_cons (ps_expr (pc CR hr (pa_cons (pe_and (pe_cmpR op_lt (pe_op op_add (pv 3) (pv 7)) (pgi G.mp) (nomark _)) (pe_one (pe_cmpR op_le (pe_op op_mul (pv 4) (pv 8)) (pgi G.mo) (nomark _)))) pa_nil)))
        (pss_one (ps_ret (pe_tup (pa_cons (pe_tup (pa_cons pe_str (pa_cons (pv 5) (pa_cons (pv 6) pa_nil)))) (pa_cons (pe_op op_add (pe_op op_add (pv 3) (pv 7)) pe_int) (pa_cons (pe_op op_mul (pv 4) (pv 8)) pa_nil)))))))))
        pss_nil)
      pss_never)), ?_⟩
    have F1 := GP.fld q1 (List.mem_cons_self ..)
    have F2 := GP.fld q2 (List.mem_cons_of_mem _ (List.mem_cons_self ..))
    have b1 := F1.sz
    have b2 := F2.sz
    have c1 := F1.sz2
    have c2 := F2.sz2
    have J1 := NJ.hi q1 (List.mem_cons_self ..)
    have J2 := NJ.hi q2 (List.mem_cons_of_mem _ (List.mem_cons_self ..))
    refine ⟨_, rfl, _, _, rfl, rfl, _, rfl, iteD (by omega) ?_⟩
    refine ⟨_, rfl, t, _, rfl, .inr (.inl (.inl ht)), _, _, rfl, rfl, _, rfl, iteD (by show (0 : Int) < 3; decide) ?_⟩
    refine ⟨_, rfl, t, _, 0, .str "product", rfl, rfl, .inl (.inl ht), atI_nat (j := 0) rfl, "product", _, rfl, rfl, n1, _, rfl, iteT ?_⟩
    refine ⟨_, rfl, t, _, rfl, .inr (.inl (.inl ht)), _, rfl, t, _, 0, .str "product", rfl, rfl, .inl (.inl ht), atI_nat (j := 0) rfl, dm, "product", .int 3, rfl, rfl, ⟨es, n, u1, KD.at_, KD.lit, n1, r1⟩, rfl, ?_⟩
    refine ⟨congrArg (fun b => [V.bl b]) (decide_eq_true rfl), ?_⟩
    refine ⟨_, rfl, t, _, 0, .str "product", rfl, rfl, .inl (.inl ht), atI_nat (j := 0) rfl, rfl, _, rfl, iteDSF (by decide +kernel) ?_⟩
    refine ⟨_, rfl, t, _, 0, .str "product", rfl, rfl, .inl (.inl ht), atI_nat (j := 0) rfl, rfl, _, rfl, iteDS rfl ?_⟩
    refine ⟨_, rfl, t, _, 1, .ref t1, rfl, rfl, .inl (.inl ht), atI_nat (j := 1) rfl, _, rfl, _, _, rfl, rfl, t1, q1, j, d + 1, rfl, l1, F1, ⟨NJ.lo, J1⟩, by omega, fun H1 r s1 e1 => ?_⟩
    refine ⟨r, _, rfl, .inl (.inl e1), rfl, _, _, rfl, _, _, rfl, _, _, rfl, rfl, ?_⟩
    refine ⟨_, rfl, t, _, 2, .ref t2, rfl, rfl, .inl (.inl (s1 _ _ ht)), atI_nat (j := 2) rfl, _, rfl, _, _, rfl, rfl, t2, q2, j, d + 1, rfl, s1 _ _ l2, F2, ⟨NJ.lo, J2⟩, by omega, fun H2 r2 s2 e2 => ?_⟩
    refine ⟨r2, _, rfl, .inl (.inl e2), rfl, _, _, rfl, _, _, rfl, _, _, rfl, rfl, ?_⟩
    have pr : q1.1 ^ q1.2 * q2.1 ^ q2.2 ≤ 10 ^ 30 := Int.le_trans (Int.mul_le_mul (Int.le_of_lt b1) (Int.le_of_lt b2) (by omega) (by decide)) (by decide)
    refine ⟨_, rfl, _, rfl, _, _, rfl, rfl, _, _, rfl, rfl, _, rfl, iteD (by decide) ?_⟩
    refine ⟨_, rfl, _, rfl, _, _, rfl, rfl, .inl ⟨by omega, by omega⟩, _, _, rfl, rfl, ?_⟩
    refine ⟨congrArg (fun b => [V.bl b]) (decide_eq_true pr), ?_⟩
    refine ⟨_, rfl, _, rfl, szl (by decide : 3 ≤ 1000), fun o no => ?_⟩
    have s3 := s1.trans s2
    have s4 := same_put' (o := HO.tup [.str "product", .ref t1, .ref t2]) s3 no
    refine ⟨_, rfl, _, rfl, _, _, rfl, rfl, _, _, rfl, rfl, _, rfl, _, rfl, _, _, rfl, rfl, .inl ⟨by omega, by omega⟩, szl (by decide : 3 ≤ 1000), fun r3 n3 => ?_⟩
    refine k _ r3 o (1 + 1 + 1) (same_put' s4 n3) upd_same (.inr ⟨q1, q2, t1, t2, rfl, same_new n3 _ _ upd_same, same_new n3 _ _ (s4 _ _ l1), same_new n3 _ _ (s4 _ _ l2)⟩)
theorem ok_pt (D : DefF1 K mg "checked_part" sPt) (G : GT mg K w) (CR : Cal P w K mg base 1 "require" spReq []) (CL : Cal P w K mg base 3 "checked_leaf" spLf []) : Cal P w K mg base 5 "checked_part" spPt [.int 1] := by
  refine D.cal0 scPt (fun vs H Q E h => ?_) (bo_pt G CR CL (ok_pt1 D G CR CL)) (fun T kV doc pm an cdv ct u v => ⟨_, rfl, rfl⟩)
  obtain ⟨t, ps, j, d, rfl, _⟩ := h
  rfl
/-! ### order -/
abbrev sOrd : Stmt := topS 52
theorem scOrd : FnScope ["tree"] ["tree"] (defScope sOrd) := ⟨rfl, rfl, rfl, by decide +kernel, rfl, by decide +kernel, by decide +kernel⟩
def spOrd : Sp := fun vs H Q _ => ∃ (t : Addr) (ps : List Part) (j : Int), vs = [.ref t] ∧ TreeAt H t ps j ∧ GoodPs ps ∧ Num ps j ∧ NewI H (cntT ps) Q
theorem ok_ord (D : DefF K mg "order" sOrd) (CP : Cal P w K mg base 5 "checked_part" spPt [.int 1]) : Cal P w K mg base 6 "order" spOrd [] := by
  refine D.cal scOrd (fun _ _ _ _ _ _ us hl => match us, hl with | [_], _ => rfl) (fun vs H Q E h => ?_) (fun f cdv A outer s H vs Q E hr h => ?_)
  · obtain ⟨t, ps, j, rfl, _⟩ := h
    rfl
  · obtain ⟨t, ps, j, rfl, hT, GP, NJ, k⟩ := h
    refine ⟨_, pss_one (ps_ret (pe_ix ix_tup (pc CP hr (pa_cons (pv 0) pa_nil)) pe_int (fun _ _ => rfl))), ?_⟩
    exact ⟨_, rfl, t, ps, j, 1, rfl, hT, GP, NJ, by decide, fun H1 r t' n s1 e1 _ => ⟨r, _, 2, .int (cntT ps), rfl, rfl, .inl (.inl e1), atI_nat (j := 2) rfl, k H1 s1⟩⟩
/-! ### count_of (of a leaf) -/
abbrev sCnt : Stmt := topS 54
theorem scCnt : FnScope ["tree"] ["tree"] (defScope sCnt) := ⟨rfl, rfl, rfl, by decide +kernel, rfl, by decide +kernel, by decide +kernel⟩
def spCnt : Sp := fun vs H Q _ => ∃ (t : Addr) (q : Part) (j : Int), vs = [.ref t] ∧ LeafAt H t q j ∧ Fld q.1 q.2 ∧ Q (.int (q.1 ^ q.2)) H
theorem ok_cnt (D : DefF K mg "count_of" sCnt) (CS : Cal P w K mg base 1 "size_of" spSize []) : Cal P w K mg base 2 "count_of" spCnt [] := by
  refine D.cal scCnt (fun _ _ _ _ _ _ us hl => match us, hl with | [_], _ => rfl) (fun vs H Q E h => ?_) (fun f cdv A outer s H vs Q E hr h => ?_)
  · obtain ⟨t, q, j, rfl, _⟩ := h
    rfl
  · obtain ⟨t, q, j, rfl, ht, F, k⟩ := h
    have f1 := F.p2
    have f2 := F.p97
    have f3 := F.k12
    refine ⟨_, pss_cons (ps_if (pt_cmpR op_eq (pe_ix ix_tup (pv 0) pe_int (fun _ _ => rfl)) pe_str (nomark _)) pss_never pss_nil)
      (pss_cons (ps_if (pt_cmpR op_eq (pe_ix ix_tup (pv 0) pe_int (fun _ _ => rfl)) pe_str (nomark _)) pss_never pss_nil)
      (pss_cons (ps_if (pt_cmpR op_eq (pe_ix ix_tup (pv 0) pe_int (fun _ _ => rfl)) pe_str (nomark _)) (pss_one (ps_ret (pc CS hr (pa_cons (pe_ix ix_tup (pv 0) pe_int (fun _ _ => rfl)) (pa_cons (pe_ix ix_tup (pv 0) pe_int (fun _ _ => rfl)) pa_nil))))) pss_nil)
      pss_never)), ?_⟩
    refine ⟨_, rfl, t, _, 0, .str "field", rfl, rfl, .inl (.inl ht), atI_nat (j := 0) rfl, rfl, _, rfl, iteDSF (by decide +kernel) ?_⟩
    refine ⟨_, rfl, t, _, 0, .str "field", rfl, rfl, .inl (.inl ht), atI_nat (j := 0) rfl, rfl, _, rfl, iteDSF (by decide +kernel) ?_⟩
    refine ⟨_, rfl, t, _, 0, .str "field", rfl, rfl, .inl (.inl ht), atI_nat (j := 0) rfl, rfl, _, rfl, iteDS rfl ?_⟩
    exact ⟨_, rfl, t, _, 1, .int q.1, rfl, rfl, .inl (.inl ht), atI_nat (j := 1) rfl, _, rfl, t, _, 2, .int (q.2 : Int), rfl, rfl, .inl (.inl ht), atI_nat (j := 2) rfl, q.1, q.2, rfl, by omega, by omega, by omega, k⟩
end
end Ms
namespace Ms
open PySem PySem.Spec PyProof.Rows L2
/-! ### trees made ready -/
def RLeafAt (H : Hp) (a : Addr) (q : Part) (j : Int) : Prop := ∃ lo : Addr, H a = some (.tup [.str "field", .int q.1, .int (q.2 : Int), .int j, .ref lo]) ∧ H lo = some (.tup ((lowerOf q.1 q.2).map V.int))
def ReadyAt (H : Hp) (a : Addr) (ps : List Part) (j : Int) : Prop :=
  (∃ q, ps = [q] ∧ RLeafAt H a q j) ∨ (∃ (q1 q2 : Part) (t1 t2 : Addr), ps = [q1, q2] ∧ H a = some (.tup [.str "product", .ref t1, .ref t2, .int (q2.1 ^ q2.2)]) ∧ RLeafAt H t1 q1 j ∧ RLeafAt H t2 q2 j)
theorem RLeafAt.same {H H' : Hp} {a : Addr} {q : Part} {j : Int} (h : RLeafAt H a q j) (s : Same H H') : RLeafAt H' a q j := by
  obtain ⟨lo, h1, h2⟩ := h
  exact ⟨lo, s _ _ h1, s _ _ h2⟩
/-- which of the three is asked for -/
inductive Pl where
  | row | col | sig
def Pl.n : Pl → Int
  | .row => 0
  | .col => 1
  | .sig => 2
/-- the cell of the question, u and v the two that are told -/
def cellV : Pl → Int → Int → List V
  | .row, u, v => [.non, .int u, .int v]
  | .col, u, v => [.int u, .non, .int v]
  | .sig, u, v => [.int u, .int v, .non]
def missL (q : Part) (j : Int) : Pl → Int → Int → Int
  | .row, c, s => lessOf q.1 s (prodOf q.1 (lowerOf q.1 q.2) j c)
  | .col, r, s => prodOf q.1 (lowerOf q.1 q.2) (lessOf q.1 s r) (invOf q.1 (lowerOf q.1 q.2) j)
  | .sig, r, c => sumOf q.1 r (prodOf q.1 (lowerOf q.1 q.2) j c)
def missT (ps : List Part) (j : Int) (pl : Pl) (u v : Int) : Int := match ps with
  | [q] => missL q j pl u v
  | [q1, q2] => missL q1 j pl (u / q2.1 ^ q2.2) (v / q2.1 ^ q2.2) * q2.1 ^ q2.2 + missL q2 j pl (u % q2.1 ^ q2.2) (v % q2.1 ^ q2.2)
  | _ => 0
section
variable {P : Program} {w : World} {K : PySem.W.Frag} {mg : Str → Option Value} {base : Heap} {C : Addr}
/-! ### ready -/
abbrev sRd : Stmt := topS 55
theorem scRd : FnScope ["tree", "kind"] ["tree"] (defScope sRd) := ⟨rfl, rfl, rfl, by decide +kernel, rfl, by decide +kernel, by decide +kernel⟩
def spRd1 : Sp := fun vs H Q _ => ∃ (t : Addr) (q : Part) (j : Int), vs = [.ref t] ∧ LeafAt H t q j ∧ Fld q.1 q.2 ∧ ∀ (H' : Hp) (r : Addr), Same H H' → RLeafAt H' r q j → Q (.ref r) H'
theorem bo_rd1 (CL : Cal P w K mg base 4 "lower_of" spLow []) : BodyOk P w K mg base 4 "ready" sRd ["tree", "kind"] spRd1 := by
  intro f cdv A outer s H vs Q E hr h
  obtain ⟨t, q, j, rfl, ht, F, k⟩ := h
  have f1 := F.p2
  have f2 := F.p97
  have f3 := F.k12
  refine ⟨_, pss_cons (ps_set (i := 1) scRd.nd rfl (.inl rfl) (pe_ix ix_tup (pv 0) pe_int (fun _ _ => rfl)))
    (pss_cons (ps_if (pt_cmpR op_eq (pv 1) pe_str (nomark _)) (pss_one (ps_ret (pe_tup (StX.pa_star (pv 0) (pa_cons (pc CL hr (pa_cons (pe_ix ix_tup (pv 0) pe_int (fun _ _ => rfl)) (pa_cons (pe_ix ix_tup (pv 0) pe_int (fun _ _ => rfl)) pa_nil))) pa_nil))))) pss_nil)
    pss_never), ?_⟩
  refine ⟨_, rfl, t, _, 0, .str "field", rfl, rfl, .inl (.inl ht), atI_nat (j := 0) rfl, ?_⟩
  refine ⟨_, rfl, rfl, _, rfl, iteDS rfl ?_⟩
  refine ⟨_, rfl, t, _, rfl, .inl (.inl (.inl ht)), ?_⟩
  refine ⟨_, rfl, t, _, 1, .int q.1, rfl, rfl, .inl (.inl ht), atI_nat (j := 1) rfl, _, rfl, t, _, 2, .int (q.2 : Int), rfl, rfl, .inl (.inl ht), atI_nat (j := 2) rfl, q.1, q.2, rfl, ⟨by omega, by omega⟩, by omega, F.ir, fun H1 lo s1 n1 e1 => ?_⟩
  refine ⟨szl (by decide : 5 ≤ 1000), fun r nr => ?_⟩
  exact k _ r (same_put' s1 nr) ⟨lo, upd_same, same_new nr _ _ e1⟩
theorem ok_rd1 (D : DefF K mg "ready" sRd) (CL : Cal P w K mg base 4 "lower_of" spLow []) : Cal P w K mg base 5 "ready" spRd1 [] := by
  refine D.cal scRd (fun _ _ _ _ _ _ us hl => match us, hl with | [_], _ => rfl) (fun vs H Q E h => ?_) (bo_rd1 CL)
  obtain ⟨t, q, j, rfl, _⟩ := h
  rfl
def spRd : Sp := fun vs H Q _ => ∃ (t : Addr) (ps : List Part) (j : Int), vs = [.ref t] ∧ TreeAt H t ps j ∧ GoodPs ps ∧ ∀ (H' : Hp) (r : Addr), Same H H' → ReadyAt H' r ps j → Q (.ref r) H'
theorem ok_rd (D : DefF K mg "ready" sRd) (CL : Cal P w K mg base 4 "lower_of" spLow []) (CC : Cal P w K mg base 2 "count_of" spCnt []) : Cal P w K mg base 6 "ready" spRd [] := by
  have CR := ok_rd1 D CL
  refine D.cal scRd (fun _ _ _ _ _ _ us hl => match us, hl with | [_], _ => rfl) (fun vs H Q E h => ?_) (fun f cdv A outer s H vs Q E hr h => ?_)
  · obtain ⟨t, ps, j, rfl, _⟩ := h
    rfl
  · obtain ⟨t, ps, j, rfl, hT, GP, k⟩ := h
    rcases hT with ⟨q, rfl, ht⟩ | ⟨q1, q2, t1, t2, rfl, ht, l1, l2⟩
    · exact bo_rd1 CL f cdv A outer s H _ Q E (hr.mono (by decide)) ⟨t, q, j, rfl, ht, GP.fld q (List.mem_cons_self ..), fun H1 r s1 e1 => k H1 r s1 (.inl ⟨q, rfl, e1⟩)⟩
    · have F1 := GP.fld q1 (List.mem_cons_self ..)
      have F2 := GP.fld q2 (List.mem_cons_of_mem _ (List.mem_cons_self ..))
      refine ⟨_, pss_cons (ps_set (i := 1) scRd.nd rfl (.inl rfl) (pe_ix ix_tup (pv 0) pe_int (fun _ _ => rfl)))
        (pss_cons (ps_if (pt_cmpR op_eq (pv 1) pe_str (nomark _)) pss_never pss_nil)
        (pss_cons (ps_if (pt_cmpR op_eq (pv 1) pe_str (nomark _)) pss_never pss_nil)
        (pss_cons (ps_if (pt_cmpR op_eq (pv 1) pe_str (nomark _)) (pss_one (ps_ret (pe_tup (pa_cons (pv 1) (pa_cons (pc CR hr (pa_cons (pe_ix ix_tup (pv 0) pe_int (fun _ _ => rfl)) pa_nil)) (pa_cons (pc CR hr (pa_cons (pe_ix ix_tup (pv 0) pe_int (fun _ _ => rfl)) pa_nil)) (pa_cons (pc CC hr (pa_cons (pe_ix ix_tup (pv 0) pe_int (fun _ _ => rfl)) pa_nil)) pa_nil))))))) pss_nil)
        pss_never))), ?_⟩
      refine ⟨_, rfl, t, _, 0, .str "product", rfl, rfl, .inl (.inl ht), atI_nat (j := 0) rfl, ?_⟩
      refine ⟨_, rfl, rfl, _, rfl, iteDSF (by decide +kernel) ?_⟩
      refine ⟨_, rfl, rfl, _, rfl, iteDSF (by decide +kernel) ?_⟩
      refine ⟨_, rfl, rfl, _, rfl, iteDS rfl ?_⟩
      refine ⟨_, rfl, _, rfl, t, _, 1, .ref t1, rfl, rfl, .inl (.inl ht), atI_nat (j := 1) rfl, t1, q1, j, rfl, l1, F1, fun H1 r1 s1 e1 => ?_⟩
      refine ⟨_, rfl, t, _, 2, .ref t2, rfl, rfl, .inl (.inl (s1 _ _ ht)), atI_nat (j := 2) rfl, t2, q2, j, rfl, s1 _ _ l2, F2, fun H2 r2 s2 e2 => ?_⟩
      have s3 := s1.trans s2
      refine ⟨_, rfl, t, _, 2, .ref t2, rfl, rfl, .inl (.inl (s3 _ _ ht)), atI_nat (j := 2) rfl, t2, q2, j, rfl, s3 _ _ l2, F2, ?_⟩
      refine ⟨szl (by decide : 4 ≤ 1000), fun r nr => ?_⟩
      exact k _ r (same_put' s3 nr) (.inr ⟨q1, q2, r1, r2, rfl, upd_same, (e1.same s2).same (same_new nr), e2.same (same_new nr)⟩)
/-! ### missing_in_field -/
abbrev sMf : Stmt := topS 58
abbrev nMf : List Str := ["tree", "place", "cell", "_", "p", "a", "lower", "r", "c", "s"]
theorem scMf : FnScope nMf ["tree", "place", "cell"] (defScope sMf) := ⟨rfl, rfl, rfl, by decide +kernel, rfl, by decide +kernel, by decide +kernel⟩
def spMf : Sp := fun vs H Q _ => ∃ (t cl : Addr) (q : Part) (j u v : Int) (pl : Pl), vs = [.ref t, .int pl.n, .ref cl] ∧ RLeafAt H t q j ∧ Fld q.1 q.2 ∧ H cl = some (.tup (cellV pl u v)) ∧ (0 ≤ u ∧ u < 2 ^ 12) ∧ (0 ≤ v ∧ v < 2 ^ 12) ∧ NewI H (missL q j pl u v) Q
theorem ok_mf (D : DefF K mg "missing_in_field" sMf) (g2 : GInt mg "SIGN" 2) (g1 : GInt mg "COLUMN_squares" 1) (CL : Cal P w K mg base 1 "less_of" (spTog lessOf) []) (CS : Cal P w K mg base 1 "sum_of" (spTog sumOf) []) (CP : Cal P w K mg base 2 "product_of" (spProd K) []) (CI : Cal P w K mg base 4 "inverse_of" (spInv K) []) : Cal P w K mg base 5 "missing_in_field" spMf [] := by
  refine D.cal scMf (fun _ _ _ _ _ _ us hl => match us, hl with | [_, _, _], _ => rfl) (fun vs H Q E h => ?_) (fun f cdv A outer s H vs Q E hr h => ?_)
  · obtain ⟨t, cl, q, j, u, v, pl, rfl, _⟩ := h
    rfl
  · obtain ⟨t, cl, q, j, u, v, pl, rfl, ⟨lo, ht, hlo⟩, F, hc, hu, hv, k⟩ := h
    have f1 := F.p2
    have f2 := F.p97
    have f3 := F.k12
    have f4 := F.sz
    have f5 := F.sz2
    have hp : 0 < q.1 := by omega
    have ll := lowerOf_length q.1 q.2
    refine ⟨_, pss_cons (ps_asg (pv 0) (pg_tup (by rfl) (pgs_cons (pg_name (i := 3) scMf.nd rfl (.inl rfl)) (pgs_cons (pg_name (i := 4) scMf.nd rfl (.inl rfl)) (pgs_cons (pg_name (i := 3) scMf.nd rfl (.inl rfl)) (pgs_cons (pg_name (i := 5) scMf.nd rfl (.inl rfl)) (pgs_cons (pg_name (i := 6) scMf.nd rfl (.inl rfl)) pgs_nil)))))))
      (pss_cons (ps_asg (pv 2) (pg_tup (by rfl) (pgs_cons (pg_name (i := 7) scMf.nd rfl (.inl rfl)) (pgs_cons (pg_name (i := 8) scMf.nd rfl (.inl rfl)) (pgs_cons (pg_name (i := 9) scMf.nd rfl (.inl rfl)) pgs_nil)))))
      (pss_cons (ps_if (pt_cmpR op_eq (pv 1) (pgi g2) (nomark _)) (pss_one (ps_ret (pc CS hr (pa_cons (pv 4) (pa_cons (pv 7) (pa_cons (pc CP hr (pa_cons (pv 4) (pa_cons (pv 6) (pa_cons (pv 5) (pa_cons (pv 8) pa_nil))))) pa_nil)))))) pss_nil)
      (pss_cons (ps_if (pt_cmpR op_eq (pv 1) (pgi g1) (nomark _)) (pss_one (ps_ret (pc CP hr (pa_cons (pv 4) (pa_cons (pv 6) (pa_cons (pc CL hr (pa_cons (pv 4) (pa_cons (pv 9) (pa_cons (pv 7) pa_nil)))) (pa_cons (pc CI hr (pa_cons (pv 4) (pa_cons (pv 6) (pa_cons (pv 5) pa_nil)))) pa_nil))))))) pss_nil)
      (pss_one (ps_ret (pc CL hr (pa_cons (pv 4) (pa_cons (pv 9) (pa_cons (pc CP hr (pa_cons (pv 4) (pa_cons (pv 6) (pa_cons (pv 5) (pa_cons (pv 8) pa_nil))))) pa_nil))))))))), ?_⟩
    refine ⟨_, rfl, t, _, rfl, .inl (.inl ht), rfl, _, _, rfl, _, _, rfl, _, _, rfl, _, _, rfl, _, _, rfl, rfl, ?_⟩
    have bp : ∀ z, 0 ≤ prodOf q.1 (lowerOf q.1 q.2) j z ∧ prodOf q.1 (lowerOf q.1 q.2) j z < 2 ^ 12 := fun z => by
      have h := prodOf_bd hp (lowerOf q.1 q.2) j z
      rw [ll] at h
      exact ⟨h.1, by omega⟩
    cases pl with
    | sig =>
      refine ⟨_, rfl, cl, _, rfl, .inl (.inl hc), rfl, _, _, rfl, _, _, rfl, _, _, rfl, rfl, ?_⟩
      refine ⟨_, rfl, rfl, _, rfl, iteDI rfl ?_⟩
      refine ⟨_, rfl, _, rfl, _, rfl, _, rfl, _, rfl, _, rfl, q.1, lo, _, j, v, rfl, ⟨f1, by omega⟩, sqT hlo, by omega, bd_lowerOf hp _, fun H1 s1 => ?_⟩
      exact ⟨q.1, u, _, rfl, f1, by omega, hu, bp v, k H1 s1⟩
    | col =>
      refine ⟨_, rfl, cl, _, rfl, .inl (.inl hc), rfl, _, _, rfl, _, _, rfl, _, _, rfl, rfl, ?_⟩
      refine ⟨_, rfl, rfl, _, rfl, iteDIF (by decide) ?_⟩
      refine ⟨_, rfl, rfl, _, rfl, iteDI rfl ?_⟩
      refine ⟨_, rfl, _, rfl, _, rfl, _, rfl, _, rfl, q.1, v, u, rfl, f1, by omega, hv, hu, ?_⟩
      refine ⟨_, rfl, _, rfl, _, rfl, q.1, lo, _, j, rfl, ⟨f1, by omega⟩, sqT hlo, by omega, bd_lowerOf hp _, (by rw [ll]; exact ⟨f5, f4⟩), fun H1 s1 => ?_⟩
      exact ⟨q.1, lo, _, _, _, rfl, ⟨f1, by omega⟩, sqT (s1 _ _ hlo), by omega, bd_lowerOf hp _, fun H2 s2 => k H2 (s1.trans s2)⟩
    | row =>
      refine ⟨_, rfl, cl, _, rfl, .inl (.inl hc), rfl, _, _, rfl, _, _, rfl, _, _, rfl, rfl, ?_⟩
      refine ⟨_, rfl, rfl, _, rfl, iteDIF (by decide) ?_⟩
      refine ⟨_, rfl, rfl, _, rfl, iteDIF (by decide) ?_⟩
      refine ⟨_, rfl, _, rfl, _, rfl, _, rfl, _, rfl, _, rfl, q.1, lo, _, j, u, rfl, ⟨f1, by omega⟩, sqT hlo, by omega, bd_lowerOf hp _, fun H1 s1 => ?_⟩
      exact ⟨q.1, v, _, rfl, f1, by omega, hv, bp u, k H1 s1⟩
end
end Ms
namespace Ms
open PySem PySem.Spec PyProof.Rows L2
theorem iteNF {c A B : Prop} [Decidable c] (h : ¬ c) (a : A) : if (!decide c) = true then A else B := by
  rw [decide_eq_false h]
  exact iteT a
def gV (g : Int → Int) : V → V
  | .int z => .int (g z)
  | x => x
theorem cell_map (g : Int → Int) (pl : Pl) (u v : Int) : (cellV pl u v).map (gV g) = cellV pl (g u) (g v) := by
  cases pl <;> rfl
theorem cell_elt {pl : Pl} {u v : Int} {i : Nat} {x : V} (h : (cellV pl u v)[i]? = some x) : x = .non ∨ x = .int u ∨ x = .int v := by
  have hm := List.mem_of_getElem? h
  cases pl <;> simp [cellV] at hm <;> rcases hm with h | h | h <;> simp [h]
theorem cell_len (pl : Pl) (u v : Int) : (cellV pl u v).length = 3 := by
  cases pl <;> rfl
section
variable {P : Program} {w : World} {K : PySem.W.Frag} {mg : Str → Option Value} {base : Heap} {C : Addr}
/-! ### missing_of -/
abbrev sMo : Stmt := topS 59
abbrev nMo : List Str := ["tree", "place", "cell", "kind", "old", "at", "part", "size", "high", "low"]
theorem scMo : FnScope nMo ["tree", "place", "cell"] (defScope sMo) := ⟨rfl, rfl, rfl, by decide +kernel, rfl, by decide +kernel, by decide +kernel⟩
def spMo1 : Sp := fun vs H Q _ => ∃ (t cl : Addr) (q : Part) (j u v : Int) (pl : Pl), vs = [.ref t, .int pl.n, .ref cl] ∧ RLeafAt H t q j ∧ Fld q.1 q.2 ∧ H cl = some (.tup (cellV pl u v)) ∧ (0 ≤ u ∧ u < 2 ^ 12) ∧ (0 ≤ v ∧ v < 2 ^ 12) ∧ NewI H (missL q j pl u v) Q
theorem bo_mo1 (CF : Cal P w K mg base 5 "missing_in_field" spMf []) : BodyOk P w K mg base 5 "missing_of" sMo nMo spMo1 := by
  intro f cdv A outer s H vs Q E hr h
  obtain ⟨t, cl, q, j, u, v, pl, rfl, ⟨lo, ht, hlo⟩, F, hc, hu, hv, k⟩ := h
  refine ⟨_, pss_cons (ps_set (i := 3) scMo.nd rfl (.inl rfl) (pe_ix ix_tup (pv 0) pe_int (fun _ _ => rfl)))
    (pss_cons (ps_if (pt_cmpR op_eq (pv 3) pe_str (nomark _)) pss_never pss_nil)
    (pss_cons (ps_if (pt_cmpR op_eq (pv 3) pe_str (nomark _)) pss_never pss_nil)
    (pss_cons (ps_if (pt_cmpR op_eq (pv 3) pe_str (nomark _)) (pss_one (ps_ret (pc CF hr (pa_cons (pv 0) (pa_cons (pv 1) (pa_cons (pv 2) pa_nil)))))) pss_nil)
    pss_never))), ?_⟩
  refine ⟨_, rfl, t, _, 0, .str "field", rfl, rfl, .inl (.inl ht), atI_nat (j := 0) rfl, ?_⟩
  refine ⟨_, rfl, rfl, _, rfl, iteDSF (by decide +kernel) ?_⟩
  refine ⟨_, rfl, rfl, _, rfl, iteDSF (by decide +kernel) ?_⟩
  refine ⟨_, rfl, rfl, _, rfl, iteDS rfl ?_⟩
  exact ⟨_, rfl, _, rfl, _, rfl, t, cl, q, j, u, v, pl, rfl, ⟨lo, ht, hlo⟩, F, hc, hu, hv, k⟩
theorem ok_mo1 (D : DefF K mg "missing_of" sMo) (CF : Cal P w K mg base 5 "missing_in_field" spMf []) : Cal P w K mg base 6 "missing_of" spMo1 [] := by
  refine D.cal scMo (fun _ _ _ _ _ _ us hl => match us, hl with | [_, _, _], _ => rfl) (fun vs H Q E h => ?_) (bo_mo1 CF)
  obtain ⟨t, cl, q, j, u, v, pl, rfl, _⟩ := h
  rfl
def spMo : Sp := fun vs H Q _ => ∃ (t cl : Addr) (ps : List Part) (j u v : Int) (pl : Pl), vs = [.ref t, .int pl.n, .ref cl] ∧ ReadyAt H t ps j ∧ GoodPs ps ∧ H cl = some (.tup (cellV pl u v)) ∧ (0 ≤ u ∧ u < cntT ps) ∧ (0 ≤ v ∧ v < cntT ps) ∧ NewI H (missT ps j pl u v) Q
theorem ok_mo (D : DefF K mg "missing_of" sMo) (mt : mg "tuple" = none) (CF : Cal P w K mg base 5 "missing_in_field" spMf []) : Cal P w K mg base 7 "missing_of" spMo [] := by
  have CM := ok_mo1 D CF
  refine D.cal scMo (fun _ _ _ _ _ _ us hl => match us, hl with | [_, _, _], _ => rfl) (fun vs H Q E h => ?_) (fun f cdv A outer s H vs Q E hr h => ?_)
  · obtain ⟨t, cl, ps, j, u, v, pl, rfl, _⟩ := h
    rfl
  · obtain ⟨t, cl, ps, j, u, v, pl, rfl, hT, GP, hc, hu, hv, k⟩ := h
    rcases hT with ⟨q, rfl, ht⟩ | ⟨q1, q2, t1, t2, rfl, ht, l1, l2⟩
    · have F := GP.fld q (List.mem_cons_self ..)
      have f4 := F.sz
      have e : cntT [q] = q.1 ^ q.2 := rfl
      rw [e] at hu hv
      exact bo_mo1 CF f cdv A outer s H _ Q E (hr.mono (by decide)) ⟨t, cl, q, j, u, v, pl, rfl, ht, F, hc, ⟨hu.1, by omega⟩, ⟨hv.1, by omega⟩, k⟩
    · have F1 := GP.fld q1 (List.mem_cons_self ..)
      have F2 := GP.fld q2 (List.mem_cons_of_mem _ (List.mem_cons_self ..))
      have b1 := F1.sz
      have b2 := F2.sz
      have c1 := F1.sz2
      have c2 := F2.sz2
      have e : cntT [q1, q2] = q1.1 ^ q1.2 * q2.1 ^ q2.2 := rfl
      have em : missT [q1, q2] j pl u v = missL q1 j pl (u / q2.1 ^ q2.2) (v / q2.1 ^ q2.2) * q2.1 ^ q2.2 + missL q2 j pl (u % q2.1 ^ q2.2) (v % q2.1 ^ q2.2) := rfl
      rw [em] at k
      rw [e] at hu hv
      generalize q1.1 ^ q1.2 = z1 at *
      generalize q2.1 ^ q2.2 = z2 at *
      have d1 : 0 ≤ u / z2 ∧ u / z2 < 2 ^ 12 := ⟨Int.ediv_nonneg hu.1 (by omega), Int.lt_trans (Int.ediv_lt_of_lt_mul (by omega) hu.2) b1⟩
      have d2 : 0 ≤ v / z2 ∧ v / z2 < 2 ^ 12 := ⟨Int.ediv_nonneg hv.1 (by omega), Int.lt_trans (Int.ediv_lt_of_lt_mul (by omega) hv.2) b1⟩
      have m1 : 0 ≤ u % z2 ∧ u % z2 < 2 ^ 12 := ⟨Int.emod_nonneg u (by omega), Int.lt_trans (Int.emod_lt_of_pos u (by omega)) b2⟩
      have m2 : 0 ≤ v % z2 ∧ v % z2 < 2 ^ 12 := ⟨Int.emod_nonneg v (by omega), Int.lt_trans (Int.emod_lt_of_pos v (by omega)) b2⟩
      refine ⟨_, pss_cons (ps_set (i := 3) scMo.nd rfl (.inl rfl) (pe_ix ix_tup (pv 0) pe_int (fun _ _ => rfl)))
        (pss_cons (ps_if (pt_cmpR op_eq (pv 3) pe_str (nomark _)) pss_never pss_nil)
        (pss_cons (ps_if (pt_cmpR op_eq (pv 3) pe_str (nomark _)) pss_never pss_nil)
        (pss_cons (ps_if (pt_cmpR op_eq (pv 3) pe_str (nomark _)) pss_never pss_nil)
        (pss_cons (ps_if (pt_cmpR op_eq (pv 3) pe_str (nomark _)) pss_never pss_nil)
        (pss_cons (ps_set (i := 7) scMo.nd rfl (.inr rfl) (pe_ix ix_tup (pv 0) pe_int (fun _ _ => rfl)))
        (pss_cons (ps_set (i := 8) scMo.nd rfl (.inl rfl) (pe_callTy call_tuple_of (by rfl) mt (by decide +kernel) (pa_cons (pe_lc (own := [("part", 6)]) (g := gName 6) (tt := tYes) (by rfl) scMo.nd (pi_tup (pv 2)) (blkOk_by (N := nMo) (sc := defScope sMo) (by decide +kernel))
          (fun _ _ _ _ _ => pg_name (i := 6) scMo.nd rfl (Or.inl rfl)) (fun _ _ _ _ _ => pts_nil) (fun _ _ _ _ _ => pe_ifExp (pt_cmpR op_isN (pv 6) pe_non (nomark _)) pe_non (pe_op op_fdiv (pv 6) (pv 7)))) pa_nil)))
        (pss_cons (ps_set (i := 9) scMo.nd rfl (.inl rfl) (pe_callTy call_tuple_of (by rfl) mt (by decide +kernel) (pa_cons (pe_lc (own := [("part", 6)]) (g := gName 6) (tt := tYes) (by rfl) scMo.nd (pi_tup (pv 2)) (blkOk_by (N := nMo) (sc := defScope sMo) (by decide +kernel))
          (fun _ _ _ _ _ => pg_name (i := 6) scMo.nd rfl (Or.inl rfl)) (fun _ _ _ _ _ => pts_nil) (fun _ _ _ _ _ => pe_ifExp (pt_cmpR op_isN (pv 6) pe_non (nomark _)) pe_non (pe_op op_mod (pv 6) (pv 7)))) pa_nil)))
        (pss_one (ps_ret (pe_op op_add (pe_op op_mul (pc CM hr (pa_cons (pe_ix ix_tup (pv 0) pe_int (fun _ _ => rfl)) (pa_cons (pv 1) (pa_cons (pv 8) pa_nil)))) (pv 7)) (pc CM hr (pa_cons (pe_ix ix_tup (pv 0) pe_int (fun _ _ => rfl)) (pa_cons (pv 1) (pa_cons (pv 9) pa_nil)))))))))))))), ?_⟩
      refine ⟨_, rfl, t, _, 0, .str "product", rfl, rfl, .inl (.inl ht), atI_nat (j := 0) rfl, ?_⟩
      refine ⟨_, rfl, rfl, _, rfl, iteDSF (by decide +kernel) ?_⟩
      refine ⟨_, rfl, rfl, _, rfl, iteDSF (by decide +kernel) ?_⟩
      refine ⟨_, rfl, rfl, _, rfl, iteDSF (by decide +kernel) ?_⟩
      refine ⟨_, rfl, rfl, _, rfl, iteDSF (by decide +kernel) ?_⟩
      refine ⟨_, rfl, t, _, 3, .int z2, rfl, rfl, .inl (.inl ht), atI_nat (j := 3) rfl, ?_⟩
      -- high
      refine ⟨_, rfl, cl, rfl, ⟨_, .inl (.inl hc)⟩, fun L nL => ?_⟩
      refine lc_tup (K := K) (a := cl) (xs := cellV pl u v) (fun i H' => Same H H' ∧ H' L = some (.lst (((cellV pl u v).take i).map (gV (fun z => z / z2))))) ⟨same_new nL, upd_same⟩ (fun i H' _ h => .inl (.inl (h.1 _ _ hc))) ?_ ?_
      · rintro i x H' hx ⟨s1, hL⟩
        have hl3 : (((cellV pl u v).take i).map (gV (fun z => z / z2))).length < sizeLine := by
          rw [List.length_map, List.length_take, cell_len]
          exact small (by omega)
        have fin : Same H (upd H' L (.lst (((cellV pl u v).take i).map (gV (fun z => z / z2)) ++ [gV (fun z => z / z2) x]))) ∧ (upd H' L (.lst (((cellV pl u v).take i).map (gV (fun z => z / z2)) ++ [gV (fun z => z / z2) x]))) L = some (.lst (((cellV pl u v).take (i + 1)).map (gV (fun z => z / z2)))) := by
          refine ⟨same_put s1 nL, ?_⟩
          rw [upd_same, ← take_snoc hx, List.map_append]
          rfl
        rcases cell_elt hx with rfl | rfl | rfl
        · exact ⟨rfl, _, rfl, rfl, _, rfl, iteD rfl ⟨_, hL, hl3, fin⟩⟩
        · exact ⟨rfl, _, rfl, rfl, _, rfl, iteDF (fun z => nomatch z) ⟨_, rfl, _, rfl, _, _, rfl, rfl, ⟨by omega, by omega⟩, _, hL, hl3, fin⟩⟩
        · exact ⟨rfl, _, rfl, rfl, _, rfl, iteDF (fun z => nomatch z) ⟨_, rfl, _, rfl, _, _, rfl, rfl, ⟨by omega, by omega⟩, _, hL, hl3, fin⟩⟩
      rintro H1 ⟨s1, hL⟩
      rw [List.take_length, cell_map] at hL
      refine ⟨L, _, rfl, .inl ⟨.inl (.inl hL), fun hi nhi => ?_⟩⟩
      have s2 := same_put' (o := HO.tup (cellV pl (u / z2) (v / z2))) s1 nhi
      -- low
      refine ⟨_, rfl, cl, rfl, ⟨_, .inl (.inl (s2 _ _ hc))⟩, fun L2 nL2 => ?_⟩
      generalize hG : upd H1 hi (HO.tup (cellV pl (u / z2) (v / z2))) = G at *
      have hhi : G hi = some (.tup (cellV pl (u / z2) (v / z2))) := by rw [← hG, upd_same]
      refine lc_tup (K := K) (a := cl) (xs := cellV pl u v) (fun i H' => Same G H' ∧ H' L2 = some (.lst (((cellV pl u v).take i).map (gV (fun z => z % z2))))) ⟨same_new nL2, upd_same⟩ (fun i H' _ h => .inl (.inl (h.1 _ _ (s2 _ _ hc)))) ?_ ?_
      · rintro i x H' hx ⟨s3, hL2⟩
        have hl3 : (((cellV pl u v).take i).map (gV (fun z => z % z2))).length < sizeLine := by
          rw [List.length_map, List.length_take, cell_len]
          exact small (by omega)
        have fin : Same G (upd H' L2 (.lst (((cellV pl u v).take i).map (gV (fun z => z % z2)) ++ [gV (fun z => z % z2) x]))) ∧ (upd H' L2 (.lst (((cellV pl u v).take i).map (gV (fun z => z % z2)) ++ [gV (fun z => z % z2) x]))) L2 = some (.lst (((cellV pl u v).take (i + 1)).map (gV (fun z => z % z2)))) := by
          refine ⟨same_put s3 nL2, ?_⟩
          rw [upd_same, ← take_snoc hx, List.map_append]
          rfl
        rcases cell_elt hx with rfl | rfl | rfl
        · exact ⟨rfl, _, rfl, rfl, _, rfl, iteD rfl ⟨_, hL2, hl3, fin⟩⟩
        · exact ⟨rfl, _, rfl, rfl, _, rfl, iteDF (fun z => nomatch z) ⟨_, rfl, _, rfl, _, _, rfl, rfl, by omega, _, hL2, hl3, fin⟩⟩
        · exact ⟨rfl, _, rfl, rfl, _, rfl, iteDF (fun z => nomatch z) ⟨_, rfl, _, rfl, _, _, rfl, rfl, by omega, _, hL2, hl3, fin⟩⟩
      rintro H2 ⟨s3, hL2⟩
      rw [List.take_length, cell_map] at hL2
      refine ⟨L2, _, rfl, .inl ⟨.inl (.inl hL2), fun lw nlw => ?_⟩⟩
      have s4 := s2.trans s3
      have s5 := same_put' (o := HO.tup (cellV pl (u % z2) (v % z2))) s4 nlw
      -- the two parts
      refine ⟨_, rfl, t, _, 1, .ref t1, rfl, rfl, .inl (.inl (s5 _ _ ht)), atI_nat (j := 1) rfl, _, rfl, _, rfl, t1, hi, q1, j, u / z2, v / z2, pl, rfl, l1.same s5, F1, same_new nlw _ _ (s3 _ _ hhi), d1, d2, fun H3 s6 => ?_⟩
      have s7 := s5.trans s6
      refine ⟨_, rfl, _, _, rfl, rfl, .inr ⟨by omega, by omega⟩, ?_⟩
      refine ⟨_, rfl, t, _, 2, .ref t2, rfl, rfl, .inl (.inl (s7 _ _ ht)), atI_nat (j := 2) rfl, _, rfl, _, rfl, t2, lw, q2, j, u % z2, v % z2, pl, rfl, l2.same s7, F2, s6 _ _ upd_same, m1, m2, fun H4 s8 => ?_⟩
      exact ⟨_, _, rfl, rfl, k H4 (s7.trans s8)⟩
end
end Ms
namespace Ms
open PySem PySem.Spec PyProof.Rows L2
section
variable {P : Program} {w : World} {K : PySem.W.Frag} {mg : Str → Option Value} {base : Heap} {C : Addr}
/-! ### asked -/
abbrev sAk : Stmt := topS 60
abbrev nAk : List Str := ["tree", "place", "cell", "whole", "_", "count", "part"]
theorem scAk : FnScope nAk ["tree", "place", "cell"] (defScope sAk) := ⟨rfl, rfl, rfl, by decide +kernel, rfl, by decide +kernel, by decide +kernel⟩
def spAk : Sp := fun vs H Q _ => ∃ (t cl : Addr) (ps : List Part) (j u v : Int) (pl : Pl), vs = [.ref t, .int pl.n, .ref cl] ∧ TreeAt H t ps j ∧ GoodPs ps ∧ Num ps j ∧ H cl = some (.tup (cellV pl u v)) ∧ (0 ≤ u ∧ u < cntT ps) ∧ (0 ≤ v ∧ v < cntT ps) ∧ NewI H (missT ps j pl u v) Q
theorem ok_ak (D : DefF K mg "asked" sAk) (CP : Cal P w K mg base 5 "checked_part" spPt [.int 1]) (CR : Cal P w K mg base 6 "ready" spRd []) (CM : Cal P w K mg base 7 "missing_of" spMo []) : Cal P w K mg base 8 "asked" spAk [] := by
  refine D.cal scAk (fun _ _ _ _ _ _ us hl => match us, hl with | [_, _, _], _ => rfl) (fun vs H Q E h => ?_) (fun f cdv A outer s H vs Q E hr h => ?_)
  · obtain ⟨t, cl, ps, j, u, v, pl, rfl, _⟩ := h
    rfl
  · obtain ⟨t, cl, ps, j, u, v, pl, rfl, hT, GP, NJ, hc, hu, hv, k⟩ := h
    refine ⟨_, pss_cons (ps_asg (pc CP hr (pa_cons (pv 0) pa_nil)) (pg_tup (by rfl) (pgs_cons (pg_name (i := 3) scAk.nd rfl (.inl rfl)) (pgs_cons (pg_name (i := 4) scAk.nd rfl (.inl rfl)) (pgs_cons (pg_name (i := 5) scAk.nd rfl (.inl rfl)) pgs_nil)))))
      (pss_cons (ps_for PassesOwn.never rfl (pi_tup (pv 2)) (pg_name (i := 6) scAk.nd rfl (.inl rfl))
        (pss_one (ps_if (PW.pt (pw_and (pt_cmpR op_notN (pv 6) pe_non (nomark _)) (pw_and1 (pt_not (pt_chain op_le op_lt pe_int (pv 6) (pv 5)))))) pss_never pss_nil)))
      (pss_one (ps_ret (pc CM hr (pa_cons (pc CR hr (pa_cons (pv 3) pa_nil)) (pa_cons (pv 1) (pa_cons (pv 2) pa_nil))))))), ?_⟩
    refine ⟨_, rfl, t, ps, j, 1, rfl, hT, GP, NJ, by decide, fun H1 r t' n s1 e1 hT1 => ?_⟩
    refine ⟨r, _, rfl, .inl (.inl e1), rfl, _, _, rfl, _, _, rfl, _, _, rfl, rfl, ?_⟩
    have hc1 := s1 _ _ hc
    refine ⟨_, rfl, cl, rfl, ⟨_, .inl (.inl hc1)⟩, for_tup (K := K) (a := cl) (xs := cellV pl u v) (fun i σ H' => ∃ y6, σ = [some (.ref t), some (.int pl.n), some (.ref cl), some (.ref t'), some (.int n), some (.int (cntT ps)), y6] ∧ H' = H1) ⟨none, rfl, rfl⟩ (fun i σ H' _ h => by obtain ⟨_, _, rfl⟩ := h; exact .inl (.inl hc1)) ?_ ?_⟩
    · rintro i x σ H' hx ⟨y6, rfl, rfl⟩
      rcases cell_elt hx with rfl | rfl | rfl
      · exact ⟨_, rfl, rfl, _, rfl, iteNS rfl (iteF ⟨_, rfl, rfl⟩)⟩
      · exact ⟨_, rfl, rfl, _, rfl, iteNF (fun z => nomatch z) ⟨_, rfl, _, _, rfl, rfl, _, rfl, iteD hu.1 ⟨_, rfl, _, _, rfl, rfl, _, rfl, iteNS hu.2 ⟨_, rfl, rfl⟩⟩⟩⟩
      · exact ⟨_, rfl, rfl, _, rfl, iteNF (fun z => nomatch z) ⟨_, rfl, _, _, rfl, rfl, _, rfl, iteD hv.1 ⟨_, rfl, _, _, rfl, rfl, _, rfl, iteNS hv.2 ⟨_, rfl, rfl⟩⟩⟩⟩
    · rintro σ H' ⟨y6, rfl, rfl⟩
      refine ⟨_, rfl, t', ps, j, rfl, hT1, GP, fun H2 r2 s2 e2 => ?_⟩
      exact ⟨_, rfl, _, rfl, r2, cl, ps, j, u, v, pl, rfl, e2, GP, s2 _ _ hc1, hu, hv, fun H3 s3 => k H3 (s1.trans (s2.trans s3))⟩
/-! ### sign -/
abbrev sSg : Stmt := topS 61
theorem scSg : FnScope ["tree", "r", "c"] ["tree", "r", "c"] (defScope sSg) := ⟨rfl, rfl, rfl, by decide +kernel, rfl, by decide +kernel, by decide +kernel⟩
def spSg : Sp := fun vs H Q _ => ∃ (t : Addr) (ps : List Part) (j u v : Int), vs = [.ref t, .int u, .int v] ∧ TreeAt H t ps j ∧ GoodPs ps ∧ Num ps j ∧ (0 ≤ u ∧ u < cntT ps) ∧ (0 ≤ v ∧ v < cntT ps) ∧ NewI H (missT ps j .sig u v) Q
theorem ok_Sg (D : DefF K mg "sign" sSg) (g : GInt mg "SIGN" 2) (CA : Cal P w K mg base 8 "asked" spAk []) : Cal P w K mg base 9 "sign" spSg [] := by
  refine D.cal scSg (fun _ _ _ _ _ _ us hl => match us, hl with | [_, _, _], _ => rfl) (fun vs H Q E h => ?_) (fun f cdv A outer s H vs Q E hr h => ?_)
  · obtain ⟨t, ps, j, u, v, rfl, _⟩ := h
    rfl
  · obtain ⟨t, ps, j, u, v, rfl, hT, GP, NJ, hu, hv, k⟩ := h
    refine ⟨_, pss_one (ps_ret (pc CA hr (pa_cons (pv 0) (pa_cons (pgi g) (pa_cons (pe_tup (pa_cons (pv 1) (pa_cons (pv 2) (pa_cons pe_non pa_nil)))) pa_nil))))), ?_⟩
    refine ⟨_, rfl, _, rfl, _, rfl, szl (by decide : 3 ≤ 1000), fun o no => ?_⟩
    have s1 : Same H (upd H o (.tup (cellV .sig u v))) := same_new no
    exact ⟨t, o, ps, j, u, v, .sig, rfl, hT.same s1, GP, NJ, upd_same, hu, hv, fun H1 s2 => k H1 (s1.trans s2)⟩
/-! ### row_of -/
abbrev sRw_ : Stmt := topS 62
theorem scRw_ : FnScope ["tree", "c", "s"] ["tree", "c", "s"] (defScope sRw_) := ⟨rfl, rfl, rfl, by decide +kernel, rfl, by decide +kernel, by decide +kernel⟩
def spRw_ : Sp := fun vs H Q _ => ∃ (t : Addr) (ps : List Part) (j u v : Int), vs = [.ref t, .int u, .int v] ∧ TreeAt H t ps j ∧ GoodPs ps ∧ Num ps j ∧ (0 ≤ u ∧ u < cntT ps) ∧ (0 ≤ v ∧ v < cntT ps) ∧ NewI H (missT ps j .row u v) Q
theorem ok_Rw_ (D : DefF K mg "row_of" sRw_) (g : GInt mg "ROW_squares" 0) (CA : Cal P w K mg base 8 "asked" spAk []) : Cal P w K mg base 9 "row_of" spRw_ [] := by
  refine D.cal scRw_ (fun _ _ _ _ _ _ us hl => match us, hl with | [_, _, _], _ => rfl) (fun vs H Q E h => ?_) (fun f cdv A outer s H vs Q E hr h => ?_)
  · obtain ⟨t, ps, j, u, v, rfl, _⟩ := h
    rfl
  · obtain ⟨t, ps, j, u, v, rfl, hT, GP, NJ, hu, hv, k⟩ := h
    refine ⟨_, pss_one (ps_ret (pc CA hr (pa_cons (pv 0) (pa_cons (pgi g) (pa_cons (pe_tup (pa_cons pe_non (pa_cons (pv 1) (pa_cons (pv 2) pa_nil)))) pa_nil))))), ?_⟩
    refine ⟨_, rfl, _, rfl, _, rfl, szl (by decide : 3 ≤ 1000), fun o no => ?_⟩
    have s1 : Same H (upd H o (.tup (cellV .row u v))) := same_new no
    exact ⟨t, o, ps, j, u, v, .row, rfl, hT.same s1, GP, NJ, upd_same, hu, hv, fun H1 s2 => k H1 (s1.trans s2)⟩
/-! ### column_of -/
abbrev sCl : Stmt := topS 63
theorem scCl : FnScope ["tree", "r", "s"] ["tree", "r", "s"] (defScope sCl) := ⟨rfl, rfl, rfl, by decide +kernel, rfl, by decide +kernel, by decide +kernel⟩
def spCl : Sp := fun vs H Q _ => ∃ (t : Addr) (ps : List Part) (j u v : Int), vs = [.ref t, .int u, .int v] ∧ TreeAt H t ps j ∧ GoodPs ps ∧ Num ps j ∧ (0 ≤ u ∧ u < cntT ps) ∧ (0 ≤ v ∧ v < cntT ps) ∧ NewI H (missT ps j .col u v) Q
theorem ok_Cl (D : DefF K mg "column_of" sCl) (g : GInt mg "COLUMN_squares" 1) (CA : Cal P w K mg base 8 "asked" spAk []) : Cal P w K mg base 9 "column_of" spCl [] := by
  refine D.cal scCl (fun _ _ _ _ _ _ us hl => match us, hl with | [_, _, _], _ => rfl) (fun vs H Q E h => ?_) (fun f cdv A outer s H vs Q E hr h => ?_)
  · obtain ⟨t, ps, j, u, v, rfl, _⟩ := h
    rfl
  · obtain ⟨t, ps, j, u, v, rfl, hT, GP, NJ, hu, hv, k⟩ := h
    refine ⟨_, pss_one (ps_ret (pc CA hr (pa_cons (pv 0) (pa_cons (pgi g) (pa_cons (pe_tup (pa_cons (pv 1) (pa_cons pe_non (pa_cons (pv 2) pa_nil)))) pa_nil))))), ?_⟩
    refine ⟨_, rfl, _, rfl, _, rfl, szl (by decide : 3 ≤ 1000), fun o no => ?_⟩
    have s1 : Same H (upd H o (.tup (cellV .col u v))) := same_new no
    exact ⟨t, o, ps, j, u, v, .col, rfl, hT.same s1, GP, NJ, upd_same, hu, hv, fun H1 s2 => k H1 (s1.trans s2)⟩
end
end Ms
namespace Ms
open PySem PySem.Spec PyProof.Rows L2
/-! ### the law's own defs -/
def Nums (xs : List Int) : Prop := ∀ z ∈ xs, 0 ≤ z ∧ z < 1009
theorem Nums.snoc {xs : List Int} {z : Int} (h : Nums xs) (b : 0 ≤ z ∧ z < 1009) : Nums (xs ++ [z]) := fun y hy => by
  rcases List.mem_append.mp hy with h1 | h1
  · exact h y h1
  · rw [List.mem_singleton.mp h1]
    exact b
section
variable {P : Program} {w : World} {K : PySem.W.Frag} {mg : Str → Option Value} {base : Heap} {C : Addr}
abbrev sLr : Stmt := topS 65
theorem scLr : FnScope ["_law_cell", "_law_many", "_law_row_here", "_law_rest", "_law_mixed", "_law_k"] ["_law_cell", "_law_many"] (defScope sLr) := ⟨rfl, rfl, rfl, by decide +kernel, rfl, by decide +kernel, by decide +kernel⟩
def spLr : Sp := fun vs H Q _ => ∃ (c : Int) (n : Nat), vs = [.int c, .int (n : Int)] ∧ n ≤ 100 ∧ ∀ (H' : Hp) (p : Addr) (xs : List Int), Same H H' → H p = none → H' p = some (.lst (xs.map V.int)) → xs.length = n → Nums xs → Q (.ref p) H'
theorem ok_lr (D : DefF K mg "_law_row" sLr) (mr : mg "range" = none) (mi : mg "int" = none) (ma : mg "abs" = none) : Cal P w K mg base 1 "_law_row" spLr [] := by
  refine D.cal scLr (fun _ _ _ _ _ _ us hl => match us, hl with | [_, _], _ => rfl) (fun vs H Q E h => ?_) (fun f cdv A outer s H vs Q E hr h => ?_)
  · obtain ⟨c, n, rfl, _⟩ := h
    rfl
  · obtain ⟨c, n, rfl, hn, q⟩ := h
    refine ⟨_, pss_cons (ps_set (i := 2) scLr.nd rfl (.inl rfl) (pe_lst pa_nil))
      (pss_cons (ps_set (i := 3) scLr.nd rfl (.inl rfl) (pe_callB call_abs (by rfl) ma (by decide +kernel) (pa_cons (pv 0) pa_nil)))
      (pss_cons (ps_set (i := 4) scLr.nd rfl (.inl rfl) (pe_op op_mod (pe_callTy call_int1 (by rfl) mi (by decide +kernel) (pa_cons (pe_op op_add (pe_op op_mul (pv 3) pe_int) pe_int) pa_nil)) pe_int))
      (pss_cons (ps_for PassesOwn.never rfl (pi_range1 rfl mr (pa_cons (pv 1) pa_nil)) (pg_name (i := 5) scLr.nd rfl (.inl rfl))
        (pss_cons (ps_set (i := 4) scLr.nd rfl (.inl rfl) (pe_op op_mod (pe_callTy call_int1 (by rfl) mi (by decide +kernel) (pa_cons (pe_op op_add (pe_op op_mul (pv 4) pe_int) (pe_op op_mul pe_int (pe_op op_add (pv 5) pe_int))) pa_nil)) pe_int))
        (pss_one (ps_if (pt_cmpR op_ge (pe_callB call_abs (by rfl) ma (by decide +kernel) (pa_cons (pv 0) pa_nil)) (pe_op op_pow pe_int pe_int) (nomark _))
          (pss_cons (ps_expr (pe_bm PySem.F.plainAttrs_list PySem.F.slot_list_append PySem.F.type_list_append mt_append (pv 2) (pa_cons (pe_op op_mod (pe_callTy call_int1 (by rfl) mi (by decide +kernel) (pa_cons (pv 3) pa_nil)) pe_int) pa_nil)))
          (pss_one (ps_set (i := 3) scLr.nd rfl (.inl rfl) (pe_op op_fdiv (pv 3) pe_int))))
          (pss_one (ps_expr (pe_bm PySem.F.plainAttrs_list PySem.F.slot_list_append PySem.F.type_list_append mt_append (pv 2) (pa_cons (pe_op op_mod (pe_callTy call_int1 (by rfl) mi (by decide +kernel) (pa_cons (pe_op op_fdiv (pv 4) pe_int) pa_nil)) pe_int) pa_nil))))))))
      (pss_one (ps_ret (pv 2)))))), ?_⟩
    refine ⟨Nat.zero_le _, fun o no => ?_⟩
    refine ⟨_, rfl, c, rfl, ?_⟩
    refine ⟨_, rfl, _, _, rfl, rfl, .inr ⟨by decide, by decide⟩, _, _, rfl, rfl, .inl ⟨_, rfl, _, _, rfl, rfl, (by show (0 : Int) < 2147483647; decide), ?_⟩⟩
    refine ⟨_, rfl, (n : Int), rfl, by omega, by omega, for_range (lo := 0) (n := n) (fun i σ H' => ∃ (rest mixed : Int) (acc : List Int) (y : Option V), σ = [some (.int c), some (.int n), some (.ref o), some (.int rest), some (.int mixed), y] ∧ Same H H' ∧ H' o = some (.lst (acc.map V.int)) ∧ acc.length = i ∧ Nums acc)
      ⟨_, _, [], none, rfl, same_new no, upd_same, rfl, fun z hz => nomatch hz⟩ ?_ ?_⟩
    · rintro i σ H' hi ⟨rest, mixed, acc, y, rfl, sm, ho, hl, hb⟩
      refine ⟨_, rfl, _, _, rfl, rfl, .inr ⟨by decide, by decide⟩, _, rfl, _, _, rfl, rfl, _, _, rfl, rfl, .inl ⟨by decide, by decide⟩, _, _, rfl, rfl, .inl ⟨_, rfl, _, _, rfl, rfl, (by show (0 : Int) < 2147483629; decide), ?_⟩⟩
      refine ⟨_, rfl, c, rfl, _, _, rfl, rfl, ⟨by decide, by decide, by decide⟩, _, _, rfl, rfl, _, rfl, ite2 (fun _ => ?_) (fun _ => ?_)⟩
      · refine ⟨_, rfl, .inl ⟨rfl, _, SqL.of ho⟩, _, rfl, .inl ⟨rest, rfl, _, _, rfl, rfl, (by show (0 : Int) < 1009; decide), o, _, _, rfl, rfl, ho, (by rw [List.length_map]; exact small (by omega)), ?_⟩⟩
        refine ⟨_, rfl, _, _, rfl, rfl, ⟨by decide, by decide⟩, rest / 1009, _, acc ++ [rest % 1009], _, rfl, same_put sm no, by rw [upd_same, map_snoc], by rw [List.length_append, hl]; rfl, hb.snoc (mod_bd (by decide) rest)⟩
      · refine ⟨_, rfl, .inl ⟨rfl, _, SqL.of ho⟩, _, rfl, _, _, rfl, rfl, ⟨by decide, by decide⟩, .inl ⟨_, rfl, _, _, rfl, rfl, (by show (0 : Int) < 1009; decide), o, _, _, rfl, rfl, ho, (by rw [List.length_map]; exact small (by omega)), ?_⟩⟩
        refine ⟨rest, _, acc ++ [_], _, rfl, same_put sm no, by rw [upd_same, map_snoc], by rw [List.length_append, hl]; rfl, hb.snoc (mod_bd (by decide) _)⟩
    · rintro σ H' ⟨rest, mixed, acc, y, rfl, sm, ho, hl, hb⟩
      exact ⟨_, rfl, q H' o acc sm no ho hl hb⟩
/-! ### _law_numbers -/
abbrev sLn : Stmt := topS 66
theorem scLn : FnScope ["_law_script", "_law_many", "_law_cells", "_law_each", "_law_numbers_here", "_law_cell", "_law_number"] ["_law_script", "_law_many"] (defScope sLn) := ⟨rfl, rfl, rfl, by decide +kernel, rfl, by decide +kernel, by decide +kernel⟩
def spLn (K : PySem.W.Frag) : Sp := fun vs H Q _ => ∃ (a : Addr) (ns : List Int), vs = [.ref a, .int 20] ∧ SqL K H a (ns.map V.int) ∧ ns.length ≤ 63 ∧ ∀ (H' : Hp) (p : Addr) (xs : List Int), Same H H' → H' p = some (.lst (xs.map V.int)) → xs.length = 20 → Nums xs → Q (.ref p) H'
theorem cut63 (xs : List V) (h : xs.length ≤ 63) : cutV xs none (some 63) = xs := by
  unfold cutV
  rw [HT.sIx_none]
  have e : HT.sIx xs.length xs.length (some 63) = xs.length := by
    show (if (63 : Int) < 0 then (63 + (xs.length : Int)).toNat else min (63 : Int).toNat xs.length) = _
    rw [if_neg (by decide)]
    exact Nat.min_eq_right h
  rw [e, List.drop_zero, Nat.sub_zero, List.take_length]
theorem cut20 (xs : List Int) (h : 20 ≤ xs.length) : cutV (xs.map V.int) none (some 20) = (xs.take 20).map V.int := by
  unfold cutV
  rw [HT.sIx_none]
  have e : HT.sIx (xs.map V.int).length (xs.map V.int).length (some 20) = 20 := by
    show (if (20 : Int) < 0 then (20 + ((xs.map V.int).length : Int)).toNat else min (20 : Int).toNat (xs.map V.int).length) = _
    rw [if_neg (by decide), List.length_map]
    exact Nat.min_eq_left h
  rw [e, List.drop_zero, Nat.sub_zero, List.map_take]
theorem ok_ln (D : DefF K mg "_law_numbers" sLn) (ml : mg "len" = none) (mx : mg "max" = none) (CR : Cal P w K mg base 1 "_law_row" spLr []) : Cal P w K mg base 2 "_law_numbers" (spLn K) [] := by
  refine D.cal scLn (fun _ _ _ _ _ _ us hl => match us, hl with | [_, _], _ => rfl) (fun vs H Q E h => ?_) (fun f cdv A outer s H vs Q E hr h => ?_)
  · obtain ⟨a, ns, rfl, _⟩ := h
    rfl
  · obtain ⟨a, ns, rfl, ha, hn, q⟩ := h
    refine ⟨_, pss_cons (ps_set (i := 2) scLn.nd rfl (.inl rfl) (pe_slice sl_list (pv 0) po_none (po_some pe_int)))
      (pss_cons (ps_set (i := 3) scLn.nd rfl (.inl rfl) (pe_op op_add pe_int (pe_op op_fdiv (pv 1) (pe_callB (call_max2 rfl) (by rfl) mx (by decide +kernel) (pa_cons pe_int (pa_cons (pe_callB call_len_seq (by rfl) ml PySem.boot_len (pa_cons (pv 2) pa_nil)) pa_nil))))))
      (pss_cons (ps_set (i := 4) scLn.nd rfl (.inl rfl) (pe_lst pa_nil))
      (pss_cons (ps_for PassesOwn.never rfl (pi_list (pv 2)) (pg_name (i := 5) scLn.nd rfl (.inl rfl))
        (pss_one (ps_for PassesOwn.never rfl (pi_list (pc CR hr (pa_cons (pv 5) (pa_cons (pv 3) pa_nil)))) (pg_name (i := 6) scLn.nd rfl (.inl rfl))
          (pss_one (ps_expr (pe_bm PySem.F.plainAttrs_list PySem.F.slot_list_append PySem.F.type_list_append mt_append (pv 4) (pa_cons (pv 6) pa_nil)))))))
      (pss_cons (ps_while PassesOwn.never (pt_cmpR op_lt (pe_callB call_len_seq (by rfl) ml PySem.boot_len (pa_cons (pv 4) pa_nil)) (pv 1) (nomark _))
        (pss_one (ps_expr (pe_bm PySem.F.plainAttrs_list PySem.F.slot_list_append PySem.F.type_list_append mt_append (pv 4) (pa_cons pe_int pa_nil)))))
      (pss_one (ps_ret (pe_slice sl_list (pv 4) po_none (po_some (pv 1))))))))), ?_⟩
    refine ⟨_, rfl, 63, rfl, a, _, rfl, ha, fun c nc => ?_⟩
    rw [cut63 _ (by rw [List.length_map]; exact hn)]
    have s1 : Same H (upd H c (.lst (ns.map V.int))) := same_new nc
    have hm : 0 < (if ((ns.map V.int).length : Int) > 1 then ((ns.map V.int).length : Int) else 1) ∧ (if ((ns.map V.int).length : Int) > 1 then ((ns.map V.int).length : Int) else 1) < 1073741824 := by
      rw [List.length_map]
      split <;> omega
    refine ⟨_, rfl, _, rfl, c, _, rfl, .inl (.inl (.inl upd_same)), 1, _, rfl, ?_⟩
    generalize hz : (if ((ns.map V.int).length : Int) > 1 then ((ns.map V.int).length : Int) else 1) = z at *
    obtain ⟨e, he, he2⟩ : ∃ e : Nat, (1 : Int) + 20 / z = (e : Int) ∧ e ≤ 21 := by
      have h1 : 0 ≤ 20 / z := Int.ediv_nonneg (by decide) (by omega)
      have h2 : 20 / z ≤ 20 := Int.ediv_le_self _ (by decide)
      exact ⟨(1 + 20 / z).toNat, by omega, by omega⟩
    refine ⟨_, _, rfl, rfl, hm, _, _, rfl, rfl, ?_⟩
    dsimp only
    rw [he]
    refine ⟨Nat.zero_le _, fun o no => ?_⟩
    have s2 := same_put' (o := HO.lst []) s1 no
    have noH : H o = none := s1.free no
    generalize hG : upd (upd H c (.lst (ns.map V.int))) o (HO.lst []) = G at *
    have hc : G c = some (.lst (ns.map V.int)) := by
      rw [← hG]
      exact same_new no _ _ upd_same
    have ho0 : G o = some (.lst []) := by rw [← hG, upd_same]
    have nco : c ≠ o := by
      rw [← hG] at hc
      exact ne_of_none upd_same no
    refine ⟨_, rfl, c, rfl, ⟨_, .inl (.inl hc)⟩, for_list (K := K) (a := c) (xs := ns.map V.int) (fun i σ H' => ∃ (acc : List Int) (y5 y6 : Option V), σ = [some (.ref a), some (.int 20), some (.ref c), some (.int e), some (.ref o), y5, y6] ∧ Same H H' ∧ H' c = some (.lst (ns.map V.int)) ∧ H' o = some (.lst (acc.map V.int)) ∧ acc.length = i * e ∧ Nums acc)
      ⟨[], none, none, rfl, s2, hc, ho0, by rw [Nat.zero_mul]; rfl, fun z hz => nomatch hz⟩ (fun i σ H' _ h => by obtain ⟨_, _, _, _, _, h, _⟩ := h; exact .inl (.inl h)) ?_ ?_⟩
    · rintro i x σ H' hx ⟨acc, y5, y6, rfl, sm, hc1, ho, hl, hb⟩
      obtain ⟨hi, rfl⟩ := get_int hx
      refine ⟨_, rfl, _, rfl, _, e, rfl, by omega, fun H1 p xs s3 np hp hxl hxb => ?_⟩
      have npo : p ≠ o := fun z => by
        rw [z, ho] at np
        cases np
      have npc : c ≠ o := nco
      refine ⟨p, rfl, ⟨_, .inl (.inl hp)⟩, for_list (K := K) (a := p) (xs := xs.map V.int) (fun k σ H'' => ∃ (acc2 : List Int) (y5 y6 : Option V), σ = [some (.ref a), some (.int 20), some (.ref c), some (.int e), some (.ref o), y5, y6] ∧ Same H H'' ∧ H'' c = some (.lst (ns.map V.int)) ∧ H'' p = some (.lst (xs.map V.int)) ∧ H'' o = some (.lst (acc2.map V.int)) ∧ acc2.length = i * e + k ∧ Nums acc2)
        ⟨acc, _, _, rfl, sm.trans s3, s3 _ _ hc1, hp, s3 _ _ ho, hl, hb⟩ (fun i σ H' _ h => by obtain ⟨_, _, _, _, _, _, h, _⟩ := h; exact .inl (.inl h)) ?_ ?_⟩
      · rintro k x2 σ H'' hx2 ⟨acc2, z5, z6, rfl, sm2, hc2, hp2, ho2, hl2, hb2⟩
        obtain ⟨hk, rfl⟩ := get_int hx2
        have hbd : 0 ≤ xs.getD k 0 ∧ xs.getD k 0 < 1009 := by
          rw [List.getD_eq_getElem?_getD, List.getElem?_eq_getElem hk]
          exact hxb _ (List.getElem_mem hk)
        have hie : i * e ≤ 63 * 21 := Nat.mul_le_mul (by omega) he2
        refine ⟨_, rfl, .inl ⟨rfl, _, SqL.of ho2⟩, _, rfl, o, _, _, rfl, rfl, ho2, (by rw [List.length_map, sizeLine_eq]; omega), acc2 ++ [xs.getD k 0], _, _, rfl, same_put sm2 noH, by rw [upd_ne nco]; exact hc2, by rw [upd_ne npo]; exact hp2, by rw [upd_same, map_snoc], by rw [List.length_append, hl2]; rfl, hb2.snoc hbd⟩
      · rintro σ H'' ⟨acc2, z5, z6, rfl, sm2, hc2, hp2, ho2, hl2, hb2⟩
        refine ⟨acc2, z5, z6, rfl, sm2, hc2, ho2, ?_, hb2⟩
        rw [hl2, List.length_map, hxl, Nat.succ_mul]
    · rintro σ H' ⟨acc, y5, y6, rfl, sm, hc1, ho, hl, hb⟩
      rw [List.length_map] at hl
      have hie : ns.length * e ≤ 63 * 21 := Nat.mul_le_mul hn he2
      refine ⟨fun m σ H'' => ∃ (acc2 : List Int) (y5 y6 : Option V), σ = [some (.ref a), some (.int 20), some (.ref c), some (.int e), some (.ref o), y5, y6] ∧ Same H H'' ∧ H'' o = some (.lst (acc2.map V.int)) ∧ Nums acc2 ∧ acc2.length ≤ 2000 ∧ m = 20 - acc2.length, ⟨_, acc, y5, y6, rfl, sm, ho, hb, by omega, rfl⟩, ?_⟩
      rintro m σ H'' ⟨acc2, z5, z6, rfl, sm2, ho2, hb2, hl2, em⟩
      refine ⟨_, rfl, o, _, rfl, .inl (.inl (.inl ho2)), _, rfl, _, _, rfl, rfl, _, rfl, ite2 (fun g => ?_) (fun g => ?_)⟩
      · have g1 : ((acc2.map V.int).length : Int) < 20 := of_decide_eq_true g
        rw [List.length_map] at g1
        refine ⟨fun σ H3 => ∃ (acc3 : List Int) (y5 y6 : Option V), σ = [some (.ref a), some (.int 20), some (.ref c), some (.int e), some (.ref o), y5, y6] ∧ Same H H3 ∧ H3 o = some (.lst (acc3.map V.int)) ∧ Nums acc3 ∧ acc3.length = acc2.length + 1, fun σ H3 hN => ?_, ?_⟩
        · obtain ⟨acc3, u5, u6, rfl, sm3, ho3, hb3, hl3⟩ := hN
          exact ⟨20 - acc3.length, by omega, acc3, u5, u6, rfl, sm3, ho3, hb3, by omega, rfl⟩
        · exact ⟨_, rfl, .inl ⟨rfl, _, SqL.of ho2⟩, o, _, _, rfl, rfl, ho2, (by rw [List.length_map, sizeLine_eq]; omega), acc2 ++ [0], _, _, rfl, same_put sm2 noH, by rw [upd_same, map_snoc], hb2.snoc (by decide), by rw [List.length_append]; rfl⟩
      · have g1 : ¬ ((acc2.map V.int).length : Int) < 20 := fun z => g (decide_eq_true z)
        rw [List.length_map] at g1
        refine ⟨_, rfl, _, rfl, _, rfl, o, _, rfl, .inl (.inl ho2), fun t nt => ?_⟩
        rw [cut20 acc2 (by omega)]
        refine q _ t (acc2.take 20) (same_put' sm2 nt) upd_same (by rw [List.length_take]; omega) fun z hz => hb2 z (List.mem_of_mem_take hz)
end
end Ms
namespace Ms
open PySem PySem.Spec PyProof.Rows L2
/-! ### the families of the law -/
def FamL (H : Hp) (a : Addr) (ps : List Part) : Prop := ∃ pas : List Addr, H a = some (.lst (pas.map V.ref)) ∧ PartsAt H pas ps
theorem FamL.same {H H' : Hp} {a : Addr} {ps : List Part} (h : FamL H a ps) (s : Same H H') : FamL H' a ps := by
  obtain ⟨pas, h1, h2⟩ := h
  exact ⟨pas, s _ _ h1, h2.same s⟩
def famL : List (List Part) := [[(5, 1)], [(7, 1)], [(2, 2)], [(2, 3)], [(3, 2)], [(2, 2), (3, 1)], [(3, 1), (2, 2)], [(5, 1), (3, 1)], [(2, 2), (5, 1)], [(3, 1)], [(2, 1), (3, 1)], [(11, 1)], [(2, 1)], [(3, 1), (5, 1)]]
theorem lstK {xs : List V} {H : Hp} {Q : VK} (n : Nat) (e : xs.length = n) (hn : n ≤ 1000) (q : ∀ (H' : Hp) (a : Addr), Same H H' → H' a = some (.lst xs) → Q (.ref a) H') : xs.length ≤ sizeLine ∧ ∀ p, H p = none → Q (.ref p) (upd H p (.lst xs)) :=
  ⟨szl (by omega), fun p np => q _ p (same_new np) upd_same⟩
theorem newK {o : HO} {H : Hp} {Q : VK} (q : ∀ (H' : Hp) (a : Addr), Same H H' → H' a = some o → Q (.ref a) H') : ∀ p, H p = none → Q (.ref p) (upd H p o) := fun p np => q _ p (same_new np) upd_same
theorem seqK {te : TE} {g : TG} {tb : TS} {D : Ends} {σ : L2.St} {H : Hp} (h : te σ H fun x H1 => g x σ H1 fun σ2 H2 => tb D σ2 H2) : tSeq (tAsg te g) tb D σ H := h
theorem lstJ {t : TA} {σ : L2.St} {H : Hp} {Q : VK} (h : t σ H fun xs H1 => xs.length ≤ sizeLine ∧ ∀ p, H1 p = none → Q (.ref p) (upd H1 p (.lst xs))) : tLst t σ H Q := h
theorem consK {te : TE} {t : TA} {σ : L2.St} {H : Hp} {Q : List V → Hp → Prop} (h : te σ H fun x H1 => t σ H1 fun xs H2 => Q (x :: xs) H2) : tCons te t σ H Q := h
theorem nilK {σ : L2.St} {H : Hp} {Q : List V → Hp → Prop} (h : Q [] H) : tNil σ H Q := h
theorem dsp1 {σ : L2.St} {H : Hp} {Q : VK} (p : Int) (k : Nat) (q : ∀ (H' : Hp) (a : Addr), Same H H' → FamL H' a [(p, k)] → Q (.ref a) H') : tLst (tCons (tTup (tCons (tC (.int p)) (tCons (tC (.int (k : Int))) tNil))) tNil) σ H Q := by
  refine ⟨szl (by decide : 2 ≤ 1000), fun o no => ⟨szl (by decide : 1 ≤ 1000), fun l nl => ?_⟩⟩
  refine q _ l (same_put' (same_new no) nl) ⟨[o], upd_same, rfl, fun j a w e1 e2 => ?_⟩
  match j, e1, e2 with
  | 0, e1, e2 =>
    cases e1
    cases e2
    exact same_new nl _ _ upd_same
  | j + 1, e1, _ => cases e1
theorem dsp2 {σ : L2.St} {H : Hp} {Q : VK} (p : Int) (k : Nat) (p2 : Int) (k2 : Nat) (q : ∀ (H' : Hp) (a : Addr), Same H H' → FamL H' a [(p, k), (p2, k2)] → Q (.ref a) H') :
    tLst (tCons (tTup (tCons (tC (.int p)) (tCons (tC (.int (k : Int))) tNil))) (tCons (tTup (tCons (tC (.int p2)) (tCons (tC (.int (k2 : Int))) tNil))) tNil)) σ H Q := by
  refine ⟨szl (by decide : 2 ≤ 1000), fun o no => ⟨szl (by decide : 2 ≤ 1000), fun o2 n2 => ⟨szl (by decide : 2 ≤ 1000), fun l nl => ?_⟩⟩⟩
  refine q _ l (same_put' (same_put' (same_new no) n2) nl) ⟨[o, o2], upd_same, rfl, fun j a w e1 e2 => ?_⟩
  match j, e1, e2 with
  | 0, e1, e2 =>
    cases e1
    cases e2
    exact same_new nl _ _ (same_new n2 _ _ upd_same)
  | 1, e1, e2 =>
    cases e1
    cases e2
    exact same_new nl _ _ upd_same
  | j + 2, e1, _ => cases e1
section
variable {P : Program} {w : World} {K : PySem.W.Frag} {mg : Str → Option Value} {base : Heap} {C : Addr}
/-! ### _law_size, _law_order -/
abbrev sLz : Stmt := topS 67
theorem scLz : FnScope ["_law_p", "_law_k", "_law_total", "_law_turn"] ["_law_p", "_law_k"] (defScope sLz) := ⟨rfl, rfl, rfl, by decide +kernel, rfl, by decide +kernel, by decide +kernel⟩
theorem ok_lz (D : DefF K mg "_law_size" sLz) (mr : mg "range" = none) : Cal P w K mg base 1 "_law_size" spSize [] := by
  refine D.cal scLz (fun _ _ _ _ _ _ us hl => match us, hl with | [_, _], _ => rfl) (fun vs H Q E h => ?_) (fun f cdv A outer s H vs Q E hr h => ?_)
  · obtain ⟨p, k, rfl, _⟩ := h
    rfl
  · obtain ⟨p, k, rfl, h0, h1, hk, q⟩ := h
    refine ⟨_, pss_cons (ps_set (i := 2) scLz.nd rfl (.inl rfl) pe_int)
      (pss_cons (ps_for PassesOwn.never rfl (pi_range1 rfl mr (pa_cons (pv 1) pa_nil)) (pg_name (i := 3) scLz.nd rfl (.inl rfl))
        (pss_one (ps_set (i := 2) scLz.nd rfl (.inl rfl) (pe_op op_mul (pv 2) (pv 0)))))
      (pss_one (ps_ret (pv 2)))), ?_⟩
    refine ⟨_, rfl, (k : Int), rfl, by omega, by omega, for_range (lo := 0) (n := k) (fun i σ H' => ∃ y, σ = [some (.int p), some (.int k), some (.int (p ^ i)), y] ∧ H' = H) ⟨none, (by rw [Int.pow_zero] <;> rfl), rfl⟩ ?_ ?_⟩
    · rintro i σ H' hi ⟨y, rfl, rfl⟩
      refine ⟨_, rfl, _, rfl, _, _, rfl, rfl, .inr ⟨by omega, h1⟩, some (.int (0 + i)), ?_, rfl⟩
      show [some (V.int p), some (V.int (k : Int)), some (V.int (p ^ i * p)), some (V.int (0 + i))] = _
      rw [← Int.pow_succ]
    · rintro σ H' ⟨y, rfl, rfl⟩
      exact ⟨_, rfl, q⟩
abbrev sLo : Stmt := topS 68
theorem scLo : FnScope ["_law_parts", "_law_total", "_law_p", "_law_k"] ["_law_parts"] (defScope sLo) := ⟨rfl, rfl, rfl, by decide +kernel, rfl, by decide +kernel, by decide +kernel⟩
def spLo : Sp := fun vs H Q _ => ∃ (a : Addr) (ps : List Part), vs = [.ref a] ∧ FamL H a ps ∧ GoodPs ps ∧ Q (.int (prodL ps)) H
theorem ok_lo (D : DefF K mg "_law_order" sLo) (CS : Cal P w K mg base 1 "_law_size" spSize []) : Cal P w K mg base 2 "_law_order" spLo [] := by
  refine D.cal scLo (fun _ _ _ _ _ _ us hl => match us, hl with | [_], _ => rfl) (fun vs H Q E h => ?_) (fun f cdv A outer s H vs Q E hr h => ?_)
  · obtain ⟨a, ps, rfl, _⟩ := h
    rfl
  · obtain ⟨a, ps, rfl, ⟨pas, ha, hP⟩, G, q⟩ := h
    refine ⟨_, pss_cons (ps_set (i := 1) scLo.nd rfl (.inl rfl) pe_int)
      (pss_cons (ps_for PassesOwn.never rfl (pi_list (pv 0)) (pg_tup (by rfl) (pgs_cons (pg_name (i := 2) scLo.nd rfl (.inl rfl)) (pgs_cons (pg_name (i := 3) scLo.nd rfl (.inl rfl)) pgs_nil)))
        (pss_one (ps_set (i := 1) scLo.nd rfl (.inl rfl) (pe_op op_mul (pv 1) (pc CS hr (pa_cons (pv 2) (pa_cons (pv 3) pa_nil)))))))
      (pss_one (ps_ret (pv 1)))), ?_⟩
    refine ⟨_, rfl, a, rfl, ⟨_, .inl (.inl ha)⟩, for_list (K := K) (a := a) (xs := pas.map V.ref) (fun i σ H' => ∃ y2 y3, σ = [some (.ref a), some (.int (prodL (ps.take i))), y2, y3] ∧ H' = H) ⟨none, none, rfl, rfl⟩ (fun i σ H' _ h => by obtain ⟨_, _, _, rfl⟩ := h; exact .inl (.inl ha)) ?_ ?_⟩
    · rintro i x σ H' hx ⟨y2, y3, rfl, rfl⟩
      obtain ⟨pa, hpa, rfl⟩ := get_ref hx
      have hi : i < ps.length := by
        rw [← hP.len]
        exact (List.getElem?_eq_some_iff.mp hpa).1
      have hq : ps[i]? = some ps[i] := List.getElem?_eq_getElem hi
      generalize ps[i] = qq at hq
      have F := G.fld qq (List.mem_of_getElem? hq)
      have f1 := F.p2
      have f2 := F.p97
      have f3 := F.k12
      have f4 := F.sz
      have f5 := F.sz2
      have hT := hP.at_ i pa qq hpa hq
      refine ⟨pa, _, rfl, .inl (.inl hT), rfl, _, _, rfl, _, _, rfl, rfl, ?_⟩
      refine ⟨_, rfl, _, rfl, _, rfl, qq.1, qq.2, rfl, by omega, by omega, by omega, _, _, rfl, rfl, .inr ⟨by omega, by omega⟩, some (.int qq.1), some (.int (qq.2 : Int)), ?_, rfl⟩
      rw [← prodL_take hq]
      rfl
    · rintro σ H' ⟨y2, y3, rfl, rfl⟩
      refine ⟨_, rfl, ?_⟩
      rw [List.length_map, hP.len, List.take_length]
      exact q
/-! ### _law_small -/
abbrev sSm : Stmt := topS 69
theorem scSm : FnScope ["_law_numbers_here", "_law_at", "_law_given"] ["_law_numbers_here", "_law_at"] (defScope sSm) := ⟨rfl, rfl, rfl, by decide +kernel, rfl, by decide +kernel, by decide +kernel⟩
def spSm : Sp := fun vs H Q _ => ∃ (l : Addr) (xs : List Int), vs = [.ref l, .int 0] ∧ H l = some (.lst (xs.map V.int)) ∧ xs.length = 20 ∧ ∀ (H' : Hp) (a : Addr) (i : Nat), Same H H' → i < 14 → FamL H' a (famL.getD i []) → Q (.ref a) H'
theorem ok_sm (D : DefF K mg "_law_small" sSm) (mi : mg "int" = none) : Cal P w K mg base 1 "_law_small" spSm [] := by
  refine D.cal scSm (fun _ _ _ _ _ _ us hl => match us, hl with | [_, _], _ => rfl) (fun vs H Q E h => ?_) (fun f cdv A outer s H vs Q E hr h => ?_)
  · obtain ⟨l, xs, rfl, _⟩ := h
    rfl
  · obtain ⟨l, xs, rfl, hl, hlen, q⟩ := h
    refine ⟨_, pss_cons (ps_set (i := 2) scSm.nd rfl (.inl rfl) (pe_lst (pa_cons (pe_lst (pa_cons (pe_tup (pa_cons pe_int (pa_cons pe_int pa_nil))) pa_nil)) (pa_cons (pe_lst (pa_cons (pe_tup (pa_cons pe_int (pa_cons pe_int pa_nil))) pa_nil)) (pa_cons (pe_lst (pa_cons (pe_tup (pa_cons pe_int (pa_cons pe_int pa_nil))) pa_nil)) (pa_cons (pe_lst (pa_cons (pe_tup (pa_cons pe_int (pa_cons pe_int pa_nil))) pa_nil)) (pa_cons (pe_lst (pa_cons (pe_tup (pa_cons pe_int (pa_cons pe_int pa_nil))) pa_nil)) (pa_cons (pe_lst (pa_cons (pe_tup (pa_cons pe_int (pa_cons pe_int pa_nil))) (pa_cons (pe_tup (pa_cons pe_int (pa_cons pe_int pa_nil))) pa_nil))) (pa_cons (pe_lst (pa_cons (pe_tup (pa_cons pe_int (pa_cons pe_int pa_nil))) (pa_cons (pe_tup (pa_cons pe_int (pa_cons pe_int pa_nil))) pa_nil))) pa_nil)))))))))
      (pss_cons (ps_set (i := 2) scSm.nd rfl (.inl rfl) (pe_op op_cat (pv 2) (pe_lst (pa_cons (pe_lst (pa_cons (pe_tup (pa_cons pe_int (pa_cons pe_int pa_nil))) (pa_cons (pe_tup (pa_cons pe_int (pa_cons pe_int pa_nil))) pa_nil))) (pa_cons (pe_lst (pa_cons (pe_tup (pa_cons pe_int (pa_cons pe_int pa_nil))) (pa_cons (pe_tup (pa_cons pe_int (pa_cons pe_int pa_nil))) pa_nil))) (pa_cons (pe_lst (pa_cons (pe_tup (pa_cons pe_int (pa_cons pe_int pa_nil))) pa_nil)) (pa_cons (pe_lst (pa_cons (pe_tup (pa_cons pe_int (pa_cons pe_int pa_nil))) (pa_cons (pe_tup (pa_cons pe_int (pa_cons pe_int pa_nil))) pa_nil))) (pa_cons (pe_lst (pa_cons (pe_tup (pa_cons pe_int (pa_cons pe_int pa_nil))) pa_nil)) (pa_cons (pe_lst (pa_cons (pe_tup (pa_cons pe_int (pa_cons pe_int pa_nil))) pa_nil)) pa_nil)))))))))
      (pss_cons (ps_set (i := 2) scSm.nd rfl (.inl rfl) (pe_op op_cat (pv 2) (pe_lst (pa_cons (pe_lst (pa_cons (pe_tup (pa_cons pe_int (pa_cons pe_int pa_nil))) (pa_cons (pe_tup (pa_cons pe_int (pa_cons pe_int pa_nil))) pa_nil))) pa_nil))))
      (pss_one (ps_ret (pe_ix ix_list (pv 2) (pe_op op_mod (pe_callTy call_int1 (by rfl) mi (by decide +kernel) (pa_cons (pe_ix ix_list (pv 0) (pv 1) (fun _ _ => rfl)) pa_nil)) pe_int) (fun _ _ => rfl)))))), ?_⟩
    have sm : Same H H := Same.refl H
    refine seqK (lstJ ?_)
    refine consK (dsp1 5 1 fun H1 a0 s f0 => ?_)
    replace sm := sm.trans s
    refine consK (dsp1 7 1 fun H2 a1 s f1 => ?_)
    replace f0 := f0.same s
    replace sm := sm.trans s
    refine consK (dsp1 2 2 fun H3 a2 s f2 => ?_)
    replace f0 := f0.same s
    replace f1 := f1.same s
    replace sm := sm.trans s
    refine consK (dsp1 2 3 fun H4 a3 s f3 => ?_)
    replace f0 := f0.same s
    replace f1 := f1.same s
    replace f2 := f2.same s
    replace sm := sm.trans s
    refine consK (dsp1 3 2 fun H5 a4 s f4 => ?_)
    replace f0 := f0.same s
    replace f1 := f1.same s
    replace f2 := f2.same s
    replace f3 := f3.same s
    replace sm := sm.trans s
    refine consK (dsp2 2 2 3 1 fun H6 a5 s f5 => ?_)
    replace f0 := f0.same s
    replace f1 := f1.same s
    replace f2 := f2.same s
    replace f3 := f3.same s
    replace f4 := f4.same s
    replace sm := sm.trans s
    refine consK (dsp2 3 1 2 2 fun H7 a6 s f6 => ?_)
    replace f0 := f0.same s
    replace f1 := f1.same s
    replace f2 := f2.same s
    replace f3 := f3.same s
    replace f4 := f4.same s
    replace f5 := f5.same s
    replace sm := sm.trans s
    refine ⟨szl (by decide : 7 ≤ 1000), fun g1 ng1 => ?_⟩
    have s : Same H7 (upd H7 g1 (.lst [.ref a0, .ref a1, .ref a2, .ref a3, .ref a4, .ref a5, .ref a6])) := same_new ng1
    have e1 : (upd H7 g1 (.lst [.ref a0, .ref a1, .ref a2, .ref a3, .ref a4, .ref a5, .ref a6])) g1 = some (.lst [.ref a0, .ref a1, .ref a2, .ref a3, .ref a4, .ref a5, .ref a6]) := upd_same
    generalize upd H7 g1 (.lst [.ref a0, .ref a1, .ref a2, .ref a3, .ref a4, .ref a5, .ref a6]) = G1 at *
    replace f0 := f0.same s
    replace f1 := f1.same s
    replace f2 := f2.same s
    replace f3 := f3.same s
    replace f4 := f4.same s
    replace f5 := f5.same s
    replace f6 := f6.same s
    replace sm := sm.trans s
    refine ⟨_, rfl, ?_⟩
    refine lstJ ?_
    refine consK (dsp2 5 1 3 1 fun H8 a7 s f7 => ?_)
    replace f0 := f0.same s
    replace f1 := f1.same s
    replace f2 := f2.same s
    replace f3 := f3.same s
    replace f4 := f4.same s
    replace f5 := f5.same s
    replace f6 := f6.same s
    replace e1 := s _ _ e1
    replace sm := sm.trans s
    refine consK (dsp2 2 2 5 1 fun H9 a8 s f8 => ?_)
    replace f0 := f0.same s
    replace f1 := f1.same s
    replace f2 := f2.same s
    replace f3 := f3.same s
    replace f4 := f4.same s
    replace f5 := f5.same s
    replace f6 := f6.same s
    replace e1 := s _ _ e1
    replace f7 := f7.same s
    replace sm := sm.trans s
    refine consK (dsp1 3 1 fun H10 a9 s f9 => ?_)
    replace f0 := f0.same s
    replace f1 := f1.same s
    replace f2 := f2.same s
    replace f3 := f3.same s
    replace f4 := f4.same s
    replace f5 := f5.same s
    replace f6 := f6.same s
    replace e1 := s _ _ e1
    replace f7 := f7.same s
    replace f8 := f8.same s
    replace sm := sm.trans s
    refine consK (dsp2 2 1 3 1 fun H11 a10 s f10 => ?_)
    replace f0 := f0.same s
    replace f1 := f1.same s
    replace f2 := f2.same s
    replace f3 := f3.same s
    replace f4 := f4.same s
    replace f5 := f5.same s
    replace f6 := f6.same s
    replace e1 := s _ _ e1
    replace f7 := f7.same s
    replace f8 := f8.same s
    replace f9 := f9.same s
    replace sm := sm.trans s
    refine consK (dsp1 11 1 fun H12 a11 s f11 => ?_)
    replace f0 := f0.same s
    replace f1 := f1.same s
    replace f2 := f2.same s
    replace f3 := f3.same s
    replace f4 := f4.same s
    replace f5 := f5.same s
    replace f6 := f6.same s
    replace e1 := s _ _ e1
    replace f7 := f7.same s
    replace f8 := f8.same s
    replace f9 := f9.same s
    replace f10 := f10.same s
    replace sm := sm.trans s
    refine consK (dsp1 2 1 fun H13 a12 s f12 => ?_)
    replace f0 := f0.same s
    replace f1 := f1.same s
    replace f2 := f2.same s
    replace f3 := f3.same s
    replace f4 := f4.same s
    replace f5 := f5.same s
    replace f6 := f6.same s
    replace e1 := s _ _ e1
    replace f7 := f7.same s
    replace f8 := f8.same s
    replace f9 := f9.same s
    replace f10 := f10.same s
    replace f11 := f11.same s
    replace sm := sm.trans s
    refine ⟨szl (by decide : 6 ≤ 1000), fun g2 ng2 => ?_⟩
    have s : Same H13 (upd H13 g2 (.lst [.ref a7, .ref a8, .ref a9, .ref a10, .ref a11, .ref a12])) := same_new ng2
    have e2 : (upd H13 g2 (.lst [.ref a7, .ref a8, .ref a9, .ref a10, .ref a11, .ref a12])) g2 = some (.lst [.ref a7, .ref a8, .ref a9, .ref a10, .ref a11, .ref a12]) := upd_same
    generalize upd H13 g2 (.lst [.ref a7, .ref a8, .ref a9, .ref a10, .ref a11, .ref a12]) = G2 at *
    replace f0 := f0.same s
    replace f1 := f1.same s
    replace f2 := f2.same s
    replace f3 := f3.same s
    replace f4 := f4.same s
    replace f5 := f5.same s
    replace f6 := f6.same s
    replace e1 := s _ _ e1
    replace f7 := f7.same s
    replace f8 := f8.same s
    replace f9 := f9.same s
    replace f10 := f10.same s
    replace f11 := f11.same s
    replace f12 := f12.same s
    replace sm := sm.trans s
    refine ⟨g1, g2, _, _, rfl, rfl, e1, e2, szl (by decide : 13 ≤ 1000), fun g3 ng3 => ?_⟩
    have s : Same G2 (upd G2 g3 (.lst ([.ref a0, .ref a1, .ref a2, .ref a3, .ref a4, .ref a5, .ref a6] ++ [.ref a7, .ref a8, .ref a9, .ref a10, .ref a11, .ref a12]))) := same_new ng3
    have e3 : (upd G2 g3 (.lst ([.ref a0, .ref a1, .ref a2, .ref a3, .ref a4, .ref a5, .ref a6] ++ [.ref a7, .ref a8, .ref a9, .ref a10, .ref a11, .ref a12]))) g3 = some (.lst ([.ref a0, .ref a1, .ref a2, .ref a3, .ref a4, .ref a5, .ref a6] ++ [.ref a7, .ref a8, .ref a9, .ref a10, .ref a11, .ref a12])) := upd_same
    generalize upd G2 g3 (.lst ([.ref a0, .ref a1, .ref a2, .ref a3, .ref a4, .ref a5, .ref a6] ++ [.ref a7, .ref a8, .ref a9, .ref a10, .ref a11, .ref a12])) = G3 at *
    replace f0 := f0.same s
    replace f1 := f1.same s
    replace f2 := f2.same s
    replace f3 := f3.same s
    replace f4 := f4.same s
    replace f5 := f5.same s
    replace f6 := f6.same s
    replace e1 := s _ _ e1
    replace f7 := f7.same s
    replace f8 := f8.same s
    replace f9 := f9.same s
    replace f10 := f10.same s
    replace f11 := f11.same s
    replace f12 := f12.same s
    replace e2 := s _ _ e2
    replace sm := sm.trans s
    refine ⟨_, rfl, ?_⟩
    refine lstJ ?_
    refine consK (dsp2 3 1 5 1 fun H14 a13 s f13 => ?_)
    replace f0 := f0.same s
    replace f1 := f1.same s
    replace f2 := f2.same s
    replace f3 := f3.same s
    replace f4 := f4.same s
    replace f5 := f5.same s
    replace f6 := f6.same s
    replace e1 := s _ _ e1
    replace f7 := f7.same s
    replace f8 := f8.same s
    replace f9 := f9.same s
    replace f10 := f10.same s
    replace f11 := f11.same s
    replace f12 := f12.same s
    replace e2 := s _ _ e2
    replace e3 := s _ _ e3
    replace sm := sm.trans s
    refine ⟨szl (by decide : 1 ≤ 1000), fun g4 ng4 => ?_⟩
    have s : Same H14 (upd H14 g4 (.lst [.ref a13])) := same_new ng4
    have e4 : (upd H14 g4 (.lst [.ref a13])) g4 = some (.lst [.ref a13]) := upd_same
    generalize upd H14 g4 (.lst [.ref a13]) = G4 at *
    replace f0 := f0.same s
    replace f1 := f1.same s
    replace f2 := f2.same s
    replace f3 := f3.same s
    replace f4 := f4.same s
    replace f5 := f5.same s
    replace f6 := f6.same s
    replace e1 := s _ _ e1
    replace f7 := f7.same s
    replace f8 := f8.same s
    replace f9 := f9.same s
    replace f10 := f10.same s
    replace f11 := f11.same s
    replace f12 := f12.same s
    replace e2 := s _ _ e2
    replace e3 := s _ _ e3
    replace f13 := f13.same s
    replace sm := sm.trans s
    refine ⟨g3, g4, _, _, rfl, rfl, e3, e4, szl (by decide : 14 ≤ 1000), fun g5 ng5 => ?_⟩
    have s : Same G4 (upd G4 g5 (.lst (([.ref a0, .ref a1, .ref a2, .ref a3, .ref a4, .ref a5, .ref a6] ++ [.ref a7, .ref a8, .ref a9, .ref a10, .ref a11, .ref a12]) ++ [.ref a13]))) := same_new ng5
    have e5 : (upd G4 g5 (.lst (([.ref a0, .ref a1, .ref a2, .ref a3, .ref a4, .ref a5, .ref a6] ++ [.ref a7, .ref a8, .ref a9, .ref a10, .ref a11, .ref a12]) ++ [.ref a13]))) g5 = some (.lst (([.ref a0, .ref a1, .ref a2, .ref a3, .ref a4, .ref a5, .ref a6] ++ [.ref a7, .ref a8, .ref a9, .ref a10, .ref a11, .ref a12]) ++ [.ref a13])) := upd_same
    generalize upd G4 g5 (.lst (([.ref a0, .ref a1, .ref a2, .ref a3, .ref a4, .ref a5, .ref a6] ++ [.ref a7, .ref a8, .ref a9, .ref a10, .ref a11, .ref a12]) ++ [.ref a13])) = G5 at *
    replace f0 := f0.same s
    replace f1 := f1.same s
    replace f2 := f2.same s
    replace f3 := f3.same s
    replace f4 := f4.same s
    replace f5 := f5.same s
    replace f6 := f6.same s
    replace e1 := s _ _ e1
    replace f7 := f7.same s
    replace f8 := f8.same s
    replace f9 := f9.same s
    replace f10 := f10.same s
    replace f11 := f11.same s
    replace f12 := f12.same s
    replace e2 := s _ _ e2
    replace e3 := s _ _ e3
    replace f13 := f13.same s
    replace e4 := s _ _ e4
    replace sm := sm.trans s
    have hm : 0 ≤ xs.getD 0 0 % 14 ∧ xs.getD 0 0 % 14 < 14 := mod_bd (by decide) _
    obtain ⟨i, hi, hi2⟩ : ∃ i : Nat, xs.getD 0 0 % 14 = (i : Int) ∧ i < 14 := ⟨(xs.getD 0 0 % 14).toNat, by omega, by omega⟩
    have hall : ∃ a, ([.ref a0, .ref a1, .ref a2, .ref a3, .ref a4, .ref a5, .ref a6, .ref a7, .ref a8, .ref a9, .ref a10, .ref a11, .ref a12, .ref a13] : List V)[i]? = some (.ref a) ∧ FamL G5 a (famL.getD i []) := by
      match i, hi2 with
      | 0, _ => exact ⟨a0, rfl, f0⟩
      | 1, _ => exact ⟨a1, rfl, f1⟩
      | 2, _ => exact ⟨a2, rfl, f2⟩
      | 3, _ => exact ⟨a3, rfl, f3⟩
      | 4, _ => exact ⟨a4, rfl, f4⟩
      | 5, _ => exact ⟨a5, rfl, f5⟩
      | 6, _ => exact ⟨a6, rfl, f6⟩
      | 7, _ => exact ⟨a7, rfl, f7⟩
      | 8, _ => exact ⟨a8, rfl, f8⟩
      | 9, _ => exact ⟨a9, rfl, f9⟩
      | 10, _ => exact ⟨a10, rfl, f10⟩
      | 11, _ => exact ⟨a11, rfl, f11⟩
      | 12, _ => exact ⟨a12, rfl, f12⟩
      | 13, _ => exact ⟨a13, rfl, f13⟩
    obtain ⟨a, ha, fa⟩ := hall
    refine ⟨_, rfl, _, rfl, _, rfl, l, _, 0, _, rfl, rfl, .inl (.inl (sm _ _ hl)), at_ints (j := 0) rfl (by omega), .inl ⟨_, rfl, _, _, rfl, rfl, (by show (0 : Int) < 14; decide), ?_⟩⟩
    exact ⟨g5, _, _, .ref a, rfl, rfl, .inl (.inl e5), at_of hi ha, q G5 a i sm hi2 fa⟩
end
end Ms
namespace Ms
open PySem PySem.Spec PyProof.Rows L2
/-! ### the fourteen families, checked -/
/-- 0, 1, .., n - 1 -/
def rgI (n : Nat) : List Int := (List.range n).map fun i : Nat => (i : Int)
def rowT (ps : List Part) (j : Int) (n : Nat) (r : Int) : List Int := (rgI n).map fun c => sgn ps j r c
def colT (ps : List Part) (j : Int) (n : Nat) (c : Int) : List Int := (rgI n).map fun r => sgn ps j r c
def tabT (ps : List Part) (j : Int) (n : Nat) : List (List Int) := (rgI n).map fun r => rowT ps j n r
/-- no number twice, none of the mask m -/
def ndup : List Nat → Nat → Bool
  | [], _ => true
  | x :: xs, m => !m.testBit x && ndup xs (m ||| 1 <<< x)
def chkCell (ps : List Part) (j : Int) (n : Nat) (r c : Int) (s : Int) : Bool :=
  decide (0 ≤ s) && (decide (s < (n : Int)) && (decide (missT ps j .sig r c = s) && (decide (missT ps j .row c s = r) && decide (missT ps j .col r s = c))))
def cellT (t : List (List Int)) (r c : Nat) : Int := (t.getD r []).getD c 0
def chkTab (ps : List Part) (j : Int) (n : Nat) (t : List (List Int)) : Bool :=
  ((List.range n).all fun r => ((List.range n).map fun c => cellT t r c).isPerm (rgI n)) && (((List.range n).all fun c => ((List.range n).map fun r => cellT t r c).isPerm (rgI n)) &&
    (List.range n).all fun r => (List.range n).all fun c => chkCell ps j n r c (cellT t r c))
def codeT (n : Nat) (t u : List (List Int)) (m : Nat) : Nat := (cellT t (m / n) (m % n)).toNat * n + (cellT u (m / n) (m % n)).toNat
def chkPair (n : Nat) (t u : List (List Int)) : Bool := ndup ((List.range (n * n)).map (codeT n t u)) 0
def chkF (ps : List Part) (n : Nat) (m : Nat) : Bool :=
  ((List.range m).all fun i => chkTab ps ((i : Int) + 1) n (tabT ps ((i : Int) + 1) n)) &&
  (List.range m).all fun i => (List.range m).all fun k => decide (i = k) || chkPair n (tabT ps ((i : Int) + 1) n) (tabT ps ((k : Int) + 1) n)
/-! ### what the checks say -/
theorem ndup_ok : ∀ (xs : List Nat) (m : Nat), ndup xs m = true → xs.Nodup ∧ ∀ x ∈ xs, m.testBit x = false
  | [], _, _ => ⟨List.nodup_nil, fun _ h => nomatch h⟩
  | x :: xs, m, h => by
    have h2 : (!m.testBit x && ndup xs (m ||| 1 <<< x)) = true := h
    rw [Bool.and_eq_true, Bool.not_eq_true'] at h2
    obtain ⟨n1, n2⟩ := ndup_ok xs _ h2.2
    have key : ∀ y ∈ xs, m.testBit y = false ∧ x ≠ y := fun y hy => by
      have h3 := n2 y hy
      rw [Nat.testBit_or, Nat.one_shiftLeft, Bool.or_eq_false_iff] at h3
      refine ⟨h3.1, fun e => ?_⟩
      rw [e, Nat.testBit_two_pow_self] at h3
      cases h3.2
    refine ⟨List.nodup_cons.mpr ⟨fun hx => (key x hx).2 rfl, n1⟩, fun y hy => ?_⟩
    rcases List.mem_cons.mp hy with e | hy
    · rw [e]
      exact h2.1
    · exact (key y hy).1
theorem rgI_len (n : Nat) : (rgI n).length = n := by
  unfold rgI
  rw [List.length_map, List.length_range]
theorem rgI_get {n i : Nat} (h : i < n) : (rgI n)[i]? = some (i : Int) := by
  unfold rgI
  rw [List.getElem?_map, List.getElem?_range h]
  rfl
theorem tab_at {ps : List Part} {j : Int} {n r c : Nat} (hr : r < n) (hc : c < n) : cellT (tabT ps j n) r c = sgn ps j r c := by
  unfold cellT tabT rowT
  rw [List.getD_eq_getElem?_getD (l := List.map _ _), List.getElem?_map, rgI_get hr]
  show ((rgI n).map fun c => sgn ps j r c).getD c 0 = _
  rw [List.getD_eq_getElem?_getD, List.getElem?_map, rgI_get hc]
  rfl
theorem row_is (ps : List Part) (j : Int) {n r : Nat} (hr : r < n) : ((List.range n).map fun c => cellT (tabT ps j n) r c) = rowT ps j n r := by
  unfold rowT rgI
  rw [List.map_map]
  exact List.map_congr_left fun c hc => tab_at hr (List.mem_range.mp hc)
theorem col_is (ps : List Part) (j : Int) {n c : Nat} (hc : c < n) : ((List.range n).map fun r => cellT (tabT ps j n) r c) = colT ps j n c := by
  unfold colT rgI
  rw [List.map_map]
  exact List.map_congr_left fun r hr => tab_at (List.mem_range.mp hr) hc
/-- the key of the i-th cell -/
def keyP (ps : List Part) (a b : Int) (n i : Nat) : Int × Int := (sgn ps a ((i / n : Nat) : Int) ((i % n : Nat) : Int), sgn ps b ((i / n : Nat) : Int) ((i % n : Nat) : Int))
/-- what is to be known of one number's square -/
structure SqF (ps : List Part) (n : Nat) (j : Int) : Prop where
  row : ∀ r : Nat, r < n → (rowT ps j n r).Perm (rgI n)
  col : ∀ c : Nat, c < n → (colT ps j n c).Perm (rgI n)
  cell : ∀ r c : Nat, r < n → c < n → (0 ≤ sgn ps j r c ∧ sgn ps j r c < n) ∧ missT ps j .sig r c = sgn ps j r c ∧ missT ps j .row c (sgn ps j r c) = r ∧ missT ps j .col r (sgn ps j r c) = c
/-- .. and of a family -/
structure FF (ps : List Part) (n m : Nat) : Prop where
  good : GoodPs ps
  two : ps.length ≤ 2
  ord : ordF ps = n
  prod : prodL ps = n
  cnt : cntT ps = n
  many : manyF ps = m
  small : 1 ≤ n ∧ n ≤ 20 ∧ 1 ≤ m ∧ m ≤ 20
  sq : ∀ j : Int, 1 ≤ j → j ≤ m → SqF ps n j
  dis : ∀ a b : Int, 1 ≤ a → a ≤ m → 1 ≤ b → b ≤ m → a ≠ b → ∀ i k : Nat, i < n * n → k < n * n → keyP ps a b n i = keyP ps a b n k → i = k
theorem sq_of {ps : List Part} {n : Nat} {j : Int} (h : chkTab ps j n (tabT ps j n) = true) : SqF ps n j := by
  unfold chkTab at h
  rw [Bool.and_eq_true, Bool.and_eq_true] at h
  obtain ⟨h1, h2, h3⟩ := h
  refine ⟨fun r hr => ?_, fun c hc => ?_, fun r c hr hc => ?_⟩
  · have := List.all_eq_true.mp h1 r (List.mem_range.mpr hr)
    rw [row_is ps j hr] at this
    exact List.isPerm_iff.mp this
  · have := List.all_eq_true.mp h2 c (List.mem_range.mpr hc)
    rw [col_is ps j hc] at this
    exact List.isPerm_iff.mp this
  · have := List.all_eq_true.mp (List.all_eq_true.mp h3 r (List.mem_range.mpr hr)) c (List.mem_range.mpr hc)
    rw [tab_at hr hc] at this
    unfold chkCell at this
    simp only [Bool.and_eq_true, decide_eq_true_eq] at this
    obtain ⟨a1, a2, a3, a4, a5⟩ := this
    exact ⟨⟨a1, a2⟩, a3, a4, a5⟩
theorem dis_of {ps : List Part} {n : Nat} {a b : Int} (h : chkPair n (tabT ps a n) (tabT ps b n) = true) : ∀ i k : Nat, i < n * n → k < n * n → keyP ps a b n i = keyP ps a b n k → i = k := by
  intro i k hi hk e
  have nd := (ndup_ok _ _ h).1
  have hn : 0 < n := by
    rcases Nat.eq_zero_or_pos n with z | z
    · rw [z] at hi
      omega
    · exact z
  have code : ∀ i, i < n * n → codeT n (tabT ps a n) (tabT ps b n) i = (keyP ps a b n i).1.toNat * n + (keyP ps a b n i).2.toNat := fun i hi => by
    have h1 : i / n < n := Nat.div_lt_of_lt_mul hi
    have h2 : i % n < n := Nat.mod_lt _ hn
    unfold codeT keyP
    rw [tab_at h1 h2, tab_at h1 h2]
  have e1 : ((List.range (n * n)).map (codeT n (tabT ps a n) (tabT ps b n)))[i]? = some (codeT n (tabT ps a n) (tabT ps b n) i) := by
    rw [List.getElem?_map, List.getElem?_range hi]
    rfl
  have e2 : ((List.range (n * n)).map (codeT n (tabT ps a n) (tabT ps b n)))[k]? = some (codeT n (tabT ps a n) (tabT ps b n) i) := by
    rw [List.getElem?_map, List.getElem?_range hk]
    show some (codeT n (tabT ps a n) (tabT ps b n) k) = _
    rw [code i hi, code k hk, e]
  exact nd_ix nd e1 e2
theorem ff_of {ps : List Part} {n m : Nat} (good : GoodPs ps) (two : ps.length ≤ 2) (ord : ordF ps = n) (prod : prodL ps = n) (cnt : cntT ps = n) (many : manyF ps = m) (small : 1 ≤ n ∧ n ≤ 20 ∧ 1 ≤ m ∧ m ≤ 20) (h : chkF ps n m = true) : FF ps n m := by
  unfold chkF at h
  rw [Bool.and_eq_true] at h
  obtain ⟨h1, h2⟩ := h
  have ix : ∀ j : Int, 1 ≤ j → j ≤ m → ∃ i : Nat, i < m ∧ j = (i : Int) + 1 := fun j a b => ⟨(j - 1).toNat, by omega, by omega⟩
  refine ⟨good, two, ord, prod, cnt, many, small, fun j j1 j2 => ?_, fun a b a1 a2 b1 b2 ne => ?_⟩
  · obtain ⟨i, hi, rfl⟩ := ix j j1 j2
    exact sq_of (List.all_eq_true.mp h1 i (List.mem_range.mpr hi))
  · obtain ⟨i, hi, rfl⟩ := ix a a1 a2
    obtain ⟨k, hk, rfl⟩ := ix b b1 b2
    have h3 := List.all_eq_true.mp (List.all_eq_true.mp h2 i (List.mem_range.mpr hi)) k (List.mem_range.mpr hk)
    rw [Bool.or_eq_true, decide_eq_true_eq] at h3
    rcases h3 with e | h3
    · exact absurd (by rw [e]) ne
    · exact dis_of h3
theorem FF.num {ps : List Part} {n m : Nat} (F : FF ps n m) {j : Int} (h1 : 1 ≤ j) (h2 : j ≤ m) : Num ps j := by
  refine ⟨h1, fun q hq => ?_⟩
  have hm := F.many
  unfold manyF at hm
  have hs : q.1 ^ q.2 ∈ sizes ps := List.mem_map.mpr ⟨q, hq, rfl⟩
  cases e : sizes ps with
  | nil =>
    rw [e] at hs
    cases hs
  | cons x r =>
    rw [e] at hs hm
    have := minL_le x r _ hs
    omega
/-! ### the fields -/
theorem nodiv_small {p : Int} (hp : p < 25) (h2 : ∀ d : Int, d = 2 ∨ d = 3 ∨ d = 4 → d * d ≤ p → ¬ p % d = 0) : NoDiv p := fun d d1 d2 => by
  have d3 : d < 5 := by
    refine Int.not_le.mp fun h => ?_
    have := Int.mul_le_mul h h (by decide) (by omega)
    omega
  exact h2 d (by omega) d2
theorem fld_2_1 : Fld 2 1 := ⟨by decide, by decide, nodiv_small (by decide) (by rintro d (rfl | rfl | rfl) <;> decide), by decide, by decide, by decide, by decide, by decide +kernel⟩
theorem fld_2_2 : Fld 2 2 := ⟨by decide, by decide, nodiv_small (by decide) (by rintro d (rfl | rfl | rfl) <;> decide), by decide, by decide, by decide, by decide, by decide +kernel⟩
theorem fld_2_3 : Fld 2 3 := ⟨by decide, by decide, nodiv_small (by decide) (by rintro d (rfl | rfl | rfl) <;> decide), by decide, by decide, by decide, by decide, by decide +kernel⟩
theorem fld_3_1 : Fld 3 1 := ⟨by decide, by decide, nodiv_small (by decide) (by rintro d (rfl | rfl | rfl) <;> decide), by decide, by decide, by decide, by decide, by decide +kernel⟩
theorem fld_3_2 : Fld 3 2 := ⟨by decide, by decide, nodiv_small (by decide) (by rintro d (rfl | rfl | rfl) <;> decide), by decide, by decide, by decide, by decide, by decide +kernel⟩
theorem fld_5_1 : Fld 5 1 := ⟨by decide, by decide, nodiv_small (by decide) (by rintro d (rfl | rfl | rfl) <;> decide), by decide, by decide, by decide, by decide, by decide +kernel⟩
theorem fld_7_1 : Fld 7 1 := ⟨by decide, by decide, nodiv_small (by decide) (by rintro d (rfl | rfl | rfl) <;> decide), by decide, by decide, by decide, by decide, by decide +kernel⟩
theorem fld_11_1 : Fld 11 1 := ⟨by decide, by decide, nodiv_small (by decide) (by rintro d (rfl | rfl | rfl) <;> decide), by decide, by decide, by decide, by decide, by decide +kernel⟩
theorem good_0 : GoodPs [(5, 1)] := ⟨by decide, by decide, fun q hq => by rw [List.mem_singleton.mp hq]; exact fld_5_1, by decide, by decide⟩
theorem ff_0 : FF [(5, 1)] 5 4 := ff_of good_0 (by decide) (by decide +kernel) (by decide +kernel) (by decide +kernel) (by decide +kernel) (by decide) (by decide +kernel)
theorem good_1 : GoodPs [(7, 1)] := ⟨by decide, by decide, fun q hq => by rw [List.mem_singleton.mp hq]; exact fld_7_1, by decide, by decide⟩
theorem ff_1 : FF [(7, 1)] 7 6 := ff_of good_1 (by decide) (by decide +kernel) (by decide +kernel) (by decide +kernel) (by decide +kernel) (by decide) (by decide +kernel)
theorem good_2 : GoodPs [(2, 2)] := ⟨by decide, by decide, fun q hq => by rw [List.mem_singleton.mp hq]; exact fld_2_2, by decide, by decide⟩
theorem ff_2 : FF [(2, 2)] 4 3 := ff_of good_2 (by decide) (by decide +kernel) (by decide +kernel) (by decide +kernel) (by decide +kernel) (by decide) (by decide +kernel)
theorem good_3 : GoodPs [(2, 3)] := ⟨by decide, by decide, fun q hq => by rw [List.mem_singleton.mp hq]; exact fld_2_3, by decide, by decide⟩
theorem ff_3 : FF [(2, 3)] 8 7 := ff_of good_3 (by decide) (by decide +kernel) (by decide +kernel) (by decide +kernel) (by decide +kernel) (by decide) (by decide +kernel)
theorem good_4 : GoodPs [(3, 2)] := ⟨by decide, by decide, fun q hq => by rw [List.mem_singleton.mp hq]; exact fld_3_2, by decide, by decide⟩
theorem ff_4 : FF [(3, 2)] 9 8 := ff_of good_4 (by decide) (by decide +kernel) (by decide +kernel) (by decide +kernel) (by decide +kernel) (by decide) (by decide +kernel)
theorem good_5 : GoodPs [(2, 2), (3, 1)] := ⟨by decide, by decide, fun q hq => (List.mem_cons.mp hq).elim (fun e => by rw [e]; exact fld_2_2) (fun hq => by rw [List.mem_singleton.mp hq]; exact fld_3_1), by decide, by decide⟩
theorem ff_5 : FF [(2, 2), (3, 1)] 12 2 := ff_of good_5 (by decide) (by decide +kernel) (by decide +kernel) (by decide +kernel) (by decide +kernel) (by decide) (by decide +kernel)
theorem good_6 : GoodPs [(3, 1), (2, 2)] := ⟨by decide, by decide, fun q hq => (List.mem_cons.mp hq).elim (fun e => by rw [e]; exact fld_3_1) (fun hq => by rw [List.mem_singleton.mp hq]; exact fld_2_2), by decide, by decide⟩
theorem ff_6 : FF [(3, 1), (2, 2)] 12 2 := ff_of good_6 (by decide) (by decide +kernel) (by decide +kernel) (by decide +kernel) (by decide +kernel) (by decide) (by decide +kernel)
theorem good_7 : GoodPs [(5, 1), (3, 1)] := ⟨by decide, by decide, fun q hq => (List.mem_cons.mp hq).elim (fun e => by rw [e]; exact fld_5_1) (fun hq => by rw [List.mem_singleton.mp hq]; exact fld_3_1), by decide, by decide⟩
theorem ff_7 : FF [(5, 1), (3, 1)] 15 2 := ff_of good_7 (by decide) (by decide +kernel) (by decide +kernel) (by decide +kernel) (by decide +kernel) (by decide) (by decide +kernel)
theorem good_8 : GoodPs [(2, 2), (5, 1)] := ⟨by decide, by decide, fun q hq => (List.mem_cons.mp hq).elim (fun e => by rw [e]; exact fld_2_2) (fun hq => by rw [List.mem_singleton.mp hq]; exact fld_5_1), by decide, by decide⟩
theorem ff_8 : FF [(2, 2), (5, 1)] 20 3 := ff_of good_8 (by decide) (by decide +kernel) (by decide +kernel) (by decide +kernel) (by decide +kernel) (by decide) (by decide +kernel)
theorem good_9 : GoodPs [(3, 1)] := ⟨by decide, by decide, fun q hq => by rw [List.mem_singleton.mp hq]; exact fld_3_1, by decide, by decide⟩
theorem ff_9 : FF [(3, 1)] 3 2 := ff_of good_9 (by decide) (by decide +kernel) (by decide +kernel) (by decide +kernel) (by decide +kernel) (by decide) (by decide +kernel)
theorem good_10 : GoodPs [(2, 1), (3, 1)] := ⟨by decide, by decide, fun q hq => (List.mem_cons.mp hq).elim (fun e => by rw [e]; exact fld_2_1) (fun hq => by rw [List.mem_singleton.mp hq]; exact fld_3_1), by decide, by decide⟩
theorem ff_10 : FF [(2, 1), (3, 1)] 6 1 := ff_of good_10 (by decide) (by decide +kernel) (by decide +kernel) (by decide +kernel) (by decide +kernel) (by decide) (by decide +kernel)
theorem good_11 : GoodPs [(11, 1)] := ⟨by decide, by decide, fun q hq => by rw [List.mem_singleton.mp hq]; exact fld_11_1, by decide, by decide⟩
theorem ff_11 : FF [(11, 1)] 11 10 := ff_of good_11 (by decide) (by decide +kernel) (by decide +kernel) (by decide +kernel) (by decide +kernel) (by decide) (by decide +kernel)
theorem good_12 : GoodPs [(2, 1)] := ⟨by decide, by decide, fun q hq => by rw [List.mem_singleton.mp hq]; exact fld_2_1, by decide, by decide⟩
theorem ff_12 : FF [(2, 1)] 2 1 := ff_of good_12 (by decide) (by decide +kernel) (by decide +kernel) (by decide +kernel) (by decide +kernel) (by decide) (by decide +kernel)
theorem good_13 : GoodPs [(3, 1), (5, 1)] := ⟨by decide, by decide, fun q hq => (List.mem_cons.mp hq).elim (fun e => by rw [e]; exact fld_3_1) (fun hq => by rw [List.mem_singleton.mp hq]; exact fld_5_1), by decide, by decide⟩
theorem ff_13 : FF [(3, 1), (5, 1)] 15 2 := ff_of good_13 (by decide) (by decide +kernel) (by decide +kernel) (by decide +kernel) (by decide +kernel) (by decide) (by decide +kernel)
theorem ff_all (i : Nat) (hi : i < 14) : ∃ n m, FF (famL.getD i []) n m := by
  match i, hi with
  | 0, _ => exact ⟨_, _, ff_0⟩
  | 1, _ => exact ⟨_, _, ff_1⟩
  | 2, _ => exact ⟨_, _, ff_2⟩
  | 3, _ => exact ⟨_, _, ff_3⟩
  | 4, _ => exact ⟨_, _, ff_4⟩
  | 5, _ => exact ⟨_, _, ff_5⟩
  | 6, _ => exact ⟨_, _, ff_6⟩
  | 7, _ => exact ⟨_, _, ff_7⟩
  | 8, _ => exact ⟨_, _, ff_8⟩
  | 9, _ => exact ⟨_, _, ff_9⟩
  | 10, _ => exact ⟨_, _, ff_10⟩
  | 11, _ => exact ⟨_, _, ff_11⟩
  | 12, _ => exact ⟨_, _, ff_12⟩
  | 13, _ => exact ⟨_, _, ff_13⟩
end Ms
namespace Ms
open PySem PySem.Spec PyProof.Rows L2
/-! ### lists of ints, compared -/
theorem canLayI : ∀ xs : List Int, PyData.canLayAll0 (xs.map PyData.int) = true
  | [] => rfl
  | x :: xs => by
    show (PyData.canLay0 (.int x) && PyData.canLayAll0 (xs.map PyData.int)) = true
    rw [canLayI xs]
    rfl
theorem depthI : ∀ xs : List Int, PyData.depthAll (xs.map PyData.int) = 0
  | [] => rfl
  | x :: xs => by
    show max (PyData.depth (.int x)) (PyData.depthAll (xs.map PyData.int)) = 0
    rw [depthI xs]
    rfl
theorem layI (xs : List Int) : PyData.canLay0 (.list (xs.map PyData.int)) = true := canLayI xs
theorem shapedI (xs : List Int) : SeqAt.shaped (.list (xs.map PyData.int)) = true := by
  show (PyData.canLay0 (.list (xs.map PyData.int)) && decide (PyData.depthAll (xs.map PyData.int) + 1 ≤ 64)) = true
  rw [layI, depthI]
  rfl
theorem dpI {K : PySem.W.Frag} {H : Hp} {a : Addr} {xs : List Int} (h : SqL K H a (xs.map V.int)) : Dp K H (.ref a) (.list (xs.map PyData.int)) := by
  refine .lst h ?_
  clear h
  induction xs with
  | nil => exact .nil
  | cons x xs ih => exact .cons (.int x) ih
theorem neI {K : PySem.W.Frag} {H : Hp} {a b : Addr} {xs : List Int} {Q : VK} (ha : SqL K H a (xs.map V.int)) (hb : SqL K H b (xs.map V.int)) (q : Q (.bl false) H) : rNeD K (.ref a) (.ref b) H Q := by
  refine ⟨_, _, dpI ha, dpI hb, shapedI xs, shapedI xs, ?_⟩
  rw [SeqAt.eqv_refl _ (layI xs)]
  exact q
theorem rgI_sorted (n : Nat) : (rgI n).Pairwise (fun x y : Int => x ≤ y) := by
  unfold rgI
  rw [List.pairwise_map]
  exact List.pairwise_lt_range.imp fun h => by omega
theorem srt_is {n : Nat} {ns xs : List Int} (p : ns.Perm xs) (hp : xs.Perm (rgI n)) (s : ns.Pairwise (fun x y : Int => x ≤ y)) : ns = rgI n :=
  List.Perm.eq_of_pairwise (fun _ _ _ _ h1 h2 => Int.le_antisymm h1 h2) s (rgI_sorted n) (p.trans hp)
theorem rgV_is (n : Nat) : rgV 0 (n : Int) = (rgI n).map V.int := by
  unfold rgV rgI
  rw [Int.sub_zero, Int.toNat_natCast, List.map_map]
  exact List.map_congr_left fun i _ => congrArg V.int (Int.zero_add _)
theorem rowT_len (ps : List Part) (j : Int) (n : Nat) (r : Int) : (rowT ps j n r).length = n := by
  unfold rowT
  rw [List.length_map, rgI_len]
theorem rowT_at {ps : List Part} {j r : Int} {n c : Nat} (h : c < n) : (rowT ps j n r).getD c 0 = sgn ps j r c := by
  unfold rowT
  rw [List.getD_eq_getElem?_getD, List.getElem?_map, rgI_get h]
  rfl
theorem take_rg {n i : Nat} (h : i < n) (g : Int → Int) : ((rgI n).take i).map g ++ [g (i : Int)] = ((rgI n).take (i + 1)).map g := by
  rw [← take_snoc (rgI_get h), List.map_append]
  rfl
theorem take_rg_all (n : Nat) : (rgI n).take n = rgI n := by
  have e := rgI_len n
  exact List.take_of_length_le (by omega)
/-! ### what the law's tables are -/
def TabAt (H : Hp) (R T : Addr) (ps : List Part) (j : Int) (n : Nat) : Prop :=
  ∃ rs : List Addr, (H R = some (.lst (rs.map V.ref)) ∧ R ≠ T) ∧ rs.length = n ∧ ∀ (r : Nat) (a : Addr), rs[r]? = some a → H a = some (.lst ((rowT ps j n r).map V.int)) ∧ a ≠ T
theorem TabAt.same {H H' : Hp} {R T : Addr} {ps : List Part} {j : Int} {n : Nat} (h : TabAt H R T ps j n) (s : Same H H') : TabAt H' R T ps j n := by
  obtain ⟨rs, ⟨h1, h2⟩, h3, h4⟩ := h
  exact ⟨rs, ⟨s _ _ h1, h2⟩, h3, fun r a e => ⟨s _ _ (h4 r a e).1, (h4 r a e).2⟩⟩
theorem TabAt.put {H : Hp} {R T : Addr} {ps : List Part} {j : Int} {n : Nat} {o : HO} (h : TabAt H R T ps j n) : TabAt (upd H T o) R T ps j n := by
  obtain ⟨rs, ⟨h1, h2⟩, h3, h4⟩ := h
  refine ⟨rs, ⟨?_, h2⟩, h3, fun r a e => ⟨?_, (h4 r a e).2⟩⟩
  · rw [upd_ne h2]
    exact h1
  · rw [upd_ne (h4 r a e).2]
    exact (h4 r a e).1
def EntAt (H : Hp) (u T : Addr) (ps : List Part) (n m : Nat) : Prop := ∃ (j : Int) (R : Addr), (1 ≤ j ∧ j ≤ m) ∧ H u = some (.tup [.int j, .ref R]) ∧ TabAt H R T ps j n
theorem EntAt.same {H H' : Hp} {u T : Addr} {ps : List Part} {n m : Nat} (h : EntAt H u T ps n m) (s : Same H H') : EntAt H' u T ps n m := by
  obtain ⟨j, R, h1, h2, h3⟩ := h
  exact ⟨j, R, h1, s _ _ h2, h3.same s⟩
theorem EntAt.put {H : Hp} {u T : Addr} {ps : List Part} {n m : Nat} {xs : List V} {o : HO} (h : EntAt H u T ps n m) (hT : H T = some (.lst xs)) : EntAt (upd H T o) u T ps n m := by
  obtain ⟨j, R, h1, h2, h3⟩ := h
  refine ⟨j, R, h1, ?_, h3.put⟩
  rw [upd_ne (ne_of h2 hT (fun z => nomatch z))]
  exact h2
theorem ref_at {rs : List Addr} {i : Int} {k : Nat} {a : Addr} (e : i = (k : Int)) (h : rs[k]? = some a) : atI (rs.map V.ref) i = some (.ref a) := by
  refine at_of e ?_
  rw [List.getElem?_map, h]
  rfl
/-- the dict of pairs, behind M turns -/
def keyK (ps : List Part) (a b : Int) (n i : Nat) : List Key := [.inl (keyP ps a b n i).1, .inl (keyP ps a b n i).2]
def kvL (ps : List Part) (a b : Int) (n M : Nat) : List (List Key × V) := (List.range M).map fun i => (keyK ps a b n i, V.bl true)
theorem kvL_len (ps : List Part) (a b : Int) (n M : Nat) : (kvL ps a b n M).length = M := by
  unfold kvL
  rw [List.length_map, List.length_range]
theorem kvL_put {ps : List Part} {n m : Nat} (F : FF ps n m) {a b : Int} (a1 : 1 ≤ a) (a2 : a ≤ m) (b1 : 1 ≤ b) (b2 : b ≤ m) (ne : a ≠ b) {M : Nat} (hM : M < n * n) :
    putK (kvL ps a b n M) (keyK ps a b n M) (.bl true) = kvL ps a b n (M + 1) := by
  have hv : valV (kvL ps a b n M) (keyK ps a b n M) = none := by
    have h1 := valV_any (keyK ps a b n M) (kvL ps a b n M)
    have h2 : ((kvL ps a b n M).any fun kv => decide (kv.1 = keyK ps a b n M)) = false := by
      refine List.any_eq_false.mpr fun kv hkv e => ?_
      obtain ⟨i, hi, e2⟩ := List.mem_map.mp hkv
      have hi2 := List.mem_range.mp hi
      have e3 : kv.1 = keyK ps a b n M := of_decide_eq_true e
      rw [← e2] at e3
      have e4 : keyP ps a b n i = keyP ps a b n M := by
        injection e3 with x1 x2
        injection x2 with x3 _
        exact Prod.ext (Sum.inl.inj x1) (Sum.inl.inj x3)
      have := F.dis a b a1 a2 b1 b2 ne i M (by omega) hM e4
      omega
    rw [h2] at h1
    exact Option.isNone_iff_eq_none.mp (by rw [← Option.not_isSome, ← h1]; rfl)
  rw [putK_new _ hv]
  unfold kvL
  rw [List.range_succ, List.map_append]
  rfl
theorem key_is {ps : List Part} {a b : Int} {n r c : Nat} (hc : c < n) : keyK ps a b n (r * n + c) = [.inl (sgn ps a r c), .inl (sgn ps b r c)] := by
  have e1 : (r * n + c) / n = r := by
    rw [Nat.mul_comm, Nat.mul_add_div (by omega), Nat.div_eq_of_lt hc, Nat.add_zero]
  have e2 : (r * n + c) % n = c := by
    rw [Nat.mul_comm, Nat.mul_add_mod, Nat.mod_eq_of_lt hc]
  unfold keyK keyP
  rw [e1, e2]
theorem cutS {A rest : TS} {D : Ends} {σ : L2.St} {H : Hp} (Z : L2.St → Hp → Prop) (h1 : ∀ σ' H', Z σ' H' → rest D σ' H') (h2 : (∀ σ' H', Z σ' H' → rest D σ' H') → A { D with nx := rest D } σ H) : tSeq A rest D σ H := h2 h1
/-! ### the law -/
section
variable {X : Cx} {k j : Nat} {x : Str} {sp : Sp} {C : Addr} {p pos : Pos} {e : Expr} {es : List Expr} {t : TA}
theorem pmk (c : Met X.prog X.w X.K X.mg X.base k C "__init__" sp) (m : ∃ f, Mk X.K C f) (hm : X.mg x = some (.ref C)) (hr : Room j X.A) (ha : PA X (e :: es) t) (hk : k + 1 ≤ j := by decide) (hg : Gl X x := by rfl)
    (hdb : (x == ("__debug__" : Str)) = false := by decide) (hst : starEach (e :: es) X.env = (false, eval e X.env) :: starEach es X.env := by rfl) (hpl : (backTo pos (starEach es X.env)).any (·.1) = false := by rfl) :
    PE X (.Call (.Name x p) (e :: es) [] pos) (tMake C sp [] E0 t) := by
  obtain ⟨f, fd, ps, ⟨hc, hmt⟩, F, b⟩ := c.ex
  obtain ⟨f2, M⟩ := m
  have e1 := hmt.at_
  rw [M.init] at e1
  cases e1
  exact pe_make M F (hr.mono hk) hg hm b .nil pass0 ha hdb hst hpl
end
structure LE (P : Program) (w : World) (K : PySem.W.Frag) (mg : Str → Option Value) (base : Heap) (C : Addr) : Prop where
  cN : Cal P w K mg base 2 "_law_numbers" (spLn K) []
  cS : Cal P w K mg base 1 "_law_small" spSm []
  cO : Cal P w K mg base 2 "_law_order" spLo []
  cZ : Cal P w K mg base 1 "_law_size" spSize []
  cI : Met P w K mg base 5 C "__init__" (spInit C)
  mkF : ∃ f, Mk K C f
  mF : mg "Family" = some (.ref C)
  cG : Met P w K mg base 7 C "sign" (spSgn C)
  cT : Cal P w K mg base 2 "tree_of" (spTr C) []
  cR : Cal P w K mg base 6 "order" spOrd []
  cs : Cal P w K mg base 9 "sign" spSg []
  cr : Cal P w K mg base 9 "row_of" spRw_ []
  cc : Cal P w K mg base 9 "column_of" spCl []
  mn : mg "min" = none
  rg : mg "range" = none
  it : mg "int" = none
  so : mg "sorted" = none
  li : mg "list" = none
  le : mg "len" = none
  T : TF K C
section
variable {P : Program} {w : World} {K : PySem.W.Frag} {mg : Str → Option Value} {base : Heap} {C : Addr}
abbrev sLaw : Stmt := topS 70
abbrev nLaw : List Str := ["_law_script", "_law_numbers_here", "_law_parts", "_law_size_here", "_law_family", "_law_many", "_law_p", "_law_k", "_law_tables", "_law_number", "_law_rows", "_law_row_here", "_law_column", "_law_at", "_law_pairs", "_law_tree", "_law_told"]
theorem scLaw : FnScope nLaw ["_law_script"] (defScope sLaw) := ⟨rfl, rfl, rfl, by decide +kernel, rfl, by decide +kernel, by decide +kernel⟩
def spLaw (K : PySem.W.Frag) : Sp := fun vs H Q _ => ∃ (a : Addr) (ns : List Int), vs = [.ref a] ∧ SqL K H a (ns.map V.int) ∧ ns.length ≤ 63 ∧ ∀ H', Q (.bl true) H'
theorem ok_law (D : DefF K mg "law" sLaw) (L : LE P w K mg base C) : ∀ (f : Addr) (fd : FuncData), FunD K "law" "law" (defArgs sLaw) (defBody sLaw) (defScope sLaw) [] [] f fd → FnOk P w K mg base CX0 10 f fd ["_law_script"] (spLaw K) := fun f fd F => by
  refine F.ok scLaw (fun vs H Q E h => ?_) (fun cdv A outer s H vs Q E hr h => ?_)
  · obtain ⟨a, ns, rfl, _⟩ := h
    rfl
  · obtain ⟨a, ns, rfl, ha, hn, q⟩ := h
    suffices hh : ∃ t, PSs (cxOf CX0 P w K mg base nLaw "law" (defScope sLaw) f cdv A outer s H E).nox (defBody sLaw) t ∧ t { nx := fun _ H' => Q .non H', rt := Q } (start nLaw [.ref a]) H by
      obtain ⟨t, p1, p2⟩ := hh
      exact ⟨t, p1.nox, p2⟩
    refine ⟨_, pss_cons (ps_set (i := 1) scLaw.nd rfl (.inl rfl) (pc L.cN hr (pa_cons (pv 0) (pa_cons pe_int pa_nil))))
      (pss_cons (ps_set (i := 2) scLaw.nd rfl (.inl rfl) (pc L.cS hr (pa_cons (pv 1) (pa_cons pe_int pa_nil))))
      (pss_cons (ps_set (i := 3) scLaw.nd rfl (.inr rfl) (pc L.cO hr (pa_cons (pv 2) pa_nil)))
      (pss_cons (ps_set (i := 4) scLaw.nd rfl (.inr rfl) (pmk L.cI L.mkF L.mF hr (pa_cons (pv 2) pa_nil)))
      (pss_cons (ps_set (i := 5) scLaw.nd rfl (.inl rfl) (pe_op op_sub (pe_callB (cr_min rfl) (by rfl) L.mn (by decide +kernel) (pa_cons (pe_lc (own := [("_law_p", 6), ("_law_k", 7)]) (g := gTup K 2 (gCons (gName 6) (gCons (gName 7) gNil))) (tt := tYes) (by rfl) scLaw.nd (pi_list (pv 2)) (blkOk_by (N := nLaw) (sc := defScope sLaw) (by decide +kernel))
        (fun _ _ _ _ _ => pg_tup (by rfl) (pgs_cons (pg_name (i := 6) scLaw.nd rfl (Or.inl rfl)) (pgs_cons (pg_name (i := 7) scLaw.nd rfl (Or.inl rfl)) pgs_nil))) (fun _ _ _ _ _ => pts_nil) (fun _ _ _ _ _ => pc (sp := spSize) L.cZ hr (pa_cons (pv 6) (pa_cons (pv 7) pa_nil)))) pa_nil)) pe_int))
      (pss_cons (ps_if (PW.pt (pw_or (pt_cmpR op_ne (pe_fld (pv 4) rfl) (pv 5) (nomark _)) (pw_or1 (pt_cmpR op_ne (pe_fld (pv 4) rfl) (pv 3) (nomark _))))) pss_never pss_nil)
      (pss_cons (ps_set (i := 8) scLaw.nd rfl (.inl rfl) (pe_lst pa_nil))
      (pss_cons (ps_for PassesOwn.never rfl (pi_range1 rfl L.rg (pa_cons pe_int pa_nil)) (pg_name (i := 7) scLaw.nd rfl (.inl rfl))
        (pss_cons (ps_set (i := 9) scLaw.nd rfl (.inr rfl) (pe_op op_add pe_int (pe_op op_mod (pe_callTy call_int1 (by rfl) L.it (by decide +kernel) (pa_cons (pe_ix ix_list (pv 1) (pe_op op_add pe_int (pv 7)) (fun _ _ => rfl)) pa_nil)) (pv 5))))
        (pss_cons (ps_setLc (i := 10) (own := [("_law_row_here", 11)]) (g := gName 11) (tt := tYes) rfl scLaw.nd rfl rfl (sw_true rfl rfl rfl (by decide +kernel)) (pi_range1 rfl L.rg (pa_cons (pv 3) pa_nil)) (blkOk_by (N := nLaw) (sc := defScope sLaw) (by decide +kernel))
            (fun _ _ _ _ _ => pg_name (i := 11) scLaw.nd rfl (Or.inr rfl)) (fun _ _ _ _ _ => pts_nil)
            (fun _ _ _ _ _ => pe_lc (own := [("_law_column", 12)]) (g := gName 12) (tt := tYes) (by rfl) scLaw.nd (pi_range1 rfl L.rg (pa_cons (pv 3) pa_nil)) (blkOk_by (N := nLaw) (by rfl))
              (fun _ _ _ _ _ => pg_name (i := 12) scLaw.nd rfl (Or.inl rfl)) (fun _ _ _ _ _ => pts_nil) (fun _ _ _ _ _ => pm (sp := spSgn C) L.cG hr (pv 4) (pa_cons (pv 9) (pa_cons (pv 11) (pa_cons (pv 12) pa_nil))))))
        (pss_cons (ps_for PassesOwn.never rfl (pi_range1 rfl L.rg (pa_cons (pv 3) pa_nil)) (pg_name (i := 13) scLaw.nd rfl (.inr rfl))
          (pss_one (ps_if (PW.pt (pw_or (pt_cmpR (op_neD hr.units) (pe_callB cr_sortedI (by rfl) L.so (by decide +kernel) (pa_cons (pe_ix ix_list (pv 10) (pv 13) (fun _ _ => rfl)) pa_nil)) (pe_listRg rfl (by rfl) L.li (prg_1 (by rfl) L.rg (pv 3))) (nomark _))
              (pw_or1 (pt_cmpR (op_neD hr.units) (pe_callB cr_sortedI (by rfl) L.so (by decide +kernel) (pa_cons (pe_lc (own := [("_law_row_here", 11)]) (g := gName 11) (tt := tYes) (by rfl) scLaw.nd (pi_list (pv 10)) (blkOk_by (N := nLaw) (sc := defScope sLaw) (by decide +kernel))
                (fun _ _ _ _ _ => pg_name (i := 11) scLaw.nd rfl (Or.inl rfl)) (fun _ _ _ _ _ => pts_nil) (fun _ _ _ _ _ => pe_ix (r := rIxL K) ix_list (pv 11) (pv 13) (fun _ _ => rfl))) pa_nil)) (pe_listRg rfl (by rfl) L.li (prg_1 (by rfl) L.rg (pv 3))) (nomark _))))) pss_never pss_nil)))
        (pss_one (ps_expr (pe_bm PySem.F.plainAttrs_list PySem.F.slot_list_append PySem.F.type_list_append mt_append (pv 8) (pa_cons (pe_tup (pa_cons (pv 9) (pa_cons (pv 10) pa_nil))) pa_nil))))))))
      (pss_cons (ps_if (pt_cmpR op_ne (pe_ix ix_tup (pe_ix ix_list (pv 8) pe_int (fun _ _ => rfl)) pe_int (fun _ _ => rfl)) (pe_ix ix_tup (pe_ix ix_list (pv 8) pe_int (fun _ _ => rfl)) pe_int (fun _ _ => rfl)) (nomark _))
        (pss_cons (ps_set (i := 14) scLaw.nd rfl (.inl rfl) pe_dnewT)
        (pss_cons (ps_for PassesOwn.never rfl (pi_range1 rfl L.rg (pa_cons (pv 3) pa_nil)) (pg_name (i := 11) scLaw.nd rfl (.inl rfl))
          (pss_one (ps_for PassesOwn.never rfl (pi_range1 rfl L.rg (pa_cons (pv 3) pa_nil)) (pg_name (i := 12) scLaw.nd rfl (.inl rfl))
            (pss_one (ps_dput (hu_of hr) (pv 14) (pe_tup (pa_cons (pe_ix ix_list (pe_ix ix_list (pe_ix ix_tup (pe_ix ix_list (pv 8) pe_int (fun _ _ => rfl)) pe_int (fun _ _ => rfl)) (pv 11) (fun _ _ => rfl)) (pv 12) (fun _ _ => rfl))
              (pa_cons (pe_ix ix_list (pe_ix ix_list (pe_ix ix_tup (pe_ix ix_list (pv 8) pe_int (fun _ _ => rfl)) pe_int (fun _ _ => rfl)) (pv 11) (fun _ _ => rfl)) (pv 12) (fun _ _ => rfl)) pa_nil))) pe_bl (by rfl))))))
        (pss_one (ps_if (pt_cmpR op_ne (pe_callB call_len_dT (by rfl) L.le PySem.boot_len (pa_cons (pv 14) pa_nil)) (pe_op op_mul (pv 3) (pv 3)) (nomark _)) pss_never pss_nil))))
        pss_nil)
      (pss_cons (ps_asg (pe_ix ix_list (pv 8) pe_int (fun _ _ => rfl)) (pg_tup (by rfl) (pgs_cons (pg_name (i := 9) scLaw.nd rfl (.inr rfl)) (pgs_cons (pg_name (i := 10) scLaw.nd rfl (.inl rfl)) pgs_nil))))
      (pss_cons (ps_set (i := 15) scLaw.nd rfl (.inl rfl) (pc L.cT hr (pa_cons (pv 4) (pa_cons (pv 9) pa_nil))))
      (pss_cons (ps_if (pt_cmpR op_ne (pc L.cR hr (pa_cons (pv 15) pa_nil)) (pv 3) (nomark _)) pss_never pss_nil)
      (pss_cons (ps_for PassesOwn.never rfl (pi_range1 rfl L.rg (pa_cons pe_int pa_nil)) (pg_name (i := 7) scLaw.nd rfl (.inl rfl))
        (pss_cons (ps_set (i := 11) scLaw.nd rfl (.inl rfl) (pe_op op_mod (pe_callTy call_int1 (by rfl) L.it (by decide +kernel) (pa_cons (pe_ix ix_list (pv 1) (pe_op op_add pe_int (pv 7)) (fun _ _ => rfl)) pa_nil)) (pv 3)))
        (pss_cons (ps_set (i := 12) scLaw.nd rfl (.inl rfl) (pe_op op_mod (pe_callTy call_int1 (by rfl) L.it (by decide +kernel) (pa_cons (pe_ix ix_list (pv 1) (pe_op op_add pe_int (pv 7)) (fun _ _ => rfl)) pa_nil)) (pv 3)))
        (pss_cons (ps_set (i := 16) scLaw.nd rfl (.inl rfl) (pe_ix ix_list (pe_ix ix_list (pv 10) (pv 11) (fun _ _ => rfl)) (pv 12) (fun _ _ => rfl)))
        (pss_cons (ps_if (PW.pt (pw_or (pt_cmpR op_ne (pc L.cs hr (pa_cons (pv 15) (pa_cons (pv 11) (pa_cons (pv 12) pa_nil)))) (pv 16) (nomark _)) (pw_or1 (pt_cmpR op_ne (pc L.cr hr (pa_cons (pv 15) (pa_cons (pv 12) (pa_cons (pv 16) pa_nil)))) (pv 11) (nomark _))))) pss_never pss_nil)
        (pss_one (ps_if (pt_cmpR op_ne (pc L.cc hr (pa_cons (pv 15) (pa_cons (pv 11) (pa_cons (pv 16) pa_nil)))) (pv 12) (nomark _)) pss_never pss_nil)))))))
      (pss_one (ps_ret pe_bl)))))))))))))), ?_⟩
    -- the numbers, the parts, the size
    refine ⟨_, rfl, a, ns, rfl, ha, hn, fun H1 nl xs s1 e1 hx hb => ?_⟩
    refine ⟨_, rfl, nl, xs, rfl, e1, hx, fun H2 pl i s2 hi fL => ?_⟩
    obtain ⟨n, m, F⟩ := ff_all i hi
    generalize famL.getD i [] = ps at *
    obtain ⟨pas, hpl, hP⟩ := fL
    obtain ⟨n1, n20, m1, m20⟩ := F.small
    have few := F.good.few
    have hlen := hP.len
    refine ⟨_, rfl, pl, ps, rfl, ⟨pas, hpl, hP⟩, F.good, ?_⟩
    rw [F.prod]
    -- the family
    refine ⟨_, rfl, fun x dx nx ndx nex => ?_⟩
    have sX : Same H2 (upd (upd H2 dx (.own x)) x (.ins C dx [])) := (same_new ndx).trans (same_new (by rw [upd_ne nex.symm]; exact nx))
    refine ⟨x, dx, pl, pas, ps, rfl, upd_same, sX _ _ hpl, hP.same sX, F.good, fun H3 sx FA => ⟨rfl, ?_⟩⟩
    have s3 : Same H2 H3 := fun b o hb => sx b o (sX b o hb) (ne_of_none hb nx)
    have hpl3 := s3 _ _ hpl
    have hP3 := hP.same s3
    -- many
    refine ⟨_, rfl, pl, rfl, ⟨_, .inl (.inl hpl3)⟩, fun D nD => ?_⟩
    refine lc_list (K := K) (a := pl) (xs := pas.map V.ref) (fun j H'' => Same H3 H'' ∧ H'' D = some (.lst ((sizes (ps.take j)).map V.int))) ⟨same_new nD, upd_same⟩ (fun j H'' _ h => .inl (.inl (h.1 _ _ hpl3))) ?_ ?_
    · rintro j y H'' hy ⟨s4, hD⟩
      obtain ⟨pb, hpb, rfl⟩ := get_ref hy
      have hj : j < ps.length := by
        rw [← hlen]
        exact (List.getElem?_eq_some_iff.mp hpb).1
      have hq : ps[j]? = some ps[j] := List.getElem?_eq_getElem hj
      generalize ps[j] = qq at hq
      have FQ := F.good.fld qq (List.mem_of_getElem? hq)
      have f1 := FQ.p2
      have f2 := FQ.p97
      have f3 := FQ.k12
      have hT := s4 _ _ (hP3.at_ j pb qq hpb hq)
      refine ⟨pb, _, rfl, .inl (.inl hT), rfl, _, _, rfl, _, _, rfl, rfl, rfl, _, rfl, _, rfl, qq.1, qq.2, rfl, by omega, by omega, by omega, _, hD, ?_, same_put s4 nD, ?_⟩
      · rw [List.length_map, sizes_len, List.length_take]
        exact small (by omega)
      · have e : sizes (ps.take (j + 1)) = sizes (ps.take j) ++ [qq.1 ^ qq.2] := by
          rw [← take_snoc hq]
          exact List.map_append
        rw [upd_same, map_snoc, e]
    rintro H4 ⟨s4, hD⟩
    rw [List.length_map, hlen, List.take_length] at hD
    have hpos : 0 < (sizes ps).length := by
      rw [sizes_len]
      exact List.length_pos_iff.mpr F.good.pos
    refine ⟨D, sizes ps, rfl, .inl (.inl hD), hpos, fun mm hmm hle => ⟨_, _, rfl, rfl, ?_⟩⟩
    have em : mm - 1 = m := by
      rw [← F.many]
      unfold manyF
      rw [minL_is hmm hle]
    dsimp only
    rw [em]
    -- the family's own words
    have FA4 := FA.same s4
    obtain ⟨dy, pA, sA, lA, pas', las, hxx, _⟩ := FA4.ex
    have hnl4 : H4 nl = some (.lst (xs.map V.int)) := s4 _ _ (s3 _ _ (s2 _ _ e1))
    refine ⟨_, rfl, x, C, dy, _, _, rfl, hxx, L.T.cl, L.T.nM, ff_many _ _ _ _ _, _, rfl, rfl, _, rfl, iteNDI F.many ?_⟩
    refine ⟨_, rfl, x, C, dy, _, _, rfl, hxx, L.T.cl, L.T.nO, ff_order _ _ _ _ _, _, rfl, rfl, _, rfl, iteNDI F.ord ?_⟩
    -- the tables
    refine ⟨Nat.zero_le _, fun T nT => ?_⟩
    have sT : Same H4 (upd H4 T (.lst [])) := same_new nT
    refine ⟨2, rfl, by decide, by decide, for_range (lo := 0) (n := 2) (fun i σ H' => ∃ (us : List Addr) (y6 y7 y9 y10 y11 y12 y13 y14 y15 y16 : Option V),
      σ = [some (.ref a), some (.ref nl), some (.ref pl), some (.int (n : Int)), some (.ref x), some (.int (m : Int)), y6, y7, some (.ref T), y9, y10, y11, y12, y13, y14, y15, y16] ∧ Same H4 H' ∧ H' T = some (.lst (us.map V.ref)) ∧ us.length = i ∧ ∀ u ∈ us, EntAt H' u T ps n m)
      ⟨[], none, none, none, none, none, none, none, none, none, none, rfl, sT, upd_same, rfl, fun u hu => nomatch hu⟩ ?_ ?_⟩
    · rintro k σ H' hk ⟨us, y6, y7, y9, y10, y11, y12, y13, y14, y15, y16, rfl, sm, hT, hul, hue⟩
      have hnl := sm _ _ hnl4
      have hmp : (0 : Int) < (m : Int) := by omega
      refine ⟨_, rfl, _, rfl, _, _, rfl, rfl, nl, _, _, _, rfl, rfl, .inl (.inl hnl), at_ints (j := 1 + k) (by omega) (by omega), .inl ⟨_, rfl, _, rfl, _, _, rfl, rfl, hmp, _, _, rfl, rfl, ?_⟩⟩
      have hjm := mod_bd hmp (xs.getD (1 + k) 0)
      obtain ⟨j, ej, j1, j2⟩ : ∃ j : Int, 1 + xs.getD (1 + k) 0 % (m : Int) = j ∧ 1 ≤ j ∧ j ≤ m := ⟨_, rfl, by omega, by omega⟩
      dsimp only
      rw [ej]
      -- the rows
      refine ⟨_, rfl, (n : Int), rfl, by omega, by omega, fun R nR => ?_⟩
      have nRT : R ≠ T := (ne_of_none hT nR).symm
      refine lc_range (lo := 0) (n := n) (fun r H'' => Same H' H'' ∧ ∃ rs : List Addr, rs.length = r ∧ H'' R = some (.lst (rs.map V.ref)) ∧ ∀ (k : Nat) (b : Addr), rs[k]? = some b → H'' b = some (.lst ((rowT ps j n k).map V.int)) ∧ b ≠ T ∧ b ≠ R)
        ⟨same_new nR, [], rfl, upd_same, fun k b e => by simp at e⟩ ?_ ?_
      · rintro r H'' hrn ⟨s5, rs, hrs, hR, hat⟩
        refine ⟨rfl, _, rfl, (n : Int), rfl, by omega, by omega, fun R2 nR2 => ?_⟩
        refine lc_range (lo := 0) (n := n) (fun c H5 => Same H'' H5 ∧ H5 R2 = some (.lst ((((rgI n).take c).map fun c => sgn ps j r c).map V.int))) ⟨same_new nR2, upd_same⟩ ?_ ?_
        · rintro c H5 hc ⟨s6, hR2⟩
          have s46 := sm.trans (s5.trans s6)
          refine ⟨rfl, _, rfl, x, dy, _, rfl, s46 _ _ hxx, ff_no _ _ _ _ _ (by decide +kernel) (by decide +kernel) (by decide +kernel) (by decide +kernel) (by decide +kernel), _, rfl, _, rfl, _, rfl, x, ps, j, 0 + (r : Int), 0 + (c : Int), rfl, FA4.same s46, F.good, ?_, ⟨j1, by rw [F.many]; exact j2⟩, fun H6 s7 => ⟨_, s7 _ _ hR2, ?_, same_put (s6.trans s7) nR2, ?_⟩⟩
          · rw [F.ord]
            omega
          · rw [List.length_map, List.length_map, List.length_take]
            exact small (by omega)
          · rw [upd_same, map_snoc, Int.zero_add, Int.zero_add, ← take_rg hc fun c => sgn ps j r c]
        · rintro H5 ⟨s6, hR2⟩
          rw [take_rg_all] at hR2
          have hR5 := s6 _ _ hR
          have ne2T : R2 ≠ T := (ne_of_none (s5 _ _ hT) nR2).symm
          have ne2R : R2 ≠ R := (ne_of_none hR nR2).symm
          refine ⟨rs.map V.ref, hR5, ?_, same_put (s5.trans s6) nR, rs ++ [R2], ?_, ?_, fun k b e => ?_⟩
          · rw [List.length_map, hrs]
            exact small (by omega)
          · rw [List.length_append, hrs]
            rfl
          · rw [upd_same, List.map_append]
            rfl
          · by_cases hkr : k < rs.length
            · rw [List.getElem?_append_left hkr] at e
              obtain ⟨h1, h2, h3⟩ := hat k b e
              refine ⟨?_, h2, h3⟩
              rw [upd_ne h3]
              exact s6 _ _ h1
            · rw [List.getElem?_append_right (by omega)] at e
              have hk0 : k - rs.length = 0 := by
                have := (List.getElem?_eq_some_iff.mp e).1
                rw [List.length_singleton] at this
                omega
              rw [hk0] at e
              have eb : R2 = b := Option.some.inj e
              have ek : k = r := by omega
              rw [← eb, ek]
              refine ⟨?_, ne2T, ne2R⟩
              rw [upd_ne ne2R]
              exact hR2
      rintro H5 ⟨s5, rs, hrs, hR, hat⟩
      have SQ := F.sq j j1 j2
      -- the rows and the columns are sorted and looked at
      refine ⟨_, rfl, (n : Int), rfl, by omega, by omega, for_range (lo := 0) (n := n) (fun c σ H6 => ∃ (z11 z13 : Option V),
        σ = [some (.ref a), some (.ref nl), some (.ref pl), some (.int (n : Int)), some (.ref x), some (.int (m : Int)), y6, some (.int (0 + (k : Int))), some (.ref T), some (.int j), some (.ref R), z11, y12, z13, y14, y15, y16] ∧ Same H5 H6)
        ⟨_, _, rfl, Same.refl H5⟩ ?_ ?_⟩
      · rintro c σ H6 hc ⟨z11, z13, rfl, s6⟩
        have hcs : rs[c]? = some rs[c] := List.getElem?_eq_getElem (by omega)
        generalize rs[c] = b at hcs
        have hb6 := s6 _ _ (hat c b hcs).1
        have rg : RgOk 0 (n : Int) := RgOk.of_le (by decide) (by omega) (by decide) (by omega)
        refine ⟨_, rfl, _, rfl, R, _, _, _, rfl, rfl, .inl (.inl (s6 _ _ hR)), ref_at (k := c) (by omega) hcs, b, rowT ps j n c, rfl, .inl (.inl hb6), fun ns' p hp hs np => ?_⟩
        have en := srt_is hp (SQ.row c hc) hs
        subst en
        refine ⟨_, rfl, (n : Int), rfl, rg, fun p2 np2 => ?_⟩
        rw [rgV_is]
        have s7 := same_put' (o := HO.lst ((rgI n).map V.int)) s6 np
        have s8 := same_put' (o := HO.lst ((rgI n).map V.int)) s7 np2
        refine neI (xs := rgI n) (.inl (.inl (same_new np2 _ _ upd_same))) (.inl (.inl upd_same)) ⟨_, rfl, iteF ?_⟩
        generalize upd (upd H6 p (HO.lst ((rgI n).map V.int))) p2 (HO.lst ((rgI n).map V.int)) = H8 at *
        refine ⟨_, rfl, R, rfl, ⟨_, .inl (.inl (s8 _ _ hR))⟩, fun L2 nL2 => ?_⟩
        refine lc_list (K := K) (a := R) (xs := rs.map V.ref) (fun r H9 => Same H8 H9 ∧ H9 L2 = some (.lst ((((rgI n).take r).map fun r => sgn ps j r c).map V.int))) ⟨same_new nL2, upd_same⟩ (fun r H9 _ h => .inl (.inl (h.1 _ _ (s8 _ _ hR)))) ?_ ?_
        · rintro r y H9 hy ⟨s9, hL2⟩
          obtain ⟨b2, hb2, rfl⟩ := get_ref hy
          have hr2 : r < n := by
            rw [← hrs]
            exact (List.getElem?_eq_some_iff.mp hb2).1
          have h9 := s9 _ _ (s8 _ _ (hat r b2 hb2).1)
          refine ⟨rfl, _, rfl, _, rfl, b2, _, _, _, rfl, rfl, .inl (.inl h9), at_ints (j := c) (by omega) (by rw [rowT_len]; exact hc), _, hL2, ?_, same_put s9 nL2, ?_⟩
          · rw [List.length_map, List.length_map, List.length_take]
            exact small (by have := rgI_len n; omega)
          · rw [upd_same, map_snoc, rowT_at hc, ← take_rg hr2 fun r => sgn ps j r c]
        rintro H9 ⟨s9, hL2⟩
        rw [List.length_map, hrs, take_rg_all] at hL2
        refine ⟨L2, colT ps j n c, rfl, .inl (.inl hL2), fun ns2 p3 hp3 hs3 np3 => ?_⟩
        have en3 := srt_is hp3 (SQ.col c hc) hs3
        subst en3
        refine ⟨_, rfl, (n : Int), rfl, rg, fun p4 np4 => ?_⟩
        rw [rgV_is]
        have s10 := same_put' (o := HO.lst ((rgI n).map V.int)) (s8.trans s9) np3
        have s11 := same_put' (o := HO.lst ((rgI n).map V.int)) s10 np4
        exact neI (xs := rgI n) (.inl (.inl (same_new np4 _ _ upd_same))) (.inl (.inl upd_same)) ⟨_, rfl, iteF ⟨_, _, rfl, s11⟩⟩
      · rintro σ H6 ⟨z11, z13, rfl, s6⟩
        have s56 := s5.trans s6
        have hT6 := s56 _ _ hT
        refine ⟨_, rfl, .inl ⟨rfl, _, SqL.of hT6⟩, _, rfl, _, rfl, szl (by decide : 2 ≤ 1000), fun u nu => ?_⟩
        have s7 := same_put' (o := HO.tup [.int j, .ref R]) s56 nu
        have hT7 := same_new (o := HO.tup [.int j, .ref R]) nu _ _ hT6
        have tab : TabAt (upd H6 u (.tup [.int j, .ref R])) R T ps j n := ⟨rs, ⟨same_new nu _ _ (s6 _ _ hR), nRT⟩, hrs, fun r b e => ⟨same_new nu _ _ (s6 _ _ (hat r b e).1), (hat r b e).2.1⟩⟩
        refine ⟨T, _, _, rfl, rfl, hT7, ?_, us ++ [u], _, _, _, _, _, _, _, _, _, _, rfl, same_put (sm.trans s7) nT, ?_, ?_, fun u' hu' => ?_⟩
        · rw [List.length_map, hul]
          exact small (by omega)
        · rw [upd_same, List.map_append]
          rfl
        · rw [List.length_append, hul]
          rfl
        · rcases List.mem_append.mp hu' with h1 | h1
          · exact ((hue u' h1).same s7).put hT7
          · rw [List.mem_singleton.mp h1]
            exact EntAt.put ⟨j, R, ⟨j1, j2⟩, upd_same, tab⟩ hT7
    · rintro σ Hc ⟨us, y6, y7, y9, y10, y11, y12, y13, y14, y15, y16, rfl, sm, hT, hul, hue⟩
      obtain ⟨u0, u1, rfl⟩ : ∃ u0 u1, us = [u0, u1] := by
        match us, hul with
        | [u0, u1], _ => exact ⟨u0, u1, rfl⟩
      obtain ⟨a0, R0, ⟨a01, a02⟩, hu0, rs0, ⟨hR0, _⟩, hrs0, hat0⟩ := hue u0 (List.mem_cons_self ..)
      obtain ⟨a1, R1, ⟨a11, a12⟩, hu1, rs1, ⟨hR1, _⟩, hrs1, hat1⟩ := hue u1 (List.mem_cons_of_mem _ (List.mem_cons_self ..))
      have hnn : n * n ≤ 400 := Nat.mul_le_mul n20 n20
      dsimp only
      refine cutS (fun σ' H' => ∃ (z11 z12 z14 : Option V), σ' = [some (.ref a), some (.ref nl), some (.ref pl), some (.int (n : Int)), some (.ref x), some (.int (m : Int)), y6, y7, some (.ref T), y9, y10, z11, z12, y13, z14, y15, y16] ∧ Same Hc H') ?_ fun hZ => ?_
      · -- the trees
        rintro σ' H' ⟨z11, z12, z14, rfl, sc⟩
        refine ⟨_, rfl, T, _, 0, .ref u0, rfl, rfl, .inl (.inl (sc _ _ hT)), rfl, u0, _, rfl, .inl (.inl (sc _ _ hu0)), rfl, _, _, rfl, _, _, rfl, rfl, ?_⟩
        have s47 := sm.trans sc
        refine ⟨_, rfl, _, rfl, x, ps, a0, rfl, FA4.same s47, F.good, F.two, ⟨a01, by rw [F.many]; exact a02⟩, fun H8 t s8 hTr => ?_⟩
        have NJ := F.num a01 a02
        refine ⟨_, rfl, t, ps, a0, rfl, hTr, F.good, NJ, fun H9 s9 => ⟨_, rfl, rfl, _, rfl, iteNDI F.cnt ?_⟩⟩
        have s89 := sc.trans (s8.trans s9)
        refine ⟨5, rfl, by decide, by decide, for_range (lo := 0) (n := 5) (fun k σ H10 => ∃ (w7 w11 w12 w16 : Option V), σ = [some (.ref a), some (.ref nl), some (.ref pl), some (.int (n : Int)), some (.ref x), some (.int (m : Int)), y6, w7, some (.ref T), some (.int a0), some (.ref R0), w11, w12, y13, z14, some (.ref t), w16] ∧ Same H9 H10)
          ⟨_, _, _, _, rfl, Same.refl H9⟩ ?_ ?_⟩
        · rintro k σ H10 hk ⟨w7, w11, w12, w16, rfl, s10⟩
          have sA := s89.trans s10
          have hnl := sA _ _ (sm _ _ hnl4)
          have hnp : (0 : Int) < (n : Int) := by omega
          refine ⟨_, rfl, _, rfl, _, _, rfl, rfl, nl, _, _, _, rfl, rfl, .inl (.inl hnl), at_ints (j := 4 + k) (by omega) (by omega), .inl ⟨_, rfl, _, rfl, _, _, rfl, rfl, hnp, ?_⟩⟩
          refine ⟨_, rfl, _, rfl, _, _, rfl, rfl, nl, _, _, _, rfl, rfl, .inl (.inl hnl), at_ints (j := 10 + k) (by omega) (by omega), .inl ⟨_, rfl, _, rfl, _, _, rfl, rfl, hnp, ?_⟩⟩
          have hr0 := mod_bd hnp (xs.getD (4 + k) 0)
          have hc0 := mod_bd hnp (xs.getD (10 + k) 0)
          obtain ⟨r, er, hr1⟩ : ∃ r : Nat, xs.getD (4 + k) 0 % (n : Int) = (r : Int) ∧ r < n := ⟨(xs.getD (4 + k) 0 % (n : Int)).toNat, by omega, by omega⟩
          obtain ⟨c, ec, hc1⟩ : ∃ c : Nat, xs.getD (10 + k) 0 % (n : Int) = (c : Int) ∧ c < n := ⟨(xs.getD (10 + k) 0 % (n : Int)).toNat, by omega, by omega⟩
          dsimp only
          rw [er, ec]
          have hrs : rs0[r]? = some rs0[r] := List.getElem?_eq_getElem (by omega)
          generalize rs0[r] = b at hrs
          have hb10 := sA _ _ (hat0 r b hrs).1
          refine ⟨_, rfl, _, rfl, R0, _, _, _, rfl, rfl, .inl (.inl (sA _ _ hR0)), ref_at (k := r) rfl hrs, _, rfl, b, _, _, _, rfl, rfl, .inl (.inl hb10), at_ints (j := c) rfl (by rw [rowT_len]; exact hc1), ?_⟩
          rw [rowT_at hc1]
          obtain ⟨⟨g1, g2⟩, g3, g4, g5⟩ := (F.sq a0 a01 a02).cell r c hr1 hc1
          have hT10 := (hTr.same s9).same s10
          have cn := F.cnt
          refine ⟨_, rfl, _, rfl, _, rfl, t, ps, a0, r, c, rfl, hT10, F.good, NJ, by rw [cn]; omega, by rw [cn]; omega, fun H11 s11 => ⟨_, rfl, rfl, _, rfl, iteNDI g3 ?_⟩⟩
          have hT11 := hT10.same s11
          refine ⟨_, rfl, _, rfl, _, rfl, t, ps, a0, c, sgn ps a0 r c, rfl, hT11, F.good, NJ, by rw [cn]; omega, by rw [cn]; omega, fun H12 s12 => ⟨_, rfl, rfl, _, rfl, iteNDI g4 ?_⟩⟩
          have hT12 := hT11.same s12
          refine ⟨_, rfl, _, rfl, _, rfl, t, ps, a0, r, sgn ps a0 r c, rfl, hT12, F.good, NJ, by rw [cn]; omega, by rw [cn]; omega, fun H13 s13 => ⟨_, rfl, rfl, _, rfl, iteNDI g5 ?_⟩⟩
          exact ⟨_, _, _, _, rfl, s10.trans (s11.trans (s12.trans s13))⟩
        · rintro σ H10 ⟨w7, w11, w12, w16, rfl, s10⟩
          exact q _
      · -- the pairs
        refine ⟨_, rfl, T, _, 0, .ref u0, rfl, rfl, .inl (.inl hT), rfl, u0, _, 0, .int a0, rfl, rfl, .inl (.inl hu0), atI_nat (j := 0) rfl, ?_⟩
        refine ⟨_, rfl, T, _, 1, .ref u1, rfl, rfl, .inl (.inl hT), rfl, u1, _, 0, .int a1, rfl, rfl, .inl (.inl hu1), atI_nat (j := 0) rfl, rfl, _, rfl, ite2 (fun g => ?_) (fun g => hZ _ _ ⟨_, _, _, rfl, Same.refl Hc⟩)⟩
        have ne : a0 ≠ a1 := fun e => by
          rw [e, decide_eq_true rfl] at g
          cases g
        refine fun Pd nPd => ?_
        refine ⟨_, rfl, (n : Int), rfl, by omega, by omega, for_range (lo := 0) (n := n) (fun r σ H' => ∃ (z11 z12 : Option V), σ = [some (.ref a), some (.ref nl), some (.ref pl), some (.int (n : Int)), some (.ref x), some (.int (m : Int)), y6, y7, some (.ref T), y9, y10, z11, z12, y13, some (.ref Pd), y15, y16] ∧ Same Hc H' ∧ H' Pd = some (.dT (kvL ps a0 a1 n (r * n))))
          ⟨_, _, rfl, same_new nPd, by rw [Nat.zero_mul]; exact upd_same⟩ ?_ ?_⟩
        · rintro r σ H' hrn ⟨z11, z12, rfl, sc, hPd⟩
          have hrs0' : rs0[r]? = some rs0[r] := List.getElem?_eq_getElem (by omega)
          have hrs1' : rs1[r]? = some rs1[r] := List.getElem?_eq_getElem (by omega)
          generalize rs0[r] = b0 at hrs0'
          generalize rs1[r] = b1 at hrs1'
          refine ⟨_, rfl, (n : Int), rfl, by omega, by omega, for_range (lo := 0) (n := n) (fun c σ H' => ∃ (z12 : Option V), σ = [some (.ref a), some (.ref nl), some (.ref pl), some (.int (n : Int)), some (.ref x), some (.int (m : Int)), y6, y7, some (.ref T), y9, y10, some (.int (0 + (r : Int))), z12, y13, some (.ref Pd), y15, y16] ∧ Same Hc H' ∧ H' Pd = some (.dT (kvL ps a0 a1 n (r * n + c))))
            ⟨_, rfl, sc, hPd⟩ ?_ ?_⟩
          · rintro c σ H6 hc ⟨w12, rfl, s6, hPd6⟩
            have hM : r * n + c < n * n := by
              have := Nat.mul_le_mul_right n (show r + 1 ≤ n from hrn)
              rw [Nat.succ_mul] at this
              omega
            have h0 := s6 _ _ (hat0 r b0 hrs0').1
            have h1 := s6 _ _ (hat1 r b1 hrs1').1
            refine ⟨_, rfl, _, rfl, T, _, 0, .ref u0, rfl, rfl, .inl (.inl (s6 _ _ hT)), rfl, u0, _, 1, .ref R0, rfl, rfl, .inl (.inl (s6 _ _ hu0)), atI_nat (j := 1) rfl, _, rfl, R0, _, _, _, rfl, rfl, .inl (.inl (s6 _ _ hR0)), ref_at (k := r) (by omega) hrs0', _, rfl, b0, _, _, _, rfl, rfl, .inl (.inl h0), at_ints (j := c) (by omega) (by rw [rowT_len]; exact hc), ?_⟩
            refine ⟨_, rfl, T, _, 1, .ref u1, rfl, rfl, .inl (.inl (s6 _ _ hT)), rfl, u1, _, 1, .ref R1, rfl, rfl, .inl (.inl (s6 _ _ hu1)), atI_nat (j := 1) rfl, _, rfl, R1, _, _, _, rfl, rfl, .inl (.inl (s6 _ _ hR1)), ref_at (k := r) (by omega) hrs1', _, rfl, b1, _, _, _, rfl, rfl, .inl (.inl h1), at_ints (j := c) (by omega) (by rw [rowT_len]; exact hc), ?_⟩
            refine ⟨szl (by decide : 2 ≤ 1000), fun o no => ?_⟩
            have hPd7 := same_new (o := HO.tup [.int ((rowT ps a0 n r).getD c 0), .int ((rowT ps a1 n r).getD c 0)]) no _ _ hPd6
            refine ⟨Pd, _, rfl, DPut.t (k := [.inl ((rowT ps a0 n r).getD c 0), .inl ((rowT ps a1 n r).getD c 0)]) hPd7 upd_same ?_, _, rfl, same_put (same_put' s6 no) nPd, ?_⟩
            · rw [kvL_len]
              exact small (by omega)
            · rw [upd_same, rowT_at hc, rowT_at hc, ← key_is (ps := ps) (a := a0) (b := a1) (r := r) hc, kvL_put F a01 a02 a11 a12 ne hM]
              rfl
          · rintro σ H6 ⟨w12, rfl, s6, hPd6⟩
            refine ⟨_, _, rfl, s6, ?_⟩
            rw [Nat.succ_mul]
            exact hPd6
        · rintro σ H' ⟨z11, z12, rfl, sc, hPd⟩
          refine ⟨_, rfl, Pd, _, rfl, hPd, ?_⟩
          refine ⟨_, rfl, _, rfl, _, _, rfl, rfl, .inr ⟨by omega, by omega⟩, rfl, _, rfl, iteNDI ?_ (hZ _ _ ⟨_, _, _, rfl, sc⟩)⟩
          rw [kvL_len]
          exact Int.natCast_mul n n
end
end Ms
set_option maxHeartbeats 0
namespace Ms
open PySem PySem.Spec PyProof.Rows L2
/-! ### the head: the defs as data, the facts, the run of the top -/
def h_is_prime : He.DefD := ⟨("is_prime", none), "is_prime", "is_prime", defArgs (topS 12), defBody (topS 12), defScope (topS 12), [], []⟩
def h_size_of : He.DefD := ⟨("size_of", none), "size_of", "size_of", defArgs (topS 13), defBody (topS 13), defScope (topS 13), [], []⟩
def h_is_field : He.DefD := ⟨("is_field", none), "is_field", "is_field", defArgs (topS 14), defBody (topS 14), defScope (topS 14), [], []⟩
def h_figures_of : He.DefD := ⟨("figures_of", none), "figures_of", "figures_of", defArgs (topS 15), defBody (topS 15), defScope (topS 15), [], []⟩
def h_number_of : He.DefD := ⟨("number_of", none), "number_of", "number_of", defArgs (topS 16), defBody (topS 16), defScope (topS 16), [], []⟩
def h_remainder : He.DefD := ⟨("remainder", none), "remainder", "remainder", defArgs (topS 17), defBody (topS 17), defScope (topS 17), [], []⟩
def h_multiplied : He.DefD := ⟨("multiplied", none), "multiplied", "multiplied", defArgs (topS 18), defBody (topS 18), defScope (topS 18), [], []⟩
def h_raised : He.DefD := ⟨("raised", none), "raised", "raised", defArgs (topS 19), defBody (topS 19), defScope (topS 19), [], []⟩
def h_trimmed : He.DefD := ⟨("trimmed", none), "trimmed", "trimmed", defArgs (topS 20), defBody (topS 20), defScope (topS 20), [], []⟩
def h_have_common : He.DefD := ⟨("have_common", none), "have_common", "have_common", defArgs (topS 21), defBody (topS 21), defScope (topS 21), [], []⟩
def h_turned_round : He.DefD := ⟨("turned_round", none), "turned_round", "turned_round", defArgs (topS 22), defBody (topS 22), defScope (topS 22), [], []⟩
def h_is_irreducible : He.DefD := ⟨("is_irreducible", none), "is_irreducible", "is_irreducible", defArgs (topS 23), defBody (topS 23), defScope (topS 23), [], []⟩
def h_lower_of : He.DefD := ⟨("lower_of", none), "lower_of", "lower_of", defArgs (topS 24), defBody (topS 24), defScope (topS 24), [], []⟩
def h_sum_of : He.DefD := ⟨("sum_of", none), "sum_of", "sum_of", defArgs (topS 25), defBody (topS 25), defScope (topS 25), [], []⟩
def h_less_of : He.DefD := ⟨("less_of", none), "less_of", "less_of", defArgs (topS 26), defBody (topS 26), defScope (topS 26), [], []⟩
def h_product_of : He.DefD := ⟨("product_of", none), "product_of", "product_of", defArgs (topS 27), defBody (topS 27), defScope (topS 27), [], []⟩
def h_power_of : He.DefD := ⟨("power_of", none), "power_of", "power_of", defArgs (topS 28), defBody (topS 28), defScope (topS 28), [], []⟩
def h_inverse_of : He.DefD := ⟨("inverse_of", none), "inverse_of", "inverse_of", defArgs (topS 29), defBody (topS 29), defScope (topS 29), [], []⟩
def h_is_prime_power : He.DefD := ⟨("is_prime_power", none), "is_prime_power", "is_prime_power", defArgs (topS 34), defBody (topS 34), defScope (topS 34), [], []⟩
def h_checked_parts : He.DefD := ⟨("checked_parts", none), "checked_parts", "checked_parts", defArgs (topS 35), defBody (topS 35), defScope (topS 35), [], []⟩
def h_tree_of : He.DefD := ⟨("tree_of", none), "tree_of", "tree_of", defArgs (topS 39), defBody (topS 39), defScope (topS 39), [], []⟩
def h_require : He.DefD := ⟨("require", none), "require", "require", defArgs (topS 48), defBody (topS 48), defScope (topS 48), [], []⟩
def h_checked_leaf : He.DefD := ⟨("checked_leaf", none), "checked_leaf", "checked_leaf", defArgs (topS 50), defBody (topS 50), defScope (topS 50), [], []⟩
def h_checked_part : He.DefD := ⟨("checked_part", none), "checked_part", "checked_part", defArgs (topS 51), defBody (topS 51), defScope (topS 51), [.int 1], []⟩
def h_order : He.DefD := ⟨("order", none), "order", "order", defArgs (topS 52), defBody (topS 52), defScope (topS 52), [], []⟩
def h_count_of : He.DefD := ⟨("count_of", none), "count_of", "count_of", defArgs (topS 54), defBody (topS 54), defScope (topS 54), [], []⟩
def h_ready : He.DefD := ⟨("ready", none), "ready", "ready", defArgs (topS 55), defBody (topS 55), defScope (topS 55), [], []⟩
def h_missing_in_field : He.DefD := ⟨("missing_in_field", none), "missing_in_field", "missing_in_field", defArgs (topS 58), defBody (topS 58), defScope (topS 58), [], []⟩
def h_missing_of : He.DefD := ⟨("missing_of", none), "missing_of", "missing_of", defArgs (topS 59), defBody (topS 59), defScope (topS 59), [], []⟩
def h_asked : He.DefD := ⟨("asked", none), "asked", "asked", defArgs (topS 60), defBody (topS 60), defScope (topS 60), [], []⟩
def h_sign : He.DefD := ⟨("sign", none), "sign", "sign", defArgs (topS 61), defBody (topS 61), defScope (topS 61), [], []⟩
def h_row_of : He.DefD := ⟨("row_of", none), "row_of", "row_of", defArgs (topS 62), defBody (topS 62), defScope (topS 62), [], []⟩
def h_column_of : He.DefD := ⟨("column_of", none), "column_of", "column_of", defArgs (topS 63), defBody (topS 63), defScope (topS 63), [], []⟩
def h__law_row : He.DefD := ⟨("_law_row", none), "_law_row", "_law_row", defArgs (topS 65), defBody (topS 65), defScope (topS 65), [], []⟩
def h__law_numbers : He.DefD := ⟨("_law_numbers", none), "_law_numbers", "_law_numbers", defArgs (topS 66), defBody (topS 66), defScope (topS 66), [], []⟩
def h__law_size : He.DefD := ⟨("_law_size", none), "_law_size", "_law_size", defArgs (topS 67), defBody (topS 67), defScope (topS 67), [], []⟩
def h__law_order : He.DefD := ⟨("_law_order", none), "_law_order", "_law_order", defArgs (topS 68), defBody (topS 68), defScope (topS 68), [], []⟩
def h__law_small : He.DefD := ⟨("_law_small", none), "_law_small", "_law_small", defArgs (topS 69), defBody (topS 69), defScope (topS 69), [], []⟩
def h_law : He.DefD := ⟨("law", none), "law", "law", defArgs (topS 70), defBody (topS 70), defScope (topS 70), [], []⟩
def m___init__ : He.DefD := ⟨("Family", some "__init__"), "__init__", "Family.__init__", defArgs (inClass (topS 36) 0), defBody (inClass (topS 36) 0), defScope (inClass (topS 36) 0), [], []⟩
def m_split : He.DefD := ⟨("Family", some "split"), "split", "Family.split", defArgs (inClass (topS 36) 1), defBody (inClass (topS 36) 1), defScope (inClass (topS 36) 1), [], []⟩
def m_joined : He.DefD := ⟨("Family", some "joined"), "joined", "Family.joined", defArgs (inClass (topS 36) 2), defBody (inClass (topS 36) 2), defScope (inClass (topS 36) 2), [], []⟩
def m_check_kind : He.DefD := ⟨("Family", some "check_kind"), "check_kind", "Family.check_kind", defArgs (inClass (topS 36) 3), defBody (inClass (topS 36) 3), defScope (inClass (topS 36) 3), [], []⟩
def m_check_point : He.DefD := ⟨("Family", some "check_point"), "check_point", "Family.check_point", defArgs (inClass (topS 36) 4), defBody (inClass (topS 36) 4), defScope (inClass (topS 36) 4), [], []⟩
def m_cell : He.DefD := ⟨("Family", some "cell"), "cell", "Family.cell", defArgs (inClass (topS 36) 5), defBody (inClass (topS 36) 5), defScope (inClass (topS 36) 5), [], []⟩
def m_cell_of : He.DefD := ⟨("Family", some "cell_of"), "cell_of", "Family.cell_of", defArgs (inClass (topS 36) 6), defBody (inClass (topS 36) 6), defScope (inClass (topS 36) 6), [], []⟩
def m_combined : He.DefD := ⟨("Family", some "combined"), "combined", "Family.combined", defArgs (inClass (topS 36) 7), defBody (inClass (topS 36) 7), defScope (inClass (topS 36) 7), [], []⟩
def m_at_cell : He.DefD := ⟨("Family", some "at_cell"), "at_cell", "Family.at_cell", defArgs (inClass (topS 36) 9), defBody (inClass (topS 36) 9), defScope (inClass (topS 36) 9), [], []⟩
def m_told : He.DefD := ⟨("Family", some "told"), "told", "Family.told", defArgs (inClass (topS 36) 10), defBody (inClass (topS 36) 10), defScope (inClass (topS 36) 10), [], []⟩
def m_check_square : He.DefD := ⟨("Family", some "check_square"), "check_square", "Family.check_square", defArgs (inClass (topS 36) 11), defBody (inClass (topS 36) 11), defScope (inClass (topS 36) 11), [], []⟩
def m_sign : He.DefD := ⟨("Family", some "sign"), "sign", "Family.sign", defArgs (inClass (topS 36) 12), defBody (inClass (topS 36) 12), defScope (inClass (topS 36) 12), [], []⟩
def fn1 : List He.DefD := [h_is_prime, h_size_of, h_is_field, h_figures_of, h_number_of, h_remainder, h_multiplied, h_raised, h_trimmed, h_have_common, h_turned_round, h_is_irreducible, h_lower_of, h_sum_of, h_less_of, h_product_of, h_power_of, h_inverse_of, h_is_prime_power, h_checked_parts, h_tree_of, h_require, h_checked_leaf, h_checked_part, h_order]
def fn2 : List He.DefD := [h_count_of, h_ready, h_missing_in_field, h_missing_of, h_asked, h_sign, h_row_of, h_column_of, h__law_row, h__law_numbers, h__law_size, h__law_order, h__law_small, h_law, m___init__, m_split, m_joined, m_check_kind, m_check_point, m_cell, m_cell_of, m_combined, m_at_cell, m_told, m_check_square, m_sign]
def fn : List He.DefD := fn1 ++ fn2
def fa1 : List He.Fa := [.glo "is_prime", .glo "size_of", .glo "is_field", .glo "figures_of", .glo "number_of", .glo "remainder", .glo "multiplied", .glo "raised", .glo "trimmed", .glo "have_common", .glo "turned_round", .glo "is_irreducible", .glo "lower_of", .glo "sum_of", .glo "less_of", .glo "product_of", .glo "power_of", .glo "inverse_of", .glo "is_prime_power", .glo "checked_parts", .glo "tree_of", .glo "require", .glo "checked_leaf", .glo "checked_part", .glo "order", .glo "count_of", .glo "ready", .glo "missing_in_field", .glo "missing_of", .glo "asked", .glo "sign", .glo "row_of", .glo "column_of", .glo "_law_row", .glo "_law_numbers", .glo "_law_size", .glo "_law_order", .glo "_law_small", .glo "law"]
def fa2 : List He.Fa := [.glo "Family", .int "MOST_PRIME" (10 ^ 6), .int "MOST_BASE" (97), .int "MOST_DEGREE" (12), .int "MOST_SIZE" (10 ^ 15), .int "MOST_ORDER_families" (10 ^ 30), .int "COLUMN_families" (-1), .int "ROW_families" (0), .int "MOST_FIELDS" (6), .int "MOST_ORDER_squares" (10 ^ 30), .int "MOST_PARTS" (12), .int "ROW_squares" (0), .int "COLUMN_squares" (1), .int "SIGN" (2), .free "range", .free "len", .free "list", .free "enumerate", .free "tuple", .free "isinstance", .free "int", .free "all", .free "zip", .free "min", .free "max", .free "abs", .free "sorted"]
def fa3 : List He.Fa := [.cls "Family", .mkr "Family", .glo "MEMBERS", .noat "Family" "parts", .noat "Family" "sizes", .noat "Family" "many", .noat "Family" "lowers", .noat "Family" "order", .meth "Family" "split", .meth "Family" "joined", .meth "Family" "check_kind", .meth "Family" "check_point", .meth "Family" "cell", .meth "Family" "cell_of", .meth "Family" "combined", .meth "Family" "at_cell", .meth "Family" "told", .meth "Family" "check_square", .meth "Family" "sign"]
def fa : List He.Fa := fa1 ++ (fa2 ++ fa3)
def tabs : List He.Tab := [(fun K => He.ga K "MEMBERS", ["sum", "field", "listed", "product", "turned"])]
def exB (K : PySem.W.Frag) : Bool := He.valsB K (He.ga K "MEMBERS") [("sum", .int 4), ("field", .int 4), ("listed", .int 2), ("product", .int 3), ("turned", .int 3)]
def loose1 : List PySem.Str := ["_wall", "MatedsquaresError", "InvalidSquare", "InvalidOrder", "InvalidQuestion", "MOST_PRIME", "MOST_BASE", "MOST_DEGREE", "MOST_SIZE", "is_prime", "size_of", "is_field", "figures_of", "number_of", "remainder", "multiplied", "raised", "trimmed", "have_common", "turned_round", "is_irreducible", "lower_of", "sum_of", "less_of", "product_of", "power_of", "inverse_of", "MOST_ORDER_families", "COLUMN_families", "ROW_families", "is_prime_power", "checked_parts"]
def loose2 : List PySem.Str := ["Family", "MOST_FIELDS", "tree_of", "MOST_ORDER_squares", "MOST_PARTS", "MOST_LISTED", "ROW_squares", "COLUMN_squares", "SIGN", "MEMBERS", "require", "checked_rows", "checked_leaf", "checked_part", "order", "inverse_modulo", "count_of", "ready", "missing_in_listed", "missing_in_sum", "missing_in_field", "missing_of", "asked", "sign", "row_of", "column_of", "_law_row", "_law_numbers", "_law_size", "_law_order", "_law_small"]
def looseN : List PySem.Str := loose1 ++ loose2
abbrev Rw : PySem.W.OpenRow := PySem.W.OpenLaw.row PySem.Challenge.rw_matedsquares_k46_whole_small_families
abbrev qv : Program := PySem.W.view Rw.prog [0, 70]
abbrev hk : PySem.W.Hook := He.hookX 5 fa fn tabs [] exB
def ob (s : PySem.W.SharedT) : He.AlX := He.obsX 5 fa fn tabs [] exB (HandSHeadRun.getT s)
theorem ob_eq (s : PySem.W.SharedT) : ob s = hk.obs s.abs := He.obsX_eq (HandSHeadRun.getT_eq s)
theorem runF (w : World) : HandSHeadRun.RunEqI Rw qv hk ob 20000 looseN (w.withFollow "special-get-raises" false) := by
  unfold HandSHeadRun.RunEqI
  kernel_rfl
theorem runT (w : World) : HandSHeadRun.RunEqI Rw qv hk ob 20000 looseN (w.withFollow "special-get-raises" true) := by
  unfold HandSHeadRun.RunEqI
  kernel_rfl
theorem run (w : World) : HandSHeadRun.RunEqI Rw qv hk ob 20000 looseN w :=
  PySem.W.byRow2 "special-get-raises" (P := HandSHeadRun.RunEqI Rw qv hk ob 20000 looseN) runF runT w
end Ms
namespace Ms
open PySem PySem.Spec PyProof.Rows L2
/-! ### the facts, and every def by them -/
theorem facts {P : Program} {w : World} {K : PySem.W.Frag} {h : Heap} {mg : Str → Option Value} {f : Addr} (X : K.In h) (GG : h.Ns mainGlobals mg) (hfa : mg ("law" : Str) = some (.ref f)) (c : He.SaysX fa fn tabs [] exB w h K) :
    ∃ fd : FuncData, (∀ (s : Shared) (v : Value), BindsTo s fd ⟨[v], []⟩ [("_law_script", v)]) ∧ ∀ base : Heap, K.In base → base.Ns mainGlobals mg → FnOk P w K mg base CX0 10 f fd ["_law_script"] (spLaw K) := by
  have d := c.t.d
  have g_is_prime := He.glo_ok X GG (d.fact 0 (f := .glo "is_prime") rfl)
  have g_size_of := He.glo_ok X GG (d.fact 1 (f := .glo "size_of") rfl)
  have g_is_field := He.glo_ok X GG (d.fact 2 (f := .glo "is_field") rfl)
  have g_figures_of := He.glo_ok X GG (d.fact 3 (f := .glo "figures_of") rfl)
  have g_number_of := He.glo_ok X GG (d.fact 4 (f := .glo "number_of") rfl)
  have g_remainder := He.glo_ok X GG (d.fact 5 (f := .glo "remainder") rfl)
  have g_multiplied := He.glo_ok X GG (d.fact 6 (f := .glo "multiplied") rfl)
  have g_raised := He.glo_ok X GG (d.fact 7 (f := .glo "raised") rfl)
  have g_trimmed := He.glo_ok X GG (d.fact 8 (f := .glo "trimmed") rfl)
  have g_have_common := He.glo_ok X GG (d.fact 9 (f := .glo "have_common") rfl)
  have g_turned_round := He.glo_ok X GG (d.fact 10 (f := .glo "turned_round") rfl)
  have g_is_irreducible := He.glo_ok X GG (d.fact 11 (f := .glo "is_irreducible") rfl)
  have g_lower_of := He.glo_ok X GG (d.fact 12 (f := .glo "lower_of") rfl)
  have g_sum_of := He.glo_ok X GG (d.fact 13 (f := .glo "sum_of") rfl)
  have g_less_of := He.glo_ok X GG (d.fact 14 (f := .glo "less_of") rfl)
  have g_product_of := He.glo_ok X GG (d.fact 15 (f := .glo "product_of") rfl)
  have g_power_of := He.glo_ok X GG (d.fact 16 (f := .glo "power_of") rfl)
  have g_inverse_of := He.glo_ok X GG (d.fact 17 (f := .glo "inverse_of") rfl)
  have g_is_prime_power := He.glo_ok X GG (d.fact 18 (f := .glo "is_prime_power") rfl)
  have g_checked_parts := He.glo_ok X GG (d.fact 19 (f := .glo "checked_parts") rfl)
  have g_tree_of := He.glo_ok X GG (d.fact 20 (f := .glo "tree_of") rfl)
  have g_require := He.glo_ok X GG (d.fact 21 (f := .glo "require") rfl)
  have g_checked_leaf := He.glo_ok X GG (d.fact 22 (f := .glo "checked_leaf") rfl)
  have g_checked_part := He.glo_ok X GG (d.fact 23 (f := .glo "checked_part") rfl)
  have g_order := He.glo_ok X GG (d.fact 24 (f := .glo "order") rfl)
  have g_count_of := He.glo_ok X GG (d.fact 25 (f := .glo "count_of") rfl)
  have g_ready := He.glo_ok X GG (d.fact 26 (f := .glo "ready") rfl)
  have g_missing_in_field := He.glo_ok X GG (d.fact 27 (f := .glo "missing_in_field") rfl)
  have g_missing_of := He.glo_ok X GG (d.fact 28 (f := .glo "missing_of") rfl)
  have g_asked := He.glo_ok X GG (d.fact 29 (f := .glo "asked") rfl)
  have g_sign := He.glo_ok X GG (d.fact 30 (f := .glo "sign") rfl)
  have g_row_of := He.glo_ok X GG (d.fact 31 (f := .glo "row_of") rfl)
  have g_column_of := He.glo_ok X GG (d.fact 32 (f := .glo "column_of") rfl)
  have g__law_row := He.glo_ok X GG (d.fact 33 (f := .glo "_law_row") rfl)
  have g__law_numbers := He.glo_ok X GG (d.fact 34 (f := .glo "_law_numbers") rfl)
  have g__law_size := He.glo_ok X GG (d.fact 35 (f := .glo "_law_size") rfl)
  have g__law_order := He.glo_ok X GG (d.fact 36 (f := .glo "_law_order") rfl)
  have g__law_small := He.glo_ok X GG (d.fact 37 (f := .glo "_law_small") rfl)
  have g_law := He.glo_ok X GG (d.fact 38 (f := .glo "law") rfl)
  have g_Family := He.glo_ok X GG (d.fact 39 (f := .glo "Family") rfl)
  have i_MOST_PRIME : GInt mg "MOST_PRIME" (10 ^ 6) := He.int_ok X GG (d.fact 40 (f := .int "MOST_PRIME" (10 ^ 6)) rfl)
  have i_MOST_BASE : GInt mg "MOST_BASE" (97) := He.int_ok X GG (d.fact 41 (f := .int "MOST_BASE" (97)) rfl)
  have i_MOST_DEGREE : GInt mg "MOST_DEGREE" (12) := He.int_ok X GG (d.fact 42 (f := .int "MOST_DEGREE" (12)) rfl)
  have i_MOST_SIZE : GInt mg "MOST_SIZE" (10 ^ 15) := He.int_ok X GG (d.fact 43 (f := .int "MOST_SIZE" (10 ^ 15)) rfl)
  have i_MOST_ORDER_families : GInt mg "MOST_ORDER_families" (10 ^ 30) := He.int_ok X GG (d.fact 44 (f := .int "MOST_ORDER_families" (10 ^ 30)) rfl)
  have i_COLUMN_families : GInt mg "COLUMN_families" (-1) := He.int_ok X GG (d.fact 45 (f := .int "COLUMN_families" (-1)) rfl)
  have i_ROW_families : GInt mg "ROW_families" (0) := He.int_ok X GG (d.fact 46 (f := .int "ROW_families" (0)) rfl)
  have i_MOST_FIELDS : GInt mg "MOST_FIELDS" (6) := He.int_ok X GG (d.fact 47 (f := .int "MOST_FIELDS" (6)) rfl)
  have i_MOST_ORDER_squares : GInt mg "MOST_ORDER_squares" (10 ^ 30) := He.int_ok X GG (d.fact 48 (f := .int "MOST_ORDER_squares" (10 ^ 30)) rfl)
  have i_MOST_PARTS : GInt mg "MOST_PARTS" (12) := He.int_ok X GG (d.fact 49 (f := .int "MOST_PARTS" (12)) rfl)
  have i_ROW_squares : GInt mg "ROW_squares" (0) := He.int_ok X GG (d.fact 50 (f := .int "ROW_squares" (0)) rfl)
  have i_COLUMN_squares : GInt mg "COLUMN_squares" (1) := He.int_ok X GG (d.fact 51 (f := .int "COLUMN_squares" (1)) rfl)
  have i_SIGN : GInt mg "SIGN" (2) := He.int_ok X GG (d.fact 52 (f := .int "SIGN" (2)) rfl)
  have n_range := He.free_ok X GG (d.fact 53 (f := .free "range") rfl)
  have n_len := He.free_ok X GG (d.fact 54 (f := .free "len") rfl)
  have n_list := He.free_ok X GG (d.fact 55 (f := .free "list") rfl)
  have n_enumerate := He.free_ok X GG (d.fact 56 (f := .free "enumerate") rfl)
  have n_tuple := He.free_ok X GG (d.fact 57 (f := .free "tuple") rfl)
  have n_isinstance := He.free_ok X GG (d.fact 58 (f := .free "isinstance") rfl)
  have n_int := He.free_ok X GG (d.fact 59 (f := .free "int") rfl)
  have n_all := He.free_ok X GG (d.fact 60 (f := .free "all") rfl)
  have n_zip := He.free_ok X GG (d.fact 61 (f := .free "zip") rfl)
  have n_min := He.free_ok X GG (d.fact 62 (f := .free "min") rfl)
  have n_max := He.free_ok X GG (d.fact 63 (f := .free "max") rfl)
  have n_abs := He.free_ok X GG (d.fact 64 (f := .free "abs") rfl)
  have n_sorted := He.free_ok X GG (d.fact 65 (f := .free "sorted") rfl)
  have cF := He.cls_ok (d.fact 66 (f := .cls "Family") rfl)
  have mF := He.mkr_ok (d.fact 67 (f := .mkr "Family") rfl)
  have g_MEMBERS := He.glo_ok X GG (d.fact 68 (f := .glo "MEMBERS") rfl)
  have a_parts := He.noat_ok (d.fact 69 (f := .noat "Family" "parts") rfl)
  have a_sizes := He.noat_ok (d.fact 70 (f := .noat "Family" "sizes") rfl)
  have a_many := He.noat_ok (d.fact 71 (f := .noat "Family" "many") rfl)
  have a_lowers := He.noat_ok (d.fact 72 (f := .noat "Family" "lowers") rfl)
  have a_order := He.noat_ok (d.fact 73 (f := .noat "Family" "order") rfl)
  have t_split := He.meth_ok (d.fact 74 (f := .meth "Family" "split") rfl)
  have t_joined := He.meth_ok (d.fact 75 (f := .meth "Family" "joined") rfl)
  have t_check_kind := He.meth_ok (d.fact 76 (f := .meth "Family" "check_kind") rfl)
  have t_check_point := He.meth_ok (d.fact 77 (f := .meth "Family" "check_point") rfl)
  have t_cell := He.meth_ok (d.fact 78 (f := .meth "Family" "cell") rfl)
  have t_cell_of := He.meth_ok (d.fact 79 (f := .meth "Family" "cell_of") rfl)
  have t_combined := He.meth_ok (d.fact 80 (f := .meth "Family" "combined") rfl)
  have t_at_cell := He.meth_ok (d.fact 81 (f := .meth "Family" "at_cell") rfl)
  have t_told := He.meth_ok (d.fact 82 (f := .meth "Family" "told") rfl)
  have t_check_square := He.meth_ok (d.fact 83 (f := .meth "Family" "check_square") rfl)
  have t_sign := He.meth_ok (d.fact 84 (f := .meth "Family" "sign") rfl)
  obtain ⟨fd_h_is_prime, F_h_is_prime⟩ := d.def_ 0 (d := h_is_prime) rfl
  obtain ⟨fd_h_size_of, F_h_size_of⟩ := d.def_ 1 (d := h_size_of) rfl
  obtain ⟨fd_h_is_field, F_h_is_field⟩ := d.def_ 2 (d := h_is_field) rfl
  obtain ⟨fd_h_figures_of, F_h_figures_of⟩ := d.def_ 3 (d := h_figures_of) rfl
  obtain ⟨fd_h_number_of, F_h_number_of⟩ := d.def_ 4 (d := h_number_of) rfl
  obtain ⟨fd_h_remainder, F_h_remainder⟩ := d.def_ 5 (d := h_remainder) rfl
  obtain ⟨fd_h_multiplied, F_h_multiplied⟩ := d.def_ 6 (d := h_multiplied) rfl
  obtain ⟨fd_h_raised, F_h_raised⟩ := d.def_ 7 (d := h_raised) rfl
  obtain ⟨fd_h_trimmed, F_h_trimmed⟩ := d.def_ 8 (d := h_trimmed) rfl
  obtain ⟨fd_h_have_common, F_h_have_common⟩ := d.def_ 9 (d := h_have_common) rfl
  obtain ⟨fd_h_turned_round, F_h_turned_round⟩ := d.def_ 10 (d := h_turned_round) rfl
  obtain ⟨fd_h_is_irreducible, F_h_is_irreducible⟩ := d.def_ 11 (d := h_is_irreducible) rfl
  obtain ⟨fd_h_lower_of, F_h_lower_of⟩ := d.def_ 12 (d := h_lower_of) rfl
  obtain ⟨fd_h_sum_of, F_h_sum_of⟩ := d.def_ 13 (d := h_sum_of) rfl
  obtain ⟨fd_h_less_of, F_h_less_of⟩ := d.def_ 14 (d := h_less_of) rfl
  obtain ⟨fd_h_product_of, F_h_product_of⟩ := d.def_ 15 (d := h_product_of) rfl
  obtain ⟨fd_h_power_of, F_h_power_of⟩ := d.def_ 16 (d := h_power_of) rfl
  obtain ⟨fd_h_inverse_of, F_h_inverse_of⟩ := d.def_ 17 (d := h_inverse_of) rfl
  obtain ⟨fd_h_is_prime_power, F_h_is_prime_power⟩ := d.def_ 18 (d := h_is_prime_power) rfl
  obtain ⟨fd_h_checked_parts, F_h_checked_parts⟩ := d.def_ 19 (d := h_checked_parts) rfl
  obtain ⟨fd_h_tree_of, F_h_tree_of⟩ := d.def_ 20 (d := h_tree_of) rfl
  obtain ⟨fd_h_require, F_h_require⟩ := d.def_ 21 (d := h_require) rfl
  obtain ⟨fd_h_checked_leaf, F_h_checked_leaf⟩ := d.def_ 22 (d := h_checked_leaf) rfl
  obtain ⟨fd_h_checked_part, F_h_checked_part⟩ := d.def_ 23 (d := h_checked_part) rfl
  obtain ⟨fd_h_order, F_h_order⟩ := d.def_ 24 (d := h_order) rfl
  obtain ⟨fd_h_count_of, F_h_count_of⟩ := d.def_ 25 (d := h_count_of) rfl
  obtain ⟨fd_h_ready, F_h_ready⟩ := d.def_ 26 (d := h_ready) rfl
  obtain ⟨fd_h_missing_in_field, F_h_missing_in_field⟩ := d.def_ 27 (d := h_missing_in_field) rfl
  obtain ⟨fd_h_missing_of, F_h_missing_of⟩ := d.def_ 28 (d := h_missing_of) rfl
  obtain ⟨fd_h_asked, F_h_asked⟩ := d.def_ 29 (d := h_asked) rfl
  obtain ⟨fd_h_sign, F_h_sign⟩ := d.def_ 30 (d := h_sign) rfl
  obtain ⟨fd_h_row_of, F_h_row_of⟩ := d.def_ 31 (d := h_row_of) rfl
  obtain ⟨fd_h_column_of, F_h_column_of⟩ := d.def_ 32 (d := h_column_of) rfl
  obtain ⟨fd_h__law_row, F_h__law_row⟩ := d.def_ 33 (d := h__law_row) rfl
  obtain ⟨fd_h__law_numbers, F_h__law_numbers⟩ := d.def_ 34 (d := h__law_numbers) rfl
  obtain ⟨fd_h__law_size, F_h__law_size⟩ := d.def_ 35 (d := h__law_size) rfl
  obtain ⟨fd_h__law_order, F_h__law_order⟩ := d.def_ 36 (d := h__law_order) rfl
  obtain ⟨fd_h__law_small, F_h__law_small⟩ := d.def_ 37 (d := h__law_small) rfl
  obtain ⟨fd_h_law, F_h_law⟩ := d.def_ 38 (d := h_law) rfl
  obtain ⟨fd_m___init__, F_m___init__⟩ := d.def_ 39 (d := m___init__) rfl
  obtain ⟨fd_m_split, F_m_split⟩ := d.def_ 40 (d := m_split) rfl
  obtain ⟨fd_m_joined, F_m_joined⟩ := d.def_ 41 (d := m_joined) rfl
  obtain ⟨fd_m_check_kind, F_m_check_kind⟩ := d.def_ 42 (d := m_check_kind) rfl
  obtain ⟨fd_m_check_point, F_m_check_point⟩ := d.def_ 43 (d := m_check_point) rfl
  obtain ⟨fd_m_cell, F_m_cell⟩ := d.def_ 44 (d := m_cell) rfl
  obtain ⟨fd_m_cell_of, F_m_cell_of⟩ := d.def_ 45 (d := m_cell_of) rfl
  obtain ⟨fd_m_combined, F_m_combined⟩ := d.def_ 46 (d := m_combined) rfl
  obtain ⟨fd_m_at_cell, F_m_at_cell⟩ := d.def_ 47 (d := m_at_cell) rfl
  obtain ⟨fd_m_told, F_m_told⟩ := d.def_ 48 (d := m_told) rfl
  obtain ⟨fd_m_check_square, F_m_check_square⟩ := d.def_ 49 (d := m_check_square) rfl
  obtain ⟨fd_m_sign, F_m_sign⟩ := d.def_ 50 (d := m_sign) rfl
  have D_is_prime : DefF K mg "is_prime" (topS 12) := ⟨_, _, F_h_is_prime, g_is_prime⟩
  have D_size_of : DefF K mg "size_of" (topS 13) := ⟨_, _, F_h_size_of, g_size_of⟩
  have D_is_field : DefF K mg "is_field" (topS 14) := ⟨_, _, F_h_is_field, g_is_field⟩
  have D_figures_of : DefF K mg "figures_of" (topS 15) := ⟨_, _, F_h_figures_of, g_figures_of⟩
  have D_number_of : DefF K mg "number_of" (topS 16) := ⟨_, _, F_h_number_of, g_number_of⟩
  have D_remainder : DefF K mg "remainder" (topS 17) := ⟨_, _, F_h_remainder, g_remainder⟩
  have D_multiplied : DefF K mg "multiplied" (topS 18) := ⟨_, _, F_h_multiplied, g_multiplied⟩
  have D_raised : DefF K mg "raised" (topS 19) := ⟨_, _, F_h_raised, g_raised⟩
  have D_trimmed : DefF K mg "trimmed" (topS 20) := ⟨_, _, F_h_trimmed, g_trimmed⟩
  have D_have_common : DefF K mg "have_common" (topS 21) := ⟨_, _, F_h_have_common, g_have_common⟩
  have D_turned_round : DefF K mg "turned_round" (topS 22) := ⟨_, _, F_h_turned_round, g_turned_round⟩
  have D_is_irreducible : DefF K mg "is_irreducible" (topS 23) := ⟨_, _, F_h_is_irreducible, g_is_irreducible⟩
  have D_lower_of : DefF K mg "lower_of" (topS 24) := ⟨_, _, F_h_lower_of, g_lower_of⟩
  have D_sum_of : DefF K mg "sum_of" (topS 25) := ⟨_, _, F_h_sum_of, g_sum_of⟩
  have D_less_of : DefF K mg "less_of" (topS 26) := ⟨_, _, F_h_less_of, g_less_of⟩
  have D_product_of : DefF K mg "product_of" (topS 27) := ⟨_, _, F_h_product_of, g_product_of⟩
  have D_power_of : DefF K mg "power_of" (topS 28) := ⟨_, _, F_h_power_of, g_power_of⟩
  have D_inverse_of : DefF K mg "inverse_of" (topS 29) := ⟨_, _, F_h_inverse_of, g_inverse_of⟩
  have D_is_prime_power : DefF K mg "is_prime_power" (topS 34) := ⟨_, _, F_h_is_prime_power, g_is_prime_power⟩
  have D_checked_parts : DefF K mg "checked_parts" (topS 35) := ⟨_, _, F_h_checked_parts, g_checked_parts⟩
  have D_tree_of : DefF K mg "tree_of" (topS 39) := ⟨_, _, F_h_tree_of, g_tree_of⟩
  have D_require : DefF K mg "require" (topS 48) := ⟨_, _, F_h_require, g_require⟩
  have D_checked_leaf : DefF K mg "checked_leaf" (topS 50) := ⟨_, _, F_h_checked_leaf, g_checked_leaf⟩
  have D_checked_part : DefF1 K mg "checked_part" (topS 51) := ⟨_, _, F_h_checked_part, g_checked_part⟩
  have D_order : DefF K mg "order" (topS 52) := ⟨_, _, F_h_order, g_order⟩
  have D_count_of : DefF K mg "count_of" (topS 54) := ⟨_, _, F_h_count_of, g_count_of⟩
  have D_ready : DefF K mg "ready" (topS 55) := ⟨_, _, F_h_ready, g_ready⟩
  have D_missing_in_field : DefF K mg "missing_in_field" (topS 58) := ⟨_, _, F_h_missing_in_field, g_missing_in_field⟩
  have D_missing_of : DefF K mg "missing_of" (topS 59) := ⟨_, _, F_h_missing_of, g_missing_of⟩
  have D_asked : DefF K mg "asked" (topS 60) := ⟨_, _, F_h_asked, g_asked⟩
  have D_sign : DefF K mg "sign" (topS 61) := ⟨_, _, F_h_sign, g_sign⟩
  have D_row_of : DefF K mg "row_of" (topS 62) := ⟨_, _, F_h_row_of, g_row_of⟩
  have D_column_of : DefF K mg "column_of" (topS 63) := ⟨_, _, F_h_column_of, g_column_of⟩
  have D__law_row : DefF K mg "_law_row" (topS 65) := ⟨_, _, F_h__law_row, g__law_row⟩
  have D__law_numbers : DefF K mg "_law_numbers" (topS 66) := ⟨_, _, F_h__law_numbers, g__law_numbers⟩
  have D__law_size : DefF K mg "_law_size" (topS 67) := ⟨_, _, F_h__law_size, g__law_size⟩
  have D__law_order : DefF K mg "_law_order" (topS 68) := ⟨_, _, F_h__law_order, g__law_order⟩
  have D__law_small : DefF K mg "_law_small" (topS 69) := ⟨_, _, F_h__law_small, g__law_small⟩
  have D_law : DefF K mg "law" (topS 70) := ⟨_, _, F_h_law, g_law⟩
  have E___init__ : DefM K (He.ga K "Family") "__init__" "Family.__init__" (famS 0) := ⟨_, _, F_m___init__, cF, ⟨mF.init, mF.fn, F_m___init__.kp⟩⟩
  have E_split : DefM K (He.ga K "Family") "split" "Family.split" (famS 1) := ⟨_, _, F_m_split, cF, t_split⟩
  have E_joined : DefM K (He.ga K "Family") "joined" "Family.joined" (famS 2) := ⟨_, _, F_m_joined, cF, t_joined⟩
  have E_check_kind : DefM K (He.ga K "Family") "check_kind" "Family.check_kind" (famS 3) := ⟨_, _, F_m_check_kind, cF, t_check_kind⟩
  have E_check_point : DefM K (He.ga K "Family") "check_point" "Family.check_point" (famS 4) := ⟨_, _, F_m_check_point, cF, t_check_point⟩
  have E_cell : DefM K (He.ga K "Family") "cell" "Family.cell" (famS 5) := ⟨_, _, F_m_cell, cF, t_cell⟩
  have E_cell_of : DefM K (He.ga K "Family") "cell_of" "Family.cell_of" (famS 6) := ⟨_, _, F_m_cell_of, cF, t_cell_of⟩
  have E_combined : DefM K (He.ga K "Family") "combined" "Family.combined" (famS 7) := ⟨_, _, F_m_combined, cF, t_combined⟩
  have E_at_cell : DefM K (He.ga K "Family") "at_cell" "Family.at_cell" (famS 9) := ⟨_, _, F_m_at_cell, cF, t_at_cell⟩
  have E_told : DefM K (He.ga K "Family") "told" "Family.told" (famS 10) := ⟨_, _, F_m_told, cF, t_told⟩
  have E_check_square : DefM K (He.ga K "Family") "check_square" "Family.check_square" (famS 11) := ⟨_, _, F_m_check_square, cF, t_check_square⟩
  have E_sign : DefM K (He.ga K "Family") "sign" "Family.sign" (famS 12) := ⟨_, _, F_m_sign, cF, t_sign⟩
  have T : TF K (He.ga K "Family") := ⟨cF, a_parts, a_sizes, a_many, a_lowers, a_order⟩
  have gf : GF mg := ⟨i_MOST_PRIME, i_MOST_BASE, i_MOST_DEGREE, i_MOST_SIZE⟩
  have gi : GI mg := ⟨n_isinstance, n_tuple, n_list, n_len, n_all, n_int⟩
  have gt : GT mg K w := by
    obtain ⟨es, n, KD⟩ := c.t.tab 0
    obtain ⟨u1, h1, r1⟩ := He.valsB_ok c.more (q := ("field", .int 4)) (List.mem_cons_of_mem _ (List.mem_cons_self ..))
    obtain ⟨u2, h2, r2⟩ := He.valsB_ok c.more (q := ("product", .int 3)) (List.mem_cons_of_mem _ (List.mem_cons_of_mem _ (List.mem_cons_of_mem _ (List.mem_cons_self ..))))
    exact ⟨i_MOST_PARTS, i_MOST_ORDER_squares, n_len, n_tuple, _, es, n, g_MEMBERS, KD, ⟨u1, h1, r1⟩, ⟨u2, h2, r2⟩⟩
  have e := hfa.symm.trans g_law
  cases e
  have b := FunD.bindsA (ps := ["_law_script"]) F_h_law fun _ _ _ _ _ _ us hl => match us, hl with | [_], _ => rfl
  refine ⟨fd_h_law, fun s v => b s [v] rfl, fun base _ _ => ?_⟩
  have c_size : Cal P w K mg base 1 "size_of" spSize [] := ok_size D_size_of n_range
  have c_fig : Cal P w K mg base 1 "figures_of" spFig [] := ok_fig D_figures_of n_range
  have c_prime : Cal P w K mg base 1 "is_prime" spPrime [] := ok_prime D_is_prime
  have c_num : Cal P w K mg base 1 "number_of" (spNum K) [] := ok_num D_number_of
  have c_sum : Cal P w K mg base 1 "sum_of" (spTog sumOf) [] := ok_sum D_sum_of
  have c_less : Cal P w K mg base 1 "less_of" (spTog lessOf) [] := ok_less D_less_of
  have c_turn : Cal P w K mg base 1 "turned_round" spTurn [] := ok_turn D_turned_round
  have c_rem : Cal P w K mg base 1 "remainder" (spRem K) [] := ok_rem D_remainder n_len n_list n_range n_enumerate
  have c_mul : Cal P w K mg base 1 "multiplied" (spMul K) [] := ok_mul D_multiplied n_len n_enumerate
  have c_raise : Cal P w K mg base 2 "raised" (spRaise K) [] := ok_raise D_raised c_rem c_mul
  have c_trim : Cal P w K mg base 1 "trimmed" (spTrim K) [] := ok_trim D_trimmed n_len n_list
  have c_hc : Cal P w K mg base 2 "have_common" (spHc K) [] := ok_hc D_have_common n_len c_trim c_turn c_rem
  have c_irr : Cal P w K mg base 3 "is_irreducible" (spIrr K) [] := ok_irr D_is_irreducible n_len n_list n_range c_rem c_raise c_hc
  have c_low : Cal P w K mg base 4 "lower_of" spLow [] := ok_low D_lower_of n_tuple c_irr c_fig
  have c_prod : Cal P w K mg base 2 "product_of" (spProd K) [] := ok_prod D_product_of n_len c_mul c_fig c_num c_rem
  have c_pow : Cal P w K mg base 3 "power_of" (spPow K) [] := ok_pow D_power_of n_len c_num c_raise c_fig
  have c_inv : Cal P w K mg base 4 "inverse_of" (spInv K) [] := ok_inv D_inverse_of n_len c_pow c_size
  have c_field : Cal P w K mg base 2 "is_field" spField [] := ok_field D_is_field gf c_prime c_size
  have c_pp : Cal P w K mg base 3 "is_prime_power" spPp [] := ok_pp D_is_prime_power gi c_field
  have c_chk : Cal P w K mg base 4 "checked_parts" spChk [] := ok_chk D_checked_parts gi i_MOST_ORDER_families c_pp c_size
  have m_split : Met P w K mg base 1 (He.ga K "Family") "split" (spSplit K (He.ga K "Family")) := ok_split E_split T
  have m_join : Met P w K mg base 1 (He.ga K "Family") "joined" (spJoin K (He.ga K "Family")) := ok_join E_joined T n_zip
  have m_init : Met P w K mg base 5 (He.ga K "Family") "__init__" (spInit (He.ga K "Family")) := ok_init E___init__ T gi n_min c_chk c_size c_low m_join
  have m_ck : Met P w K mg base 1 (He.ga K "Family") "check_kind" (spCk (He.ga K "Family")) := ok_ck E_check_kind T i_COLUMN_families
  have m_cp : Met P w K mg base 1 (He.ga K "Family") "check_point" (spCp (He.ga K "Family")) := ok_cp E_check_point T
  have m_cs : Met P w K mg base 1 (He.ga K "Family") "check_square" (spCs (He.ga K "Family")) := ok_cs E_check_square T
  obtain ⟨fL, gL, cL⟩ := c_less.at_
  obtain ⟨fS, gS, cS⟩ := c_sum.at_
  have m_comb : Met P w K mg base 3 (He.ga K "Family") "combined" (spComb (He.ga K "Family") fL fS) := ok_comb E_combined T n_zip cL cS c_prod m_split m_join
  have m_co : Met P w K mg base 4 (He.ga K "Family") "cell_of" (spCo (He.ga K "Family")) := ok_co E_cell_of i_COLUMN_families gL m_comb
  have m_cell : Met P w K mg base 5 (He.ga K "Family") "cell" (spCell (He.ga K "Family")) := ok_cell E_cell m_ck m_cp m_co
  have m_at : Met P w K mg base 4 (He.ga K "Family") "at_cell" (spAt (He.ga K "Family")) := ok_at E_at_cell i_COLUMN_families gS m_comb
  have m_told : Met P w K mg base 6 (He.ga K "Family") "told" (spTold (He.ga K "Family")) := ok_told E_told m_cell m_ck m_at
  have m_sgn : Met P w K mg base 7 (He.ga K "Family") "sign" (spSgn (He.ga K "Family")) := ok_sgn E_sign i_COLUMN_families i_ROW_families m_cs m_told
  have c_tr : Cal P w K mg base 2 "tree_of" (spTr (He.ga K "Family")) [] := ok_tr D_tree_of T n_len i_MOST_FIELDS m_cs
  have c_req : Cal P w K mg base 1 "require" spReq [] := ok_req D_require
  have c_lf : Cal P w K mg base 3 "checked_leaf" spLf [] := ok_lf D_checked_leaf n_tuple c_req c_field c_size
  have c_pt : Cal P w K mg base 5 "checked_part" spPt [.int 1] := ok_pt D_checked_part gt c_req c_lf
  have c_ord : Cal P w K mg base 6 "order" spOrd [] := ok_ord D_order c_pt
  have c_cnt : Cal P w K mg base 2 "count_of" spCnt [] := ok_cnt D_count_of c_size
  have c_rd : Cal P w K mg base 6 "ready" spRd [] := ok_rd D_ready c_low c_cnt
  have c_mf : Cal P w K mg base 5 "missing_in_field" spMf [] := ok_mf D_missing_in_field i_SIGN i_COLUMN_squares c_less c_sum c_prod c_inv
  have c_mo : Cal P w K mg base 7 "missing_of" spMo [] := ok_mo D_missing_of n_tuple c_mf
  have c_ak : Cal P w K mg base 8 "asked" spAk [] := ok_ak D_asked c_pt c_rd c_mo
  have c_lr : Cal P w K mg base 1 "_law_row" spLr [] := ok_lr D__law_row n_range n_int n_abs
  have L : LE P w K mg base (He.ga K "Family") :=
    { cN := ok_ln D__law_numbers n_len n_max c_lr, cS := ok_sm D__law_small n_int, cO := ok_lo D__law_order (ok_lz D__law_size n_range), cZ := ok_lz D__law_size n_range, cI := m_init, mkF := ⟨_, mF⟩, mF := g_Family, cG := m_sgn, cT := c_tr, cR := c_ord,
      cs := ok_Sg D_sign i_SIGN c_ak, cr := ok_Rw_ D_row_of i_ROW_squares c_ak, cc := ok_Cl D_column_of i_COLUMN_squares c_ak, mn := n_min, rg := n_range, it := n_int, so := n_sorted, li := n_list, le := n_len, T := T }
  exact ok_law D_law L _ _ F_h_law
end Ms
open PySem PySem.W PySem.Calls PyProof.Rows
theorem PySem.Challenge.cw_matedsquares_k46_whole_small_families_holds : PySem.Challenge.rw_matedsquares_k46_whole_small_families.Holds := by
  w_on; o_law
  refine HandSHeadRun.head_imp (r := Ms.Rw) (q := Ms.qv) (H := Ms.hk) (ob := Ms.ob) (M := 20000) (loose := Ms.looseN) (d := HandSHeadRun.topDef Ms.Rw.prog 70) (kwd := []) Ms.ob_eq Ms.run
    (by kernel_rfl) (by kernel_rfl) (by kernel_rfl) (by rfl) (by first | assumption | decide +kernel) (by decide +kernel) ⟨rfl, rfl, rfl, rfl, rfl, by decide +kernel⟩ ?hw ?hc
  case hw => w_witness2
  case hc =>
    refine L2.walk_ofE (l := PySem.Challenge.rw_matedsquares_k46_whole_small_families) (n := 63) (k := 10) (x := "_law_script") (CX := L2.CX0) rfl (by decide) (by kernel_rfl) ⟨rfl, by decide, by decide⟩ ?F (fun _ _ _ _ z => z)
    intro w mg fa h Y G hmg0
    obtain ⟨K, KX, c⟩ := Y
    have hmg : mg ("law" : PySem.Str) = some (.ref fa) := by
      have e : (HandSHeadRun.topDef Ms.Rw.prog 70).name = ("law" : PySem.Str) := by kernel_rfl
      rw [← e]
      exact hmg0
    obtain ⟨fd, hb, hF⟩ := Ms.facts (P := (PySem.Challenge.rw_matedsquares_k46_whole_small_families).prog) (w := w) KX G hmg c
    exact ⟨K, fd, Ms.spLaw K, KX, hb, fun H a ns hl _ hS => ⟨a, ns, rfl, hS, hl, fun _ => rfl⟩, hF⟩
