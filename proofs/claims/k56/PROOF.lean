import PyProof.Rows.All
import Wide.All
import OpenK.AllK
import Wide.FinOn
import HandS.ForMost
import HandS.Wide
import HandS.Exc
import HandS.ExcOwn
import HandS.TryOnly
import HandS.WordsExc
import HandS.Lambda
import HandS.TupAny
import HandS.TupLen
import HandS.TupMul
import HandS.Conv
import HandS.Zip
import HandS.WordsDict
import HandS.WideMore
import HandS.EndTab
import KE.KNestM
import PySem.Challenge.RW_shiftsandcells_k56_whole_patterns_told_o
set_option Elab.async false
set_option linter.all false
set_option maxRecDepth 100000
set_option maxHeartbeats 2000000
/-! Mp0: plain values W, what is computed (R, M), and the operations on plain values. -/
namespace Mp
open PySem PySem.Spec L2
open PyProof.Rows hiding St

/-! ### plain values -/
inductive W where
  | non | bl (b : Bool) | int (i : Int) | str (s : List Nat)
  | tup (xs : List W) | lst (xs : List W) | dct (kvs : List (W × W))
  | rng (lo hi : Int) | obj (n : Nat) | scr (ns : List Int)
  deriving Inhabited

/-! ### what is computed -/
inductive R (α : Type) where
  | ok (a : α) (ρ : List (Option W)) (G : List W)
  | exc (n : Nat) (G : List W)
  | bad
abbrev M (α : Type) := List (Option W) → List W → R α
def M.pure {α : Type} (a : α) : M α := fun ρ G => .ok a ρ G
def M.bind {α β : Type} (m : M α) (f : α → M β) : M β := fun ρ G =>
  match m ρ G with
  | .ok a ρ' G' => f a ρ' G'
  | .exc n G' => .exc n G'
  | .bad => .bad
def M.bad {α : Type} : M α := fun _ _ => .bad
/-- a value, or nothing -/
def M.of {α : Type} (o : Option α) : M α := fun ρ G => match o with
  | some a => .ok a ρ G
  | none => .bad

/-- an operand: a slot to be read when it is used, or a value -/
inductive Opd where
  | s (i : Nat) | v (w : W)
def getS (i : Nat) : M W := fun ρ G => match ρ[i]? with
  | some (some w) => .ok w ρ G
  | _ => .bad
def Opd.get : Opd → M W
  | .s i => getS i
  | .v w => M.pure w

/-! ### == -/
mutual
def eqW : W → W → Bool
  | .non, .non => true
  | .bl a, .bl b => a == b
  | .bl a, .int j => (if a then 1 else 0) == j
  | .int i, .bl b => i == (if b then 1 else 0)
  | .int i, .int j => i == j
  | .str x, .str y => x == y
  | .lst xs, .lst ys => eqWs xs ys
  | .tup xs, .tup ys => eqWs xs ys
  | _, _ => false
def eqWs : List W → List W → Bool
  | [], [] => true
  | x :: xs, y :: ys => eqW x y && eqWs xs ys
  | [], _ :: _ => false
  | _ :: _, [] => false
end
mutual
/-- data of at most so many levels -/
def okD : Nat → W → Bool
  | _, .non => true
  | _, .bl _ => true
  | _, .int _ => true
  | _, .str _ => true
  | n + 1, .lst xs => okDs n xs
  | n + 1, .tup xs => okDs n xs
  | _, _ => false
def okDs : Nat → List W → Bool
  | _, [] => true
  | n, x :: xs => okD n x && okDs n xs
end
def wEq (a b : W) : Option W := if okD 64 a && okD 64 b then some (.bl (eqW a b)) else none
def wNe (a b : W) : Option W := if okD 64 a && okD 64 b then some (.bl (!eqW a b)) else none

/-! ### arithmetic -/
def szOk (n : Nat) : Bool := decide (n ≤ 16777216)
def mulOk (i j : Int) : Bool := decide (i.natAbs < 18446744073709551616) || decide (j.natAbs < 18446744073709551616) || (decide (i.natAbs < 2 ^ 100000) && decide (j.natAbs < 2 ^ 100000))
def wAdd : W → W → Option W
  | .int i, .int j => some (.int (i + j))
  | .str a, .str b => if szOk (a.length + b.length) then some (.str (a ++ b)) else none
  | .tup a, .tup b => if szOk (a.length + b.length) then some (.tup (a ++ b)) else none
  | _, _ => none
def wSub : W → W → Option W
  | .int i, .int j => some (.int (i - j))
  | _, _ => none
def repS (s : List Nat) (n : Nat) : List Nat := (List.replicate n s).flatten
def repOk (l : Nat) (n : Int) : Bool := decide (-(2 ^ 63) ≤ n) && decide (n ≤ 16777216) && decide (l * n.toNat ≤ 16777216) && decide (l ≤ 16777216)
def wMul : W → W → Option W
  | .int i, .int j => if mulOk i j then some (.int (i * j)) else none
  | .str s, .int n => if repOk s.length n then some (.str (repS s n.toNat)) else none
  | _, _ => none
/-- // by a divisor above 0 -/
def wDiv : W → W → Option W
  | .int i, .int j => if decide (0 < j) && decide (j.natAbs < 2 ^ 8000) then some (.int (i / j)) else none
  | _, _ => none
def wMod : W → W → Option W
  | .int i, .int j => if decide (0 < j) then some (.int (i % j)) else none
  | _, _ => none
def wNeg : W → Option W
  | .int i => some (.int (-i))
  | _ => none
def wAnd : W → W → Option W
  | .int i, .int j => some (.int (Builtin.bitAnd i j))
  | _, _ => none
def wShl : W → W → Option W
  | .int i, .int j => if decide (0 ≤ j) && decide (j ≤ 1000000) && decide (i.natAbs < 18446744073709551616) then some (.int (i * 2 ^ j.toNat)) else none
  | _, _ => none
def wShr : W → W → Option W
  | .int i, .int j => if decide (0 ≤ j) then some (.int (i / 2 ^ j.toNat)) else none
  | _, _ => none
/-- lists -/
def wAddL : W → W → Option W
  | .lst a, .lst b => if szOk (a.length + b.length) then some (.lst (a ++ b)) else none
  | _, _ => none
def wMulL : W → W → Option W
  | .lst a, .int k => if decide (-(2 ^ 63) ≤ k) && decide (k < 2 ^ 63) && szOk (a.length * k.toNat) then some (.lst (List.replicate k.toNat a).flatten) else none
  | _, _ => none

/-! ### order -/
mutual
/-- < of data alike; none where the places are of other kinds -/
def ltW : W → W → Option Bool
  | .int i, .int j => some (decide (i < j))
  | .str a, .str b => some (decide (a < b))
  | .tup xs, .tup ys => ltWs xs ys
  | _, _ => none
def ltWs : List W → List W → Option Bool
  | [], [] => some false
  | [], _ :: _ => some true
  | _ :: _, [] => some false
  | x :: xs, y :: ys => match eqW x y with
    | true => ltWs xs ys
    | false => ltW x y
end
def wLtI : W → W → Option W
  | .int i, .int j => some (.bl (decide (i < j)))
  | .str a, .str b => some (.bl (decide (a < b)))
  | _, _ => none
def wLe : W → W → Option W
  | .int i, .int j => some (.bl (decide (i ≤ j)))
  | _, _ => none
def wGt : W → W → Option W
  | .int i, .int j => some (.bl (decide (j < i)))
  | _, _ => none
def wGe : W → W → Option W
  | .int i, .int j => some (.bl (decide (j ≤ i)))
  | _, _ => none
def isNon : W → Bool
  | .non => true
  | _ => false
def wIsN (a : W) : Option W := some (.bl (isNon a))
def wNotN (a : W) : Option W := some (.bl (!isNon a))

/-! ### in -/
def flatW : W → Bool
  | .non => true
  | .bl _ => true
  | .int _ => true
  | .str _ => true
  | _ => false
def infx (x : List Nat) : List Nat → Bool
  | [] => x.isEmpty
  | c :: l => x.isPrefixOf (c :: l) || infx x l
/-- x in xs: flat items, a sign in a text, a key of a dict -/
def inW : W → W → Option Bool
  | x, .lst ys => if flatW x && ys.all flatW then some (ys.any fun y => eqW y x) else none
  | x, .tup ys => if flatW x && ys.all flatW then some (ys.any fun y => eqW y x) else none
  | .str [c], .str l => some (decide (c ∈ l))
  | _, _ => none
def wIn (x y : W) : Option W := (inW x y).map W.bl
def wNotIn (x y : W) : Option W := (inW x y).map fun b => W.bl (!b)

/-! ### places, slices -/
def wIx : W → W → Option W
  | .lst xs, .int i => atI xs i
  | .tup xs, .int i => atI xs i
  | .str s, .int i => if szOk s.length then (atI s i).map fun c => W.str [c] else none
  | _, _ => none
def cutL {α : Type} (xs : List α) (lo hi : Option Int) : List α := (xs.drop (HT.sIx xs.length 0 lo)).take (HT.sIx xs.length xs.length hi - HT.sIx xs.length 0 lo)
/-- of texts and tuples -/
def wCut : W → Option Int → Option Int → Option W
  | .str s, lo, hi => if szOk s.length then some (.str (cutL s lo hi)) else none
  | .tup xs, lo, hi => some (.tup (cutL xs lo hi))
  | _, _, _ => none
def wCutL : W → Option Int → Option Int → Option W
  | .lst xs, lo, hi => some (.lst (cutL xs lo hi))
  | _, _, _ => none
def wLen : W → Option W
  | .lst xs => some (.int xs.length)
  | .tup xs => some (.int xs.length)
  | .str s => if szOk s.length then some (.int s.length) else none
  | .dct kvs => some (.int kvs.length)
  | _ => none
/-- truth -/
def truW : W → Option Bool
  | .non => some false
  | .bl b => some b
  | .int i => some (i != 0)
  | .str s => if szOk s.length then some (!s.isEmpty) else none
  | .lst xs => some (!xs.isEmpty)
  | .tup xs => some (!xs.isEmpty)
  | .dct kvs => some (!kvs.isEmpty)
  | _ => none
def wNot (a : W) : Option W := (truW a).map fun b => W.bl (!b)
def boolW : W → Option Bool
  | .bl b => some b
  | _ => none
def intW : W → Option Int
  | .int i => some i
  | _ => none
def intsW : List W → Option (List Int)
  | [] => some []
  | .int i :: r => (intsW r).map (i :: ·)
  | _ :: _ => none
def blsW : List W → Option (List Bool)
  | [] => some []
  | .bl i :: r => (blsW r).map (i :: ·)
  | _ :: _ => none
def strsW : List W → Option (List (List Nat))
  | [] => some []
  | .str i :: r => (strsW r).map (i :: ·)
  | _ :: _ => none
end Mp
set_option Elab.async false
set_option linter.all false
set_option maxRecDepth 100000
set_option maxHeartbeats 2000000
/-! Mp1: plain values over the hand layer: W, frozen and owned things, the relation, results. -/
namespace Mp
open PySem PySem.Spec L2
open PyProof.Rows hiding St

def wKey : Key → W
  | .inl i => .int i
  | .inr x => .str x.cps.toList

mutual
/-- a value that never changes any more: w is what stands at v in the frozen heap Z; g: the addresses of the objects -/
inductive Fz (K : PySem.W.Frag) (Z : Hp) (g : List Addr) : W → V → Prop
  | non : Fz K Z g .non .non
  | bl (b : Bool) : Fz K Z g (.bl b) (.bl b)
  | int (i : Int) : Fz K Z g (.int i) (.int i)
  | str (x : Str) : x.cps.all (· < 0x110000) = true → Fz K Z g (.str x.cps.toList) (.str x)
  | tup {a : Addr} {xs : List V} {ws : List W} : SqT K Z a xs → FzL K Z g ws xs → Fz K Z g (.tup ws) (.ref a)
  | lst {a : Addr} {xs : List V} {ws : List W} : Z a = some (.lst xs) → FzL K Z g ws xs → Fz K Z g (.lst ws) (.ref a)
  | scr {a : Addr} {ns : List Int} : SqL K Z a (ns.map V.int) → Fz K Z g (.scr ns) (.ref a)
  | dK {a : Addr} {kvs : List (W × W)} {l : List (Key × V)} : Z a = some (.dK l) → FzK K Z g kvs l → Fz K Z g (.dct kvs) (.ref a)
  | rng {a : Addr} {lo hi : Int} : Z a = some (.rng lo hi) → Fz K Z g (.rng lo hi) (.ref a)
  | obj {n : Nat} {a : Addr} : g[n]? = some a → Fz K Z g (.obj n) (.ref a)
inductive FzL (K : PySem.W.Frag) (Z : Hp) (g : List Addr) : List W → List V → Prop
  | nil : FzL K Z g [] []
  | cons {w : W} {v : V} {ws : List W} {vs : List V} : Fz K Z g w v → FzL K Z g ws vs → FzL K Z g (w :: ws) (v :: vs)
inductive FzK (K : PySem.W.Frag) (Z : Hp) (g : List Addr) : List (W × W) → List (Key × V) → Prop
  | nil : FzK K Z g [] []
  | cons {k : Key} {w : W} {v : V} {kvs : List (W × W)} {l : List (Key × V)} : Fz K Z g w v → FzK K Z g kvs l → FzK K Z g ((wKey k, w) :: kvs) ((k, v) :: l)
end

/-- what an object that may change holds -/
inductive Cont (K : PySem.W.Frag) (Z : Hp) (g : List Addr) : W → HO → Prop
  | lst {xs : List V} {ws : List W} : FzL K Z g ws xs → Cont K Z g (.lst ws) (.lst xs)
  | dK {kvs : List (W × W)} {l : List (Key × V)} : FzK K Z g kvs l → Cont K Z g (.dct kvs) (.dK l)

/-- a heap within another one -/
def Le (Z Z' : Hp) : Prop := ∀ a o, Z a = some o → Z' a = some o
theorem Le.refl (Z : Hp) : Le Z Z := fun _ _ h => h
theorem Le.trans {Z Z1 Z2 : Hp} (a : Le Z Z1) (b : Le Z1 Z2) : Le Z Z2 := fun c o h => b c o (a c o h)
theorem Le.upd {Z : Hp} {a : Addr} {o : HO} (h : Z a = none) : Le Z (upd Z a o) := fun b u q => by
  rw [upd_ne (ne_of_none q h)]; exact q
/-- the objects' addresses, more of them -/
def Pre (g g' : List Addr) : Prop := ∀ (n : Nat) (a : Addr), g[n]? = some a → g'[n]? = some a
theorem Pre.refl (g : List Addr) : Pre g g := fun _ _ h => h
theorem Pre.trans {g g1 g2 : List Addr} (a : Pre g g1) (b : Pre g1 g2) : Pre g g2 := fun c o h => b c o (a c o h)
theorem Pre.snoc (g : List Addr) (a : Addr) : Pre g (g ++ [a]) := fun n b h => by
  have hl := (List.getElem?_eq_some_iff.mp h).1
  rw [List.getElem?_append_left hl]; exact h

theorem SqT.le {K : PySem.W.Frag} {Z Z' : Hp} {a : Addr} {xs : List V} (e : Le Z Z') (h : SqT K Z a xs) : SqT K Z' a xs := by
  rcases h with (h | ⟨o, h⟩) | h
  · exact .inl (.inl (e _ _ h))
  · exact .inl (.inr ⟨o, e _ _ h⟩)
  · exact .inr h
theorem SqL.le {K : PySem.W.Frag} {Z Z' : Hp} {a : Addr} {xs : List V} (e : Le Z Z') (h : SqL K Z a xs) : SqL K Z' a xs := by
  rcases h with (h | ⟨o, h⟩) | h
  · exact .inl (.inl (e _ _ h))
  · exact .inl (.inr ⟨o, e _ _ h⟩)
  · exact .inr h

mutual
theorem Fz.le {K : PySem.W.Frag} {Z Z' : Hp} {g g' : List Addr} (e : Le Z Z') (p : Pre g g') : ∀ {w : W} {v : V}, Fz K Z g w v → Fz K Z' g' w v
  | _, _, .non => .non
  | _, _, .bl b => .bl b
  | _, _, .int i => .int i
  | _, _, .str x h => .str x h
  | _, _, .tup h q => .tup (SqT.le e h) (FzL.le e p q)
  | _, _, .lst h q => .lst (e _ _ h) (FzL.le e p q)
  | _, _, .scr h => .scr (SqL.le e h)
  | _, _, .dK h q => .dK (e _ _ h) (FzK.le e p q)
  | _, _, .rng h => .rng (e _ _ h)
  | _, _, .obj h => .obj (p _ _ h)
theorem FzL.le {K : PySem.W.Frag} {Z Z' : Hp} {g g' : List Addr} (e : Le Z Z') (p : Pre g g') : ∀ {w : List W} {v : List V}, FzL K Z g w v → FzL K Z' g' w v
  | _, _, .nil => .nil
  | _, _, .cons h q => .cons (Fz.le e p h) (FzL.le e p q)
theorem FzK.le {K : PySem.W.Frag} {Z Z' : Hp} {g g' : List Addr} (e : Le Z Z') (p : Pre g g') : ∀ {w : List (W × W)} {v : List (Key × V)}, FzK K Z g w v → FzK K Z' g' w v
  | _, _, .nil => .nil
  | _, _, .cons h q => .cons (Fz.le e p h) (FzK.le e p q)
end
theorem Cont.le {K : PySem.W.Frag} {Z Z' : Hp} {g g' : List Addr} (e : Le Z Z') (p : Pre g g') {w : W} {o : HO} : Cont K Z g w o → Cont K Z' g' w o
  | .lst q => .lst (q.le e p)
  | .dK q => .dK (q.le e p)
theorem Cont.mut {K : PySem.W.Frag} {Z : Hp} {g : List Addr} {w : W} {o : HO} (c : Cont K Z g w o) : Mut (some o) := by
  cases c <;> trivial

theorem FzL.length {K : PySem.W.Frag} {Z : Hp} {g : List Addr} : ∀ {ws : List W} {vs : List V}, FzL K Z g ws vs → ws.length = vs.length
  | _, _, .nil => rfl
  | _, _, .cons _ q => congrArg (· + 1) q.length
theorem FzL.get {K : PySem.W.Frag} {Z : Hp} {g : List Addr} : ∀ {ws : List W} {vs : List V} {i : Nat} {w : W}, FzL K Z g ws vs → ws[i]? = some w → ∃ v, vs[i]? = some v ∧ Fz K Z g w v
  | _, _, _, _, .nil, e => by simp at e
  | _, _, 0, _, .cons h q, e => by simp at e; subst e; exact ⟨_, rfl, h⟩
  | _, _, i + 1, w, .cons h q, e => by
    obtain ⟨v, h1, h2⟩ := FzL.get (i := i) (w := w) q (by simpa using e)
    exact ⟨v, by simpa using h1, h2⟩
theorem FzL.getV {K : PySem.W.Frag} {Z : Hp} {g : List Addr} : ∀ {ws : List W} {vs : List V} {i : Nat} {v : V}, FzL K Z g ws vs → vs[i]? = some v → ∃ w, ws[i]? = some w ∧ Fz K Z g w v
  | _, _, _, _, .nil, e => by simp at e
  | _, _, 0, _, .cons h q, e => by simp at e; subst e; exact ⟨_, rfl, h⟩
  | _, _, i + 1, w, .cons h q, e => by
    obtain ⟨v, h1, h2⟩ := FzL.getV (i := i) (v := w) q (by simpa using e)
    exact ⟨v, by simpa using h1, h2⟩
theorem FzL.append {K : PySem.W.Frag} {Z : Hp} {g : List Addr} : ∀ {ws ws' : List W} {vs vs' : List V}, FzL K Z g ws vs → FzL K Z g ws' vs' → FzL K Z g (ws ++ ws') (vs ++ vs')
  | _, _, _, _, .nil, r => r
  | _, _, _, _, .cons h q, r => .cons h (q.append r)
theorem FzL.one {K : PySem.W.Frag} {Z : Hp} {g : List Addr} {w : W} {v : V} (h : Fz K Z g w v) : FzL K Z g [w] [v] := .cons h .nil
theorem FzL.set {K : PySem.W.Frag} {Z : Hp} {g : List Addr} {w : W} {v : V} (h : Fz K Z g w v) : ∀ {ws : List W} {vs : List V} (i : Nat), FzL K Z g ws vs → FzL K Z g (ws.set i w) (vs.set i v)
  | _, _, _, .nil => .nil
  | _, _, 0, .cons _ q => .cons h q
  | _, _, i + 1, .cons r q => .cons r (FzL.set h i q)
theorem FzL.take {K : PySem.W.Frag} {Z : Hp} {g : List Addr} : ∀ {ws : List W} {vs : List V} (n : Nat), FzL K Z g ws vs → FzL K Z g (ws.take n) (vs.take n)
  | _, _, 0, _ => .nil
  | _, _, _ + 1, .nil => .nil
  | _, _, n + 1, .cons r t => .cons r (FzL.take n t)
theorem FzL.drop {K : PySem.W.Frag} {Z : Hp} {g : List Addr} : ∀ {ws : List W} {vs : List V} (n : Nat), FzL K Z g ws vs → FzL K Z g (ws.drop n) (vs.drop n)
  | _, _, 0, r => r
  | _, _, _ + 1, .nil => .nil
  | _, _, n + 1, .cons _ t => FzL.drop n t
theorem FzL.reverse {K : PySem.W.Frag} {Z : Hp} {g : List Addr} {ws : List W} {vs : List V} (h : FzL K Z g ws vs) : FzL K Z g ws.reverse vs.reverse := by
  induction ws generalizing vs with
  | nil => cases h; exact .nil
  | cons w ws ih =>
    cases h with
    | cons h q =>
      rw [List.reverse_cons, List.reverse_cons]
      exact (ih q).append (.one h)

/-! ### the relation -/
/-- constants of the context: the written part, the classes of exceptions by number -/
structure Cn where
  K : PySem.W.Frag
  ec : Nat → Addr
  T : List (Addr × Str)
/-- no table of code objects -/
def NTbl (o : HO) : Prop := ∀ ps, o ≠ .tbl ps
def MutO (o : HO) : Prop := (∃ xs, o = .lst xs) ∨ ∃ kvs, o = .dK kvs
theorem Cont.mutO {K : PySem.W.Frag} {Z : Hp} {g : List Addr} {w : W} {o : HO} (c : Cont K Z g w o) : MutO o := by
  cases c
  · exact .inl ⟨_, rfl⟩
  · exact .inr ⟨_, rfl⟩
theorem MutO.nt {o : HO} (h : MutO o) : NTbl o := fun ps e => by
  rcases h with ⟨_, rfl⟩ | ⟨_, rfl⟩ <;> cases e
/-- the tables of code objects stand; nothing frozen or kept is one -/
structure TabOk (T : List (Addr × Str)) (Z P H : Hp) : Prop where
  tabs : LamX.Tabs T H
  nz : ∀ a o, Z a = some o → NTbl o
  np : ∀ a o, P a = some o → NTbl o
theorem tabs_upd {T : List (Addr × Str)} {H : Hp} {p : Addr} {o : HO} (t : LamX.Tabs T H) (h : H p = none ∨ ∃ u, H p = some u ∧ MutO u) : LamX.Tabs T (upd H p o) := fun q hq => by
  obtain ⟨ps, h1, h2, h3⟩ := t q hq
  refine ⟨ps, ?_, h2, fun pos cv hc => ?_⟩
  · rw [upd_ne]; exact h1
    rintro rfl
    rcases h with h | ⟨u, h, m⟩
    · rw [h1] at h; cases h
    · rw [h1] at h; cases h
      rcases m with ⟨_, m⟩ | ⟨_, m⟩ <;> cases m
  · obtain ⟨c, e1, e2⟩ := h3 pos cv hc
    refine ⟨c, e1, ?_⟩
    rw [upd_ne]; exact e2
    rintro rfl
    rcases h with h | ⟨u, h, m⟩
    · rw [e2] at h; cases h
    · rw [e2] at h
      have h := Option.some.inj h
      subst h
      unfold LamX.CodeO at m
      rcases m with ⟨_, m⟩ | ⟨_, m⟩ <;> cases m
theorem TabOk.upd {T : List (Addr × Str)} {Z P H : Hp} {p : Addr} {o : HO} (t : TabOk T Z P H) (h : H p = none ∨ ∃ u, H p = some u ∧ MutO u) : TabOk T Z P (L2.upd H p o) := ⟨tabs_upd t.tabs h, t.nz, t.np⟩
theorem nt_upd {Z : Hp} {p : Addr} {o : HO} (h : ∀ a o, Z a = some o → NTbl o) (ho : NTbl o) : ∀ a u, (L2.upd Z p o) a = some u → NTbl u := fun a u e => by
  by_cases ha : a = p
  · subst ha; rw [upd_same] at e; cases e; exact ho
  · rw [upd_ne ha] at e; exact h a u e
theorem TabOk.z {T : List (Addr × Str)} {Z P H : Hp} {p : Addr} {o : HO} (t : TabOk T Z P H) (ho : NTbl o) : TabOk T (L2.upd Z p o) P H := ⟨t.tabs, nt_upd t.nz ho, t.np⟩
theorem TabOk.p {T : List (Addr × Str)} {Z P H : Hp} {p : Addr} {o : HO} (t : TabOk T Z P H) (ho : NTbl o) : TabOk T Z (L2.upd P p o) H := ⟨t.tabs, t.nz, nt_upd t.np ho⟩

/-- Mu: the slots that hold a list or dict of their own; Z frozen, P kept from outside, g the objects -/
structure Rel (c : Cn) (Mu : Nat → Bool) (Z P : Hp) (g : List Addr) (ρ : List (Option W)) (G : List W) (σ : St) (H : Hp) : Prop where
  zh : Le Z H
  ph : Le P H
  zp : ∀ a o, Z a = some o → P a = none
  fz : ∀ (i : Nat) (w : W), ρ[i]? = some (some w) → Mu i = false → ∃ v, σ[i]? = some (some v) ∧ Fz c.K Z g w v
  ow : ∀ (i : Nat) (w : W), ρ[i]? = some (some w) → Mu i = true → ∃ a o, σ[i]? = some (some (.ref a)) ∧ H a = some o ∧ Cont c.K Z g w o ∧ Z a = none ∧ P a = none ∧ a ∉ g
  sep : ∀ (i j : Nat) (w w' : W) (a : Addr), ρ[i]? = some (some w) → ρ[j]? = some (some w') → Mu i = true → Mu j = true → σ[i]? = some (some (.ref a)) → σ[j]? = some (some (.ref a)) → i = j
  gl : ∀ (n : Nat) (w : W), G[n]? = some w → ∃ a o, g[n]? = some a ∧ H a = some o ∧ Cont c.K Z g w o ∧ Z a = none ∧ P a = none
  gn : g.Nodup
  glen : g.length = G.length
  len : ρ.length = σ.length
  tb : TabOk c.T Z P H
/-- .. of the heap alone -/
abbrev Rel0 (c : Cn) (Z P : Hp) (g : List Addr) (G : List W) (H : Hp) : Prop := Rel c (fun _ => false) Z P g [] G [] H

theorem Rel.rel0 {c : Cn} {Mu : Nat → Bool} {Z P : Hp} {g : List Addr} {ρ : List (Option W)} {G : List W} {σ : St} {H : Hp} (r : Rel c Mu Z P g ρ G σ H) : Rel0 c Z P g G H :=
  ⟨r.zh, r.ph, r.zp, fun _ _ e => by simp at e, fun _ _ e => by simp at e, fun _ _ _ _ _ e => by simp at e, r.gl, r.gn, r.glen, rfl, r.tb⟩

/-- a new object: w at v, its own -/
def Fresh (c : Cn) (Mu : Nat → Bool) (Z P : Hp) (g : List Addr) (ρ : List (Option W)) (σ : St) (H : Hp) (w : W) (v : V) : Prop :=
  ∃ a o, v = .ref a ∧ H a = some o ∧ Cont c.K Z g w o ∧ Z a = none ∧ P a = none ∧ a ∉ g ∧ ∀ (i : Nat) (w' : W), Mu i = true → ρ[i]? = some (some w') → σ[i]? ≠ some (some (.ref a))
/-- how a result is related: by Z, P, g, the slots, H -/
abbrev RelT (α β : Type) := Cn → (Nat → Bool) → Hp → Hp → List Addr → List (Option W) → St → Hp → α → β → Prop
/-- a value: its own (fr), or frozen -/
def rV (fr : Bool) : RelT W V := fun c Mu Z P g ρ σ H w v => if fr = true then Fresh c Mu Z P g ρ σ H w v else Fz c.K Z g w v
def rEq {α : Type} : RelT α α := fun _ _ _ _ _ _ _ _ a b => a = b
def rL : RelT (List W) (List V) := fun c _ Z _ g _ _ _ ws vs => FzL c.K Z g ws vs

def rO : RelT Opd V := fun c _ Z _ g _ σ _ o v => match o with
  | .s i => σ[i]? = some (some v)
  | .v w => Fz c.K Z g w v
def rOs : RelT (List Opd) (List V) := fun c Mu Z P g ρ σ H os vs => Paired (rO c Mu Z P g ρ σ H) os vs

/-- what is wanted behind a computation that begins here -/
def Dat {α β : Type} (c : Cn) (Mu : Nat → Bool) (rel : RelT α β) (m : M α) (Wx : XK) (Z P : Hp) (g : List Addr) (ρ : List (Option W)) (G : List W) (σ : St) (Q : β → Hp → Prop) : Prop :=
  match m ρ G with
  | .ok a ρ' G' => ∀ (x : β) (H' Z' : Hp) (g' : List Addr), Le Z Z' → Pre g g' → Rel c Mu Z' P g' ρ' G' σ H' → rel c Mu Z' P g' ρ' σ H' a x → Q x H'
  | .exc n G' => ∀ (H' Z' : Hp) (g' : List Addr), Le Z Z' → Pre g g' → Rel0 c Z' P g' G' H' → Wx (.ref (c.ec n)) none H'
  | .bad => False
/-- the reading of a computation -/
def D {α β : Type} (c : Cn) (Mu : Nat → Bool) (rel : RelT α β) (m : M α) (Wx : XK) : St → Hp → (β → Hp → Prop) → Prop := fun σ H Q =>
  ∃ Z P g ρ G, Rel c Mu Z P g ρ G σ H ∧ Dat c Mu rel m Wx Z P g ρ G σ Q

section
variable {α β γ δ : Type} {c : Cn} {Mu : Nat → Bool} {rel : RelT α β} {rel2 : RelT γ δ} {Wx : XK} {Z P : Hp} {g : List Addr} {ρ : List (Option W)} {G : List W} {σ : St} {H : Hp}
theorem D.mk {m : M α} {Q : β → Hp → Prop} (r : Rel c Mu Z P g ρ G σ H) (d : Dat c Mu rel m Wx Z P g ρ G σ Q) : D c Mu rel m Wx σ H Q := ⟨Z, P, g, ρ, G, r, d⟩
/-- a computation whose first part is m -/
theorem Dat.bind {m : M α} {f : α → M γ} {Q : δ → Hp → Prop} {Q1 : β → Hp → Prop} (h : Dat c Mu rel2 (M.bind m f) Wx Z P g ρ G σ Q)
    (k : ∀ (a : α) (x : β) (H1 Z1 : Hp) (g1 : List Addr) (ρ1 : List (Option W)) (G1 : List W), Le Z Z1 → Pre g g1 → Rel c Mu Z1 P g1 ρ1 G1 σ H1 → rel c Mu Z1 P g1 ρ1 σ H1 a x → Dat c Mu rel2 (f a) Wx Z1 P g1 ρ1 G1 σ Q → Q1 x H1) :
    Dat c Mu rel m Wx Z P g ρ G σ Q1 := by
  unfold Dat M.bind at h
  unfold Dat
  cases e : m ρ G with
  | bad => rw [e] at h; exact h
  | exc n G' => rw [e] at h; exact h
  | ok a ρ' G' =>
    rw [e] at h
    intro x H' Z' g' l p r q
    refine k a x H' Z' g' ρ' G' l p r q ?_
    unfold Dat
    dsimp only at h
    cases e2 : f a ρ' G' with
    | bad => rw [e2] at h; exact h
    | exc n G2 =>
      rw [e2] at h
      exact fun H2 Z2 g2 l2 p2 r2 => h H2 Z2 g2 (l.trans l2) (p.trans p2) r2
    | ok b ρ2 G2 =>
      rw [e2] at h
      exact fun y H2 Z2 g2 l2 p2 r2 q2 => h y H2 Z2 g2 (l.trans l2) (p.trans p2) r2 q2
theorem D.bind {m : M α} {f : α → M γ} {Q : δ → Hp → Prop} {Q1 : β → Hp → Prop} (h : D c Mu rel2 (M.bind m f) Wx σ H Q)
    (k : ∀ (a : α) (x : β) (H1 Z1 P : Hp) (g1 : List Addr) (ρ1 : List (Option W)) (G1 : List W), Rel c Mu Z1 P g1 ρ1 G1 σ H1 → rel c Mu Z1 P g1 ρ1 σ H1 a x → Dat c Mu rel2 (f a) Wx Z1 P g1 ρ1 G1 σ Q → Q1 x H1) :
    D c Mu rel m Wx σ H Q1 := by
  obtain ⟨Z, P, g, ρ, G, r, h⟩ := h
  exact ⟨Z, P, g, ρ, G, r, h.bind fun a x H1 Z1 g1 ρ1 G1 _ _ r1 q1 d1 => k a x H1 Z1 P g1 ρ1 G1 r1 q1 d1⟩
/-- a pure step -/
theorem Dat.bind_eq {m : M α} {f : α → M γ} {Q : δ → Hp → Prop} {a : α} {ρ' : List (Option W)} {G' : List W} (h : Dat c Mu rel2 (M.bind m f) Wx Z P g ρ G σ Q) (e : m ρ G = .ok a ρ' G') : Dat c Mu rel2 (f a) Wx Z P g ρ' G' σ Q := by
  unfold Dat M.bind at h
  rw [e] at h
  exact h
theorem Dat.pure {a : α} {Q : β → Hp → Prop} (h : Dat c Mu rel (M.pure a) Wx Z P g ρ G σ Q) {x : β} (r : Rel c Mu Z P g ρ G σ H) (q : rel c Mu Z P g ρ σ H a x) : Q x H :=
  h x H Z g (Le.refl _) (Pre.refl _) r q
theorem Dat.pure' {a : α} {Q : β → Hp → Prop} (h : Dat c Mu rel (M.pure a) Wx Z P g ρ G σ Q) {x : β} {Z' H' : Hp} {g' : List Addr} (l : Le Z Z') (p : Pre g g') (r : Rel c Mu Z' P g' ρ G σ H') (q : rel c Mu Z' P g' ρ σ H' a x) : Q x H' :=
  h x H' Z' g' l p r q
theorem Dat.of {o : Option α} {Q : β → Hp → Prop} (h : Dat c Mu rel (M.of o) Wx Z P g ρ G σ Q) : ∃ a, o = some a ∧ Dat c Mu rel (M.pure a) Wx Z P g ρ G σ Q := by
  cases o with
  | none => exact h.elim
  | some a => exact ⟨a, rfl, h⟩
theorem Dat.bind_bad {m : M α} {f : α → M γ} {Q : δ → Hp → Prop} (h : Dat c Mu rel2 (M.bind m f) Wx Z P g ρ G σ Q) (e : m ρ G = .bad) : False := by
  unfold Dat M.bind at h
  rw [e] at h
  exact h
theorem Dat.is_bad {m : M α} {Q : β → Hp → Prop} (h : Dat c Mu rel m Wx Z P g ρ G σ Q) (e : m ρ G = .bad) : False := by
  unfold Dat at h
  rw [e] at h
  exact h
theorem Dat.is_ok {m : M α} {Q : β → Hp → Prop} (h : Dat c Mu rel m Wx Z P g ρ G σ Q) {a : α} {ρ' : List (Option W)} {G' : List W} (e : m ρ G = .ok a ρ' G') :
    ∀ (x : β) (H' Z' : Hp) (g' : List Addr), Le Z Z' → Pre g g' → Rel c Mu Z' P g' ρ' G' σ H' → rel c Mu Z' P g' ρ' σ H' a x → Q x H' := by
  unfold Dat at h
  rw [e] at h
  exact h
theorem getS_cases (i : Nat) (ρ : List (Option W)) (G : List W) : getS i ρ G = .bad ∨ ∃ w, ρ[i]? = some (some w) ∧ getS i ρ G = .ok w ρ G := by
  unfold getS
  cases e : ρ[i]? with
  | none => exact .inl rfl
  | some ow =>
    cases ow with
    | none => exact .inl rfl
    | some w => exact .inr ⟨w, rfl, rfl⟩
theorem Dat.bad {Q : β → Hp → Prop} (h : Dat c Mu rel M.bad Wx Z P g ρ G σ Q) : False := h
end

/-! ### weaker readings -/
theorem PE.weak {X : Cx} {e : Expr} {t t' : TE} (h : PE X e t) (k : ∀ σ H Q, t' σ H Q → t σ H Q) : PE X e t' := ⟨fun pins s σ H Q I hw => h.run pins s σ H Q I (k _ _ _ hw)⟩
theorem PT.weak {X : Cx} {e : Expr} {t t' : TT} (h : PT X e t) (k : ∀ σ H Q, t' σ H Q → t σ H Q) : PT X e t' := ⟨fun pins s σ H Q I hw => h.run pins s σ H Q I (k _ _ _ hw)⟩
theorem PA.weak {X : Cx} {e : List Expr} {t t' : TA} (h : PA X e t) (k : ∀ σ H Q, t' σ H Q → t σ H Q) : PA X e t' := ⟨fun pos pins s σ H Q I hw => h.run pos pins s σ H Q I (k _ _ _ hw)⟩
theorem PS.weak {X : Cx} {e : Stmt} {t t' : TS} (h : PS X e t) (k : ∀ D σ H, t' D σ H → t D σ H) : PS X e t' := ⟨fun pins s σ H D I hw => h.run pins s σ H D I (k _ _ _ hw)⟩
theorem PSs.weak {X : Cx} {e : List Stmt} {t t' : TS} (h : PSs X e t) (k : ∀ D σ H, t' D σ H → t D σ H) : PSs X e t' := ⟨fun pins s σ H D I hw => h.run pins s σ H D I (k _ _ _ hw)⟩
end Mp
set_option Elab.async false
set_option linter.all false
set_option maxRecDepth 100000
set_option maxHeartbeats 2000000
/-! Mp2: what is read: operands, what a plain value is in the heap; freezing; rules of operators. -/
namespace Mp
open PySem PySem.Spec L2
open PyProof.Rows hiding St

/-! ### what an operand is when it is used -/
/-- frozen, or an object's content -/
def Bor (c : Cn) (Z : Hp) (g : List Addr) (H : Hp) (w : W) (x : V) : Prop := Fz c.K Z g w x ∨ ∃ a o, x = .ref a ∧ H a = some o ∧ Cont c.K Z g w o
section
variable {c : Cn} {Mu : Nat → Bool} {Z P : Hp} {g : List Addr} {ρ : List (Option W)} {G : List W} {σ : St} {H : Hp} {w : W} {x : V}

theorem Rel.slot (r : Rel c Mu Z P g ρ G σ H) {i : Nat} (e : ρ[i]? = some (some w)) (q : σ[i]? = some (some x)) : Bor c Z g H w x := by
  cases m : Mu i with
  | false =>
    obtain ⟨v, e1, f⟩ := r.fz i w e m
    rw [q] at e1; cases e1
    exact .inl f
  | true =>
    obtain ⟨a, o, e1, h1, h2, _⟩ := r.ow i w e m
    rw [q] at e1; cases e1
    exact .inr ⟨a, o, rfl, h1, h2⟩
/-- an operand is got -/
theorem Dat.get {α β : Type} {rel : RelT α β} {Wx : XK} {Q : β → Hp → Prop} {o : Opd} {f : W → M α} (r : Rel c Mu Z P g ρ G σ H) (q : rO c Mu Z P g ρ σ H o x)
    (h : Dat c Mu rel (M.bind o.get f) Wx Z P g ρ G σ Q) : ∃ w, Bor c Z g H w x ∧ Dat c Mu rel (f w) Wx Z P g ρ G σ Q := by
  cases o with
  | v w => exact ⟨w, .inl q, h⟩
  | s i =>
    rcases getS_cases i ρ G with e | ⟨w, e, e2⟩
    · exact (h.bind_bad e).elim
    · exact ⟨w, r.slot e q, h.bind_eq e2⟩
theorem rO.le {Z' : Hp} {g' : List Addr} {ρ' : List (Option W)} {H' : Hp} {P' : Hp} {o : Opd} (l : Le Z Z') (p : Pre g g') (q : rO c Mu Z P g ρ σ H o x) : rO c Mu Z' P' g' ρ' σ H' o x := by
  cases o with
  | s i => exact q
  | v w => exact Fz.le l p q

theorem Bor.int {i : Int} (b : Bor c Z g H (.int i) x) : x = .int i := by
  rcases b with h | ⟨_, _, _, _, h⟩
  · cases h; rfl
  · cases h
theorem Bor.bl {i : Bool} (b : Bor c Z g H (.bl i) x) : x = .bl i := by
  rcases b with h | ⟨_, _, _, _, h⟩
  · cases h; rfl
  · cases h
theorem Bor.non (b : Bor c Z g H .non x) : x = .non := by
  rcases b with h | ⟨_, _, _, _, h⟩
  · cases h; rfl
  · cases h
theorem Bor.str {s : List Nat} (b : Bor c Z g H (.str s) x) : ∃ z : Str, x = .str z ∧ z.cps.toList = s ∧ z.cps.all (· < 0x110000) = true := by
  rcases b with h | ⟨_, _, _, _, h⟩
  · cases h with
    | str z q => exact ⟨z, rfl, rfl, q⟩
  · cases h
theorem Bor.lst {ws : List W} (r : Le Z H) (b : Bor c Z g H (.lst ws) x) : ∃ a xs, x = .ref a ∧ H a = some (.lst xs) ∧ FzL c.K Z g ws xs := by
  rcases b with h | ⟨a, o, e, e2, h⟩
  · cases h with
    | lst h q => exact ⟨_, _, rfl, r _ _ h, q⟩
  · cases h with
    | lst q => exact ⟨_, _, e, e2, q⟩
theorem Bor.tup {ws : List W} (r : Le Z H) (b : Bor c Z g H (.tup ws) x) : ∃ a xs, x = .ref a ∧ SqT c.K Z a xs ∧ SqT c.K H a xs ∧ FzL c.K Z g ws xs := by
  rcases b with h | ⟨a, o, e, e2, h⟩
  · cases h with
    | tup h q => exact ⟨_, _, rfl, h, SqT.le r h, q⟩
  · cases h
theorem Bor.dct {kvs : List (W × W)} (r : Le Z H) (b : Bor c Z g H (.dct kvs) x) : ∃ a l, x = .ref a ∧ H a = some (.dK l) ∧ FzK c.K Z g kvs l := by
  rcases b with h | ⟨a, o, e, e2, h⟩
  · cases h with
    | dK h q => exact ⟨_, _, rfl, r _ _ h, q⟩
  · cases h with
    | dK q => exact ⟨_, _, e, e2, q⟩
theorem Bor.rng {lo hi : Int} (r : Le Z H) (b : Bor c Z g H (.rng lo hi) x) : ∃ a, x = .ref a ∧ H a = some (.rng lo hi) := by
  rcases b with h | ⟨a, o, e, e2, h⟩
  · cases h with
    | rng h => exact ⟨_, rfl, r _ _ h⟩
  · cases h
theorem Bor.scr {ns : List Int} (r : Le Z H) (b : Bor c Z g H (.scr ns) x) : ∃ a, x = .ref a ∧ SqL c.K H a (ns.map V.int) := by
  rcases b with h | ⟨a, o, e, e2, h⟩
  · cases h with
    | scr h => exact ⟨_, rfl, SqL.le r h⟩
  · cases h

/-! ### new things -/
/-- a new address is nobody's -/
structure NewA (c : Cn) (Mu : Nat → Bool) (Z P : Hp) (g : List Addr) (ρ : List (Option W)) (σ : St) (a : Addr) : Prop where
  nz : Z a = none
  np : P a = none
  ng : a ∉ g
  nown : ∀ (i : Nat) (w' : W), Mu i = true → ρ[i]? = some (some w') → σ[i]? ≠ some (some (.ref a))
theorem Rel.new (r : Rel c Mu Z P g ρ G σ H) {p : Addr} (h : H p = none) : NewA c Mu Z P g ρ σ p := by
  refine ⟨?_, ?_, fun hm => ?_, fun i w' m e q => ?_⟩
  · cases e : Z p with
    | none => rfl
    | some o => rw [r.zh p o e] at h; cases h
  · cases e : P p with
    | none => rfl
    | some o => rw [r.ph p o e] at h; cases h
  · obtain ⟨n, hn, e⟩ := List.mem_iff_getElem.mp hm
    have hn' : n < G.length := by rw [← r.glen]; exact hn
    obtain ⟨a, o, e1, e2, _⟩ := r.gl n _ (List.getElem?_eq_getElem hn')
    rw [List.getElem?_eq_getElem hn] at e1
    cases e1
    rw [e] at e2
    rw [e2] at h; cases h
  · obtain ⟨a, o, e1, h1, _⟩ := r.ow i w' e m
    rw [q] at e1; cases e1
    rw [h1] at h; cases h
/-- a new object laid: it is nobody's yet -/
theorem Rel.laid (r : Rel c Mu Z P g ρ G σ H) {p : Addr} (o : HO) (h : H p = none) : Rel c Mu Z P g ρ G σ (upd H p o) := by
  have n := r.new h
  refine ⟨fun a u e => ?_, fun a u e => ?_, r.zp, r.fz, fun i w e m => ?_, r.sep, fun k w e => ?_, r.gn, r.glen, r.len, r.tb.upd (.inl h)⟩
  · rw [upd_ne (ne_of_none e n.nz)]; exact r.zh a u e
  · rw [upd_ne (ne_of_none e n.np)]; exact r.ph a u e
  · obtain ⟨a, u, e1, h1, q⟩ := r.ow i w e m
    exact ⟨a, u, e1, by rw [upd_ne (ne_of_none h1 h)]; exact h1, q⟩
  · obtain ⟨a, u, e1, h1, q⟩ := r.gl k w e
    exact ⟨a, u, e1, by rw [upd_ne (ne_of_none h1 h)]; exact h1, q⟩
/-- what is nobody's is frozen -/
theorem Rel.freeze (r : Rel c Mu Z P g ρ G σ H) {p : Addr} {o : HO} (h : H p = some o) (n : NewA c Mu Z P g ρ σ p) (ho : NTbl o) : Rel c Mu (upd Z p o) P g ρ G σ H := by
  have l : Le Z (upd Z p o) := Le.upd n.nz
  refine ⟨fun a u e => ?_, r.ph, fun a u e => ?_, fun i w e m => ?_, fun i w e m => ?_, r.sep, fun k w e => ?_, r.gn, r.glen, r.len, r.tb.z ho⟩
  · by_cases ha : a = p
    · subst ha; rw [upd_same] at e; cases e; exact h
    · rw [upd_ne ha] at e; exact r.zh a u e
  · by_cases ha : a = p
    · subst ha; exact n.np
    · rw [upd_ne ha] at e; exact r.zp a u e
  · obtain ⟨v, e1, f⟩ := r.fz i w e m
    exact ⟨v, e1, f.le l (Pre.refl _)⟩
  · obtain ⟨a, u, e1, h1, h2, h3, q⟩ := r.ow i w e m
    refine ⟨a, u, e1, h1, h2.le l (Pre.refl _), ?_, q⟩
    rw [upd_ne]
    · exact h3
    · rintro rfl
      exact n.nown i w m e e1
  · obtain ⟨a, u, e1, h1, h2, h3, q⟩ := r.gl k w e
    refine ⟨a, u, e1, h1, h2.le l (Pre.refl _), ?_, q⟩
    rw [upd_ne]
    · exact h3
    · rintro rfl
      exact n.ng (List.mem_iff_getElem?.mpr ⟨k, e1⟩)
/-- a new tuple, or another thing that never changes -/
theorem Rel.fixed (r : Rel c Mu Z P g ρ G σ H) {p : Addr} (o : HO) (h : H p = none) (ho : NTbl o := by intro _ h; cases h) : Rel c Mu (upd Z p o) P g ρ G σ (upd H p o) :=
  (r.laid o h).freeze upd_same (r.new h) ho
theorem rV_true {w : W} {x : V} (q : Fresh c Mu Z P g ρ σ H w x) : rV true c Mu Z P g ρ σ H w x := q
theorem rV_false {w : W} {x : V} (q : Fz c.K Z g w x) : rV false c Mu Z P g ρ σ H w x := q
theorem Rel.fresh (r : Rel c Mu Z P g ρ G σ H) {p : Addr} {o : HO} (h : H p = none) {w : W} (q : Cont c.K Z g w o) : Fresh c Mu Z P g ρ σ (upd H p o) w (.ref p) :=
  let n := r.new h
  ⟨p, o, rfl, upd_same, q, n.nz, n.np, n.ng, n.nown⟩
theorem Cont.fz {Z : Hp} {w : W} {o : HO} {a : Addr} (q : Cont c.K Z g w o) (h : Z a = some o) : Fz c.K Z g w (.ref a) := by
  cases q with
  | lst q => exact .lst h q
  | dK q => exact .dK h q
end

section
variable {X : Cx} {c : Cn} {Mu : Nat → Bool} {Wx : XK} {e a b : Expr} {pos : Pos}
/-- what is its own may be frozen -/
theorem frz {m : M W} (h : PE X e (D c Mu (rV true) m Wx)) : PE X e (D c Mu (rV false) m Wx) := PE.weak h fun σ H Q ⟨Z, P, g, ρ, G, r, d⟩ => ⟨Z, P, g, ρ, G, r, by
  unfold Dat at d ⊢
  cases q : m ρ G with
  | bad => rw [q] at d; exact d
  | exc n G' => rw [q] at d; exact d
  | ok w ρ' G' =>
    rw [q] at d
    intro x H' Z' g' l p r' fr
    obtain ⟨a, o, rfl, h1, h2, h3, h4, h5, h6⟩ := fr
    have r2 := r'.freeze h1 ⟨h3, h4, h5, h6⟩ h2.mutO.nt
    have l2 : Le Z' (upd Z' a o) := Le.upd h3
    exact d _ H' (upd Z' a o) g' (l.trans l2) p r2 ((h2.le l2 (Pre.refl _)).fz upd_same)⟩
/-- a value as an operand -/
def mV (m : M W) : M Opd := M.bind m fun w => M.pure (.v w)
theorem opd {m : M W} (h : PE X e (D c Mu (rV false) m Wx)) : PE X e (D c Mu rO (mV m) Wx) := PE.weak h fun σ H Q h => h.bind fun w x H1 Z1 P g1 ρ1 G1 r q d => d.pure r q
/-- a slot as an operand -/
def mS (i : Nat) : M Opd := fun ρ G => match ρ[i]? with
  | some (some _) => .ok (.s i) ρ G
  | _ => .bad
theorem mS_ok {i : Nat} {ρ : List (Option W)} {G : List W} {σ : St} {Z P : Hp} {g : List Addr} {β : Type} {rel : RelT Opd β} {Q : β → Hp → Prop} (d : Dat c Mu rel (mS i) Wx Z P g ρ G σ Q) : ∃ w, ρ[i]? = some (some w) ∧ mS i ρ G = .ok (.s i) ρ G := by
  unfold Dat mS at d
  unfold mS
  cases e : ρ[i]? with
  | none => simp only [e] at d
  | some ow =>
    cases ow with
    | none => simp only [e] at d
    | some w => exact ⟨w, rfl, rfl⟩
theorem Rel.has {ρ : List (Option W)} {G : List W} {σ : St} {Z P H : Hp} {g : List Addr} (r : Rel c Mu Z P g ρ G σ H) {i : Nat} {w : W} (e : ρ[i]? = some (some w)) : ∃ v, σ[i]? = some (some v) := by
  cases m : Mu i with
  | false => obtain ⟨v, e1, _⟩ := r.fz i w e m; exact ⟨v, e1⟩
  | true => obtain ⟨a, o, e1, _⟩ := r.ow i w e m; exact ⟨_, e1⟩
theorem slotO {i : Nat} (h : PE X e (tVar i)) : PE X e (D c Mu rO (mS i) Wx) := PE.weak h fun σ H Q ⟨Z, P, g, ρ, G, r, d⟩ => by
  obtain ⟨w, e1, e2⟩ := mS_ok d
  obtain ⟨v, e3⟩ := r.has e1
  refine ⟨v, e3, ?_⟩
  exact d.is_ok e2 v H Z g (Le.refl _) (Pre.refl _) r e3
/-- a frozen slot's value -/
theorem slotV {i : Nat} (hm : Mu i = false) (h : PE X e (tVar i)) : PE X e (D c Mu (rV false) (getS i) Wx) := PE.weak h fun σ H Q ⟨Z, P, g, ρ, G, r, d⟩ => by
  rcases getS_cases i ρ G with e | ⟨w, e, e2⟩
  · exact (d.is_bad e).elim
  · obtain ⟨v, e1, f⟩ := r.fz i w e hm
    exact ⟨v, e1, d.is_ok e2 v H Z g (Le.refl _) (Pre.refl _) r (rV_false f)⟩
/-- an own slot's thing, given away: the slot holds nothing any more -/
def moveS (i : Nat) : M W := fun ρ G => match ρ[i]? with
  | some (some w) => .ok w (ρ.set i none) G
  | _ => .bad
theorem Rel.drop {ρ : List (Option W)} {G : List W} {σ : St} {Z P H : Hp} {g : List Addr} (r : Rel c Mu Z P g ρ G σ H) (i : Nat) : Rel c Mu Z P g (ρ.set i none) G σ H := by
  have k : ∀ (j : Nat) (w : W), (ρ.set i none)[j]? = some (some w) → ρ[j]? = some (some w) := fun j w e => by
    by_cases hj : i = j
    · subst hj
      by_cases hl : i < ρ.length
      · rw [List.getElem?_set_self hl] at e; cases e
      · rw [List.getElem?_eq_none (by simpa using hl)] at e; cases e
    · rw [List.getElem?_set_ne hj] at e; exact e
  exact ⟨r.zh, r.ph, r.zp, fun j w e m => r.fz j w (k j w e) m, fun j w e m => r.ow j w (k j w e) m, fun j l w w' a e1 e2 m1 m2 => r.sep j l w w' a (k j w e1) (k l w' e2) m1 m2, r.gl, r.gn, r.glen, by rw [List.length_set]; exact r.len, r.tb⟩
theorem slotF {i : Nat} (hm : Mu i = true) (h : PE X e (tVar i)) : PE X e (D c Mu (rV true) (moveS i) Wx) := PE.weak h fun σ H Q ⟨Z, P, g, ρ, G, r, d⟩ => by
  unfold Dat moveS at d
  cases e : ρ[i]? with
  | none => simp only [e] at d
  | some ow =>
    cases ow with
    | none => simp only [e] at d
    | some w =>
      simp only [e] at d
      obtain ⟨a, o, e1, h1, h2, h3, h4, h5⟩ := r.ow i w e hm
      refine ⟨.ref a, e1, d (.ref a) H Z g (Le.refl _) (Pre.refl _) (r.drop i) ⟨a, o, rfl, h1, h2, h3, h4, h5, fun j w' mj ej qj => ?_⟩⟩
      have hij : i ≠ j := fun z => by
        subst z
        rw [List.getElem?_set_self (List.getElem?_eq_some_iff.mp e).1] at ej; cases ej
      rw [List.getElem?_set_ne hij] at ej
      exact hij (r.sep i j w w' a e ej hm mj e1 qj)
end
end Mp
set_option Elab.async false
set_option linter.all false
set_option maxRecDepth 100000
set_option maxHeartbeats 2000000
/-! Mp3: rules for operators, comparisons, tests. -/
namespace Mp
open PySem PySem.Spec L2
open PyProof.Rows hiding St

def m2 (f : W → W → Option W) (ma mb : M Opd) : M W := M.bind ma fun oa => M.bind mb fun ob => M.bind oa.get fun x => M.bind ob.get fun y => M.of (f x y)
def m1 (f : W → Option W) (ma : M Opd) : M W := M.bind ma fun oa => M.bind oa.get fun x => M.of (f x)

/-- the operator's rule r answers f -/
def Snd2 (c : Cn) (Mu : Nat → Bool) (fr : Bool) (r : R2) (f : W → W → Option W) : Prop :=
  ∀ (Z P : Hp) (g : List Addr) (ρ : List (Option W)) (G : List W) (σ : St) (H : Hp) (x y : V) (wx wy w : W) (Q : VK), Rel c Mu Z P g ρ G σ H → Bor c Z g H wx x → Bor c Z g H wy y → f wx wy = some w →
    (∀ (v : V) (H' Z' : Hp), Le Z Z' → Rel c Mu Z' P g ρ G σ H' → rV fr c Mu Z' P g ρ σ H' w v → Q v H') → r x y H Q
def Snd1 (c : Cn) (Mu : Nat → Bool) (fr : Bool) (r : V → Hp → VK → Prop) (f : W → Option W) : Prop :=
  ∀ (Z P : Hp) (g : List Addr) (ρ : List (Option W)) (G : List W) (σ : St) (H : Hp) (x : V) (wx w : W) (Q : VK), Rel c Mu Z P g ρ G σ H → Bor c Z g H wx x → f wx = some w →
    (∀ (v : V) (H' Z' : Hp), Le Z Z' → Rel c Mu Z' P g ρ G σ H' → rV fr c Mu Z' P g ρ σ H' w v → Q v H') → r x H Q

section
variable {X : Cx} {c : Cn} {Mu : Nat → Bool} {Wx : XK} {fr : Bool} {e a b : Expr} {pos : Pos} {f : W → W → Option W} {ma mb mc : M Opd}

theorem d2 {r : R2} (s : Snd2 c Mu fr r f) {σ : St} {H : Hp} {Q : VK} (h : D c Mu (rV fr) (m2 f ma mb) Wx σ H Q) : D c Mu rO ma Wx σ H fun x H1 => D c Mu rO mb Wx σ H1 fun y H2 => r x y H2 Q := by
  refine h.bind fun oa x H1 Z1 P g1 ρ1 G1 r1 q1 d1 => ?_
  refine ⟨Z1, P, g1, ρ1, G1, r1, d1.bind fun ob y H2 Z2 g2 ρ2 G2 l2 p2 r2 q2 d2 => ?_⟩
  obtain ⟨wx, bx, d3⟩ := d2.get r2 (rO.le (H' := H2) (P' := P) (ρ' := ρ2) l2 p2 q1)
  obtain ⟨wy, by', d4⟩ := d3.get r2 q2
  obtain ⟨w, ew, d5⟩ := d4.of
  exact s Z2 P g2 ρ2 G2 σ H2 x y wx wy w Q r2 bx by' ew fun v H' Z' l r' q => d5.pure' l (Pre.refl _) r' q
theorem d1 {r : V → Hp → VK → Prop} {f : W → Option W} (s : Snd1 c Mu fr r f) {σ : St} {H : Hp} {Q : VK} (h : D c Mu (rV fr) (m1 f ma) Wx σ H Q) : D c Mu rO ma Wx σ H fun x H1 => r x H1 Q := by
  refine h.bind fun oa x H1 Z1 P g1 ρ1 G1 r1 q1 d1 => ?_
  obtain ⟨wx, bx, d3⟩ := d1.get r1 q1
  obtain ⟨w, ew, d5⟩ := d3.of
  exact s Z1 P g1 ρ1 G1 σ H1 x wx w Q r1 bx ew fun v H' Z' l r' q => d5.pure' l (Pre.refl _) r' q

/-- a op b -/
theorem eBin {op : Operator} {r : R2} (ho : OpR X (binaryOp op) r) (s : Snd2 c Mu fr r f) (ha : PE X a (D c Mu rO ma Wx)) (hb : PE X b (D c Mu rO mb Wx)) : PE X (.BinOp a op b pos) (D c Mu (rV fr) (m2 f ma mb) Wx) :=
  PE.weak (pe_op ho ha hb) fun _ _ _ h => d2 s h
theorem eUn {op : UnaryOp} {r : V → Hp → VK → Prop} {f : W → Option W} (ho : UnR X (unaryOp op) r) (s : Snd1 c Mu fr r f) (ha : PE X a (D c Mu rO ma Wx)) : PE X (.UnaryOp op a pos) (D c Mu (rV fr) (m1 f ma) Wx) :=
  PE.weak (pe_un ho ha) fun _ _ _ h => d1 s h
/-- a comparison as a value -/
theorem eCmp {op : CmpOp} {r : R2} (ho : OpR X (compareOp op) r) (s : Snd2 c Mu fr r f) (ha : PE X a (D c Mu rO ma Wx)) (hb : PE X b (D c Mu rO mb Wx)) (hm : behindInMarks op b = false) : PE X (.Compare a [op] [b] pos) (D c Mu (rV fr) (m2 f ma mb) Wx) :=
  PE.weak (pe_cmpR ho ha hb hm) fun _ _ _ h => d2 s h

/-! ### tests -/
def mB (m : M W) : M Bool := M.bind m fun w => M.of (boolW w)
theorem fz_bl {K : PySem.W.Frag} {Z : Hp} {g : List Addr} {w : W} {k : Bool} {x : V} (e : boolW w = some k) (h : Fz K Z g w x) : x = .bl k := by
  cases w <;> simp [boolW] at e
  subst e
  cases h; rfl
theorem dB {m : M W} {σ : St} {H : Hp} {Q : Bool → Hp → Prop} (h : D c Mu rEq (mB m) Wx σ H Q) : D c Mu (rV false) m Wx σ H fun x H1 => ∃ k, x = .bl k ∧ Q k H1 := by
  refine h.bind fun w x H1 Z1 P g1 ρ1 G1 r1 q1 d1 => ?_
  obtain ⟨k, ek, d2⟩ := d1.of
  exact ⟨k, fz_bl ek q1, d2.pure r1 rfl⟩
/-- a value that is a bool, as a test -/
theorem tVal {m : M W} (h : PE X e (D c Mu (rV false) m Wx)) (he : ∀ whole, isTrue e X.env whole = (do let v ← whole; standAt e.pos; holding [v] (truthy v)) := by intro _; rfl) : PT X e (D c Mu rEq (mB m) Wx) :=
  PT.weak (pt_val h he) fun _ _ _ h => dB h
theorem tCmp {op : CmpOp} {r : R2} (ho : OpR X (compareOp op) r) (s : Snd2 c Mu false r f) (ha : PE X a (D c Mu rO ma Wx)) (hb : PE X b (D c Mu rO mb Wx)) (hm : behindInMarks op b = false) : PT X (.Compare a [op] [b] pos) (D c Mu rEq (mB (m2 f ma mb)) Wx) :=
  PT.weak (pt_cmpR ho ha hb hm) fun σ H Q h => by
    have h := dB h
    obtain ⟨Z, P, g, ρ, G, r1, d⟩ := h
    exact d2 s ⟨Z, P, g, ρ, G, r1, d⟩
/-- the truth of a value -/
def mT (m : M Opd) : M Bool := M.bind m fun o => M.bind o.get fun w => M.of (truW w)
def mNot (m : M Bool) : M Bool := M.bind m fun b => M.pure (!b)
def mAnd (m n : M Bool) : M Bool := M.bind m fun b => if b = true then n else M.pure false
def mOr (m n : M Bool) : M Bool := M.bind m fun b => if b = true then M.pure true else n
theorem tNot' {m : M Bool} (h : PT X e (D c Mu rEq m Wx)) : PT X (.UnaryOp .Not e pos) (D c Mu rEq (mNot m) Wx) :=
  PT.weak (pt_not h) fun σ H Q h => h.bind fun b x H1 Z1 P g1 ρ1 G1 r1 q1 d1 => by
    subst q1
    exact d1.pure r1 rfl
theorem wAnd1 {m : M Bool} (h : PT X e (D c Mu rEq m Wx)) : PW X (.BoolOp .And [e] pos) (D c Mu rEq m Wx) := pw_and1 h
theorem wOr1 {m : M Bool} (h : PT X e (D c Mu rEq m Wx)) : PW X (.BoolOp .Or [e] pos) (D c Mu rEq m Wx) := pw_or1 h
theorem PW.weak {t t' : TT} (h : PW X e t) (k : ∀ σ H Q, t' σ H Q → t σ H Q) : PW X e t' := ⟨fun wh pins s σ H Q I hw => h.run wh pins s σ H Q I (k _ _ _ hw)⟩
theorem wAnd2 {rest : List Expr} {m n : M Bool} (ha : PT X a (D c Mu rEq m Wx)) (hb : PW X (.BoolOp .And (b :: rest) pos) (D c Mu rEq n Wx)) : PW X (.BoolOp .And (a :: b :: rest) pos) (D c Mu rEq (mAnd m n) Wx) :=
  PW.weak (pw_and ha hb) fun σ H Q h => h.bind fun k x H1 Z1 P g1 ρ1 G1 r1 q1 d1 => by
    subst q1
    cases k with
    | true => rw [if_pos rfl] at d1 ⊢; exact ⟨_, _, _, _, _, r1, d1⟩
    | false => rw [if_neg Bool.false_ne_true] at d1 ⊢; exact d1.pure r1 rfl
theorem wOr2 {rest : List Expr} {m n : M Bool} (ha : PT X a (D c Mu rEq m Wx)) (hb : PW X (.BoolOp .Or (b :: rest) pos) (D c Mu rEq n Wx)) : PW X (.BoolOp .Or (a :: b :: rest) pos) (D c Mu rEq (mOr m n) Wx) :=
  PW.weak (pw_or ha hb) fun σ H Q h => h.bind fun k x H1 Z1 P g1 ρ1 G1 r1 q1 d1 => by
    subst q1
    cases k with
    | false => rw [if_neg Bool.false_ne_true] at d1 ⊢; exact ⟨_, _, _, _, _, r1, d1⟩
    | true => rw [if_pos rfl] at d1 ⊢; exact d1.pure r1 rfl
/-- and, or of bools as values -/
def mAndV (m n : M W) : M W := M.bind (mB m) fun b => if b = true then n else M.pure (.bl false)
def mOrV (m n : M W) : M W := M.bind (mB m) fun b => if b = true then M.pure (.bl true) else n
theorem M.bind_assoc {α β γ : Type} (m : M α) (f : α → M β) (k : β → M γ) : M.bind (M.bind m f) k = M.bind m fun a => M.bind (f a) k := by
  funext ρ G
  unfold M.bind
  cases m ρ G <;> rfl
theorem M.of_bind {α β : Type} {o : Option α} {k : α → M β} {a : α} (e : o = some a) : M.bind (M.of o) k = k a := by
  subst e; rfl
theorem eAnd1 {op : BoolOp} {m : M W} (h : PE X e (D c Mu (rV false) m Wx)) : PE X (.BoolOp op [e] pos) (D c Mu (rV false) m Wx) := pe_one h
theorem eAnd2 {rest : List Expr} {m n : M W} (ha : PE X a (D c Mu (rV false) m Wx)) (hb : PE X (.BoolOp .And (b :: rest) pos) (D c Mu (rV false) n Wx)) : PE X (.BoolOp .And (a :: b :: rest) pos) (D c Mu (rV false) (mAndV m n) Wx) :=
  PE.weak (pe_and ha hb) fun σ H Q h => by
    unfold mAndV mB at h
    rw [M.bind_assoc] at h
    refine h.bind fun w x H1 Z1 P g1 ρ1 G1 r1 q1 d1 => ?_
    cases e : boolW w with
    | none => exact (d1.bind_bad (by rw [e]; rfl)).elim
    | some k =>
      rw [e, M.of_bind rfl] at d1
      refine ⟨k, fz_bl e q1, ?_⟩
      cases k with
      | true => rw [if_pos rfl] at d1 ⊢; exact ⟨_, _, _, _, _, r1, d1⟩
      | false => rw [if_neg Bool.false_ne_true] at d1 ⊢; exact d1.pure r1 (rV_false (.bl false))
theorem eOr2 {rest : List Expr} {m n : M W} (ha : PE X a (D c Mu (rV false) m Wx)) (hb : PE X (.BoolOp .Or (b :: rest) pos) (D c Mu (rV false) n Wx)) : PE X (.BoolOp .Or (a :: b :: rest) pos) (D c Mu (rV false) (mOrV m n) Wx) :=
  PE.weak (pe_or ha hb) fun σ H Q h => by
    unfold mOrV mB at h
    rw [M.bind_assoc] at h
    refine h.bind fun w x H1 Z1 P g1 ρ1 G1 r1 q1 d1 => ?_
    cases e : boolW w with
    | none => exact (d1.bind_bad (by rw [e]; rfl)).elim
    | some k =>
      rw [e, M.of_bind rfl] at d1
      refine ⟨k, fz_bl e q1, ?_⟩
      cases k with
      | false => rw [if_neg Bool.false_ne_true] at d1 ⊢; exact ⟨_, _, _, _, _, r1, d1⟩
      | true => rw [if_pos rfl] at d1 ⊢; exact d1.pure r1 (rV_false (.bl true))
def mNotV (m : M W) : M W := M.bind (mB m) fun b => M.pure (.bl (!b))
theorem eNot {m : M W} (h : PE X e (D c Mu (rV false) m Wx)) : PE X (.UnaryOp .Not e pos) (D c Mu (rV false) (mNotV m) Wx) :=
  PE.weak (pe_not h) fun σ H Q h => by
    unfold mNotV mB at h
    rw [M.bind_assoc] at h
    refine h.bind fun w x H1 Z1 P g1 ρ1 G1 r1 q1 d1 => ?_
    cases e : boolW w with
    | none => exact (d1.bind_bad (by rw [e]; rfl)).elim
    | some k =>
      rw [e, M.of_bind rfl] at d1
      exact ⟨k, fz_bl e q1, d1.pure r1 (rV_false (.bl _))⟩
/-- a if t else b -/
def mIf {α : Type} (t : M Bool) (a b : M α) : M α := M.bind t fun k => if k = true then a else b
theorem eIf {t : Expr} {mt : M Bool} {m n : M W} (ht : PT X t (D c Mu rEq mt Wx)) (ha : PE X a (D c Mu (rV fr) m Wx)) (hb : PE X b (D c Mu (rV fr) n Wx)) : PE X (.IfExp t a b pos) (D c Mu (rV fr) (mIf mt m n) Wx) :=
  PE.weak (pe_ifExp ht ha hb) fun σ H Q h => h.bind fun k x H1 Z1 P g1 ρ1 G1 r1 q1 d1 => by
    subst q1
    cases k with
    | true => rw [if_pos rfl] at d1 ⊢; exact ⟨_, _, _, _, _, r1, d1⟩
    | false => rw [if_neg Bool.false_ne_true] at d1 ⊢; exact ⟨_, _, _, _, _, r1, d1⟩
/-- a op1 b op2 c -/
def mCh (f f' : W → W → Option W) (ma mb mc : M Opd) : M W := M.bind ma fun oa => M.bind mb fun ob => M.bind oa.get fun x => M.bind ob.get fun y => M.bind (M.of ((f x y).bind boolW)) fun k =>
  if k = true then M.bind mc fun oc => M.bind ob.get fun y => M.bind oc.get fun z => M.of (f' y z) else M.pure (.bl false)
theorem dCh {r r' : R2} {f' : W → W → Option W} (s : Snd2 c Mu false r f) (s' : Snd2 c Mu false r' f') {σ : St} {H : Hp} {Q : VK} (h : D c Mu (rV false) (mCh f f' ma mb mc) Wx σ H Q) :
    tChain r r' (D c Mu rO ma Wx) (D c Mu rO mb Wx) (D c Mu rO mc Wx) σ H Q := by
  refine h.bind fun oa x H1 Z1 P g1 ρ1 G1 r1 q1 d1 => ?_
  refine ⟨Z1, P, g1, ρ1, G1, r1, d1.bind fun ob y H2 Z2 g2 ρ2 G2 l2 p2 r2 q2 d2 => ?_⟩
  obtain ⟨wx, bx, d3⟩ := d2.get r2 (rO.le (H' := H2) (P' := P) (ρ' := ρ2) l2 p2 q1)
  obtain ⟨wy, by', d4⟩ := d3.get r2 q2
  cases e : f wx wy with
  | none => exact (d4.bind_bad (by rw [e]; rfl)).elim
  | some w =>
    cases e2 : boolW w with
    | none => exact (d4.bind_bad (by rw [e, Option.bind_some, e2]; rfl)).elim
    | some k =>
      rw [e, Option.bind_some, e2, M.of_bind rfl] at d4
      refine s Z2 P g2 ρ2 G2 σ H2 x y wx wy w _ r2 bx by' e fun v H' Z' l r' q => ⟨k, fz_bl e2 q, ?_⟩
      cases k with
      | false => rw [if_neg Bool.false_ne_true] at d4 ⊢; exact d4.pure' l (Pre.refl _) r' (rV_false (.bl false))
      | true =>
        rw [if_pos rfl] at d4 ⊢
        refine ⟨Z', P, g2, ρ2, G2, r', ?_⟩
        have d5 : Dat c Mu (rV false) (M.bind mc fun oc => M.bind ob.get fun y => M.bind oc.get fun z => M.of (f' y z)) Wx Z' P g2 ρ2 G2 σ Q := by
          unfold Dat at d4 ⊢
          revert d4
          generalize (M.bind mc fun oc => M.bind ob.get fun y => M.bind oc.get fun z => M.of (f' y z)) ρ2 G2 = res
          intro d4
          cases res with
          | bad => exact d4
          | exc n G' => exact fun H3 Z3 g3 l3 p3 r3 => d4 H3 Z3 g3 (l.trans l3) p3 r3
          | ok w' ρ' G' => exact fun x3 H3 Z3 g3 l3 p3 r3 q3 => d4 x3 H3 Z3 g3 (l.trans l3) p3 r3 q3
        refine d5.bind fun oc z H3 Z3 g3 ρ3 G3 l3 p3 r3 q3 d6 => ?_
        obtain ⟨wy', by2, d7⟩ := d6.get r3 (rO.le (H' := H3) (P' := P) (ρ' := ρ3) (l.trans l3) p3 q2)
        obtain ⟨wz, bz, d8⟩ := d7.get r3 q3
        obtain ⟨w2, ew, d9⟩ := d8.of
        exact s' Z3 P g3 ρ3 G3 σ H3 y z wy' wz w2 Q r3 by2 bz ew fun v H' Z' l r' q => d9.pure' l (Pre.refl _) r' q
theorem eChain {op op' : CmpOp} {r r' : R2} {cc : Expr} {f' : W → W → Option W} (ho : OpR X (compareOp op) r) (s : Snd2 c Mu false r f) (ho' : OpR X (compareOp op') r') (s' : Snd2 c Mu false r' f') (ha : PE X a (D c Mu rO ma Wx)) (hb : PE X b (D c Mu rO mb Wx)) (hc : PE X cc (D c Mu rO mc Wx))
    (hm : lastMarks [op, op'] [b, cc] = false := by with_unfolding_all rfl) : PE X (.Compare a [op, op'] [b, cc] pos) (D c Mu (rV false) (mCh f f' ma mb mc) Wx) :=
  PE.weak (pe_chain ho ho' ha hb hc hm) fun σ H Q h => dCh s s' h
theorem tChain' {op op' : CmpOp} {r r' : R2} {cc : Expr} {f' : W → W → Option W} (ho : OpR X (compareOp op) r) (s : Snd2 c Mu false r f) (ho' : OpR X (compareOp op') r') (s' : Snd2 c Mu false r' f') (ha : PE X a (D c Mu rO ma Wx)) (hb : PE X b (D c Mu rO mb Wx)) (hc : PE X cc (D c Mu rO mc Wx))
    (hm : lastMarks [op, op'] [b, cc] = false := by with_unfolding_all rfl) : PT X (.Compare a [op, op'] [b, cc] pos) (D c Mu rEq (mB (mCh f f' ma mb mc)) Wx) :=
  PT.weak (pt_chain ho ho' ha hb hc hm) fun σ H Q h => dCh s s' (dB h)
end
end Mp
set_option Elab.async false
set_option linter.all false
set_option maxRecDepth 100000
set_option maxHeartbeats 2000000
/-! Mp4: the operators, one by one. -/
namespace Mp
open PySem PySem.Spec L2
open PyProof.Rows hiding St

section
variable {X : Cx} {c : Cn} {Mu : Nat → Bool}

theorem mkS (z : Str) : (⟨z.cps.toList.toArray⟩ : Str) = z := by cases z; rfl
theorem Fz.strOf {K : PySem.W.Frag} {Z : Hp} {g : List Addr} {s : List Nat} {z : Str} (e : z.cps.toList = s) (h : ∀ n ∈ s, n < 0x110000) : Fz K Z g (.str s) (.str z) := by
  subst e
  exact .str z (by rw [← Array.all_toList, List.all_eq_true]; exact fun n hn => decide_eq_true (h n hn))
theorem strOk_mem {z : Str} (h : z.cps.all (· < 0x110000) = true) : ∀ n ∈ z.cps.toList, n < 0x110000 := by
  rw [← Array.all_toList, List.all_eq_true] at h
  exact fun n hn => of_decide_eq_true (h n hn)
theorem Bor.strM {c : Cn} {Z : Hp} {g : List Addr} {H : Hp} {x : V} {s : List Nat} (b : Bor c Z g H (.str s) x) : ∃ z : Str, x = .str z ∧ z.cps.toList = s ∧ (∀ n ∈ s, n < 0x110000) ∧ z.length = s.length := by
  obtain ⟨z, e, e2, h⟩ := b.str
  refine ⟨z, e, e2, ?_, ?_⟩
  · rw [← e2]; exact strOk_mem h
  · rw [← e2]; simp [Str.length]
theorem szOk_le {n : Nat} (h : szOk n = true) : n ≤ sizeLine := by
  rw [sizeLine_eq]
  exact of_decide_eq_true h

/-! ### + -/
def rPlus (K : PySem.W.Frag) : R2 := fun x y H Q => (∃ i j, x = .int i ∧ y = .int j ∧ Q (.int (i + j)) H) ∨ (∃ i j, x = .str i ∧ y = .str j ∧ i.length + j.length ≤ sizeLine ∧ Q (.str (i ++ j)) H) ∨ rCatA K x y H Q
theorem op_plus : OpR X (binaryOp .Add) (rPlus X.K) := op_add.or (op_add_str.or op_catA)
theorem sAdd (hK : X.K = c.K := by rfl) : Snd2 c Mu false (rPlus X.K) wAdd := by
  rw [hK]
  intro Z P g ρ G σ H x y wx wy w Q r bx by' e k
  cases wx <;> cases wy <;> simp only [wAdd] at e <;> first | cases e | skip
  · obtain rfl := bx.int
    obtain rfl := by'.int
    exact .inl ⟨_, _, rfl, rfl, k _ H Z (Le.refl _) r (rV_false (.int _))⟩
  · obtain ⟨z, rfl, e1, o1, l1⟩ := bx.strM
    obtain ⟨z2, rfl, e2, o2, l2⟩ := by'.strM
    split at e
    · cases e
      rename_i hs
      refine .inr (.inl ⟨_, _, rfl, rfl, ?_, k _ H Z (Le.refl _) r (rV_false (Fz.strOf (by rw [← e1, ← e2]; exact (by show (z.cps ++ z2.cps).toList = _; rw [Array.toList_append])) fun n hn => ?_))⟩)
      · rw [l1, l2]; exact szOk_le hs
      · rcases List.mem_append.mp hn with h | h
        · exact o1 n h
        · exact o2 n h
    · cases e
  · obtain ⟨a, xs, rfl, z1, h1, f1⟩ := bx.tup r.zh
    obtain ⟨b, ys, rfl, z2, h2, f2⟩ := by'.tup r.zh
    split at e
    · cases e
      rename_i hs
      refine .inr (.inr ⟨a, b, xs, ys, rfl, rfl, h1, h2, ?_, fun e => ?_, fun _ e => ?_, fun _ _ p hp => ?_⟩)
      · rw [← f1.length, ← f2.length]; exact szOk_le hs
      · subst e
        cases f1
        exact k _ H Z (Le.refl _) r (rV_false (.tup z2 f2))
      · subst e
        cases f2
        rw [List.append_nil] at k
        exact k _ H Z (Le.refl _) r (rV_false (.tup z1 f1))
      · have r2 := r.fixed (.tup (xs ++ ys)) hp
        have l : Le Z (upd Z p (.tup (xs ++ ys))) := Le.upd (r.new hp).nz
        exact k _ _ _ l r2 (rV_false (.tup (.inl (.inl upd_same)) ((f1.append f2).le l (Pre.refl _))))
    · cases e

theorem sI2 {r : R2} {f : W → W → Option W} {g : Int → Int → Int} (hf : ∀ a b w, f a b = some w → ∃ i j, a = .int i ∧ b = .int j ∧ w = .int (g i j))
    (hr : ∀ (i j : Int) (H : Hp) (Q : VK), (∃ w, f (.int i) (.int j) = some w) → Q (.int (g i j)) H → r (.int i) (.int j) H Q) : Snd2 c Mu false r f := by
  intro Z P g' ρ G σ H x y wx wy w Q r' bx by' e k
  obtain ⟨i, j, rfl, rfl, rfl⟩ := hf _ _ _ e
  obtain rfl := bx.int
  obtain rfl := by'.int
  exact hr i j H Q ⟨_, e⟩ (k _ H Z (Le.refl _) r' (rV_false (.int _)))
theorem sSub : Snd2 c Mu false (rI0 fun i j => .int (i - j)) wSub := sI2 (g := fun i j => i - j) (fun a b w e => by cases a <;> cases b <;> simp only [wSub] at e <;> first | (cases e; exact ⟨_, _, rfl, rfl, rfl⟩) | cases e)
  fun i j H Q _ q => ⟨i, j, rfl, rfl, q⟩
theorem mulOk_of {i j : Int} (h : mulOk i j = true) : CMul i j ∨ CMulW i j := by
  unfold mulOk at h
  rw [Bool.or_eq_true, Bool.or_eq_true, Bool.and_eq_true] at h
  rcases h with (h | h) | ⟨h, h'⟩
  · have := of_decide_eq_true h
    refine .inl (.inl ?_)
    omega
  · have := of_decide_eq_true h
    refine .inl (.inr ?_)
    omega
  · exact .inr (wide_mul (of_decide_eq_true h) (of_decide_eq_true h') (by decide) (by decide) (by decide))
def rMulS : R2 := fun x y H Q => ∃ z n, x = .str z ∧ y = .int n ∧ PySem.MulOk z n ∧ Q (.str (Txt.mul z n)) H
theorem op_mulS : OpR X (binaryOp .Mult) rMulS := by
  intro pins s σ H x y v u Q I rx ry h
  obtain ⟨z, n, rfl, rfl, hm, q⟩ := h
  obtain ⟨t, rfl⟩ := rx
  obtain ⟨t', rfl⟩ := ry
  exact SB.mul hm fun t' k => ⟨.str (Txt.mul z n), H, I.tok _, ⟨_, rfl⟩, q⟩
def rTimes : R2 := fun x y H Q => rI CMul (fun i j => .int (i * j)) x y H Q ∨ rI CMulW (fun i j => .int (i * j)) x y H Q ∨ rMulS x y H Q
theorem op_times : OpR X (binaryOp .Mult) rTimes := op_mul.or (op_mulW.or op_mulS)
theorem foldl_reps (c : Array Nat) : ∀ (k : Nat) (acc : Array Nat), ((List.replicate k c).foldl (· ++ ·) acc).toList = acc.toList ++ (List.replicate k c.toList).flatten
  | 0, acc => by simp
  | k + 1, acc => by
    rw [List.replicate_succ, List.foldl_cons, foldl_reps c k, List.replicate_succ, List.flatten_cons, Array.toList_append, List.append_assoc]
theorem mul_tl (z : Str) (n : Int) : (Txt.mul z n).cps.toList = repS z.cps.toList n.toNat := by
  unfold Txt.mul repS
  by_cases h1 : n < 1
  · rw [if_pos h1, show n.toNat = 0 by omega]; rfl
  · rw [if_neg h1]
    split
    · rename_i hc
      rw [Bool.or_eq_true, beq_iff_eq, beq_iff_eq] at hc
      rcases hc with h | h
      · subst h
        show z.cps.toList = (List.replicate 1 z.cps.toList).flatten
        simp
      · have : z.cps.toList = [] := by
          have h : z.cps.size = 0 := h
          exact List.eq_nil_of_length_eq_zero (by rw [Array.length_toList]; exact h)
        rw [this]; simp
    · show ((List.replicate n.toNat z.cps).foldl (· ++ ·) #[]).toList = _
      rw [foldl_reps]; simp
theorem sMul : Snd2 c Mu false rTimes wMul := by
  intro Z P g ρ G σ H x y wx wy w Q r bx by' e k
  cases wx <;> cases wy <;> simp only [wMul] at e <;> first | cases e | skip
  · rename_i i j
    obtain rfl := bx.int
    obtain rfl := by'.int
    split at e
    · cases e
      rename_i h
      have q := k _ H Z (Le.refl _) r (rV_false (.int _))
      rcases mulOk_of h with h | h
      · exact .inl ⟨i, j, rfl, rfl, h, q⟩
      · exact .inr (.inl ⟨i, j, rfl, rfl, h, q⟩)
    · cases e
  · rename_i s n
    obtain ⟨z, rfl, e1, o1, l1⟩ := bx.strM
    obtain rfl := by'.int
    split at e
    · cases e
      rename_i h
      unfold repOk at h
      rw [Bool.and_eq_true, Bool.and_eq_true, Bool.and_eq_true] at h
      have h1 := of_decide_eq_true h.1.1.1
      have h2 := of_decide_eq_true h.1.1.2
      have h3 := of_decide_eq_true h.1.2
      have h4 := of_decide_eq_true h.2
      refine .inr (.inr ⟨z, n, rfl, rfl, ?_, k _ H Z (Le.refl _) r (rV_false (Fz.strOf (by rw [mul_tl, e1]) fun m hm => ?_))⟩)
      · refine PyProof.Rows.mulOk_of s.length n.toNat (by rw [l1]; exact Nat.le_refl _) (by omega) h1 (by omega) h3
      · unfold repS at hm
        rw [List.mem_flatten] at hm
        obtain ⟨l, hl, hm⟩ := hm
        rw [List.mem_replicate] at hl
        rw [hl.2] at hm
        exact o1 m hm
    · cases e
theorem sDiv : Snd2 c Mu false (rI CDivW fun i j => .int (i / j)) wDiv := sI2 (g := fun i j => i / j) (fun a b w e => by
    cases a <;> cases b <;> simp only [wDiv] at e <;> first | cases e | skip
    split at e <;> cases e
    exact ⟨_, _, rfl, rfl, rfl⟩)
  fun i j H Q ⟨w, e⟩ q => by
    simp only [wDiv] at e
    split at e
    · rename_i h
      rw [Bool.and_eq_true] at h
      exact ⟨i, j, rfl, rfl, wide_div (of_decide_eq_true h.1) (of_decide_eq_true h.2) (by decide) (by decide), q⟩
    · cases e
theorem sMod : Snd2 c Mu false (rI (fun _ j => 0 < j) fun i j => .int (i % j)) wMod := sI2 (g := fun i j => i % j) (fun a b w e => by
    cases a <;> cases b <;> simp only [wMod] at e <;> first | cases e | skip
    split at e <;> cases e
    exact ⟨_, _, rfl, rfl, rfl⟩)
  fun i j H Q ⟨w, e⟩ q => by
    simp only [wMod] at e
    split at e
    · rename_i h
      exact ⟨i, j, rfl, rfl, of_decide_eq_true h, q⟩
    · cases e
theorem sAnd : Snd2 c Mu false (rI0 fun i j => .int (Builtin.bitAnd i j)) wAnd := sI2 (g := fun i j => Builtin.bitAnd i j) (fun a b w e => by cases a <;> cases b <;> simp only [wAnd] at e <;> first | (cases e; exact ⟨_, _, rfl, rfl, rfl⟩) | cases e)
  fun i j H Q _ q => ⟨i, j, rfl, rfl, q⟩
theorem sShl : Snd2 c Mu false (rI CPow fun i j => .int (i * 2 ^ j.toNat)) wShl := sI2 (g := fun i j => i * 2 ^ j.toNat) (fun a b w e => by
    cases a <;> cases b <;> simp only [wShl] at e <;> first | cases e | skip
    split at e <;> cases e
    exact ⟨_, _, rfl, rfl, rfl⟩)
  fun i j H Q ⟨w, e⟩ q => by
    simp only [wShl] at e
    split at e
    · rename_i h
      rw [Bool.and_eq_true, Bool.and_eq_true] at h
      exact ⟨i, j, rfl, rfl, ⟨of_decide_eq_true h.1.1, of_decide_eq_true h.1.2, of_decide_eq_true h.2⟩, q⟩
    · cases e
theorem sShr : Snd2 c Mu false (rI (fun _ j => 0 ≤ j) fun i j => .int (i / 2 ^ j.toNat)) wShr := sI2 (g := fun i j => i / 2 ^ j.toNat) (fun a b w e => by
    cases a <;> cases b <;> simp only [wShr] at e <;> first | cases e | skip
    split at e <;> cases e
    exact ⟨_, _, rfl, rfl, rfl⟩)
  fun i j H Q ⟨w, e⟩ q => by
    simp only [wShr] at e
    split at e
    · rename_i h
      exact ⟨i, j, rfl, rfl, of_decide_eq_true h, q⟩
    · cases e
theorem sNeg : Snd1 c Mu false (rU fun i => .int (-i)) wNeg := by
  intro Z P g ρ G σ H x wx w Q r bx e k
  cases wx <;> simp only [wNeg] at e <;> cases e
  obtain rfl := bx.int
  exact ⟨_, rfl, k _ H Z (Le.refl _) r (rV_false (.int _))⟩

/-! ### lists + * -/
theorem sAddL : Snd2 c Mu true rCat wAddL := by
  intro Z P g ρ G σ H x y wx wy w Q r bx by' e k
  cases wx <;> cases wy <;> simp only [wAddL] at e <;> first | cases e | skip
  obtain ⟨a, xs, rfl, h1, f1⟩ := bx.lst r.zh
  obtain ⟨b, ys, rfl, h2, f2⟩ := by'.lst r.zh
  split at e
  · cases e
    rename_i hs
    refine ⟨a, b, xs, ys, rfl, rfl, h1, h2, ?_, fun p hp => k _ _ Z (Le.refl _) (r.laid _ hp) (rV_true (r.fresh hp (.lst (f1.append f2))))⟩
    rw [← f1.length, ← f2.length]; exact szOk_le hs
  · cases e
theorem FzL.rep {K : PySem.W.Frag} {Z : Hp} {g : List Addr} {ws : List W} {vs : List V} (h : FzL K Z g ws vs) : ∀ n : Nat, FzL K Z g (List.replicate n ws).flatten (List.replicate n vs).flatten
  | 0 => .nil
  | n + 1 => by
    rw [List.replicate_succ, List.replicate_succ, List.flatten_cons, List.flatten_cons]
    exact h.append (h.rep n)
theorem sMulL : Snd2 c Mu true rRep wMulL := by
  intro Z P g ρ G σ H x y wx wy w Q r bx by' e k
  cases wx <;> cases wy <;> simp only [wMulL] at e <;> first | cases e | skip
  obtain ⟨a, xs, rfl, h1, f1⟩ := bx.lst r.zh
  obtain rfl := by'.int
  split at e
  · cases e
    rename_i hs
    rw [Bool.and_eq_true, Bool.and_eq_true] at hs
    refine ⟨a, _, xs, rfl, rfl, h1, of_decide_eq_true hs.1.1, of_decide_eq_true hs.1.2, ?_, fun p hp => k _ _ Z (Le.refl _) (r.laid _ hp) (rV_true (r.fresh hp (.lst (f1.rep _))))⟩
    rw [← f1.length]; exact szOk_le hs.2
  · cases e

/-! ### == -/
mutual
def toD : W → PyData
  | .non => .none
  | .bl b => .bool b
  | .int i => .int i
  | .str s => .str ⟨s.toArray⟩
  | .tup xs => .tuple (toDs xs)
  | .lst xs => .list (toDs xs)
  | .dct _ => .none
  | .rng _ _ => .none
  | .obj _ => .none
  | .scr _ => .none
def toDs : List W → List PyData
  | [] => []
  | x :: xs => toD x :: toDs xs
end
theorem okD_dct (n : Nat) (k : List (W × W)) : okD n (.dct k) = false := by cases n <;> rfl
theorem okD_rng (n : Nat) (a b : Int) : okD n (.rng a b) = false := by cases n <;> rfl
theorem okD_obj (n a : Nat) : okD n (.obj a) = false := by cases n <;> rfl
theorem okD_scr (n : Nat) (a : List Int) : okD n (.scr a) = false := by cases n <;> rfl
theorem okD_tup {n : Nat} {xs : List W} (h : okD n (.tup xs) = true) : ∃ m, n = m + 1 ∧ okDs m xs = true := by
  cases n with
  | zero => cases h
  | succ m => exact ⟨m, rfl, h⟩
theorem okD_lst {n : Nat} {xs : List W} (h : okD n (.lst xs) = true) : ∃ m, n = m + 1 ∧ okDs m xs = true := by
  cases n with
  | zero => cases h
  | succ m => exact ⟨m, rfl, h⟩
theorem beqS (x y : List Nat) : ((⟨x.toArray⟩ : Str) == ⟨y.toArray⟩) = (x == y) := by
  rw [Bool.eq_iff_iff]
  simp
mutual
theorem eqv_eq : ∀ (n : Nat) (a b : W), okD n a = true → okD n b = true → PyData.eqv (toD a) (toD b) = eqW a b
  | n, a, b, ha, hb => by
    cases a <;> cases b
    all_goals first
      | (rw [okD_dct] at ha; cases ha)
      | (rw [okD_rng] at ha; cases ha)
      | (rw [okD_obj] at ha; cases ha)
      | (rw [okD_scr] at ha; cases ha)
      | (rw [okD_dct] at hb; cases hb)
      | (rw [okD_rng] at hb; cases hb)
      | (rw [okD_obj] at hb; cases hb)
      | (rw [okD_scr] at hb; cases hb)
      | (simp only [toD, PyData.eqv, eqW]; done)
      | (simp only [toD, PyData.eqv, eqW]; exact beqS _ _)
      | skip
    · rename_i xs ys
      obtain ⟨m, rfl, h⟩ := okD_tup ha
      simp only [toD, PyData.eqv, eqW]
      exact eqvs_eq m xs ys h hb
    · rename_i xs ys
      obtain ⟨m, rfl, h⟩ := okD_lst ha
      simp only [toD, PyData.eqv, eqW]
      exact eqvs_eq m xs ys h hb
theorem eqvs_eq : ∀ (n : Nat) (a b : List W), okDs n a = true → okDs n b = true → PyData.eqvAll (toDs a) (toDs b) = eqWs a b
  | n, [], [], _, _ => rfl
  | n, [], y :: ys, _, _ => rfl
  | n, x :: xs, [], _, _ => rfl
  | n, x :: xs, y :: ys, ha, hb => by
    simp only [okDs, Bool.and_eq_true] at ha hb
    simp only [toDs, PyData.eqvAll, eqWs]
    rw [eqv_eq n x y ha.1 hb.1, eqvs_eq n xs ys ha.2 hb.2]
end
mutual
theorem fz_dp {c : Cn} {Z H : Hp} {g : List Addr} (l : Le Z H) : ∀ (n : Nat) (w : W) (x : V), okD n w = true → Fz c.K Z g w x → Dp c.K H x (toD w) ∧ PyData.canLay0 (toD w) = true ∧ (toD w).depth ≤ n
  | n, w, x, h, f => by
    cases f with
    | non => exact ⟨.non, rfl, by simp [toD, PyData.depth]⟩
    | bl b => exact ⟨.bl b, rfl, by simp [toD, PyData.depth]⟩
    | int i => exact ⟨.int i, rfl, by simp [toD, PyData.depth]⟩
    | str z q =>
      have e : (⟨z.cps.toList.toArray⟩ : Str) = z := mkS z
      refine ⟨?_, ?_, by simp [toD, PyData.depth]⟩
      · show Dp c.K H (.str z) (.str _)
        rw [e]; exact .str z
      · show PyData.canLay0 (.str _) = true
        rw [e]
        simpa [PyData.canLay0, PyData.strOk] using q
    | tup hs q =>
      obtain ⟨m, rfl, h⟩ := okD_tup h
      obtain ⟨d, e1, e2⟩ := fz_dps l m _ _ h q
      refine ⟨.tup (SqT.le l hs) d, ?_, ?_⟩
      · simpa only [toD, PyData.canLay0] using e1
      · simp only [toD, PyData.depth]; omega
    | lst hs q =>
      obtain ⟨m, rfl, h⟩ := okD_lst h
      obtain ⟨d, e1, e2⟩ := fz_dps l m _ _ h q
      refine ⟨.lst (SqL.of (l _ _ hs)) d, ?_, ?_⟩
      · simpa only [toD, PyData.canLay0] using e1
      · simp only [toD, PyData.depth]; omega
    | scr _ => rw [okD_scr] at h; cases h
    | dK _ _ => rw [okD_dct] at h; cases h
    | rng _ => rw [okD_rng] at h; cases h
    | obj _ => rw [okD_obj] at h; cases h
theorem fz_dps {c : Cn} {Z H : Hp} {g : List Addr} (l : Le Z H) : ∀ (n : Nat) (w : List W) (x : List V), okDs n w = true → FzL c.K Z g w x → DpAll c.K H x (toDs w) ∧ PyData.canLayAll0 (toDs w) = true ∧ PyData.depthAll (toDs w) ≤ n
  | n, [], _, _, .nil => ⟨.nil, rfl, Nat.zero_le _⟩
  | n, w :: ws, v :: vs, h, .cons f q => by
    simp only [okDs, Bool.and_eq_true] at h
    obtain ⟨d1, e1, e2⟩ := fz_dp l n w v h.1 f
    obtain ⟨d2, e3, e4⟩ := fz_dps l n ws vs h.2 q
    refine ⟨.cons d1 d2, ?_, ?_⟩
    · simp only [toDs, PyData.canLayAll0, Bool.and_eq_true]; exact ⟨e1, e3⟩
    · simp only [toDs, PyData.depthAll]; omega
end
theorem bor_dp {c : Cn} {Z H : Hp} {g : List Addr} (l : Le Z H) {w : W} {x : V} (h : okD 64 w = true) (b : Bor c Z g H w x) : Dp c.K H x (toD w) ∧ SeqAt.shaped (toD w) = true := by
  rcases b with f | ⟨a, o, rfl, e, q⟩
  · obtain ⟨d, e1, e2⟩ := fz_dp l 64 w x h f
    exact ⟨d, by unfold SeqAt.shaped; rw [e1, decide_eq_true e2]; rfl⟩
  · cases q with
    | dK _ => rw [okD_dct] at h; cases h
    | lst q =>
      obtain ⟨d, e1, e2⟩ := fz_dps l 63 _ _ (show okDs 63 _ = true from h) q
      refine ⟨.lst (SqL.of e) d, ?_⟩
      unfold SeqAt.shaped
      rw [show PyData.canLay0 (toD (.lst _)) = true by simpa only [toD, PyData.canLay0] using e1]
      rw [decide_eq_true (by simp only [toD, PyData.depth]; omega)]
      rfl
theorem sEq (hK : X.K = c.K := by rfl) : Snd2 c Mu false (rEqD X.K) wEq := by
  rw [hK]
  intro Z P g ρ G σ H x y wx wy w Q r bx by' e k
  unfold wEq at e
  split at e
  · cases e
    rename_i h
    rw [Bool.and_eq_true] at h
    obtain ⟨d1, s1⟩ := bor_dp r.zh h.1 bx
    obtain ⟨d2, s2⟩ := bor_dp r.zh h.2 by'
    refine ⟨_, _, d1, d2, s1, s2, ?_⟩
    rw [eqv_eq 64 _ _ h.1 h.2]
    exact k _ H Z (Le.refl _) r (rV_false (.bl _))
  · cases e
theorem sNe (hK : X.K = c.K := by rfl) : Snd2 c Mu false (rNeD X.K) wNe := by
  rw [hK]
  intro Z P g ρ G σ H x y wx wy w Q r bx by' e k
  unfold wNe at e
  split at e
  · cases e
    rename_i h
    rw [Bool.and_eq_true] at h
    obtain ⟨d1, s1⟩ := bor_dp r.zh h.1 bx
    obtain ⟨d2, s2⟩ := bor_dp r.zh h.2 by'
    refine ⟨_, _, d1, d2, s1, s2, ?_⟩
    rw [eqv_eq 64 _ _ h.1 h.2]
    exact k _ H Z (Le.refl _) r (rV_false (.bl _))
  · cases e
end
end Mp
set_option Elab.async false
set_option linter.all false
set_option maxRecDepth 100000
set_option maxHeartbeats 2000000
/-! Mp5: constants, comparisons, places, slices, displays, arguments, built-ins. -/
namespace Mp
open PySem PySem.Spec L2
open PyProof.Rows hiding St

section
variable {X : Cx} {c : Cn} {Mu : Nat → Bool} {Wx : XK} {fr : Bool} {e a b : Expr} {pos : Pos} {ma mb mc : M Opd}

/-! ### constants -/
theorem eC {w : W} {v : V} (h : PE X e (tC v)) (f : ∀ Z g, Fz c.K Z g w v) : PE X e (D c Mu (rV false) (M.pure w) Wx) := PE.weak h fun σ H Q ⟨Z, P, g, ρ, G, r, d⟩ => d.pure r (rV_false (f Z g))
theorem eInt {i : Int} {j pos} : PE X (.Constant (.int i) j pos) (D c Mu (rV false) (M.pure (.int i)) Wx) := eC pe_int fun _ _ => .int i
theorem eBl {b : Bool} {j pos} : PE X (.Constant (.bool b) j pos) (D c Mu (rV false) (M.pure (.bl b)) Wx) := eC pe_bl fun _ _ => .bl b
theorem eNon {j pos} : PE X (.Constant .none j pos) (D c Mu (rV false) (M.pure .non) Wx) := eC pe_non fun _ _ => .non
def strIs (x : Str) (s : List Nat) : Bool := decide (x.cps.toList = s) && s.all (· < 0x110000)
theorem fz_str {K : PySem.W.Frag} {Z : Hp} {g : List Addr} {x : Str} {s : List Nat} (h : strIs x s = true) : Fz K Z g (.str s) (.str x) := by
  unfold strIs at h
  rw [Bool.and_eq_true] at h
  refine Fz.strOf (of_decide_eq_true h.1) fun n hn => ?_
  exact of_decide_eq_true (List.all_eq_true.mp h.2 n hn)
theorem eStr {x : Str} (s : List Nat) {j pos} (h : strIs x s = true := by decide +kernel) : PE X (.Constant (.str x) j pos) (D c Mu (rV false) (M.pure (.str s)) Wx) := eC pe_str fun _ _ => fz_str h
/-- a text of the module -/
theorem eGStr {x : Str} {z : Str} {t : Tok} (s : List Nat) (hg : Gl X x) (hm : X.mg x = some (.str z t)) (h : strIs z s = true := by decide +kernel) (hd : (x == ("__debug__" : Str)) = false := by decide) : PE X (.Name x pos) (D c Mu (rV false) (M.pure (.str s)) Wx) :=
  eC (pe_glob (v := .str z) hg hm ⟨t, rfl⟩ hd) fun _ _ => fz_str h
theorem eGInt {x : Str} {i : Int} {t : Tok} (hg : Gl X x) (hm : X.mg x = some (.int i t)) (hd : (x == ("__debug__" : Str)) = false := by decide) : PE X (.Name x pos) (D c Mu (rV false) (M.pure (.int i)) Wx) :=
  eC (pe_glob (v := .int i) hg hm ⟨t, rfl⟩ hd) fun _ _ => .int i

/-! ### comparisons -/
theorem sB2 {r : R2} {f : W → W → Option W} {g : Int → Int → Bool} (hf : ∀ a b w, f a b = some w → ∃ i j, a = .int i ∧ b = .int j ∧ w = .bl (g i j))
    (hr : ∀ (i j : Int) (H : Hp) (Q : VK), Q (.bl (g i j)) H → r (.int i) (.int j) H Q) : Snd2 c Mu false r f := by
  intro Z P g' ρ G σ H x y wx wy w Q r' bx by' e k
  obtain ⟨i, j, rfl, rfl, rfl⟩ := hf _ _ _ e
  obtain rfl := bx.int
  obtain rfl := by'.int
  exact hr i j H Q (k _ H Z (Le.refl _) r' (rV_false (.bl _)))
theorem sLe : Snd2 c Mu false (rI0 fun i j => .bl (decide (i ≤ j))) wLe := sB2 (g := fun i j => decide (i ≤ j)) (fun a b w e => by cases a <;> cases b <;> simp only [wLe] at e <;> first | (cases e; exact ⟨_, _, rfl, rfl, rfl⟩) | cases e)
  fun i j H Q q => ⟨i, j, rfl, rfl, q⟩
theorem sGt : Snd2 c Mu false (rI0 fun i j => .bl (decide (j < i))) wGt := sB2 (g := fun i j => decide (j < i)) (fun a b w e => by cases a <;> cases b <;> simp only [wGt] at e <;> first | (cases e; exact ⟨_, _, rfl, rfl, rfl⟩) | cases e)
  fun i j H Q q => ⟨i, j, rfl, rfl, q⟩
theorem sGe : Snd2 c Mu false (rI0 fun i j => .bl (decide (j ≤ i))) wGe := sB2 (g := fun i j => decide (j ≤ i)) (fun a b w e => by cases a <;> cases b <;> simp only [wGe] at e <;> first | (cases e; exact ⟨_, _, rfl, rfl, rfl⟩) | cases e)
  fun i j H Q q => ⟨i, j, rfl, rfl, q⟩
def rLtIS : R2 := fun x y H Q => rI0 (fun i j => .bl (decide (i < j))) x y H Q ∨ (∃ i j, x = .str i ∧ y = .str j ∧ Q (.bl (decide (i.cps.toList < j.cps.toList))) H)
theorem op_ltIS : OpR X (compareOp .Lt) rLtIS := op_lt.or op_lt_str
theorem sLt : Snd2 c Mu false rLtIS wLtI := by
  intro Z P g ρ G σ H x y wx wy w Q r bx by' e k
  cases wx <;> cases wy <;> simp only [wLtI] at e <;> cases e
  · obtain rfl := bx.int
    obtain rfl := by'.int
    exact .inl ⟨_, _, rfl, rfl, k _ H Z (Le.refl _) r (rV_false (.bl _))⟩
  · obtain ⟨z, rfl, e1, _⟩ := bx.str
    obtain ⟨z2, rfl, e2, _⟩ := by'.str
    subst e1
    subst e2
    exact .inr ⟨_, _, rfl, rfl, k _ H Z (Le.refl _) r (rV_false (.bl _))⟩
/-- is None -/
def w2IsN (a b : W) : Option W := if isNon b = true then wIsN a else none
def w2NotN (a b : W) : Option W := if isNon b = true then wNotN a else none
theorem isNon_eq {Z H : Hp} {g : List Addr} {w : W} {x : V} (b : Bor c Z g H w x) : isNon w = decide (x = .non) := by
  rcases b with h | ⟨a, o, rfl, _, h⟩
  · cases h <;> simp [isNon]
  · cases h <;> simp [isNon]
theorem non_of {Z H : Hp} {g : List Addr} {w : W} {x : V} (b : Bor c Z g H w x) (h : isNon w = true) : x = .non := by
  rw [isNon_eq b] at h
  exact of_decide_eq_true h
theorem sIsN : Snd2 c Mu false (fun x y H Q => y = .non ∧ Q (.bl (decide (x = .non))) H) w2IsN := by
  intro Z P g ρ G σ H x y wx wy w Q r bx by' e k
  unfold w2IsN wIsN at e
  split at e
  · cases e
    rename_i h
    refine ⟨non_of by' h, ?_⟩
    rw [← isNon_eq bx]
    exact k _ H Z (Le.refl _) r (rV_false (.bl _))
  · cases e
theorem sNotN : Snd2 c Mu false (fun x y H Q => y = .non ∧ Q (.bl (!decide (x = .non))) H) w2NotN := by
  intro Z P g ρ G σ H x y wx wy w Q r bx by' e k
  unfold w2NotN wNotN at e
  split at e
  · cases e
    rename_i h
    refine ⟨non_of by' h, ?_⟩
    rw [← isNon_eq bx]
    exact k _ H Z (Le.refl _) r (rV_false (.bl _))
  · cases e

/-! ### in -/
theorem strExt {x y : Str} (h : x.cps.toList = y.cps.toList) : x = y := Str.ext' (Array.toList_inj.mp h)
theorem fz_flat {K : PySem.W.Frag} {Z : Hp} {g : List Addr} {w : W} {x : V} (f : Fz K Z g w x) (h : flatW w = true) : flatV x = true := by
  cases f <;> first | rfl | (simp only [flatW] at h; cases h)
theorem bor_flat {Z H : Hp} {g : List Addr} {w : W} {x : V} (b : Bor c Z g H w x) (h : flatW w = true) : flatV x = true ∧ Fz c.K Z g w x := by
  rcases b with f | ⟨a, o, rfl, _, q⟩
  · exact ⟨fz_flat f h, f⟩
  · cases q <;> (simp only [flatW] at h; cases h)
theorem fzl_flat {K : PySem.W.Frag} {Z : Hp} {g : List Addr} : ∀ {ws : List W} {xs : List V}, FzL K Z g ws xs → ws.all flatW = true → xs.all flatV = true
  | _, _, .nil, _ => rfl
  | _, _, .cons f q, h => by
    rw [List.all_cons, Bool.and_eq_true] at h
    rw [List.all_cons, Bool.and_eq_true]
    exact ⟨fz_flat f h.1, fzl_flat q h.2⟩
theorem eqV_eq {K : PySem.W.Frag} {Z : Hp} {g : List Addr} {w w' : W} {x x' : V} (f : Fz K Z g w x) (f' : Fz K Z g w' x') (h : flatW w = true) (h' : flatW w' = true) : eqV x x' = eqW w w' := by
  cases f <;> cases f' <;> first
    | (simp only [flatW] at h; cases h; done)
    | (simp only [flatW] at h'; cases h'; done)
    | rfl
    | skip
  rename_i z hz z' hz'
  show (z == z') = (z.cps.toList == z'.cps.toList)
  rw [Bool.eq_iff_iff, beq_iff_eq, beq_iff_eq]
  constructor
  · intro q; rw [q]
  · intro q; exact strExt q
theorem any_eq {K : PySem.W.Frag} {Z : Hp} {g : List Addr} {w : W} {x : V} (f : Fz K Z g w x) (h : flatW w = true) : ∀ {ws : List W} {xs : List V}, FzL K Z g ws xs → ws.all flatW = true → inV x xs = ws.any fun y => eqW y w
  | _, _, .nil, _ => rfl
  | _, _, .cons f' q, h' => by
    rw [List.all_cons, Bool.and_eq_true] at h'
    unfold inV
    rw [List.any_cons, List.any_cons, eqV_eq f' f h'.1 h]
    have := any_eq f h q h'.2
    unfold inV at this
    rw [this]
def rInA (K : PySem.W.Frag) (neg : Bool) : R2 := fun x y H Q => rIn K neg x y H Q ∨ ∃ (c : Nat) (z : Str), x = .str ⟨#[c]⟩ ∧ y = .str z ∧ Q (.bl (if neg then !decide (c ∈ z.cps.toList) else decide (c ∈ z.cps.toList))) H
theorem op_inA : OpR X (compareOp .In) (rInA X.K false) := op_in_seq.or (fun pins s σ H x y v u Q I rx ry h => op_in_sign pins s σ H x y v u Q I rx ry h)
theorem op_notInA : OpR X (compareOp .NotIn) (rInA X.K true) := op_notIn_seq.or (fun pins s σ H x y v u Q I rx ry h => op_notIn_sign pins s σ H x y v u Q I rx ry h)
theorem str1 {z : Str} {n : Nat} (h : z.cps.toList = [n]) : z = ⟨#[n]⟩ := strExt (by show z.cps.toList = _; rw [h])
theorem sInG (neg : Bool) {Z P : Hp} {g : List Addr} {ρ : List (Option W)} {G : List W} {σ : St} {H : Hp} {x y : V} {wx wy : W} {k : Bool} {Q : VK} (r : Rel c Mu Z P g ρ G σ H) (bx : Bor c Z g H wx x) (by' : Bor c Z g H wy y) (e : inW wx wy = some k)
    (q : Q (.bl (if neg then !k else k)) H) : rInA c.K neg x y H Q := by
  unfold inW at e
  split at e
  · split at e
    · cases e
      rename_i h
      rw [Bool.and_eq_true] at h
      obtain ⟨a, xs, rfl, h1, f1⟩ := by'.lst r.zh
      obtain ⟨fx, f⟩ := bor_flat bx h.1
      refine .inl ⟨a, xs, rfl, .inl (SqL.of h1), fx, fzl_flat f1 h.2, ?_⟩
      rw [any_eq f h.1 f1 h.2]; exact q
    · cases e
  · split at e
    · cases e
      rename_i h
      rw [Bool.and_eq_true] at h
      obtain ⟨a, xs, rfl, _, h1, f1⟩ := by'.tup r.zh
      obtain ⟨fx, f⟩ := bor_flat bx h.1
      refine .inl ⟨a, xs, rfl, .inr h1, fx, fzl_flat f1 h.2, ?_⟩
      rw [any_eq f h.1 f1 h.2]; exact q
    · cases e
  · cases e
    obtain ⟨z, rfl, e1, _⟩ := bx.str
    obtain ⟨z2, rfl, e2, _⟩ := by'.str
    rw [str1 e1]
    refine .inr ⟨_, z2, rfl, rfl, ?_⟩
    rw [e2]; exact q
  · cases e
theorem sIn (hK : X.K = c.K := by rfl) : Snd2 c Mu false (rInA X.K false) wIn := by
  rw [hK]
  intro Z P g ρ G σ H x y wx wy w Q r bx by' e k
  unfold wIn at e
  cases e2 : inW wx wy with
  | none => rw [e2] at e; cases e
  | some b =>
    rw [e2] at e; cases e
    exact sInG false r bx by' e2 (k _ H Z (Le.refl _) r (rV_false (.bl _)))
theorem sNotIn (hK : X.K = c.K := by rfl) : Snd2 c Mu false (rInA X.K true) wNotIn := by
  rw [hK]
  intro Z P g ρ G σ H x y wx wy w Q r bx by' e k
  unfold wNotIn at e
  cases e2 : inW wx wy with
  | none => rw [e2] at e; cases e
  | some b =>
    rw [e2] at e; cases e
    exact sInG true r bx by' e2 (k _ H Z (Le.refl _) r (rV_false (.bl _)))

/-! ### places -/
theorem FzL.at {K : PySem.W.Frag} {Z : Hp} {g : List Addr} {ws : List W} {vs : List V} {i : Int} {w : W} (h : FzL K Z g ws vs) (e : atI ws i = some w) : ∃ v, atI vs i = some v ∧ Fz K Z g w v := by
  unfold atI at e ⊢
  rw [h.length] at e
  cases q : ixN vs.length i with
  | none => rw [q] at e; cases e
  | some j =>
    rw [q] at e
    obtain ⟨v, e1, e2⟩ := h.get (i := j) (w := w) e
    exact ⟨v, e1, e2⟩
theorem sIx (hK : X.K = c.K := by rfl) : Snd2 c Mu false (rIx X.K) wIx := by
  rw [hK]
  intro Z P g ρ G σ H x y wx wy w Q r bx by' e k
  cases wx <;> cases wy <;> simp only [wIx] at e <;> first | cases e | skip
  · split at e
    · rename_i s i hs
      obtain rfl := by'.int
      obtain ⟨z, rfl, e1, o1, l1⟩ := bx.strM
      cases e3 : atI s i with
      | none => rw [e3] at e; cases e
      | some n =>
        rw [e3] at e; cases e
        refine .inr (.inr ⟨z, i, n, rfl, rfl, by rw [l1]; exact szOk_le hs, by rw [e1]; exact e3, k _ H Z (Le.refl _) r (rV_false (Fz.strOf rfl fun m hm => ?_))⟩)
        obtain rfl := List.mem_singleton.mp hm
        have : m ∈ s := by
          unfold atI at e3
          cases q : ixN s.length i with
          | none => rw [q] at e3; cases e3
          | some j => rw [q] at e3; exact List.mem_of_getElem? e3
        exact o1 m this
    · cases e
  · obtain rfl := by'.int
    obtain ⟨a, xs, rfl, _, h1, f1⟩ := bx.tup r.zh
    obtain ⟨v, e1, f⟩ := f1.at e
    exact .inr (.inl ⟨a, xs, _, v, rfl, rfl, h1, e1, k v H Z (Le.refl _) r (rV_false f)⟩)
  · obtain rfl := by'.int
    obtain ⟨a, xs, rfl, h1, f1⟩ := bx.lst r.zh
    obtain ⟨v, e1, f⟩ := f1.at e
    exact .inl ⟨a, xs, _, v, rfl, rfl, SqL.of h1, e1, k v H Z (Le.refl _) r (rV_false f)⟩
theorem eIx {ma mb : M Opd} (hs : PlainIx b) (ha : PE X a (D c Mu rO ma Wx)) (hb : PE X b (D c Mu rO mb Wx)) (hK : X.K = c.K := by rfl) : PE X (.Subscript a b pos) (D c Mu (rV false) (m2 wIx ma mb) Wx) :=
  PE.weak (pe_ix ix_seq ha hb hs) fun _ _ _ h => d2 (sIx hK) h

/-! ### slices -/
def rOI : RelT (Option Int) (Option Int) := rEq
def mNo : M (Option Int) := M.pure none
def mSome (m : M Opd) : M (Option Int) := M.bind m fun o => M.bind o.get fun w => M.bind (M.of (intW w)) fun i => M.pure (some i)
theorem PO.weak {e : Option Expr} {t t' : TO} (h : PO X e t) (k : ∀ σ H Q, t' σ H Q → t σ H Q) : PO X e t' := ⟨fun pins s σ H Q I hw => h.run pins s σ H Q I (k _ _ _ hw)⟩
theorem oNo : PO X none (D c Mu rEq mNo Wx) := PO.weak po_none fun σ H Q ⟨Z, P, g, ρ, G, r, d⟩ => d.pure r rfl
theorem intW_some {w : W} {i : Int} (h : intW w = some i) : w = .int i := by
  cases w <;> simp [intW] at h
  rw [h]
theorem oSome {m : M Opd} (h : PE X e (D c Mu rO m Wx)) : PO X (some e) (D c Mu rEq (mSome m) Wx) := PO.weak (po_some h) fun σ H Q h => h.bind fun o x H1 Z1 P g1 ρ1 G1 r1 q1 d1 => by
  obtain ⟨w, b, d2⟩ := d1.get r1 q1
  cases e : intW w with
  | none => exact (d2.bind_bad (by rw [e]; rfl)).elim
  | some i =>
    rw [e, M.of_bind rfl] at d2
    obtain rfl := intW_some e
    exact ⟨i, b.int, d2.pure r1 rfl⟩
def mCut (f : W → Option Int → Option Int → Option W) (m : M Opd) (lo hi : M (Option Int)) : M W := M.bind m fun o => M.bind lo fun l => M.bind hi fun h => M.bind o.get fun w => M.of (f w l h)
def SndC (c : Cn) (Mu : Nat → Bool) (fr : Bool) (r : V → Option Int → Option Int → Hp → VK → Prop) (f : W → Option Int → Option Int → Option W) : Prop :=
  ∀ (Z P : Hp) (g : List Addr) (ρ : List (Option W)) (G : List W) (σ : St) (H : Hp) (x : V) (lo hi : Option Int) (wx w : W) (Q : VK), Rel c Mu Z P g ρ G σ H → Bor c Z g H wx x → f wx lo hi = some w →
    (∀ (v : V) (H' Z' : Hp), Le Z Z' → Rel c Mu Z' P g ρ G σ H' → rV fr c Mu Z' P g ρ σ H' w v → Q v H') → r x lo hi H Q
theorem eSl {r : V → Option Int → Option Int → Hp → VK → Prop} {f : W → Option Int → Option Int → Option W} {lo hi : Option Expr} {p2 : Pos} {m : M Opd} {ml mh : M (Option Int)} (hr : SlR X r) (s : SndC c Mu fr r f)
    (he : PE X e (D c Mu rO m Wx)) (hl : PO X lo (D c Mu rEq ml Wx)) (hh : PO X hi (D c Mu rEq mh Wx)) : PE X (.Subscript e (.Slice lo hi none p2) pos) (D c Mu (rV fr) (mCut f m ml mh) Wx) :=
  PE.weak (pe_slice hr he hl hh) fun σ H Q h => by
    refine h.bind fun o x H1 Z1 P g1 ρ1 G1 r1 q1 d1 => ?_
    refine ⟨Z1, P, g1, ρ1, G1, r1, d1.bind fun l l' H2 Z2 g2 ρ2 G2 l2 p2 r2 q2 d2 => ?_⟩
    obtain rfl := q2
    refine ⟨Z2, P, g2, ρ2, G2, r2, d2.bind fun u u' H3 Z3 g3 ρ3 G3 l3 p3 r3 q3 d3 => ?_⟩
    obtain rfl := q3
    obtain ⟨w, b, d4⟩ := d3.get r3 (rO.le (H' := H3) (P' := P) (ρ' := ρ3) (l2.trans l3) (p2.trans p3) q1)
    obtain ⟨w2, ew, d5⟩ := d4.of
    exact s Z3 P g3 ρ3 G3 σ H3 x l u w w2 Q r3 b ew fun v H' Z' l r' q => d5.pure' l (Pre.refl _) r' q
def rSlST (K : PySem.W.Frag) : V → Option Int → Option Int → Hp → VK → Prop := fun x lo hi H Q => rSlS x lo hi H Q ∨ rSlA K x lo hi H Q
theorem sl_st : SlR X (rSlST X.K) := sl_str.or sl_tupA
theorem FzL.cut {K : PySem.W.Frag} {Z : Hp} {g : List Addr} {ws : List W} {vs : List V} (h : FzL K Z g ws vs) (lo hi : Option Int) : FzL K Z g (cutL ws lo hi) (cutV vs lo hi) := by
  unfold cutL cutV
  rw [h.length]
  exact (h.drop _).take _
theorem cutS_tl (z : Str) (lo hi : Option Int) : (cutS z lo hi).cps.toList = cutL z.cps.toList lo hi := by
  unfold cutS cutL
  show List.take (HT.sIx z.cps.size z.cps.size hi - HT.sIx z.cps.size 0 lo) (List.drop (HT.sIx z.cps.size 0 lo) z.cps.toList) = _
  rw [Array.length_toList]
theorem sCut (hK : X.K = c.K := by rfl) : SndC c Mu false (rSlST X.K) wCut := by
  rw [hK]
  intro Z P g ρ G σ H x lo hi wx w Q r bx e k
  cases wx <;> simp only [wCut] at e <;> first | cases e | skip
  · split at e
    · cases e
      rename_i hs
      obtain ⟨z, rfl, e1, o1, l1⟩ := bx.strM
      refine .inl ⟨z, rfl, by rw [l1]; exact szOk_le hs, k _ H Z (Le.refl _) r (rV_false (Fz.strOf (by rw [cutS_tl, e1]) fun m hm => ?_))⟩
      exact o1 m (List.mem_of_mem_drop (List.mem_of_mem_take hm))
    · cases e
  · obtain ⟨a, xs, rfl, h0, h1, f1⟩ := bx.tup r.zh
    refine .inr ⟨a, xs, rfl, h1, fun hh => ?_, fun _ p hp => ?_⟩
    · refine k _ H Z (Le.refl _) r (rV_false (.tup h0 ?_))
      have f2 := f1.cut lo hi
      have e3 : cutV xs lo hi = xs := by
        unfold cutV
        rw [hh.1, hh.2]
        simp
      rw [e3] at f2
      exact f2
    · have r2 := r.fixed (.tup (cutV xs lo hi)) hp
      exact k _ _ _ (Le.upd (r.new hp).nz) r2 (rV_false (.tup (.inl (.inl upd_same)) ((f1.cut lo hi).le (Le.upd (r.new hp).nz) (Pre.refl _))))
theorem sCutL (hK : X.K = c.K := by rfl) : SndC c Mu true (rSlL X.K) wCutL := by
  rw [hK]
  intro Z P g ρ G σ H x lo hi wx w Q r bx e k
  cases wx <;> simp only [wCutL] at e <;> cases e
  obtain ⟨a, xs, rfl, h1, f1⟩ := bx.lst r.zh
  exact ⟨a, xs, rfl, SqL.of h1, fun p hp => k _ _ Z (Le.refl _) (r.laid _ hp) (rV_true (r.fresh hp (.lst (f1.cut lo hi))))⟩
end
end Mp
set_option Elab.async false
set_option linter.all false
set_option maxRecDepth 100000
set_option maxHeartbeats 2000000
/-! Mp6: arguments, displays, built-ins by name, methods of texts. -/
namespace Mp
open PySem PySem.Spec L2
open PyProof.Rows hiding St

/-! ### arguments -/
def mNil {α : Type} : M (List α) := M.pure []
def mCons {α : Type} (m : M α) (ms : M (List α)) : M (List α) := M.bind m fun w => M.bind ms fun ws => M.pure (w :: ws)
def getAll : List Opd → M (List W)
  | [] => M.pure []
  | o :: os => M.bind o.get fun w => M.bind (getAll os) fun ws => M.pure (w :: ws)
def mCall (f : List W → Option W) (ms : M (List Opd)) : M W := M.bind ms fun os => M.bind (getAll os) fun ws => M.of (f ws)
/-- displays -/
def mTup (ms : M (List W)) : M W := M.bind ms fun ws => M.of (if szOk ws.length then some (W.tup ws) else none)
def mLst (ms : M (List W)) : M W := M.bind ms fun ws => M.of (if szOk ws.length then some (W.lst ws) else none)

/-! ### built-ins on plain values -/
def f1 (f : W → Option W) : List W → Option W
  | [x] => f x
  | _ => none
def f2 (f : W → W → Option W) : List W → Option W
  | [x, y] => f x y
  | _ => none
def wAbs : W → Option W
  | .int i => some (.int (if i < 0 then -i else i))
  | _ => none
def dig (d : Nat) : Bool := decide (48 ≤ d) && decide (d ≤ 57)
def wInt : W → Option W
  | .int i => some (.int i)
  | .bl b => some (.int (if b then 1 else 0))
  | .str [d] => if dig d then some (.int ((d : Int) - 48)) else none
  | _ => none
def wMin2 : W → W → Option W
  | .int i, .int j => some (.int (if j < i then j else i))
  | _, _ => none
def wMax2 : W → W → Option W
  | .int i, .int j => some (.int (if j > i then j else i))
  | _, _ => none
def wSum : W → Option W
  | .lst ws => (intsW ws).map fun ns => .int ns.sum
  | _ => none
def maxL : List Int → Option Int
  | [] => none
  | n :: ns => some (ns.foldl (fun a b => if b > a then b else a) n)
def minL : List Int → Option Int
  | [] => none
  | n :: ns => some (ns.foldl (fun a b => if b < a then b else a) n)
def wMax : W → Option W
  | .lst ws => (intsW ws).bind fun ns => (maxL ns).map W.int
  | _ => none
def wMin : W → Option W
  | .lst ws => (intsW ws).bind fun ns => (minL ns).map W.int
  | _ => none
def wAny : W → Option W
  | .lst ws => (blsW ws).map fun bs => .bl (bs.any id)
  | _ => none
def wAll : W → Option W
  | .lst ws => (blsW ws).map fun bs => .bl (bs.all id)
  | _ => none
def wTuple : W → Option W
  | .lst ws => some (.tup ws)
  | .tup ws => some (.tup ws)
  | _ => none
def wList : W → Option W
  | .lst ws => some (.lst ws)
  | .tup ws => some (.lst ws)
  | _ => none
def joinS (s : List Nat) : List (List Nat) → List Nat
  | [] => []
  | [p] => p
  | p :: q :: r => p ++ (s ++ joinS s (q :: r))
def itemsW : W → Option (List W)
  | .lst ws => some ws
  | .tup ws => some ws
  | _ => none
def wJoin (a b : W) : Option W := match a with
  | .str s => (itemsW b).bind fun ws => (strsW ws).bind fun ss => if szOk ((ss.map List.length).sum + ss.length * s.length) then some (.str (joinS s ss)) else none
  | _ => none
def wCount (a b : W) : Option W := match a, b with
  | .str s, .str [d] => some (.int (s.count d : Nat))
  | _, _ => none
def strW : W → Option (List Nat)
  | .str s => some s
  | _ => none

section
variable {X : Cx} {c : Cn} {Mu : Nat → Bool} {Wx : XK} {fr : Bool} {e a b : Expr} {es : List Expr} {pos : Pos} {ma mb mc : M Opd}

theorem aNil : PA X [] (D c Mu rL mNil Wx) := PA.weak pa_nil fun σ H Q ⟨Z, P, g, ρ, G, r, d⟩ => d.pure r .nil
theorem aCons {m : M W} {ms : M (List W)} (ha : PE X e (D c Mu (rV false) m Wx)) (hr : PA X es (D c Mu rL ms Wx)) (hs : starEach (e :: es) X.env = (false, eval e X.env) :: starEach es X.env := by rfl) : PA X (e :: es) (D c Mu rL (mCons m ms) Wx) :=
  PA.weak (pa_cons ha hr hs) fun σ H Q h => h.bind fun w x H1 Z1 P g1 ρ1 G1 r1 q1 d1 => ⟨Z1, P, g1, ρ1, G1, r1, d1.bind fun ws xs H2 Z2 g2 ρ2 G2 l2 p2 r2 q2 d2 => d2.pure r2 (.cons (Fz.le l2 p2 q1) q2)⟩
theorem oNil : PA X [] (D c Mu rOs mNil Wx) := PA.weak pa_nil fun σ H Q ⟨Z, P, g, ρ, G, r, d⟩ => d.pure r .nil
theorem Paired.imp {α β : Type} {F G : α → β → Prop} (k : ∀ a b, F a b → G a b) : ∀ {l₁ : List α} {l₂ : List β}, Paired F l₁ l₂ → Paired G l₁ l₂
  | _, _, .nil => .nil
  | _, _, .cons r t => .cons (k _ _ r) (Paired.imp k t)
theorem oCons {m : M Opd} {ms : M (List Opd)} (ha : PE X e (D c Mu rO m Wx)) (hr : PA X es (D c Mu rOs ms Wx)) (hs : starEach (e :: es) X.env = (false, eval e X.env) :: starEach es X.env := by rfl) : PA X (e :: es) (D c Mu rOs (mCons m ms) Wx) :=
  PA.weak (pa_cons ha hr hs) fun σ H Q h => h.bind fun w x H1 Z1 P g1 ρ1 G1 r1 q1 d1 => ⟨Z1, P, g1, ρ1, G1, r1, d1.bind fun ws xs H2 Z2 g2 ρ2 G2 l2 p2 r2 q2 d2 => d2.pure r2 (.cons (rO.le (H' := H2) (P' := P) (ρ' := ρ2) l2 p2 q1) q2)⟩

theorem eTup {x1} {ms : M (List W)} (h : PA X es (D c Mu rL ms Wx)) : PE X (.Tuple es x1 pos) (D c Mu (rV false) (mTup ms) Wx) :=
  PE.weak (pe_tup h) fun σ H Q h => h.bind fun ws xs H1 Z1 P g1 ρ1 G1 r1 q1 d1 => by
    obtain ⟨w, ew, d2⟩ := d1.of
    split at ew
    · cases ew
      rename_i hs
      refine ⟨by rw [← FzL.length q1]; exact szOk_le hs, fun p hp => ?_⟩
      have l : Le Z1 (upd Z1 p (.tup xs)) := Le.upd (r1.new hp).nz
      exact d2.pure' l (Pre.refl _) (r1.fixed _ hp) (rV_false (.tup (.inl (.inl upd_same)) (FzL.le l (Pre.refl _) q1)))
    · cases ew
theorem eLst {ms : M (List W)} (h : PA X es (D c Mu rL ms Wx)) : PE X (.List es pos) (D c Mu (rV true) (mLst ms) Wx) :=
  PE.weak (pe_lst h) fun σ H Q h => h.bind fun ws xs H1 Z1 P g1 ρ1 G1 r1 q1 d1 => by
    obtain ⟨w, ew, d2⟩ := d1.of
    split at ew
    · cases ew
      rename_i hs
      exact ⟨by rw [← FzL.length q1]; exact szOk_le hs, fun p hp => d2.pure' (Le.refl _) (Pre.refl _) (r1.laid _ hp) (rV_true (r1.fresh hp (.lst q1)))⟩
    · cases ew

/-! ### a built-in called -/
def SndA (c : Cn) (Mu : Nat → Bool) (fr : Bool) (r : List V → Hp → VK → Prop) (f : List W → Option W) : Prop :=
  ∀ (Z P : Hp) (g : List Addr) (ρ : List (Option W)) (G : List W) (σ : St) (H : Hp) (xs : List V) (ws : List W) (w : W) (Q : VK), Rel c Mu Z P g ρ G σ H → Paired (Bor c Z g H) ws xs → f ws = some w →
    (∀ (v : V) (H' Z' : Hp), Le Z Z' → Rel c Mu Z' P g ρ G σ H' → rV fr c Mu Z' P g ρ σ H' w v → Q v H') → r xs H Q
theorem Dat.getAll {α β : Type} {rel : RelT α β} {Z P : Hp} {g : List Addr} {ρ : List (Option W)} {G : List W} {σ : St} {H : Hp} {Q : β → Hp → Prop} : ∀ {os : List Opd} {xs : List V} {f : List W → M α}, Rel c Mu Z P g ρ G σ H → Paired (rO c Mu Z P g ρ σ H) os xs →
    Dat c Mu rel (M.bind (getAll os) f) Wx Z P g ρ G σ Q → ∃ ws, Paired (Bor c Z g H) ws xs ∧ Dat c Mu rel (f ws) Wx Z P g ρ G σ Q
  | _, _, f, r, .nil, d => ⟨[], .nil, d⟩
  | _, _, f, r, .cons q t, d => by
    unfold Mp.getAll at d
    rw [M.bind_assoc] at d
    obtain ⟨w, b, d⟩ := d.get r q
    rw [M.bind_assoc] at d
    obtain ⟨ws, bs, d⟩ := Dat.getAll r t d
    exact ⟨w :: ws, .cons b bs, d⟩
theorem dA {r : List V → Hp → VK → Prop} {f : List W → Option W} {ms : M (List Opd)} (s : SndA c Mu fr r f) {σ : St} {H : Hp} {Q : VK} (h : D c Mu (rV fr) (mCall f ms) Wx σ H Q) : D c Mu rOs ms Wx σ H fun xs H1 => r xs H1 Q :=
  h.bind fun os xs H1 Z1 P g1 ρ1 G1 r1 q1 d1 => by
    obtain ⟨ws, bs, d2⟩ := d1.getAll r1 q1
    obtain ⟨w, ew, d3⟩ := d2.of
    exact s Z1 P g1 ρ1 G1 σ H1 xs ws w Q r1 bs ew fun v H' Z' l r' q => d3.pure' l (Pre.refl _) r' q
theorem eB {id : String} {x : Str} {p : Pos} {r : List V → Hp → VK → Prop} {f : List W → Option W} {ms : M (List Opd)} (hc : CallR X (.builtin id) r) (s : SndA c Mu fr r f) (hg : Gl X x) (hm : X.mg x = none) (hv : bootBuiltins x = some (.builtin id)) (ha : PA X (e :: es) (D c Mu rOs ms Wx)) (hn : x ≠ "__name__" := by decide) (hdb : (x == ("__debug__" : Str)) = false := by decide)
    (he : starEach (e :: es) X.env = (false, eval e X.env) :: starEach es X.env := by rfl) (hpl : (backTo pos (starEach es X.env)).any (·.1) = false := by rfl) : PE X (.Call (.Name x p) (e :: es) [] pos) (D c Mu (rV fr) (mCall f ms) Wx) :=
  PE.weak (pe_callB hc hg hm hv ha hn hdb he hpl) fun _ _ _ h => dA s h
theorem eTy {T : String} {x : Str} {p : Pos} {r : List V → Hp → VK → Prop} {f : List W → Option W} {ms : M (List Opd)} (hc : CallR X (.type T) r) (s : SndA c Mu fr r f) (hg : Gl X x) (hm : X.mg x = none) (hv : bootBuiltins x = some (.type T)) (ha : PA X (e :: es) (D c Mu rOs ms Wx)) (hn : x ≠ "__name__" := by decide) (hdb : (x == ("__debug__" : Str)) = false := by decide)
    (he : starEach (e :: es) X.env = (false, eval e X.env) :: starEach es X.env := by rfl) (hpl : (backTo pos (starEach es X.env)).any (·.1) = false := by rfl) : PE X (.Call (.Name x p) (e :: es) [] pos) (D c Mu (rV fr) (mCall f ms) Wx) :=
  PE.weak (pe_callTy hc hg hm hv ha hn hdb he hpl) fun _ _ _ h => dA s h

theorem sA1 {r : List V → Hp → VK → Prop} {f : W → Option W} (h : ∀ (Z P : Hp) (g : List Addr) (ρ : List (Option W)) (G : List W) (σ : St) (H : Hp) (x : V) (wx w : W) (Q : VK), Rel c Mu Z P g ρ G σ H → Bor c Z g H wx x → f wx = some w →
    (∀ (v : V) (H' Z' : Hp), Le Z Z' → Rel c Mu Z' P g ρ G σ H' → rV fr c Mu Z' P g ρ σ H' w v → Q v H') → r [x] H Q) : SndA c Mu fr r (f1 f) := by
  intro Z P g ρ G σ H xs ws w Q rel bs e k
  cases bs with
  | nil => cases e
  | cons b t =>
    cases t with
    | nil => exact h Z P g ρ G σ H _ _ w Q rel b e k
    | cons b2 t2 => cases e
theorem sA2 {r : List V → Hp → VK → Prop} {f : W → W → Option W} (h : ∀ (Z P : Hp) (g : List Addr) (ρ : List (Option W)) (G : List W) (σ : St) (H : Hp) (x y : V) (wx wy w : W) (Q : VK), Rel c Mu Z P g ρ G σ H → Bor c Z g H wx x → Bor c Z g H wy y → f wx wy = some w →
    (∀ (v : V) (H' Z' : Hp), Le Z Z' → Rel c Mu Z' P g ρ G σ H' → rV fr c Mu Z' P g ρ σ H' w v → Q v H') → r [x, y] H Q) : SndA c Mu fr r (f2 f) := by
  intro Z P g ρ G σ H xs ws w Q rel bs e k
  cases bs with
  | nil => cases e
  | cons b t =>
    cases t with
    | nil => cases e
    | cons b2 t2 =>
      cases t2 with
      | nil => exact h Z P g ρ G σ H _ _ _ _ w Q rel b b2 e k
      | cons _ _ => cases e

/-- len -/
def rLen (K : PySem.W.Frag) : List V → Hp → VK → Prop := fun xs H Q => (∃ p ys, xs = [.ref p] ∧ (SqL K H p ys ∨ SqT K H p ys) ∧ Q (.int ys.length) H) ∨ (∃ z, xs = [.str z] ∧ z.length ≤ sizeLine ∧ Q (.int z.length) H) ∨
  ∃ d kvs, xs = [.ref d] ∧ H d = some (.dK kvs) ∧ Q (.int kvs.length) H
theorem FzK.length {K : PySem.W.Frag} {Z : Hp} {g : List Addr} : ∀ {ws : List (W × W)} {vs : List (Key × V)}, FzK K Z g ws vs → ws.length = vs.length
  | _, _, .nil => rfl
  | _, _, .cons _ q => congrArg (· + 1) q.length
theorem sLen (hK : X.K = c.K := by rfl) : SndA c Mu false (rLen X.K) (f1 wLen) := by
  rw [hK]
  refine sA1 fun Z P g ρ G σ H x wx w Q r bx e k => ?_
  cases wx <;> simp only [wLen] at e <;> first | cases e | skip
  · split at e
    · cases e
      rename_i hs
      obtain ⟨z, rfl, e1, o1, l1⟩ := bx.strM
      refine .inr (.inl ⟨z, rfl, by rw [l1]; exact szOk_le hs, ?_⟩)
      rw [l1]
      exact k _ H Z (Le.refl _) r (rV_false (.int _))
    · cases e
  · obtain ⟨a, xs, rfl, _, h1, f1⟩ := bx.tup r.zh
    refine .inl ⟨a, xs, rfl, .inr h1, ?_⟩
    rw [← f1.length]
    exact k _ H Z (Le.refl _) r (rV_false (.int _))
  · obtain ⟨a, xs, rfl, h1, f1⟩ := bx.lst r.zh
    refine .inl ⟨a, xs, rfl, .inl (SqL.of h1), ?_⟩
    rw [← f1.length]
    exact k _ H Z (Le.refl _) r (rV_false (.int _))
  · obtain ⟨a, l, rfl, h1, f1⟩ := bx.dct r.zh
    refine .inr (.inr ⟨a, l, rfl, h1, ?_⟩)
    rw [← f1.length]
    exact k _ H Z (Le.refl _) r (rV_false (.int _))
theorem sAbs : SndA c Mu false (fun xs H Q => ∃ i, xs = [.int i] ∧ Q (.int (if i < 0 then -i else i)) H) (f1 wAbs) := sA1 fun Z P g ρ G σ H x wx w Q r bx e k => by
  cases wx <;> simp only [wAbs] at e <;> cases e
  obtain rfl := bx.int
  exact ⟨_, rfl, k _ H Z (Le.refl _) r (rV_false (.int _))⟩
theorem sMin2 : SndA c Mu false (fun xs H Q => ∃ i j, xs = [.int i, .int j] ∧ Q (.int (if j < i then j else i)) H) (f2 wMin2) := sA2 fun Z P g ρ G σ H x y wx wy w Q r bx by' e k => by
  cases wx <;> cases wy <;> simp only [wMin2] at e <;> cases e
  obtain rfl := bx.int
  obtain rfl := by'.int
  exact ⟨_, _, rfl, k _ H Z (Le.refl _) r (rV_false (.int _))⟩
theorem sMax2 : SndA c Mu false (fun xs H Q => ∃ i j, xs = [.int i, .int j] ∧ Q (.int (if j > i then j else i)) H) (f2 wMax2) := sA2 fun Z P g ρ G σ H x y wx wy w Q r bx by' e k => by
  cases wx <;> cases wy <;> simp only [wMax2] at e <;> cases e
  obtain rfl := bx.int
  obtain rfl := by'.int
  exact ⟨_, _, rfl, k _ H Z (Le.refl _) r (rV_false (.int _))⟩
theorem dig_int {d : Nat} (h : dig d = true) : PySem.intText? ⟨#[d]⟩ = some ((d : Int) - 48) := by
  unfold dig at h
  rw [Bool.and_eq_true] at h
  have h1 := of_decide_eq_true h.1
  have h2 := of_decide_eq_true h.2
  have : d ∈ [48,49,50,51,52,53,54,55,56,57] := by simp; omega
  exact (by decide +kernel : ∀ d ∈ [48,49,50,51,52,53,54,55,56,57], PySem.intText? ⟨#[d]⟩ = some ((d : Int) - 48)) d this
def rInt : List V → Hp → VK → Prop := fun xs H Q => ((∃ i, xs = [.int i] ∧ Q (.int i) H) ∨ ∃ k, xs = [.bl k] ∧ Q (.int (if k then 1 else 0)) H) ∨ ∃ a n, xs = [.str a] ∧ PySem.intText? a = some n ∧ a.length ≤ 640 ∧ Q (.int n) H
theorem call_intA : CallR X (.type "int") rInt := call_int1.or call_int_str
theorem sInt : SndA c Mu false rInt (f1 wInt) := sA1 fun Z P g ρ G σ H x wx w Q r bx e k => by
  unfold wInt at e
  split at e
  · cases e
    obtain rfl := bx.int
    exact .inl (.inl ⟨_, rfl, k _ H Z (Le.refl _) r (rV_false (.int _))⟩)
  · cases e
    obtain rfl := bx.bl
    exact .inl (.inr ⟨_, rfl, k _ H Z (Le.refl _) r (rV_false (.int _))⟩)
  · split at e
    · cases e
      rename_i d hd
      obtain ⟨z, rfl, e1, _⟩ := bx.str
      rw [str1 e1]
      exact .inr ⟨_, _, rfl, dig_int hd, by show 1 ≤ 640; decide, k _ H Z (Le.refl _) r (rV_false (.int _))⟩
    · cases e
  · cases e
theorem fz_ints {K : PySem.W.Frag} {Z : Hp} {g : List Addr} : ∀ {ws : List W} {xs : List V} {ns : List Int}, FzL K Z g ws xs → intsW ws = some ns → xs = ns.map V.int
  | _, _, _, .nil, e => by simp [intsW] at e; subst e; rfl
  | w :: ws, _, ns, .cons f q, e => by
    cases w <;> simp only [intsW] at e <;> first | cases e | skip
    rename_i i
    cases e2 : intsW ws with
    | none => rw [e2] at e; cases e
    | some l =>
      rw [e2] at e; cases e
      cases f
      rw [fz_ints q e2]; rfl
theorem fz_bls {K : PySem.W.Frag} {Z : Hp} {g : List Addr} : ∀ {ws : List W} {xs : List V} {ns : List Bool}, FzL K Z g ws xs → blsW ws = some ns → xs = ns.map V.bl
  | _, _, _, .nil, e => by simp [blsW] at e; subst e; rfl
  | w :: ws, _, ns, .cons f q, e => by
    cases w <;> simp only [blsW] at e <;> first | cases e | skip
    rename_i i
    cases e2 : blsW ws with
    | none => rw [e2] at e; cases e
    | some l =>
      rw [e2] at e; cases e
      cases f
      rw [fz_bls q e2]; rfl
theorem sSum (hK : X.K = c.K := by rfl) : SndA c Mu false (rSum X.K) (f1 wSum) := by
  rw [hK]
  refine sA1 fun Z P g ρ G σ H x wx w Q r bx e k => ?_
  cases wx <;> simp only [wSum] at e <;> first | cases e | skip
  rename_i ws
  obtain ⟨a, xs, rfl, h1, f1⟩ := bx.lst r.zh
  cases e2 : intsW ws with
  | none => rw [e2] at e; cases e
  | some ns =>
    rw [e2] at e; cases e
    exact ⟨a, ns, rfl, SqL.of (by rw [← fz_ints f1 e2]; exact h1), k _ H Z (Le.refl _) r (rV_false (.int _))⟩
theorem maxL_spec : ∀ (ns : List Int) (n m : Int), (maxL (n :: ns)) = some m → m ∈ n :: ns ∧ ∀ y ∈ n :: ns, y ≤ m
  | [], n, m, e => by simp [maxL] at e; subst e; simp
  | k :: ns, n, m, e => by
    have h := maxL_spec ns (if k > n then k else n) m e
    obtain ⟨h1, h2⟩ := h
    have h3 := h2 (if k > n then k else n) List.mem_cons_self
    constructor
    · rcases List.mem_cons.mp h1 with q | q
      · split at q <;> subst q <;> simp
      · simp [q]
    · intro y hy
      rcases List.mem_cons.mp hy with q | hy
      · subst q; split at h3 <;> omega
      · rcases List.mem_cons.mp hy with q | hy
        · subst q; split at h3 <;> omega
        · exact h2 y (List.mem_cons_of_mem _ hy)
theorem minL_spec : ∀ (ns : List Int) (n m : Int), (minL (n :: ns)) = some m → m ∈ n :: ns ∧ ∀ y ∈ n :: ns, m ≤ y
  | [], n, m, e => by simp [minL] at e; subst e; simp
  | k :: ns, n, m, e => by
    have h := minL_spec ns (if k < n then k else n) m e
    obtain ⟨h1, h2⟩ := h
    have h3 := h2 (if k < n then k else n) List.mem_cons_self
    constructor
    · rcases List.mem_cons.mp h1 with q | q
      · split at q <;> subst q <;> simp
      · simp [q]
    · intro y hy
      rcases List.mem_cons.mp hy with q | hy
      · subst q; split at h3 <;> omega
      · rcases List.mem_cons.mp hy with q | hy
        · subst q; split at h3 <;> omega
        · exact h2 y (List.mem_cons_of_mem _ hy)
theorem sMax (hK : X.K = c.K := by rfl) : SndA c Mu false (rMax X.K) (f1 wMax) := by
  rw [hK]
  refine sA1 fun Z P g ρ G σ H x wx w Q r bx e k => ?_
  cases wx <;> simp only [wMax] at e <;> first | cases e | skip
  rename_i ws
  obtain ⟨a, xs, rfl, h1, f1⟩ := bx.lst r.zh
  cases e2 : intsW ws with
  | none => rw [e2] at e; cases e
  | some ns =>
    rw [e2, Option.bind_some] at e
    cases ns with
    | nil => cases e
    | cons n ns =>
      cases e3 : maxL (n :: ns) with
      | none => rw [e3] at e; cases e
      | some m0 =>
        rw [e3] at e; cases e
        obtain ⟨s1, s2⟩ := maxL_spec ns n m0 e3
        refine ⟨a, n :: ns, rfl, SqL.of (by rw [← fz_ints f1 e2]; exact h1), by simp, fun m hm hle => ?_⟩
        have : m = m0 := by have := s2 m hm; have := hle m0 s1; omega
        subst this
        exact k _ H Z (Le.refl _) r (rV_false (.int _))
theorem sMin (hK : X.K = c.K := by rfl) : SndA c Mu false (rMin X.K) (f1 wMin) := by
  rw [hK]
  refine sA1 fun Z P g ρ G σ H x wx w Q r bx e k => ?_
  cases wx <;> simp only [wMin] at e <;> first | cases e | skip
  rename_i ws
  obtain ⟨a, xs, rfl, h1, f1⟩ := bx.lst r.zh
  cases e2 : intsW ws with
  | none => rw [e2] at e; cases e
  | some ns =>
    rw [e2, Option.bind_some] at e
    cases ns with
    | nil => cases e
    | cons n ns =>
      cases e3 : minL (n :: ns) with
      | none => rw [e3] at e; cases e
      | some m0 =>
        rw [e3] at e; cases e
        obtain ⟨s1, s2⟩ := minL_spec ns n m0 e3
        refine ⟨a, n :: ns, rfl, SqL.of (by rw [← fz_ints f1 e2]; exact h1), by simp, fun m hm hle => ?_⟩
        have : m = m0 := by have := s2 m hm; have := hle m0 s1; omega
        subst this
        exact k _ H Z (Le.refl _) r (rV_false (.int _))
theorem sAny (hK : X.K = c.K := by rfl) : SndA c Mu false (rAny X.K) (f1 wAny) := by
  rw [hK]
  refine sA1 fun Z P g ρ G σ H x wx w Q r bx e k => ?_
  cases wx <;> simp only [wAny] at e <;> first | cases e | skip
  rename_i ws
  obtain ⟨a, xs, rfl, h1, f1⟩ := bx.lst r.zh
  cases e2 : blsW ws with
  | none => rw [e2] at e; cases e
  | some ns =>
    rw [e2] at e; cases e
    exact ⟨a, ns, rfl, SqL.of (by rw [← fz_bls f1 e2]; exact h1), k _ H Z (Le.refl _) r (rV_false (.bl _))⟩
theorem sAll (hK : X.K = c.K := by rfl) : SndA c Mu false (rAll X.K) (f1 wAll) := by
  rw [hK]
  refine sA1 fun Z P g ρ G σ H x wx w Q r bx e k => ?_
  cases wx <;> simp only [wAll] at e <;> first | cases e | skip
  rename_i ws
  obtain ⟨a, xs, rfl, h1, f1⟩ := bx.lst r.zh
  cases e2 : blsW ws with
  | none => rw [e2] at e; cases e
  | some ns =>
    rw [e2] at e; cases e
    exact ⟨a, ns, rfl, SqL.of (by rw [← fz_bls f1 e2]; exact h1), k _ H Z (Le.refl _) r (rV_false (.bl _))⟩
theorem sTuple (hK : X.K = c.K := by rfl) : SndA c Mu false (fun xs H Q => ∃ p ys, xs = [.ref p] ∧ ((SqL X.K H p ys ∧ ∀ l, H l = none → Q (.ref l) (upd H l (.tup ys))) ∨ (SqT X.K H p ys ∧ Q (.ref p) H))) (f1 wTuple) := by
  rw [hK]
  refine sA1 fun Z P g ρ G σ H x wx w Q r bx e k => ?_
  cases wx <;> simp only [wTuple] at e <;> cases e
  · obtain ⟨a, xs, rfl, h0, h1, f1⟩ := bx.tup r.zh
    exact ⟨a, xs, rfl, .inr ⟨h1, k _ H Z (Le.refl _) r (rV_false (.tup h0 f1))⟩⟩
  · obtain ⟨a, xs, rfl, h1, f1⟩ := bx.lst r.zh
    refine ⟨a, xs, rfl, .inl ⟨SqL.of h1, fun p hp => ?_⟩⟩
    have l : Le Z (upd Z p (.tup xs)) := Le.upd (r.new hp).nz
    exact k _ _ _ l (r.fixed _ hp) (rV_false (.tup (.inl (.inl upd_same)) (f1.le l (Pre.refl _))))
theorem sList (hK : X.K = c.K := by rfl) : SndA c Mu true (fun xs H Q => ∃ p ys, xs = [.ref p] ∧ (SqL X.K H p ys ∨ SqT X.K H p ys) ∧ ∀ l, H l = none → Q (.ref l) (upd H l (.lst ys))) (f1 wList) := by
  rw [hK]
  refine sA1 fun Z P g ρ G σ H x wx w Q r bx e k => ?_
  cases wx <;> simp only [wList] at e <;> cases e
  · obtain ⟨a, xs, rfl, h0, h1, f1⟩ := bx.tup r.zh
    exact ⟨a, xs, rfl, .inr h1, fun p hp => k _ _ Z (Le.refl _) (r.laid _ hp) (rV_true (r.fresh hp (.lst f1)))⟩
  · obtain ⟨a, xs, rfl, h1, f1⟩ := bx.lst r.zh
    exact ⟨a, xs, rfl, .inl (SqL.of h1), fun p hp => k _ _ Z (Le.refl _) (r.laid _ hp) (rV_true (r.fresh hp (.lst f1)))⟩

/-! ### methods of texts -/
/-- s.m(e) -/
def mM1 (f : W → W → Option W) (mo : M W) (ma : M Opd) : M W := M.bind mo fun o => M.bind (M.of (strW o)) fun s => M.bind ma fun oa => M.bind oa.get fun x => M.of (f (.str s) x)
theorem eM1 {o : Expr} {id : String} {name : Str} {apos : Pos} {r : V → List V → Hp → VK → Prop} {f : W → W → Option W} {mo : M W} (slot : Slot "str" name id) (ty : typeOf (.builtin id) = pure (.type "method_descriptor")) (rule : MtR X id r)
    (s : Snd2 c Mu fr (fun x y => r x [y]) f) (ho : PE X o (D c Mu (rV false) mo Wx)) (he : PE X e (D c Mu rO ma Wx))
    (hs : starEach [e] X.env = [(false, eval e X.env)] := by rfl) (hbase : attributeBase o name X.env (eval o X.env) = eval o X.env := by rfl) (hline : (apos.endLine == pos.line) = true := by rfl) : PE X (.Call (.Attribute o name apos) [e] [] pos) (D c Mu (rV fr) (mM1 f mo ma) Wx) :=
  PE.weak (pe_m1 slot ty rule ho he hs hbase hline) fun σ H Q h => h.bind fun w x H1 Z1 P g1 ρ1 G1 r1 q1 d1 => by
    cases w with
    | str t =>
      rw [show strW (.str t) = some t from rfl, M.of_bind rfl] at d1
      obtain ⟨z, rfl, _⟩ := (show Bor c Z1 g1 H1 (.str t) x from .inl q1).str
      refine ⟨⟨z, rfl⟩, Z1, P, g1, ρ1, G1, r1, d1.bind fun oa y H2 Z2 g2 ρ2 G2 l2 p2 r2 q2 d2 => ?_⟩
      obtain ⟨wy, by', d3⟩ := d2.get r2 q2
      obtain ⟨w, ew, d4⟩ := d3.of
      exact s Z2 P g2 ρ2 G2 σ H2 _ y _ wy w Q r2 (.inl (Fz.le l2 p2 q1)) by' ew fun v H' Z' l r' q => d4.pure' l (Pre.refl _) r' q
    | _ => exact (d1.bind_bad rfl).elim
theorem joinS_eq (s : List Nat) : ∀ l, joinS s l = TL.joinL s l
  | [] => rfl
  | [_] => rfl
  | p :: q :: r => by
    show p ++ (s ++ joinS s (q :: r)) = p ++ (s ++ TL.joinL s (q :: r))
    rw [joinS_eq s (q :: r)]
theorem fz_strs {K : PySem.W.Frag} {Z : Hp} {g : List Addr} : ∀ {ws : List W} {xs : List V} {ss : List (List Nat)}, FzL K Z g ws xs → strsW ws = some ss → ∃ ys : List Str, xs = ys.map V.str ∧ ys.map (·.cps.toList) = ss ∧ ∀ s ∈ ss, ∀ n ∈ s, n < 0x110000
  | _, _, _, .nil, e => by simp [strsW] at e; subst e; exact ⟨[], rfl, rfl, by simp⟩
  | w :: ws, _, ns, .cons f q, e => by
    cases w <;> simp only [strsW] at e <;> first | cases e | skip
    cases e2 : strsW ws with
    | none => rw [e2] at e; cases e
    | some l =>
      rw [e2] at e; cases e
      obtain ⟨ys, h1, h2, h3⟩ := fz_strs q e2
      cases f with
      | str z hz =>
        refine ⟨z :: ys, by rw [h1]; rfl, by rw [← h2]; rfl, fun s hs => ?_⟩
        rcases List.mem_cons.mp hs with rfl | hs
        · exact strOk_mem hz
        · exact h3 s hs
theorem joinS_mem {s : List Nat} {n : Nat} : ∀ {l : List (List Nat)}, n ∈ joinS s l → n ∈ s ∨ ∃ p ∈ l, n ∈ p
  | [], h => by simp [joinS] at h
  | [p], h => .inr ⟨p, by simp, h⟩
  | p :: q :: r, h => by
    unfold joinS at h
    rcases List.mem_append.mp h with h | h
    · exact .inr ⟨p, by simp, h⟩
    · rcases List.mem_append.mp h with h | h
      · exact .inl h
      · rcases joinS_mem h with h | ⟨p', hp, h⟩
        · exact .inl h
        · exact .inr ⟨p', List.mem_cons_of_mem _ hp, h⟩
/-! s.count(one sign) -/
theorem occ_count (x : Str) (d hi limit : Nat) (hhi : hi = x.length) : ∀ (n m : Nat) (st : Array Nat × Nat), st.2 ≤ m → st.1.size + n ≤ limit → ((forIn (List.range' m n) st (StrLaws.occBody x ⟨#[d]⟩ hi limit)).run.fst.size) = st.1.size + ((x.cps.toList.drop m).take n).count d
  | 0, m, st, _, _ => by simp
  | n + 1, m, st, h1, h2 => by
    rw [List.range'_succ, List.forIn_cons]
    unfold StrLaws.occBody
    by_cases hc : m + (⟨#[d]⟩ : Str).length ≤ hi ∧ Builtin.Str.subAt x ⟨#[d]⟩ m = true
    · rw [if_pos ⟨⟨⟨by omega, h1⟩, hc.1⟩, hc.2⟩]
      have e := (StrLaws.subAt_one x d m).mp (by rw [← hhi]; exact hc)
      obtain ⟨hl, e'⟩ := List.getElem?_eq_some_iff.mp e
      show (forIn (List.range' (m + 1) n) (st.1.push m, m + (⟨#[d]⟩ : Str).length) (StrLaws.occBody x ⟨#[d]⟩ hi limit)).run.fst.size = _
      rw [occ_count x d hi limit hhi n (m + 1) _ (by show m + 1 ≤ m + 1; omega) (by simp; omega)]
      rw [List.drop_eq_getElem_cons hl, List.take_succ_cons, List.count_cons, e']
      simp
      omega
    · rw [if_neg (fun q => hc ⟨q.1.2, q.2⟩)]
      show (forIn (List.range' (m + 1) n) (st.1, st.2) (StrLaws.occBody x ⟨#[d]⟩ hi limit)).run.fst.size = _
      rw [occ_count x d hi limit hhi n (m + 1) _ (by show st.2 ≤ m + 1; omega) (by show st.1.size + n ≤ limit; omega)]
      by_cases hl : m < x.cps.toList.length
      · rw [List.drop_eq_getElem_cons hl, List.take_succ_cons, List.count_cons]
        have : ¬ (x.cps.toList[m] == d) = true := fun q => hc (by
          rw [hhi]
          refine (StrLaws.subAt_one x d m).mpr ?_
          rw [List.getElem?_eq_getElem hl, eq_of_beq q])
        rw [if_neg this]
        simp
      · rw [List.drop_eq_nil_of_le (by omega), List.drop_eq_nil_of_le (by omega)]
        simp
theorem count_one (x : Str) (d : Nat) : Txt.count x ⟨#[d]⟩ = ((x.cps.toList.count d : Nat) : Int) := by
  unfold Txt.count
  rw [StrLaws.occ_eq, Array.length_toList, occ_count x d x.length (x.length + 1) rfl _ 0 _ (Nat.zero_le _) (by simp)]
  simp only [List.drop_zero]
  rw [List.take_of_length_le (by simp [Str.length])]
  simp
theorem sCount : Snd2 c Mu false (fun x y H Q => ∃ a b, x = .str a ∧ [y] = [.str b] ∧ Q (.int (Txt.count a b)) H) wCount := by
  intro Z P g ρ G σ H x y wx wy w Q r bx by' e k
  unfold wCount at e
  split at e
  · cases e
    obtain ⟨z, rfl, e1, _⟩ := bx.str
    obtain ⟨z2, rfl, e2, _⟩ := by'.str
    rw [str1 e2]
    refine ⟨_, _, rfl, rfl, ?_⟩
    rw [count_one, e1]
    exact k _ H Z (Le.refl _) r (rV_false (.int _))
  · cases e
def rJoin (K : PySem.W.Frag) : V → List V → Hp → VK → Prop := fun x xs H Q => ∃ a p, ∃ ys : List Str, x = .str a ∧ xs = [.ref p] ∧ (SqL K H p (ys.map V.str) ∨ SqT K H p (ys.map V.str)) ∧ (ys.map (·.length)).sum + ys.length * a.length ≤ 16777216 ∧ Q (.str (Txt.join a ys)) H
theorem sJoin (hK : X.K = c.K := by rfl) : Snd2 c Mu false (fun x y => rJoin X.K x [y]) wJoin := by
  rw [hK]
  intro Z P g ρ G σ H x y wx wy w Q r bx by' e k
  cases wx <;> simp only [wJoin] at e <;> first | cases e | skip
  rename_i s
  obtain ⟨z, rfl, e1, o1, l1⟩ := bx.strM
  cases e2 : itemsW wy with
  | none => rw [e2] at e; cases e
  | some ws =>
    rw [e2, Option.bind_some] at e
    cases e3 : strsW ws with
    | none => rw [e3] at e; cases e
    | some ss =>
      rw [e3, Option.bind_some] at e
      split at e
      · cases e
        rename_i hs
        have main : ∀ (a : Addr) (xs : List V), y = .ref a → (SqL c.K H a xs ∨ SqT c.K H a xs) → FzL c.K Z g ws xs → rJoin c.K (.str z) [y] H Q := by
          intro a xs ey h1 f1
          obtain ⟨ys, h3, h4, h5⟩ := fz_strs f1 e3
          subst h3
          refine ⟨z, a, ys, rfl, by rw [ey], h1, ?_, k _ H Z (Le.refl _) r (rV_false (Fz.strOf ?_ ?_))⟩
          · have h6 := of_decide_eq_true hs
            rw [← h4, ← l1] at h6
            simp only [List.length_map, List.map_map] at h6
            have : ys.map (List.length ∘ fun x => x.cps.toList) = ys.map (·.length) := List.map_congr_left fun y _ => by simp [Str.length]
            rw [this] at h6
            exact h6
          · rw [joinS_eq, TL.join_eq]
            show TL.tl (Str.join z ys) = _
            rw [TL.tl_join]
            show TL.joinL z.cps.toList (ys.map TL.tl) = _
            rw [e1, ← h4]
          · intro n hn
            rcases joinS_mem hn with h | ⟨p, hp, h⟩
            · exact o1 n h
            · exact h5 p hp n h
        cases wy <;> simp only [itemsW] at e2 <;> cases e2
        · obtain ⟨a, xs, rfl, _, h1, f1⟩ := by'.tup r.zh
          exact main a xs rfl (.inr h1) f1
        · obtain ⟨a, xs, rfl, h1, f1⟩ := by'.lst r.zh
          exact main a xs rfl (.inl (SqL.of h1)) f1
      · cases e
end
end Mp
set_option Elab.async false
set_option linter.all false
set_option maxRecDepth 100000
set_option maxHeartbeats 2000000
/-! Mp7: statements: names stored, blocks, if, while, for, return. -/
namespace Mp
open PySem PySem.Spec L2
open PyProof.Rows hiding St

/-- how a block ends -/
inductive Fl where
  | nx | rt (w : W) | bk | ct
def mSeq (m n : M Fl) : M Fl := M.bind m fun f => match f with
  | .nx => n
  | .bk => M.pure .bk
  | .ct => M.pure .ct
  | .rt w => M.pure (.rt w)
def mSkip : M Fl := M.pure .nx
def setU (i : Nat) (w : W) : M Unit := fun ρ G => .ok () (ρ.set i (some w)) G
def mSet (i : Nat) (m : M W) : M Fl := M.bind m fun w => M.bind (setU i w) fun _ => M.pure .nx
def mRet (m : M W) : M Fl := M.bind m fun w => M.pure (.rt w)
def mDrop (m : M W) : M Fl := M.bind m fun _ => M.pure .nx
def mWhile : Nat → M Bool → M Fl → M Fl
  | 0, _, _ => M.bad
  | n + 1, t, b => M.bind t fun k => if k = true then M.bind b fun f => match f with
      | .nx => mWhile n t b
      | .ct => mWhile n t b
      | .bk => M.pure .nx
      | .rt w => M.pure (.rt w)
    else M.pure .nx
def mFor (tg : W → M Unit) (b : M Fl) : List W → M Fl
  | [] => M.pure .nx
  | w :: ws => M.bind (tg w) fun _ => M.bind b fun f => match f with
    | .nx => mFor tg b ws
    | .ct => mFor tg b ws
    | .bk => M.pure .nx
    | .rt w => M.pure (.rt w)

/-- what is wanted behind a statement that begins here -/
def DatS (c : Cn) (Mu : Nat → Bool) (m : M Fl) (Wx : XK) (Z P : Hp) (g : List Addr) (ρ : List (Option W)) (G : List W) (D : Ends) : Prop :=
  match m ρ G with
  | .ok .nx ρ' G' => ∀ (σ' : St) (H' Z' : Hp) (g' : List Addr), Le Z Z' → Pre g g' → Rel c Mu Z' P g' ρ' G' σ' H' → D.nx σ' H'
  | .ok .bk ρ' G' => ∀ (σ' : St) (H' Z' : Hp) (g' : List Addr), Le Z Z' → Pre g g' → Rel c Mu Z' P g' ρ' G' σ' H' → D.bk σ' H'
  | .ok .ct ρ' G' => ∀ (σ' : St) (H' Z' : Hp) (g' : List Addr), Le Z Z' → Pre g g' → Rel c Mu Z' P g' ρ' G' σ' H' → D.ct σ' H'
  | .ok (.rt w) ρ' G' => ∀ (v : V) (H' Z' : Hp) (g' : List Addr), Le Z Z' → Pre g g' → Rel0 c Z' P g' G' H' → Fz c.K Z' g' w v → D.rt v H'
  | .exc n G' => ∀ (H' Z' : Hp) (g' : List Addr), Le Z Z' → Pre g g' → Rel0 c Z' P g' G' H' → Wx (.ref (c.ec n)) none H'
  | .bad => False
def DS (c : Cn) (Mu : Nat → Bool) (m : M Fl) (Wx : XK) : TS := fun D σ H => ∃ Z P g ρ G, Rel c Mu Z P g ρ G σ H ∧ DatS c Mu m Wx Z P g ρ G D
/-- .. behind a store -/
def DatU (c : Cn) (Mu : Nat → Bool) (vs : List Nat) (m : M Unit) (Z P : Hp) (g : List Addr) (ρ : List (Option W)) (G : List W) (σ : St) (Q : St → Hp → Prop) : Prop :=
  match m ρ G with
  | .ok _ ρ' G' => ∀ (σ' : St) (H' Z' : Hp) (g' : List Addr), Le Z Z' → Pre g g' → Rel c Mu Z' P g' ρ' G' σ' H' → wipe σ' vs = wipe σ vs → Q σ' H'
  | _ => False
def DG (c : Cn) (Mu : Nat → Bool) (vs : List Nat) (mt : W → M Unit) : TG := fun v σ H Q => ∃ Z P g ρ G w, Rel c Mu Z P g ρ G σ H ∧ Fz c.K Z g w v ∧ DatU c Mu vs (mt w) Z P g ρ G σ Q
def DGs (c : Cn) (Mu : Nat → Bool) (vs : List Nat) (mt : List W → M Unit) : TGs := fun xs σ H Q => ∃ Z P g ρ G ws, Rel c Mu Z P g ρ G σ H ∧ FzL c.K Z g ws xs ∧ DatU c Mu vs (mt ws) Z P g ρ G σ Q

section
variable {α β : Type} {c : Cn} {Mu : Nat → Bool} {rel : RelT α β} {Wx : XK} {Z P : Hp} {g : List Addr} {ρ : List (Option W)} {G : List W} {σ : St} {H : Hp} {D : Ends}
theorem DatS.le {m : M Fl} {Z1 : Hp} {g1 : List Addr} (l : Le Z Z1) (p : Pre g g1) (h : DatS c Mu m Wx Z P g ρ G D) : DatS c Mu m Wx Z1 P g1 ρ G D := by
  unfold DatS at h ⊢
  cases e : m ρ G with
  | bad => rw [e] at h; exact h
  | exc n G2 =>
    rw [e] at h
    exact fun H2 Z2 g2 l2 p2 r2 => h H2 Z2 g2 (l.trans l2) (p.trans p2) r2
  | ok f ρ2 G2 =>
    rw [e] at h
    cases f <;> exact fun y H2 Z2 g2 l2 p2 r2 => h y H2 Z2 g2 (l.trans l2) (p.trans p2) r2
theorem DatS.bind {m : M α} {f : α → M Fl} {Q1 : β → Hp → Prop} (h : DatS c Mu (M.bind m f) Wx Z P g ρ G D)
    (k : ∀ (a : α) (x : β) (H1 Z1 : Hp) (g1 : List Addr) (ρ1 : List (Option W)) (G1 : List W), Le Z Z1 → Pre g g1 → Rel c Mu Z1 P g1 ρ1 G1 σ H1 → rel c Mu Z1 P g1 ρ1 σ H1 a x → DatS c Mu (f a) Wx Z1 P g1 ρ1 G1 D → Q1 x H1) :
    Dat c Mu rel m Wx Z P g ρ G σ Q1 := by
  unfold DatS M.bind at h
  unfold Dat
  cases e : m ρ G with
  | bad => rw [e] at h; exact h
  | exc n G' => rw [e] at h; exact h
  | ok a ρ' G' =>
    rw [e] at h
    intro x H' Z' g' l p r q
    exact k a x H' Z' g' ρ' G' l p r q (DatS.le l p h)
theorem DS.bind {m : M α} {f : α → M Fl} {Q1 : β → Hp → Prop} (h : DS c Mu (M.bind m f) Wx D σ H)
    (k : ∀ (a : α) (x : β) (H1 Z1 P : Hp) (g1 : List Addr) (ρ1 : List (Option W)) (G1 : List W), Rel c Mu Z1 P g1 ρ1 G1 σ H1 → rel c Mu Z1 P g1 ρ1 σ H1 a x → DatS c Mu (f a) Wx Z1 P g1 ρ1 G1 D → Q1 x H1) :
    Mp.D c Mu rel m Wx σ H Q1 := by
  obtain ⟨Z, P, g, ρ, G, r, h⟩ := h
  exact ⟨Z, P, g, ρ, G, r, h.bind fun a x H1 Z1 g1 ρ1 G1 _ _ r1 q1 d1 => k a x H1 Z1 P g1 ρ1 G1 r1 q1 d1⟩
theorem DatS.bind_eq {m : M α} {f : α → M Fl} {a : α} {ρ' : List (Option W)} {G' : List W} (h : DatS c Mu (M.bind m f) Wx Z P g ρ G D) (e : m ρ G = .ok a ρ' G') : DatS c Mu (f a) Wx Z P g ρ' G' D := by
  unfold DatS M.bind at h
  rw [e] at h
  exact h
theorem DatS.bind_bad {m : M α} {f : α → M Fl} (h : DatS c Mu (M.bind m f) Wx Z P g ρ G D) (e : m ρ G = .bad) : False := by
  unfold DatS M.bind at h
  rw [e] at h
  exact h
theorem DatS.nx (h : DatS c Mu (M.pure .nx) Wx Z P g ρ G D) {σ' : St} (r : Rel c Mu Z P g ρ G σ' H) : D.nx σ' H := h σ' H Z g (Le.refl _) (Pre.refl _) r
theorem DatS.rt {w : W} {v : V} (h : DatS c Mu (M.pure (.rt w)) Wx Z P g ρ G D) (r : Rel c Mu Z P g ρ G σ H) (f : Fz c.K Z g w v) : D.rt v H := h v H Z g (Le.refl _) (Pre.refl _) r.rel0 f
/-- a block: its first statement, then the others -/
theorem DatS.seq {m n : M Fl} (h : DatS c Mu (mSeq m n) Wx Z P g ρ G D) : DatS c Mu m Wx Z P g ρ G { D with nx := fun σ H => DS c Mu n Wx D σ H } := by
  unfold DatS mSeq M.bind at h
  unfold DatS
  cases e : m ρ G with
  | bad => rw [e] at h; exact h
  | exc k G' => rw [e] at h; exact h
  | ok f ρ' G' =>
    rw [e] at h
    cases f with
    | nx =>
      intro σ' H' Z' g' l p r
      exact ⟨Z', P, g', ρ', G', r, DatS.le l p h⟩
    | bk => exact h
    | ct => exact h
    | rt w => exact h

/-! ### names stored -/
theorem Rel.setV (r : Rel c Mu Z P g ρ G σ H) {i : Nat} {w : W} {v : V} (hm : Mu i = false) (f : Fz c.K Z g w v) : Rel c Mu Z P g (ρ.set i (some w)) G (σ.set i (some v)) H := by
  have hl := r.len
  refine ⟨r.zh, r.ph, r.zp, fun j w' e m => ?_, fun j w' e m => ?_, fun j l w1 w2 a e1 e2 m1 m2 s1 s2 => ?_, r.gl, r.gn, r.glen, by rw [List.length_set, List.length_set]; exact hl, r.tb⟩
  · by_cases hj : i = j
    · subst hj
      by_cases hi : i < ρ.length
      · rw [List.getElem?_set_self hi] at e; cases e
        exact ⟨v, List.getElem?_set_self (by rw [← hl]; exact hi), f⟩
      · rw [List.getElem?_eq_none (by simpa using hi)] at e; cases e
    · rw [List.getElem?_set_ne hj] at e ⊢
      exact r.fz j w' e m
  · have hj : i ≠ j := fun z => by subst z; rw [hm] at m; cases m
    rw [List.getElem?_set_ne hj] at e ⊢
    exact r.ow j w' e m
  · have hj : i ≠ j := fun z => by subst z; rw [hm] at m1; cases m1
    have hk : i ≠ l := fun z => by subst z; rw [hm] at m2; cases m2
    rw [List.getElem?_set_ne hj] at e1 s1
    rw [List.getElem?_set_ne hk] at e2 s2
    exact r.sep j l w1 w2 a e1 e2 m1 m2 s1 s2
theorem Rel.setF (r : Rel c Mu Z P g ρ G σ H) {i : Nat} {w : W} {v : V} (hm : Mu i = true) (f : Fresh c Mu Z P g ρ σ H w v) : Rel c Mu Z P g (ρ.set i (some w)) G (σ.set i (some v)) H := by
  have hl := r.len
  obtain ⟨a, o, rfl, h1, h2, h3, h4, h5, h6⟩ := f
  refine ⟨r.zh, r.ph, r.zp, fun j w' e m => ?_, fun j w' e m => ?_, fun j l w1 w2 b e1 e2 m1 m2 s1 s2 => ?_, r.gl, r.gn, r.glen, by rw [List.length_set, List.length_set]; exact hl, r.tb⟩
  · have hj : i ≠ j := fun z => by subst z; rw [hm] at m; cases m
    rw [List.getElem?_set_ne hj] at e ⊢
    exact r.fz j w' e m
  · by_cases hj : i = j
    · subst hj
      by_cases hi : i < ρ.length
      · rw [List.getElem?_set_self hi] at e; cases e
        exact ⟨a, o, List.getElem?_set_self (by rw [← hl]; exact hi), h1, h2, h3, h4, h5⟩
      · rw [List.getElem?_eq_none (by simpa using hi)] at e; cases e
    · rw [List.getElem?_set_ne hj] at e ⊢
      exact r.ow j w' e m
  · by_cases hj : i = j
    · subst hj
      by_cases hk : i = l
      · exact hk
      · rw [List.getElem?_set_ne hk] at e2 s2
        have hi : i < ρ.length := by
          by_cases hi : i < ρ.length
          · exact hi
          · rw [List.getElem?_eq_none (by simpa using hi)] at e1; cases e1
        rw [List.getElem?_set_self (by rw [← hl]; exact hi)] at s1
        cases s1
        exact absurd s2 (h6 l w2 m2 e2)
    · rw [List.getElem?_set_ne hj] at e1 s1
      by_cases hk : i = l
      · subst hk
        have hi : i < ρ.length := by
          by_cases hi : i < ρ.length
          · exact hi
          · rw [List.getElem?_eq_none (by simpa using hi)] at e2; cases e2
        rw [List.getElem?_set_self (by rw [← hl]; exact hi)] at s2
        cases s2
        exact absurd s1 (h6 j w1 m1 e1)
      · rw [List.getElem?_set_ne hk] at e2 s2
        exact r.sep j l w1 w2 b e1 e2 m1 m2 s1 s2
end

section
variable {X : Cx} {c : Cn} {Mu : Nat → Bool} {Wx : XK} {fr : Bool} {e a b : Expr} {es : List Expr} {pos : Pos} {ma mb mc : M Opd} {st : Stmt} {rest sts sts' : List Stmt}
theorem bNil : PSs X [] (DS c Mu mSkip Wx) := PSs.weak pss_nil fun D σ H ⟨Z, P, g, ρ, G, r, d⟩ => d.nx r
theorem bCons {m n : M Fl} (h1 : PS X st (DS c Mu m Wx)) (h2 : PSs X rest (DS c Mu n Wx)) : PSs X (st :: rest) (DS c Mu (mSeq m n) Wx) :=
  PSs.weak (pss_cons h1 h2) fun D σ H ⟨Z, P, g, ρ, G, r, d⟩ => ⟨Z, P, g, ρ, G, r, d.seq⟩
theorem bOne {m : M Fl} (h1 : PS X st (DS c Mu m Wx)) : PSs X [st] (DS c Mu m Wx) := pss_one h1
theorem sPass : PS X (.Pass pos) (DS c Mu mSkip Wx) := PS.weak ps_pass fun D σ H ⟨Z, P, g, ρ, G, r, d⟩ => d.nx r
theorem sBreak : PS X (.Break pos) (DS c Mu (M.pure .bk) Wx) := PS.weak ps_break fun D σ H ⟨Z, P, g, ρ, G, r, d⟩ => d σ H Z g (Le.refl _) (Pre.refl _) r
theorem sContinue : PS X (.Continue pos) (DS c Mu (M.pure .ct) Wx) := PS.weak ps_continue fun D σ H ⟨Z, P, g, ρ, G, r, d⟩ => d σ H Z g (Le.refl _) (Pre.refl _) r
theorem sRet {m : M W} (h : PE X e (D c Mu (rV false) m Wx)) : PS X (.Return (some e) pos) (DS c Mu (mRet m) Wx) :=
  PS.weak (ps_ret h) fun D σ H h => DS.bind h fun w x H1 Z1 P g1 ρ1 G1 r1 q1 d1 => d1.rt r1 q1
theorem sRetN : PS X (.Return none pos) (DS c Mu (M.pure (.rt .non)) Wx) := PS.weak ps_retN fun D σ H ⟨Z, P, g, ρ, G, r, d⟩ => d.rt r .non
theorem sExpr {m : M W} (h : PE X e (D c Mu (rV false) m Wx)) (hs : swapsWith e none pos.line X.env = pure false := by rfl) : PS X (.Expr e pos) (DS c Mu (mDrop m) Wx) :=
  PS.weak (ps_expr h hs) fun D σ H h => DS.bind h fun w x H1 Z1 P g1 ρ1 G1 r1 q1 d1 => d1.nx r1
theorem sIf {t : Expr} {mt : M Bool} {m n : M Fl} (ht : PT X t (D c Mu rEq mt Wx)) (ha : PSs X sts (DS c Mu m Wx)) (hb : PSs X sts' (DS c Mu n Wx)) : PS X (.If t sts sts' pos) (DS c Mu (mIf mt m n) Wx) :=
  PS.weak (ps_if ht ha hb) fun D σ H h => DS.bind h fun k x H1 Z1 P g1 ρ1 G1 r1 q1 d1 => by
    subst q1
    cases k with
    | true => rw [if_pos rfl] at d1 ⊢; exact ⟨_, _, _, _, _, r1, d1⟩
    | false => rw [if_neg Bool.false_ne_true] at d1 ⊢; exact ⟨_, _, _, _, _, r1, d1⟩
/-- x = e, a plain name -/
theorem sSet {i : Nat} {x : Str} {pos' : Pos} {m : M W} (hm : Mu i = false) (hN : X.N.Nodup) (hi : X.N[i]? = some x) (hx : Loc X.env.scope x) (he : PE X e (D c Mu (rV false) m Wx)) (hs : swapsWith e (some (.Name x pos')) pos.line X.env = pure false := by rfl) (hf : X.fn x = true ∨ X.env.scope.names.lookup x = some .local := by first | exact .inl rfl | exact .inr rfl | assumption) :
    PS X (.Assign [.Name x pos'] e pos) (DS c Mu (mSet i m) Wx) :=
  PS.weak (ps_set hN hi hx he hs hf) fun D σ H h => DS.bind h fun w x H1 Z1 P g1 ρ1 G1 r1 q1 d1 => by
    have d2 := d1.bind_eq (a := ()) (ρ' := ρ1.set i (some w)) (G' := G1) rfl
    exact d2.nx (r1.setV hm q1)
/-- .. a name that has a thing of its own -/
theorem sSetF {i : Nat} {x : Str} {pos' : Pos} {m : M W} (hm : Mu i = true) (hN : X.N.Nodup) (hi : X.N[i]? = some x) (hx : Loc X.env.scope x) (he : PE X e (D c Mu (rV true) m Wx)) (hs : swapsWith e (some (.Name x pos')) pos.line X.env = pure false := by rfl) (hf : X.fn x = true ∨ X.env.scope.names.lookup x = some .local := by first | exact .inl rfl | exact .inr rfl | assumption) :
    PS X (.Assign [.Name x pos'] e pos) (DS c Mu (mSet i m) Wx) :=
  PS.weak (ps_set hN hi hx he hs hf) fun D σ H h => DS.bind h fun w x H1 Z1 P g1 ρ1 G1 r1 q1 d1 => by
    have d2 := d1.bind_eq (a := ()) (ρ' := ρ1.set i (some w)) (G' := G1) rfl
    exact d2.nx (r1.setF hm q1)
/-- x op= e -/
def mAug (f : W → W → Option W) (i : Nat) (m : M Opd) : M Fl := M.bind (mS i) fun o => M.bind m fun oe => M.bind o.get fun x => M.bind oe.get fun y => M.bind (M.of (f x y)) fun w => M.bind (setU i w) fun _ => M.pure .nx
theorem DatS.get {o : Opd} {f : W → M Fl} {Z P : Hp} {g : List Addr} {ρ : List (Option W)} {G : List W} {σ : St} {H : Hp} {D : Ends} {x : V} (r : Rel c Mu Z P g ρ G σ H) (q : rO c Mu Z P g ρ σ H o x)
    (h : DatS c Mu (M.bind o.get f) Wx Z P g ρ G D) : ∃ w, Bor c Z g H w x ∧ DatS c Mu (f w) Wx Z P g ρ G D := by
  cases o with
  | v w => exact ⟨w, .inl q, h⟩
  | s i =>
    rcases getS_cases i ρ G with e | ⟨w, e, e2⟩
    · exact (h.bind_bad e).elim
    · exact ⟨w, r.slot e q, h.bind_eq e2⟩
theorem DatS.of {α : Type} {o : Option α} {f : α → M Fl} {Z P : Hp} {g : List Addr} {ρ : List (Option W)} {G : List W} {D : Ends} (h : DatS c Mu (M.bind (M.of o) f) Wx Z P g ρ G D) : ∃ a, o = some a ∧ DatS c Mu (f a) Wx Z P g ρ G D := by
  cases o with
  | none => exact (h.bind_bad rfl).elim
  | some a => exact ⟨a, rfl, h⟩
theorem sAug {i : Nat} {x : Str} {op : Operator} {pos' : Pos} {r : R2} {f : W → W → Option W} {m : M Opd} (hm : Mu i = false) (ho : OpR X (inplaceOp op) r) (s : Snd2 c Mu false r f) (hN : X.N.Nodup) (hi : X.N[i]? = some x) (hx : Loc X.env.scope x) (he : PE X e (D c Mu rO m Wx)) (hf : X.fn x = true ∨ X.env.scope.names.lookup x = some .local := by first | exact .inl rfl | exact .inr rfl | assumption) :
    PS X (.AugAssign (.Name x pos') op e pos) (DS c Mu (mAug f i m) Wx) :=
  PS.weak (ps_aug hN hi hx he ho hf) fun D σ H ⟨Z, P, g, ρ, G, r0, d⟩ => by
    have d0 : Dat c Mu rO (mS i) Wx Z P g ρ G σ (fun x H1 => True) := d.bind fun _ _ _ _ _ _ _ _ _ _ _ _ => trivial
    obtain ⟨w, e1, e2⟩ := mS_ok d0
    obtain ⟨v, e3⟩ := r0.has e1
    have d1 := d.bind_eq e2
    refine ⟨v, e3, Z, P, g, ρ, G, r0, d1.bind fun oe y H1 Z1 g1 ρ1 G1 l1 p1 r1 q1 d2 => ?_⟩
    obtain ⟨wx, bx, d3⟩ := d2.get r1 (o := .s i) (x := v) e3
    obtain ⟨wy, by', d4⟩ := d3.get r1 q1
    obtain ⟨w', ew, d5⟩ := d4.of
    refine s Z1 P g1 ρ1 G1 σ H1 v y wx wy w' _ r1 bx by' ew fun u H' Z' l r' q => ?_
    have d6 := (d5.bind_eq (a := ()) (ρ' := ρ1.set i (some w')) (G' := G1) rfl).le l (Pre.refl _)
    exact d6.nx (r'.setV hm q)
/-! ### while -/
theorem sWhile {t : Expr} {mt : M Bool} {mb : M Fl} (n : Nat) (hp : PassesOwn (model X.prog X.w) X.A X.env X.xe) (ht : PT X t (D c Mu rEq mt Wx)) (hb : PSs X sts (DS c Mu mb Wx)) : PS X (.While t sts [] pos) (DS c Mu (mWhile n mt mb) Wx) :=
  PS.weak (ps_while hp ht hb) fun D σ H h => by
    refine ⟨fun m σ H => DS c Mu (mWhile m mt mb) Wx D σ H, ⟨n, h⟩, fun m σ H h => ?_⟩
    cases m with
    | zero =>
      obtain ⟨Z, P, g, ρ, G, r, d⟩ := h
      exact d.elim
    | succ m =>
      refine DS.bind h fun k x H1 Z1 P g1 ρ1 G1 r1 q1 d1 => ?_
      subst q1
      cases k with
      | false =>
        rw [if_neg Bool.false_ne_true] at d1 ⊢
        exact d1.nx r1
      | true =>
        rw [if_pos rfl] at d1 ⊢
        refine ⟨fun σ' H' => DS c Mu (mWhile m mt mb) Wx D σ' H', fun σ' H' q => ⟨m, Nat.lt_succ_self m, q⟩, Z1, P, g1, ρ1, G1, r1, ?_⟩
        unfold DatS M.bind at d1
        unfold DatS
        cases e : mb ρ1 G1 with
        | bad => rw [e] at d1; exact d1
        | exc k G' => rw [e] at d1; exact d1
        | ok f ρ' G' =>
          rw [e] at d1
          cases f with
          | nx => exact fun σ' H' Z' g' l p r => ⟨Z', P, g', ρ', G', r, DatS.le l p d1⟩
          | ct => exact fun σ' H' Z' g' l p r => ⟨Z', P, g', ρ', G', r, DatS.le l p d1⟩
          | bk => exact d1
          | rt w => exact d1

/-! ### targets -/
theorem PG.weak {t t' : TG} (h : PG X e t) (k : ∀ v σ H Q, t' v σ H Q → t v σ H Q) : PG X e t' := ⟨fun pins s σ H v u Q I r hw => h.run pins s σ H v u Q I r (k _ _ _ _ hw)⟩
theorem PGs.weak {t t' : TGs} (h : PGs X es t) (k : ∀ v σ H Q, t' v σ H Q → t v σ H Q) : PGs X es t' := ⟨fun pins s σ H v u Q I r hw => h.run pins s σ H v u Q I r (k _ _ _ _ hw)⟩
theorem wipe_in {i : Nat} {x : Option V} : ∀ {vs : List Nat} {σ : St}, i ∈ vs → wipe (σ.set i x) vs = wipe σ vs
  | [], _, h => by cases h
  | v :: vs, σ, h => by
    show (wipe (σ.set i x) vs).set v none = (wipe σ vs).set v none
    by_cases hi : i ∈ vs
    · rw [wipe_in hi]
    · rcases List.mem_cons.mp h with rfl | h
      · apply List.ext_getElem?
        intro j
        by_cases hj : i = j
        · subst hj
          by_cases hl : i < σ.length
          · rw [List.getElem?_set_self (by rw [wipe_length, List.length_set]; exact hl), List.getElem?_set_self (by rw [wipe_length]; exact hl)]
          · rw [List.getElem?_eq_none (by rw [List.length_set, wipe_length, List.length_set]; omega), List.getElem?_eq_none (by rw [List.length_set, wipe_length]; omega)]
        · rw [List.getElem?_set_ne hj, List.getElem?_set_ne hj]
          clear h
          induction vs with
          | nil =>
            show (σ.set i x)[j]? = σ[j]?
            rw [List.getElem?_set_ne hj]
          | cons u us ih =>
            show ((wipe (σ.set i x) us).set u none)[j]? = ((wipe σ us).set u none)[j]?
            have ih := ih (fun q => hi (List.mem_cons_of_mem _ q))
            by_cases hu : u = j
            · subst hu
              by_cases hl : u < σ.length
              · rw [List.getElem?_set_self (by rw [wipe_length, List.length_set]; exact hl), List.getElem?_set_self (by rw [wipe_length]; exact hl)]
              · rw [List.getElem?_eq_none (by rw [List.length_set, wipe_length, List.length_set]; omega), List.getElem?_eq_none (by rw [List.length_set, wipe_length]; omega)]
            · rw [List.getElem?_set_ne hu, List.getElem?_set_ne hu]
              exact ih
      · exact absurd h hi
theorem gNm {i : Nat} {x : Str} {vs : List Nat} (hv : i ∈ vs) (hm : Mu i = false) (hN : X.N.Nodup) (hi : X.N[i]? = some x) (hx : Loc X.env.scope x) (hf : X.fn x = true ∨ X.env.scope.names.lookup x = some .local := by first | exact .inl rfl | exact .inr rfl | assumption) : PG X (.Name x pos) (DG c Mu vs (setU i)) :=
  PG.weak (pg_name hN hi hx hf) fun v σ H Q ⟨Z, P, g, ρ, G, w, r, f, d⟩ => d _ H Z g (Le.refl _) (Pre.refl _) (r.setV hm f) (wipe_in hv)
theorem DatU.bind {vs : List Nat} {t : M Unit} {n : M Unit} {Z P : Hp} {g : List Addr} {ρ : List (Option W)} {G : List W} {σ : St} {Q Q1 : St → Hp → Prop} (h : DatU c Mu vs (M.bind t fun _ => n) Z P g ρ G σ Q)
    (k : ∀ (σ' : St) (H' Z' : Hp) (g' : List Addr) (ρ' : List (Option W)) (G' : List W), Le Z Z' → Pre g g' → Rel c Mu Z' P g' ρ' G' σ' H' → DatU c Mu vs n Z' P g' ρ' G' σ' Q → Q1 σ' H') : DatU c Mu vs t Z P g ρ G σ Q1 := by
  unfold DatU M.bind at h
  unfold DatU
  cases e : t ρ G with
  | bad => rw [e] at h; exact h
  | exc k G' => rw [e] at h; exact h
  | ok u ρ' G' =>
    rw [e] at h
    intro σ' H' Z' g' l p r' ag
    refine k σ' H' Z' g' ρ' G' l p r' ?_
    unfold DatU
    dsimp only at h
    cases e2 : n ρ' G' with
    | bad => rw [e2] at h; exact h
    | exc k G' => rw [e2] at h; exact h
    | ok u ρ2 G2 =>
      rw [e2] at h
      exact fun σ2 H2 Z2 g2 l2 p2 r2 ag2 => h σ2 H2 Z2 g2 (l.trans l2) (p.trans p2) r2 (ag2.trans ag)
def tgNil : List W → M Unit
  | [] => M.pure ()
  | _ => M.bad
def tgCons (t : W → M Unit) (ts : List W → M Unit) : List W → M Unit
  | w :: ws => M.bind (t w) fun _ => ts ws
  | [] => M.bad
def tgTup (n : Nat) (ts : List W → M Unit) : W → M Unit
  | .tup ws => if ws.length = n then ts ws else M.bad
  | _ => M.bad
theorem gsNil {vs : List Nat} : PGs X [] (DGs c Mu vs tgNil) := PGs.weak pgs_nil fun xs σ H Q ⟨Z, P, g, ρ, G, ws, r, f, d⟩ => by
  cases f with
  | nil => exact ⟨rfl, d σ H Z g (Le.refl _) (Pre.refl _) r rfl⟩
  | cons _ _ => exact d.elim
theorem gsCons {vs : List Nat} {t : W → M Unit} {ts : List W → M Unit} (h1 : PG X e (DG c Mu vs t)) (h2 : PGs X es (DGs c Mu vs ts)) (hs : (assignEach (e :: es) X.env).map (·.2) = assign e X.env :: (assignEach es X.env).map (·.2) := by rfl) : PGs X (e :: es) (DGs c Mu vs (tgCons t ts)) :=
  PGs.weak (pgs_cons h1 h2 hs) fun xs σ H Q ⟨Z, P, g, ρ, G, ws, r, f, d⟩ => by
    cases f with
    | nil => exact d.elim
    | cons f fs =>
      have d : DatU c Mu vs (M.bind (t _) fun _ => ts _) Z P g ρ G σ Q := d
      exact ⟨_, _, rfl, Z, P, g, ρ, G, _, r, f, d.bind fun σ' H' Z' g' ρ' G' l p r' d' => ⟨Z', P, g', ρ', G', _, r', fs.le l p, d'⟩⟩
theorem gTup {vs : List Nat} {k n : Nat} {ts : List W → M Unit} (hc : X.calm = true) (h : PGs X es (DGs c Mu vs ts)) (hn : (assignEach es X.env).length = n := by rfl) (hst : (assignEach es X.env).findIdx? (·.1) = none := by rfl) (hK : X.K = c.K := by rfl) : PG X (.Tuple es k pos) (DG c Mu vs (tgTup n ts)) :=
  PG.weak (pg_tup hc h hn hst) fun v σ H Q ⟨Z, P, g, ρ, G, w, r, f, d⟩ => by
    cases w with
    | tup ws =>
      have d : DatU c Mu vs (if ws.length = n then ts ws else M.bad) Z P g ρ G σ Q := d
      by_cases hl : ws.length = n
      · rw [if_pos hl] at d
        cases f with
        | tup h1 f1 =>
          rw [hK]
          exact ⟨_, _, rfl, SqT.le r.zh h1, by rw [← f1.length]; exact hl, Z, P, g, ρ, G, ws, r, f1, d⟩
      · rw [if_neg hl] at d
        exact False.elim d
    | _ => exact False.elim d
/-- targets = value -/
def mAsg (t : W → M Unit) (m : M W) : M Fl := M.bind m fun w => M.bind (t w) fun _ => M.pure .nx
theorem DatS.store {vs : List Nat} {σ : St} {t : M Unit} {Z P : Hp} {g : List Addr} {ρ : List (Option W)} {G : List W} {D : Ends} (h : DatS c Mu (M.bind t fun _ => M.pure .nx) Wx Z P g ρ G D) (hx : ∀ k G', t ρ G ≠ .exc k G') : DatU c Mu vs t Z P g ρ G σ D.nx := by
  unfold DatS M.bind at h
  unfold DatU
  cases e : t ρ G with
  | bad => rw [e] at h; exact h
  | exc k G' => exact (hx k G' e).elim
  | ok u ρ' G' => rw [e] at h; exact fun σ' H' Z' g' l p r _ => h σ' H' Z' g' l p r
/-- a target never raises -/
def Calm (t : W → M Unit) : Prop := ∀ w ρ G k G', t w ρ G ≠ .exc k G'
def Calms (t : List W → M Unit) : Prop := ∀ w ρ G k G', t w ρ G ≠ .exc k G'
theorem calmU (i : Nat) : Calm (setU i) := fun _ _ _ _ _ h => by cases h
theorem calmNil : Calms tgNil := fun w _ _ _ _ h => by cases w <;> cases h
theorem calmCons {t : W → M Unit} {ts : List W → M Unit} (h1 : Calm t) (h2 : Calms ts) : Calms (tgCons t ts) := fun w ρ G k G' h => by
  cases w with
  | nil => cases h
  | cons w ws =>
    have h : M.bind (t w) (fun _ => ts ws) ρ G = .exc k G' := h
    unfold M.bind at h
    cases e : t w ρ G with
    | bad => rw [e] at h; cases h
    | exc j G2 => exact h1 _ _ _ _ _ e
    | ok u ρ2 G2 => rw [e] at h; exact h2 _ _ _ _ _ h
theorem calmTup {n : Nat} {ts : List W → M Unit} (h : Calms ts) : Calm (tgTup n ts) := fun w ρ G k G' q => by
  cases w with
  | tup ws =>
    have q : (if ws.length = n then ts ws else M.bad) ρ G = .exc k G' := q
    by_cases hl : ws.length = n
    · rw [if_pos hl] at q; exact h _ _ _ _ _ q
    · rw [if_neg hl] at q; cases q
  | _ => cases q
theorem sAsg {vs : List Nat} {tg : Expr} {t : W → M Unit} {m : M W} (hcl : Calm t) (he : PE X e (D c Mu (rV false) m Wx)) (hg : PG X tg (DG c Mu vs t)) (hs : swapsWithSole [tg] e pos.line X.env = pure false := by rfl) (hw : swappedStores [tg] e X.env = pure none := by rfl)
    (h1 : (assignEach [tg] X.env).map (·.2) = [assign tg X.env] := by rfl) : PS X (.Assign [tg] e pos) (DS c Mu (mAsg t m) Wx) :=
  PS.weak (ps_asg he hg hs hw h1) fun D σ H h => DS.bind h fun w x H1 Z1 P g1 ρ1 G1 r1 q1 d1 => ⟨Z1, P, g1, ρ1, G1, w, r1, q1, d1.store (hcl _ _ _)⟩
/-- x, y = e1, e2: plain names -/
def mPar (i j : Nat) (ms : M (List W)) : M Fl := M.bind ms fun ws => match ws with
  | [v, w] => M.bind (setU i v) fun _ => M.bind (setU j w) fun _ => M.pure .nx
  | _ => M.bad
theorem sPar {i j : Nat} {x y : Str} {ms : M (List W)} {px py pt : Pos} {kt k2 pt2} (m1 : Mu i = false) (m2 : Mu j = false) (hc : X.calm = true) (hN : X.N.Nodup) (hi : X.N[i]? = some x) (hj : X.N[j]? = some y) (hij : i ≠ j)
    (hx : X.env.scope.names.lookup x = some .local) (hy : X.env.scope.names.lookup y = some .local) (ha : PA X [a, b] (D c Mu rL ms Wx))
    (hw : swappedStores [.Tuple [.Name x px, .Name y py] kt pt] (.Tuple [a, b] k2 pt2) X.env = pure (some [x, y]))
    (hs : swapsWithSole [.Tuple [.Name x px, .Name y py] kt pt] (.Tuple [a, b] k2 pt2) pos.line X.env = pure false := by rfl) :
    PS X (.Assign [.Tuple [.Name x px, .Name y py] kt pt] (.Tuple [a, b] k2 pt2) pos) (DS c Mu (mPar i j ms) Wx) :=
  PS.weak (ps_par hc hN hi hj hij hx hy ha hw hs) fun D σ H h => DS.bind h fun ws xs H1 Z1 P g1 ρ1 G1 r1 q1 d1 => by
    cases q1 with
    | nil => exact d1.elim
    | cons f1 q1 =>
      cases q1 with
      | nil => exact d1.elim
      | cons f2 q1 =>
        cases q1 with
        | cons _ _ => exact d1.elim
        | nil =>
          refine ⟨_, _, rfl, ?_⟩
          have d2 := d1.bind_eq (a := ()) (ρ' := ρ1.set i (some _)) (G' := G1) rfl
          have d3 := d2.bind_eq (a := ()) (ρ' := (ρ1.set i (some _)).set j (some _)) (G' := G1) rfl
          exact d3.nx ((r1.setV m1 f1).setV m2 f2)
end
end Mp
set_option Elab.async false
set_option linter.all false
set_option maxRecDepth 100000
set_option maxHeartbeats 2000000
/-! Mp8: calls of the text's defs, raise, a def by its body. -/
namespace Mp
open PySem PySem.Spec L2
open PyProof.Rows hiding St

/-- what a def's call gives -/
def DatF (c : Cn) (r : R W) (Z P : Hp) (g : List Addr) (Q : VK) (E : XK) : Prop :=
  match r with
  | .ok w _ G' => ∀ (v : V) (H' Z' : Hp) (g' : List Addr), Le Z Z' → Pre g g' → Rel0 c Z' P g' G' H' → Fz c.K Z' g' w v → Q v H'
  | .exc k G' => ∀ (H' Z' : Hp) (g' : List Addr), Le Z Z' → Pre g g' → Rel0 c Z' P g' G' H' → E (.ref (c.ec k)) none H'
  | .bad => False
abbrev Fn := List W → List W → R W
/-- a def's promise: it gives what f gives -/
def spF (c : Cn) (f : Fn) (n : Nat) : Sp := fun vs H Q E => ∃ Z P g G ws, Rel0 c Z P g G H ∧ FzL c.K Z g ws vs ∧ ws.length = n ∧ DatF c (f ws G) Z P g Q E
/-- the def's body run at its arguments -/
def runF (n : Nat) (m : M Fl) : Fn := fun ws G => match m (ws.map some ++ List.replicate (n - ws.length) none) G with
  | .ok (.rt w) _ G' => .ok w [] G'
  | .ok .nx _ G' => .ok .non [] G'
  | .ok _ _ _ => .bad
  | .exc k G' => .exc k G'
  | .bad => .bad
def callF (f : Fn) (ws : List W) : M W := fun ρ G => match f ws G with
  | .ok w _ G' => .ok w ρ G'
  | .exc k G' => .exc k G'
  | .bad => .bad
def mCallF (f : Fn) (ms : M (List W)) : M W := M.bind ms fun ws => callF f ws
def mRaise (k : Nat) : M Fl := fun _ G => .exc k G
/-- no exception is let out -/
def noexc {α : Type} (m : M α) : M α := fun ρ G => match m ρ G with
  | .exc _ _ => .bad
  | r => r

section
variable {c : Cn} {Mu : Nat → Bool} {Z P : Hp} {g : List Addr} {ρ : List (Option W)} {G : List W} {σ : St} {H : Hp}
open Classical in
/-- a call keeps the caller's own things -/
theorem Rel.call (r : Rel c Mu Z P g ρ G σ H) : ∃ Pc, Rel0 c Z Pc g G H ∧ ∀ (Z' H' : Hp) (g' : List Addr) (G' : List W), Le Z Z' → Pre g g' → Rel0 c Z' Pc g' G' H' → Rel c Mu Z' P g' ρ G' σ H' := by
  refine ⟨fun a => if ∃ i w, Mu i = true ∧ ρ[i]? = some (some w) ∧ σ[i]? = some (some (.ref a)) then H a else P a, ?_, ?_⟩
  · refine ⟨r.zh, fun a o e => ?_, fun a o e => ?_, fun _ _ e => by simp at e, fun _ _ e => by simp at e, fun _ _ _ _ _ e => by simp at e, fun n w e => ?_, r.gn, r.glen, rfl, r.tb.tabs, r.tb.nz, fun a o e => ?_⟩
    · skip
      split at e
      · exact e
      · exact r.ph a o e
    · skip
      rw [if_neg]
      · exact r.zp a o e
      · rintro ⟨i, w, m, e1, e2⟩
        obtain ⟨b, u, e3, _, _, h3, _⟩ := r.ow i w e1 m
        rw [e2] at e3; cases e3
        rw [h3] at e; cases e
    · obtain ⟨a, o, e1, h1, h2, h3, h4⟩ := r.gl n w e
      refine ⟨a, o, e1, h1, h2, h3, ?_⟩
      rw [if_neg]
      · exact h4
      · rintro ⟨i, w', m, e2, e3⟩
        obtain ⟨b, u, e4, _, _, _, _, h5⟩ := r.ow i w' e2 m
        rw [e3] at e4; cases e4
        exact h5 (List.mem_iff_getElem?.mpr ⟨n, e1⟩)
    · skip
      split at e
      · rename_i q
        obtain ⟨i, w, m, e1, e2⟩ := q
        obtain ⟨b, u, e3, h1, h2, _⟩ := r.ow i w e1 m
        rw [e2] at e3; cases e3
        rw [h1] at e; cases e
        exact h2.mutO.nt
      · exact r.tb.np a o e
  · intro Z' H' g' G' l p r'
    have own : ∀ i w a, Mu i = true → ρ[i]? = some (some w) → σ[i]? = some (some (.ref a)) → (∃ i w, Mu i = true ∧ ρ[i]? = some (some w) ∧ σ[i]? = some (some (.ref a))) := fun i w a m e1 e2 => ⟨i, w, m, e1, e2⟩
    refine ⟨r'.zh, fun a o e => ?_, fun a o e => ?_, fun i w e m => ?_, fun i w e m => ?_, r.sep, fun n w e => ?_, r'.gn, r'.glen, r.len, r'.tb.tabs, r'.tb.nz, r.tb.np⟩
    · by_cases q : ∃ i w, Mu i = true ∧ ρ[i]? = some (some w) ∧ σ[i]? = some (some (.ref a))
      · obtain ⟨i, w, m, e1, e2⟩ := q
        obtain ⟨b, u, e3, _, _, _, h4, _⟩ := r.ow i w e1 m
        rw [e2] at e3; cases e3
        rw [h4] at e; cases e
      · refine r'.ph a o ?_
        rw [if_neg q]; exact e
    · by_cases q : ∃ i w, Mu i = true ∧ ρ[i]? = some (some w) ∧ σ[i]? = some (some (.ref a))
      · obtain ⟨i, w, m, e1, e2⟩ := q
        obtain ⟨b, u, e3, _, _, _, h4, _⟩ := r.ow i w e1 m
        rw [e2] at e3; cases e3
        exact h4
      · have := r'.zp a o e
        rw [if_neg q] at this
        exact this
    · obtain ⟨v, e1, f⟩ := r.fz i w e m
      exact ⟨v, e1, f.le l p⟩
    · obtain ⟨a, o, e1, h1, h2, h3, h4, h5⟩ := r.ow i w e m
      have q := own i w a m e e1
      have pc : (if ∃ i w, Mu i = true ∧ ρ[i]? = some (some w) ∧ σ[i]? = some (some (.ref a)) then H a else P a) = some o := by rw [if_pos q]; exact h1
      refine ⟨a, o, e1, r'.ph a o pc, h2.le l p, ?_, h4, fun hm => ?_⟩
      · cases z : Z' a with
        | none => rfl
        | some u =>
          have := r'.zp a u z
          rw [pc] at this; cases this
      · obtain ⟨n, e2⟩ := List.mem_iff_getElem?.mp hm
        have hn : n < G'.length := by rw [← r'.glen]; exact (List.getElem?_eq_some_iff.mp e2).1
        obtain ⟨b, u, e3, _, _, _, h6⟩ := r'.gl n _ (List.getElem?_eq_getElem hn)
        rw [e2] at e3; cases e3
        rw [pc] at h6; cases h6
    · obtain ⟨a, o, e1, h1, h2, h3, h4⟩ := r'.gl n w e
      refine ⟨a, o, e1, h1, h2, h3, ?_⟩
      by_cases q : ∃ i w, Mu i = true ∧ ρ[i]? = some (some w) ∧ σ[i]? = some (some (.ref a))
      · obtain ⟨i, w, m, e1, e2⟩ := q
        obtain ⟨b, u, e3, _, _, _, h4, _⟩ := r.ow i w e1 m
        rw [e2] at e3; cases e3
        exact h4
      · skip
        rw [if_neg q] at h4
        exact h4
end

section
variable {X : Cx} {c : Cn} {Mu : Nat → Bool} {Wx : XK} {fr : Bool} {e a b : Expr} {es : List Expr} {pos : Pos} {k n : Nat} {f : Addr} {fd : FuncData} {ps : List Str}
theorem dCall {fn : Fn} {ms : M (List W)} {σ : St} {H : Hp} {Q : VK} (h : D c Mu (rV false) (mCallF fn ms) Wx σ H Q) (hl : ∀ ρ G ws ρ' G', ms ρ G = .ok ws ρ' G' → ws.length = n) : D c Mu rL ms Wx σ H fun vs H1 => spF c fn n vs H1 Q Wx := by
  obtain ⟨Z, P, g, ρ, G, r, d⟩ := h
  refine ⟨Z, P, g, ρ, G, r, ?_⟩
  have d' := d
  unfold Dat
  cases e : ms ρ G with
  | bad => exact (d.bind_bad e).elim
  | exc k G' =>
    unfold Dat mCallF M.bind at d
    rw [e] at d
    exact d
  | ok ws ρ' G' =>
    have d2 := d.bind_eq e
    intro vs H1 Z1 g1 l1 p1 r1 q1
    obtain ⟨Pc, r2, back⟩ := r1.call
    refine ⟨Z1, Pc, g1, G', ws, r2, q1, hl _ _ _ _ _ e, ?_⟩
    unfold Dat callF at d2
    unfold DatF
    cases e2 : fn ws G' with
    | bad => rw [e2] at d2; exact d2
    | exc k G2 =>
      rw [e2] at d2
      exact fun H' Z' g' l p r' => d2 H' Z' g' (l1.trans l) (p1.trans p) (back Z' H' g' G2 l p r').rel0
    | ok w ρ2 G2 =>
      rw [e2] at d2
      exact fun v H' Z' g' l p r' q => d2 v H' Z' g' (l1.trans l) (p1.trans p) (back Z' H' g' G2 l p r') (rV_false q)
/-- lists of so many -/
def Len {α : Type} (n : Nat) (ms : M (List α)) : Prop := ∀ ρ G ws ρ' G', ms ρ G = .ok ws ρ' G' → ws.length = n
theorem len0 {α : Type} : Len 0 (mNil (α := α)) := fun ρ G ws ρ' G' h => by cases h; rfl
theorem lenS {α : Type} {n : Nat} {m : M α} {ms : M (List α)} (h : Len n ms) : Len (n + 1) (mCons m ms) := fun ρ G ws ρ' G' q => by
  unfold mCons M.bind at q
  cases e : m ρ G with
  | bad => rw [e] at q; cases q
  | exc k G' => rw [e] at q; cases q
  | ok w ρ1 G1 =>
    rw [e] at q
    dsimp only at q
    cases e2 : ms ρ1 G1 with
    | bad => rw [e2] at q; cases q
    | exc k G' => rw [e2] at q; cases q
    | ok vs ρ2 G2 =>
      rw [e2] at q
      cases q
      rw [List.length_cons, h _ _ _ _ _ e2]
/-- f(..) -/
theorem eCall {x : Str} {p : Pos} {fn : Fn} {ms : M (List W)} (F : FnOk X.prog X.w X.K X.mg X.base (L2.CX X.prog X.w) k f fd ps (spF c fn n)) (hr : Room k X.A) (hg : Gl X x) (hm : X.mg x = some (.ref f)) (hk : PySem.W.keepIn X.K (.ref f) = true) (hb : Binds X.K fd ps []) (hx : Passes (L2.CX X.prog X.w) X Wx)
    (ha : PA X (e :: es) (D c Mu rL ms Wx)) (hl : Len n ms) (hdb : (x == ("__debug__" : Str)) = false := by decide) (he : starEach (e :: es) X.env = (false, eval e X.env) :: starEach es X.env := by rfl) (hpl : (backTo pos (starEach es X.env)).any (·.1) = false := by rfl) :
    PE X (.Call (.Name x p) (e :: es) [] pos) (D c Mu (rV false) (mCallF fn ms) Wx) :=
  PE.weak (pe_call F hr hg hm hk hb .nil hx ha hdb he hpl) fun σ H Q h => by
    have := dCall (n := n) h hl
    unfold tCall
    simpa only [List.append_nil] using this
/-- raise X('..') -/
theorem sRaise {C : Addr} {B newId initId : String} {bmB : List Value} {x m : Str} {j i : Nat} {p p2 p3 : Pos} (hc : X.calm = true) (tk : Takes X (fun cls d _ H => Wx cls d H)) (F : ExcBaseFacts B newId initId bmB) (q : PySem.W.excIn X.K C bmB newId = true) (gC : X.mg x = some (.ref C)) (kC : PySem.W.keepIn X.K (.ref C) = true) (r : Raises X (.ref C)) (hg : Gl X x) (hi : c.ec i = C)
    (hdb : (x == ("__debug__" : Str)) = false := by decide) : PS X (.Raise (some (.Call (.Name x p) [.Constant (.str m) j p2] [] pos)) none p3) (DS c Mu (mRaise i) Wx) :=
  PS.weak (ps_raise hc tk (pmk_own F q gC kC r hg hdb)) fun D σ H ⟨Z, P, g, ρ, G, r, d⟩ => by
    have := d H Z g (Le.refl _) (Pre.refl _) r.rel0
    rw [hi] at this
    exact this
end

section
variable {P : Program} {w : World} {K : PySem.W.Frag} {mg : Str → Option Value} {base : Heap} {c : Cn}
theorem rel_start {Mu : Nat → Bool} {Z P : Hp} {g : List Addr} {G : List W} {H : Hp} {ws : List W} {vs : List V} (N : List Str) (r : Rel0 c Z P g G H) (f : FzL c.K Z g ws vs) (hMu : ∀ i, i < ws.length → Mu i = false) :
    Rel c Mu Z P g (ws.map some ++ List.replicate (N.length - ws.length) none) G (L2.start N vs) H := by
  have at0 : ∀ (i : Nat) (w : W), (ws.map some ++ List.replicate (N.length - ws.length) none)[i]? = some (some w) → ws[i]? = some w := fun i w e => by
    by_cases hi : i < ws.length
    · rw [List.getElem?_append_left (by simpa using hi), List.getElem?_map] at e
      cases q : ws[i]? with
      | none => rw [q] at e; cases e
      | some u => rw [q] at e; cases e; rfl
    · rw [List.getElem?_append_right (by simpa using hi), List.getElem?_replicate] at e
      split at e <;> cases e
  have lt : ∀ (i : Nat) (w : W), ws[i]? = some w → i < ws.length := fun i w e => (List.getElem?_eq_some_iff.mp e).1
  refine ⟨r.zh, r.ph, r.zp, fun i w e m => ?_, fun i w e m => ?_, fun i j w1 w2 a e1 e2 m1 m2 => ?_, r.gl, r.gn, r.glen, ?_, r.tb⟩
  · obtain ⟨v, e1, q⟩ := f.get (at0 i w e)
    refine ⟨v, ?_, q⟩
    unfold L2.start
    rw [List.getElem?_append_left (by simpa using (List.getElem?_eq_some_iff.mp e1).1), List.getElem?_map, e1]; rfl
  · rw [hMu i (lt i w (at0 i w e))] at m; cases m
  · rw [hMu i (lt i w1 (at0 i w1 e1))] at m1; cases m1
  · unfold L2.start
    simp only [List.length_append, List.length_map, List.length_replicate]
    rw [f.length]
/-- a def by its body -/
theorem fnF {x qual : Str} {st : Stmt} {f : Addr} {fd : FuncData} {N ps : List Str} {k : Nat} (Mu : Nat → Bool) {m : M Fl} (F : Fun K x qual st f fd) (S : FnScope N ps (defScope st)) (hMu : ∀ i, i < ps.length → Mu i = false)
    (hbody : ∀ (cdv : Value) (A : Around) (outer : List Env) (s : Shared) (H : Hp) (E : XK), Room k (A.deeper (envOfC qual (defScope st) s.heap.objs.size f cdv)) → Takes (cxOf (L2.CX P w) P w K mg base N qual (defScope st) f cdv A outer s H E) (fun cls d _ H => E cls d H) →
      PassesOwn (model P w) (cxOf (L2.CX P w) P w K mg base N qual (defScope st) f cdv A outer s H E).A (cxOf (L2.CX P w) P w K mg base N qual (defScope st) f cdv A outer s H E).env (cxOf (L2.CX P w) P w K mg base N qual (defScope st) f cdv A outer s H E).xe →
      PSs (cxOf (L2.CX P w) P w K mg base N qual (defScope st) f cdv A outer s H E) (defBody st) (DS c Mu m E)) : FnOk P w K mg base (L2.CX P w) (k + 1) f fd ps (spF c (runF N.length m) ps.length) := by
  refine F.okX S (fun vs H Q E h => ?_) (fun cdv A outer s H vs Q E hr h => ?_)
  · obtain ⟨Z, P, g, G, ws, r, f, l, _⟩ := h
    rw [← f.length, l]
  · obtain ⟨Z, P', g, G, ws, r, f, l, d⟩ := h
    refine ⟨_, hbody cdv A outer s H E hr (takes_of rfl rfl rfl rfl) (passes_of rfl), Z, P', g, _, G, rel_start (Mu := Mu) N r f (by rw [l]; exact hMu), ?_⟩
    unfold DatF runF at d
    unfold DatS
    cases e : m (ws.map some ++ List.replicate (N.length - ws.length) none) G with
    | bad => rw [e] at d; exact d
    | exc k G2 => rw [e] at d; exact d
    | ok fl ρ2 G2 =>
      rw [e] at d
      cases fl with
      | nx => exact fun σ' H' Z' g' l p r => d .non H' Z' g' l p r.rel0 .non
      | bk => exact d.elim
      | ct => exact d.elim
      | rt w => exact d
theorem FnOk.ofF {fd : FuncData} {f : Addr} {k n : Nat} {ps : List Str} {fn fn' : Fn} (F : FnOk P w K mg base (L2.CX P w) k f fd ps (spF c fn n)) (h : ∀ ws G, ws.length = n → fn ws G = fn' ws G) : FnOk P w K mg base (L2.CX P w) k f fd ps (spF c fn' n) :=
  F.imp fun vs H Q E ⟨Z, P, g, G, ws, r, f, l, d⟩ => ⟨Z, P, g, G, ws, r, f, l, by rw [h ws G l]; exact d⟩
end
end Mp
set_option Elab.async false
set_option linter.all false
set_option maxRecDepth 100000
set_option maxHeartbeats 2000000
/-! Mp9: things of one's own changed: lists by methods and places, dicts; objects. -/
namespace Mp
open PySem PySem.Spec L2
open PyProof.Rows hiding St

/-! ### plain dicts: keys ints and texts -/
def isKey : W → Bool
  | .int _ => true
  | .str _ => true
  | _ => false
def eqK : W → W → Bool
  | .int i, .int j => i == j
  | .str a, .str b => a == b
  | _, _ => false
def lookW : List (W × W) → W → Option W
  | [], _ => none
  | p :: r, k => if eqK p.1 k then some p.2 else lookW r k
def hasW (kvs : List (W × W)) (k : W) : Bool := (lookW kvs k).isSome
def setW : List (W × W) → W → W → List (W × W)
  | [], _, _ => []
  | p :: r, k, v => (if eqK p.1 k then (p.1, v) else p) :: setW r k v
def putW (kvs : List (W × W)) (k v : W) : List (W × W) := if hasW kvs k then setW kvs k v else kvs ++ [(k, v)]

/-- what an object holds -/
def deref (w : W) : M W := fun ρ G => match w with
  | .obj n => match G[n]? with
    | some u => .ok u ρ G
    | none => .bad
  | w => .ok w ρ G
def lstW : W → Option (List W)
  | .lst l => some l
  | _ => none
def derefO (w : W) : M W := fun ρ G => match w with
  | .obj n => match G[n]? with
    | some u => .ok u ρ G
    | none => .bad
  | _ => .bad
def wDGet (d k : W) : Option W := match d with
  | .dct kvs => if isKey k then lookW kvs k else none
  | _ => none
def wDIn (k d : W) : Option W := match d with
  | .dct kvs => if isKey k then some (.bl (hasW kvs k)) else none
  | _ => none
def wDNotIn (k d : W) : Option W := match d with
  | .dct kvs => if isKey k then some (.bl (!hasW kvs k)) else none
  | _ => none
def wDPut (d k v : W) : Option W := match d with
  | .dct kvs => if isKey k && decide (kvs.length < 16777216) then some (.dct (putW kvs k v)) else none
  | _ => none
/-- d[k] -/
def mDGet (ma mb : M Opd) : M W := M.bind ma fun oa => M.bind mb fun ob => M.bind oa.get fun x => M.bind (deref x) fun d => M.bind ob.get fun y => M.of (wDGet d y)
/-- k in d -/
def mDIn (f : W → W → Option W) (mb ma : M Opd) : M W := M.bind mb fun ob => M.bind ma fun oa => M.bind oa.get fun x => M.bind (deref x) fun d => M.bind ob.get fun y => M.of (f y d)
/-- an object, an own slot changed -/
def setO (i : Nat) (w : W) : M Unit := fun ρ G => match ρ[i]? with
  | some (some (.obj n)) => .ok () ρ (G.set n w)
  | _ => .bad
def setM (i : Nat) (w : W) : M Unit := fun ρ G => match ρ[i]? with
  | some (some _) => .ok () (ρ.set i (some w)) G
  | _ => .bad

section
variable {c : Cn} {Mu : Nat → Bool} {Z P P' : Hp} {g : List Addr} {ρ : List (Option W)} {G : List W} {σ : St} {H : Hp}
/-! ### kept from outside -/
theorem none_le {a : Addr} (l : Le P P') (h : P' a = none) : P a = none := by
  cases e : P a with
  | none => rfl
  | some o => rw [l a o e] at h; cases h
theorem Rel.weakP (l : Le P P') (r : Rel c Mu Z P' g ρ G σ H) : Rel c Mu Z P g ρ G σ H :=
  ⟨r.zh, l.trans r.ph, fun a o e => none_le l (r.zp a o e), r.fz, fun i w e m => let ⟨a, o, e1, h1, h2, h3, h4, h5⟩ := r.ow i w e m; ⟨a, o, e1, h1, h2, h3, none_le l h4, h5⟩, r.sep,
    fun n w e => let ⟨a, o, e1, h1, h2, h3, h4⟩ := r.gl n w e; ⟨a, o, e1, h1, h2, h3, none_le l h4⟩, r.gn, r.glen, r.len, ⟨r.tb.tabs, r.tb.nz, fun a o e => r.tb.np a o (l a o e)⟩⟩
theorem Rel.protect {p : Addr} {o : HO} (r : Rel c Mu Z P g ρ G σ H) (h : H p = some o) (n : NewA c Mu Z P g ρ σ p) (ho : NTbl o := by intro _ h; cases h) : Rel c Mu Z (upd P p o) g ρ G σ H := by
  refine ⟨r.zh, fun a u e => ?_, fun a u e => ?_, r.fz, fun i w e m => ?_, r.sep, fun k w e => ?_, r.gn, r.glen, r.len, r.tb.p ho⟩
  · by_cases ha : a = p
    · subst ha; rw [upd_same] at e; cases e; exact h
    · rw [upd_ne ha] at e; exact r.ph a u e
  · rw [upd_ne (ne_of_none e n.nz)]
    exact r.zp a u e
  · obtain ⟨a, u, e1, h1, h2, h3, h4, h5⟩ := r.ow i w e m
    refine ⟨a, u, e1, h1, h2, h3, ?_, h5⟩
    rw [upd_ne]
    · exact h4
    · rintro rfl; exact n.nown i w m e e1
  · obtain ⟨a, u, e1, h1, h2, h3, h4⟩ := r.gl k w e
    refine ⟨a, u, e1, h1, h2, h3, ?_⟩
    rw [upd_ne]
    · exact h4
    · rintro rfl; exact n.ng (List.mem_iff_getElem?.mpr ⟨k, e1⟩)
/-- what is kept from outside is nobody's -/
theorem Rel.kept {p : Addr} {o : HO} (r : Rel c Mu Z P g ρ G σ H) (h : P p = some o) : H p = some o ∧ Z p = none ∧ p ∉ g ∧ ∀ (i : Nat) (w' : W), Mu i = true → ρ[i]? = some (some w') → σ[i]? ≠ some (some (.ref p)) := by
  refine ⟨r.ph p o h, ?_, fun hm => ?_, fun i w m e q => ?_⟩
  · cases e : Z p with
    | none => rfl
    | some u => rw [r.zp p u e] at h; cases h
  · obtain ⟨n, e⟩ := List.mem_iff_getElem?.mp hm
    have hn : n < G.length := by rw [← r.glen]; exact (List.getElem?_eq_some_iff.mp e).1
    obtain ⟨a, u, e1, _, _, _, h4⟩ := r.gl n _ (List.getElem?_eq_getElem hn)
    rw [e] at e1; cases e1
    rw [h4] at h; cases h
  · obtain ⟨a, u, e1, _, _, _, h4, _⟩ := r.ow i w e m
    rw [q] at e1; cases e1
    rw [h4] at h; cases h
theorem Dat.bindP {α β γ δ : Type} {rel : RelT α β} {rel2 : RelT γ δ} {Wx : XK} (lp : Le P P') {m : M α} {f : α → M γ} {Q : δ → Hp → Prop} {Q1 : β → Hp → Prop} (h : Dat c Mu rel2 (M.bind m f) Wx Z P g ρ G σ Q)
    (k : ∀ (a : α) (x : β) (H1 Z1 : Hp) (g1 : List Addr) (ρ1 : List (Option W)) (G1 : List W), Le Z Z1 → Pre g g1 → Rel c Mu Z1 P' g1 ρ1 G1 σ H1 → rel c Mu Z1 P' g1 ρ1 σ H1 a x → Dat c Mu rel2 (f a) Wx Z1 P g1 ρ1 G1 σ Q → Q1 x H1) :
    Dat c Mu rel m Wx Z P' g ρ G σ Q1 := by
  unfold Dat M.bind at h
  unfold Dat
  cases e : m ρ G with
  | bad => rw [e] at h; exact h
  | exc n G' =>
    rw [e] at h
    exact fun H' Z' g' l p r => h H' Z' g' l p (r.weakP lp)
  | ok a ρ' G' =>
    rw [e] at h
    intro x H' Z' g' l p r q
    refine k a x H' Z' g' ρ' G' l p r q ?_
    unfold Dat
    dsimp only at h
    cases e2 : f a ρ' G' with
    | bad => rw [e2] at h; exact h
    | exc n G2 =>
      rw [e2] at h
      exact fun H2 Z2 g2 l2 p2 r2 => h H2 Z2 g2 (l.trans l2) (p.trans p2) r2
    | ok b ρ2 G2 =>
      rw [e2] at h
      exact fun y H2 Z2 g2 l2 p2 r2 q2 => h y H2 Z2 g2 (l.trans l2) (p.trans p2) r2 q2

/-! ### a thing of one's own is written -/
theorem Rel.write {i : Nat} {w w2 : W} {a : Addr} {o : HO} (r : Rel c Mu Z P g ρ G σ H) (m : Mu i = true) (e : ρ[i]? = some (some w)) (e2 : σ[i]? = some (some (.ref a))) (q : Cont c.K Z g w2 o) : Rel c Mu Z P g (ρ.set i (some w2)) G σ (upd H a o) := by
  obtain ⟨b, u, e3, h1, h2, h3, h4, h5⟩ := r.ow i w e m
  rw [e2] at e3; cases e3
  have hi : i < ρ.length := (List.getElem?_eq_some_iff.mp e).1
  have back : ∀ (j : Nat) (w' : W), i ≠ j → (ρ.set i (some w2))[j]? = some (some w') → ρ[j]? = some (some w') := fun j w' hj e => by rw [List.getElem?_set_ne hj] at e; exact e
  have some' : ∀ (j : Nat) (w' : W), (ρ.set i (some w2))[j]? = some (some w') → ∃ w'', ρ[j]? = some (some w'') := fun j w' e' => by
    by_cases hj : i = j
    · subst hj; exact ⟨w, e⟩
    · exact ⟨w', back j w' hj e'⟩
  refine ⟨fun b u z => ?_, fun b u z => ?_, r.zp, fun j w' e' m' => ?_, fun j w' e' m' => ?_, fun j l w1 w3 b e1 e4 m1 m2 s1 s2 => ?_, fun n w' e' => ?_, r.gn, r.glen, by rw [List.length_set]; exact r.len, r.tb.upd (.inr ⟨u, h1, h2.mutO⟩)⟩
  · rw [upd_ne (ne_of_none z h3)]; exact r.zh b u z
  · rw [upd_ne (ne_of_none z h4)]; exact r.ph b u z
  · have hj : i ≠ j := fun z => by subst z; rw [m] at m'; cases m'
    exact r.fz j w' (back j w' hj e') m'
  · by_cases hj : i = j
    · subst hj
      rw [List.getElem?_set_self hi] at e'; cases e'
      exact ⟨a, o, e2, upd_same, q, h3, h4, h5⟩
    · obtain ⟨b, u, e5, k1, k2⟩ := r.ow j w' (back j w' hj e') m'
      refine ⟨b, u, e5, ?_, k2⟩
      rw [upd_ne]
      · exact k1
      · rintro rfl
        exact hj (r.sep i j w w' b e (back j w' hj e') m m' e2 e5)
  · obtain ⟨w1', e1'⟩ := some' j w1 e1
    obtain ⟨w3', e4'⟩ := some' l w3 e4
    exact r.sep j l w1' w3' b e1' e4' m1 m2 s1 s2
  · obtain ⟨b, u, e5, k1, k2⟩ := r.gl n w' e'
    refine ⟨b, u, e5, ?_, k2⟩
    rw [upd_ne]
    · exact k1
    · rintro rfl
      exact h5 (List.mem_iff_getElem?.mpr ⟨n, e5⟩)
/-- an object is written -/
theorem Rel.writeG {n : Nat} {a : Addr} {w2 : W} {o : HO} (r : Rel c Mu Z P g ρ G σ H) (e : g[n]? = some a) (q : Cont c.K Z g w2 o) : Rel c Mu Z P g ρ (G.set n w2) σ (upd H a o) := by
  have hn : n < G.length := by rw [← r.glen]; exact (List.getElem?_eq_some_iff.mp e).1
  obtain ⟨b, u, e1, h1, h2, h3, h4⟩ := r.gl n _ (List.getElem?_eq_getElem hn)
  rw [e] at e1; cases e1
  refine ⟨fun b u z => ?_, fun b u z => ?_, r.zp, r.fz, fun j w' e' m' => ?_, r.sep, fun k w' e' => ?_, r.gn, by rw [List.length_set]; exact r.glen, r.len, r.tb.upd (.inr ⟨u, h1, h2.mutO⟩)⟩
  · rw [upd_ne (ne_of_none z h3)]; exact r.zh b u z
  · rw [upd_ne (ne_of_none z h4)]; exact r.ph b u z
  · obtain ⟨b, u, e5, k1, k2, k3, k4, k5⟩ := r.ow j w' e' m'
    refine ⟨b, u, e5, ?_, k2, k3, k4, k5⟩
    rw [upd_ne]
    · exact k1
    · rintro rfl
      exact k5 (List.mem_iff_getElem?.mpr ⟨n, e⟩)
  · by_cases hk : n = k
    · subst hk
      rw [List.getElem?_set_self hn] at e'; cases e'
      exact ⟨a, o, e, upd_same, q, h3, h4⟩
    · rw [List.getElem?_set_ne hk] at e'
      obtain ⟨b, u, e5, k1, k2⟩ := r.gl k w' e'
      refine ⟨b, u, e5, ?_, k2⟩
      rw [upd_ne]
      · exact k1
      · rintro rfl
        obtain ⟨i1, q1⟩ := List.getElem?_eq_some_iff.mp e
        obtain ⟨i2, q2⟩ := List.getElem?_eq_some_iff.mp e5
        exact hk ((List.getElem_inj r.gn).mp (q1.trans q2.symm))
/-- a new object -/
theorem Rel.newG {p : Addr} {w : W} {o : HO} (r : Rel c Mu Z P g ρ G σ H) (h : H p = some o) (n : NewA c Mu Z P g ρ σ p) (q : Cont c.K Z g w o) : Rel c Mu Z P (g ++ [p]) ρ (G ++ [w]) σ H := by
  have pre := Pre.snoc g p
  refine ⟨r.zh, r.ph, r.zp, fun i w e m => ?_, fun i w e m => ?_, r.sep, fun k w' e => ?_, ?_, by rw [List.length_append, List.length_append, r.glen]; rfl, r.len, r.tb⟩
  · obtain ⟨v, e1, f⟩ := r.fz i w e m
    exact ⟨v, e1, f.le (Le.refl _) pre⟩
  · obtain ⟨a, u, e1, h1, h2, h3, h4, h5⟩ := r.ow i w e m
    refine ⟨a, u, e1, h1, h2.le (Le.refl _) pre, h3, h4, fun hm => ?_⟩
    rcases List.mem_append.mp hm with hm | hm
    · exact h5 hm
    · obtain rfl := List.mem_singleton.mp hm
      exact n.nown i w m e e1
  · by_cases hk : k < G.length
    · rw [List.getElem?_append_left hk] at e
      obtain ⟨a, u, e1, h1, h2, h3⟩ := r.gl k w' e
      exact ⟨a, u, pre k a e1, h1, h2.le (Le.refl _) pre, h3⟩
    · rw [List.getElem?_append_right (Nat.le_of_not_lt hk)] at e
      have hk2 : k - G.length = 0 := by
        have := (List.getElem?_eq_some_iff.mp e).1
        simp at this
        omega
      rw [hk2] at e
      cases e
      have : k = g.length := by rw [r.glen]; omega
      subst this
      exact ⟨p, o, by simp, h, q.le (Le.refl _) pre, n.nz, n.np⟩
  · rw [List.nodup_append]
    refine ⟨r.gn, by simp, fun a ha b hb => ?_⟩
    obtain rfl := List.mem_singleton.mp hb
    rintro rfl
    exact n.ng ha

/-! ### keys -/
theorem key_of {Z H : Hp} {g : List Addr} {w : W} {x : V} (b : Bor c Z g H w x) (h : isKey w = true) : ∃ k : Key, x = kV k ∧ w = wKey k := by
  cases w <;> simp only [isKey] at h <;> first | cases h | skip
  · exact ⟨.inl _, b.int, rfl⟩
  · obtain ⟨z, rfl, e, _⟩ := b.str
    exact ⟨.inr z, rfl, by rw [← e]; rfl⟩
theorem eqK_key (k k' : Key) : eqK (wKey k) (wKey k') = decide (k = k') := by
  cases k with
  | inl i =>
    cases k' with
    | inl j => show (i == j) = _; rw [Bool.eq_iff_iff]; simp
    | inr y => rfl
  | inr x =>
    cases k' with
    | inl j => rfl
    | inr y =>
      show (x.cps.toList == y.cps.toList) = _
      rw [Bool.eq_iff_iff, beq_iff_eq, decide_eq_true_eq]
      exact ⟨fun h => congrArg Sum.inr (strExt h), fun h => by rw [Sum.inr.inj h]⟩
theorem look_rel {K : PySem.W.Frag} (k : Key) : ∀ {kvs : List (W × W)} {l : List (Key × V)}, FzK K Z g kvs l → (∀ w, lookW kvs (wKey k) = some w → ∃ v, valV l k = some v ∧ Fz K Z g w v) ∧ (lookW kvs (wKey k) = none → valV l k = none)
  | _, _, .nil => ⟨fun w h => (by cases h), fun _ => rfl⟩
  | _, _, .cons (k := k') (w := w') (v := v') f q => by
    have ih := look_rel k q
    unfold lookW
    dsimp only
    rw [eqK_key]
    by_cases e : k' = k
    · rw [decide_eq_true e, if_pos rfl, valV_pos e]
      exact ⟨fun w h => (by cases h; exact ⟨v', rfl, f⟩), fun h => (by cases h)⟩
    · rw [decide_eq_false e, if_neg Bool.false_ne_true, valV_neg e]
      exact ih
theorem has_rel {K : PySem.W.Frag} (k : Key) {kvs : List (W × W)} {l : List (Key × V)} (f : FzK K Z g kvs l) : (valV l k).isSome = hasW kvs (wKey k) := by
  have h := look_rel k f
  unfold hasW
  cases e : lookW kvs (wKey k) with
  | none => rw [h.2 e]; rfl
  | some w => obtain ⟨v, e2, _⟩ := h.1 w e; rw [e2]; rfl
theorem set_rel {K : PySem.W.Frag} (k : Key) {w : W} {v : V} (fv : Fz K Z g w v) : ∀ {kvs : List (W × W)} {l : List (Key × V)}, FzK K Z g kvs l → FzK K Z g (setW kvs (wKey k) w) (l.map fun kv => if kv.1 = k then (kv.1, v) else kv)
  | _, _, .nil => .nil
  | _, _, .cons (k := k') f q => by
    unfold setW
    dsimp only
    rw [List.map_cons, eqK_key]
    by_cases e : k' = k
    · rw [decide_eq_true e, if_pos rfl, if_pos e]
      exact .cons fv (set_rel k fv q)
    · rw [decide_eq_false e, if_neg Bool.false_ne_true, if_neg e]
      exact .cons f (set_rel k fv q)
theorem FzK.snoc {K : PySem.W.Frag} {k : Key} {w : W} {v : V} (fv : Fz K Z g w v) : ∀ {kvs : List (W × W)} {l : List (Key × V)}, FzK K Z g kvs l → FzK K Z g (kvs ++ [(wKey k, w)]) (l ++ [(k, v)])
  | _, _, .nil => .cons fv .nil
  | _, _, .cons f q => .cons f (FzK.snoc fv q)
theorem put_rel {K : PySem.W.Frag} (k : Key) {w : W} {v : V} (fv : Fz K Z g w v) {kvs : List (W × W)} {l : List (Key × V)} (f : FzK K Z g kvs l) : FzK K Z g (putW kvs (wKey k) w) (putK l k v) := by
  unfold putW putK
  rw [← has_rel k f, valV_any]
  split
  · exact set_rel k fv f
  · exact f.snoc fv

/-! ### what an object holds -/
theorem deref_ok {w : W} (r : Rel c Mu Z P g ρ G σ H) {x : V} (b : Bor c Z g H w x) : deref w ρ G = .bad ∨ ∃ u, deref w ρ G = .ok u ρ G ∧ Bor c Z g H u x := by
  cases w with
  | obj n =>
    have e : deref (.obj n) ρ G = match G[n]? with | some u => .ok u ρ G | none => .bad := rfl
    rw [e]
    cases e2 : G[n]? with
    | none => exact .inl rfl
    | some u =>
      obtain ⟨a, o, e3, h1, h2, _⟩ := r.gl n u e2
      refine .inr ⟨u, rfl, .inr ⟨a, o, ?_, h1, h2⟩⟩
      rcases b with f | ⟨_, _, _, _, q⟩
      · cases f with
        | obj e4 => rw [e3] at e4; cases e4; rfl
      · cases q
  | _ => exact .inr ⟨_, rfl, b⟩
theorem Dat.deref {α β : Type} {rel : RelT α β} {Wx : XK} {Q : β → Hp → Prop} {w : W} {f : W → M α} {x : V} (r : Rel c Mu Z P g ρ G σ H) (b : Bor c Z g H w x)
    (h : Dat c Mu rel (M.bind (Mp.deref w) f) Wx Z P g ρ G σ Q) : ∃ u, Bor c Z g H u x ∧ Dat c Mu rel (f u) Wx Z P g ρ G σ Q := by
  rcases deref_ok r b with e | ⟨u, e, b2⟩
  · exact (h.bind_bad e).elim
  · exact ⟨u, b2, h.bind_eq e⟩
theorem DatS.deref {Wx : XK} {D : Ends} {w : W} {f : W → M Fl} {x : V} (r : Rel c Mu Z P g ρ G σ H) (b : Bor c Z g H w x)
    (h : DatS c Mu (M.bind (Mp.deref w) f) Wx Z P g ρ G D) : ∃ u, Bor c Z g H u x ∧ DatS c Mu (f u) Wx Z P g ρ G D := by
  rcases deref_ok r b with e | ⟨u, e, b2⟩
  · exact (h.bind_bad e).elim
  · exact ⟨u, b2, h.bind_eq e⟩
end

section
variable {X : Cx} {c : Cn} {Mu : Nat → Bool} {Wx : XK} {fr : Bool} {e a b : Expr} {es : List Expr} {pos pos' : Pos} {ma mb mc : M Opd}
theorem dget_of {Z H : Hp} {g : List Addr} {wx wy w : W} {x y : V} (l : Le Z H) (bx : Bor c Z g H wx x) (by' : Bor c Z g H wy y) (h : wDGet wx wy = some w) : ∃ a v, x = .ref a ∧ DGet H a y (some v) ∧ Fz c.K Z g w v := by
  unfold wDGet at h
  cases wx <;> simp only at h <;> first | cases h | skip
  split at h
  · rename_i hk
    obtain ⟨k, rfl, rfl⟩ := key_of by' hk
    obtain ⟨a, l', rfl, h1, f1⟩ := bx.dct l
    obtain ⟨v, e1, f⟩ := (look_rel k f1).1 w h
    exact ⟨a, v, rfl, by rw [← e1]; exact DGet.k h1, f⟩
  · cases h
theorem eDGet (hu : X.A.units + 1 < cLine) (ha : PE X a (D c Mu rO ma Wx)) (hb : PE X b (D c Mu rO mb Wx)) (hs : NoSl b) : PE X (.Subscript a b pos) (D c Mu (rV false) (mDGet ma mb) Wx) :=
  PE.weak (pe_dget hu ha hb hs) fun σ H Q h => h.bind fun oa x H1 Z1 P g1 ρ1 G1 r1 q1 d1 => ⟨Z1, P, g1, ρ1, G1, r1, d1.bind fun ob y H2 Z2 g2 ρ2 G2 l2 p2 r2 q2 d2 => by
    obtain ⟨wx, bx, d3⟩ := d2.get r2 (rO.le (H' := H2) (P' := P) (ρ' := ρ2) l2 p2 q1)
    obtain ⟨wd, bd, d4⟩ := d3.deref r2 bx
    obtain ⟨wy, by', d5⟩ := d4.get r2 q2
    obtain ⟨w, ew, d6⟩ := d5.of
    obtain ⟨a, v, e1, e2, f⟩ := dget_of r2.zh bd by' ew
    exact ⟨a, v, e1, e2, d6.pure r2 (rV_false f)⟩⟩
theorem din_of {Z H : Hp} {g : List Addr} {kvs : List (W × W)} {wy : W} {x y : V} (l : Le Z H) (bx : Bor c Z g H (.dct kvs) x) (by' : Bor c Z g H wy y) (h : isKey wy = true) : ∃ a o, x = .ref a ∧ DGet H a y o ∧ o.isSome = hasW kvs wy := by
  obtain ⟨k, rfl, rfl⟩ := key_of by' h
  obtain ⟨a, l', rfl, h1, f1⟩ := bx.dct l
  exact ⟨a, _, rfl, DGet.k h1, has_rel k f1⟩
theorem dDIn {σ : St} {H : Hp} {Q : VK} (h : D c Mu (rV false) (mDIn wDIn mb ma) Wx σ H Q) : tDIn (D c Mu rO mb Wx) (D c Mu rO ma Wx) σ H Q :=
  h.bind fun ob y H1 Z1 P g1 ρ1 G1 r1 q1 d1 => ⟨Z1, P, g1, ρ1, G1, r1, d1.bind fun oa x H2 Z2 g2 ρ2 G2 l2 p2 r2 q2 d2 => by
    obtain ⟨wx, bx, d3⟩ := d2.get r2 q2
    obtain ⟨wd, bd, d4⟩ := d3.deref r2 bx
    obtain ⟨wy, by', d5⟩ := d4.get r2 (rO.le (H' := H2) (P' := P) (ρ' := ρ2) l2 p2 q1)
    obtain ⟨w, ew, d6⟩ := d5.of
    unfold wDIn at ew
    cases wd <;> simp only at ew <;> first | cases ew | skip
    split at ew
    · cases ew
      rename_i hk
      obtain ⟨a, o, e1, e2, e3⟩ := din_of r2.zh bd by' hk
      exact ⟨a, o, e1, e2, by rw [e3]; exact d6.pure r2 (rV_false (.bl _))⟩
    · cases ew⟩
theorem dDNotIn {σ : St} {H : Hp} {Q : VK} (h : D c Mu (rV false) (mDIn wDNotIn mb ma) Wx σ H Q) : tDNotIn (D c Mu rO mb Wx) (D c Mu rO ma Wx) σ H Q :=
  h.bind fun ob y H1 Z1 P g1 ρ1 G1 r1 q1 d1 => ⟨Z1, P, g1, ρ1, G1, r1, d1.bind fun oa x H2 Z2 g2 ρ2 G2 l2 p2 r2 q2 d2 => by
    obtain ⟨wx, bx, d3⟩ := d2.get r2 q2
    obtain ⟨wd, bd, d4⟩ := d3.deref r2 bx
    obtain ⟨wy, by', d5⟩ := d4.get r2 (rO.le (H' := H2) (P' := P) (ρ' := ρ2) l2 p2 q1)
    obtain ⟨w, ew, d6⟩ := d5.of
    unfold wDNotIn at ew
    cases wd <;> simp only at ew <;> first | cases ew | skip
    split at ew
    · cases ew
      rename_i hk
      obtain ⟨a, o, e1, e2, e3⟩ := din_of r2.zh bd by' hk
      exact ⟨a, o, e1, e2, by rw [e3]; exact d6.pure r2 (rV_false (.bl _))⟩
    · cases ew⟩
theorem eDIn (hu : X.A.units + 1 < cLine) (hb : PE X b (D c Mu rO mb Wx)) (ha : PE X a (D c Mu rO ma Wx)) (h1 : behindInMarks .In a = false := by rfl) : PE X (.Compare b [.In] [a] pos) (D c Mu (rV false) (mDIn wDIn mb ma) Wx) :=
  PE.weak (pe_cmp (pc_din hu hb ha) h1) fun _ _ _ h => dDIn h
theorem eDNotIn (hu : X.A.units + 1 < cLine) (hb : PE X b (D c Mu rO mb Wx)) (ha : PE X a (D c Mu rO ma Wx)) (h1 : behindInMarks .NotIn a = false := by rfl) : PE X (.Compare b [.NotIn] [a] pos) (D c Mu (rV false) (mDIn wDNotIn mb ma) Wx) :=
  PE.weak (pe_cmp (pc_dnotin hu hb ha) h1) fun _ _ _ h => dDNotIn h
theorem tDIn' (hu : X.A.units + 1 < cLine) (hb : PE X b (D c Mu rO mb Wx)) (ha : PE X a (D c Mu rO ma Wx)) (h1 : behindInMarks .In a = false := by rfl) : PT X (.Compare b [.In] [a] pos) (D c Mu rEq (mB (mDIn wDIn mb ma)) Wx) :=
  PT.weak (pt_cmp (pc_din hu hb ha) h1) fun _ _ _ h => dDIn (dB h)
theorem tDNotIn' (hu : X.A.units + 1 < cLine) (hb : PE X b (D c Mu rO mb Wx)) (ha : PE X a (D c Mu rO ma Wx)) (h1 : behindInMarks .NotIn a = false := by rfl) : PT X (.Compare b [.NotIn] [a] pos) (D c Mu rEq (mB (mDIn wDNotIn mb ma)) Wx) :=
  PT.weak (pt_cmp (pc_dnotin hu hb ha) h1) fun _ _ _ h => dDNotIn (dB h)

/-! ### d[k] = v -/
/-- at an own dict -/
def mDPut (i : Nat) (mk : M Opd) (mv : M W) : M Fl := M.bind mv fun v => M.bind (mS i) fun o => M.bind mk fun ok => M.bind o.get fun x => M.bind ok.get fun y => M.bind (M.of (wDPut x y v)) fun w => M.bind (setM i w) fun _ => M.pure .nx
/-- at an object -/
def mOPut (i : Nat) (mk : M Opd) (mv : M W) : M Fl := M.bind mv fun v => M.bind (mS i) fun o => M.bind mk fun ok => M.bind o.get fun x => M.bind (derefO x) fun d => M.bind ok.get fun y => M.bind (M.of (wDPut d y v)) fun w => M.bind (setO i w) fun _ => M.pure .nx
theorem dput_of {Z H : Hp} {g : List Addr} {wy wv w : W} {kvs : List (W × W)} {ad : Addr} {o : HO} {y v : V} (h1 : H ad = some o) (q : Cont c.K Z g (.dct kvs) o) (by' : Bor c Z g H wy y) (fv : Fz c.K Z g wv v) (h : wDPut (.dct kvs) wy wv = some w) : ∃ o', DPut H ad y v (upd H ad o') ∧ Cont c.K Z g w o' := by
  unfold wDPut at h
  simp only at h
  split at h
  · cases h
    rename_i hk
    rw [Bool.and_eq_true] at hk
    obtain ⟨k, rfl, rfl⟩ := key_of by' hk.1
    cases q with
    | dK f1 =>
      refine ⟨_, DPut.k h1 ?_, .dK (put_rel k fv f1)⟩
      rw [← f1.length, sizeLine_eq]
      exact of_decide_eq_true hk.2
  · cases h
theorem mS_okS {i : Nat} {f : Opd → M Fl} {ρ : List (Option W)} {G : List W} {Z P : Hp} {g : List Addr} {D : Ends} (d : DatS c Mu (M.bind (mS i) f) Wx Z P g ρ G D) : ∃ w, ρ[i]? = some (some w) ∧ mS i ρ G = .ok (.s i) ρ G ∧ DatS c Mu (f (.s i)) Wx Z P g ρ G D := by
  have e : mS i ρ G = .bad ∨ ∃ w, ρ[i]? = some (some w) ∧ mS i ρ G = .ok (.s i) ρ G := by
    unfold mS
    cases e : ρ[i]? with
    | none => exact .inl rfl
    | some ow =>
      cases ow with
      | none => exact .inl rfl
      | some w => exact .inr ⟨w, rfl, rfl⟩
  rcases e with e | ⟨w, e1, e2⟩
  · exact (d.bind_bad e).elim
  · exact ⟨w, e1, e2, d.bind_eq e2⟩
theorem DatS.getS {i : Nat} {f : W → M Fl} {ρ : List (Option W)} {G : List W} {Z P : Hp} {g : List Addr} {D : Ends} (d : DatS c Mu (M.bind (Opd.s i).get f) Wx Z P g ρ G D) : ∃ w, ρ[i]? = some (some w) ∧ DatS c Mu (f w) Wx Z P g ρ G D := by
  rcases getS_cases i ρ G with e | ⟨w, e, e2⟩
  · exact (d.bind_bad e).elim
  · exact ⟨w, e, d.bind_eq e2⟩
theorem setM_ok {i : Nat} {w w0 : W} {ρ : List (Option W)} {G : List W} (e : ρ[i]? = some (some w0)) : setM i w ρ G = .ok () (ρ.set i (some w)) G := by
  unfold setM
  rw [e]
theorem setO_ok {i n : Nat} {w : W} {ρ : List (Option W)} {G : List W} (e : ρ[i]? = some (some (.obj n))) : setO i w ρ G = .ok () ρ (G.set n w) := by
  unfold setO
  rw [e]
theorem sDPut' {i : Nat} {o k value : Expr} {mv : M W} (hm : Mu i = true) (hu : X.A.units + 1 < cLine) (ho : PE X o (tVar i)) (hk : PE X k (D c Mu rO mb Wx)) (hv : PE X value (D c Mu (rV false) mv Wx)) (hs : swapsWith value (some (.Subscript o k pos')) pos.line X.env = pure false := by rfl) :
    PS X (.Assign [.Subscript o k pos'] value pos) (DS c Mu (mDPut i mb mv) Wx) :=
  PS.weak (ps_dput hu ho hk hv hs) fun D σ H h => DS.bind h fun wv v H1 Z1 P g1 ρ1 G1 r1 q1 d1 => by
    obtain ⟨w0, e1, _, d2⟩ := mS_okS d1
    obtain ⟨x, ex⟩ := r1.has e1
    refine ⟨x, ex, Z1, P, g1, ρ1, G1, r1, d2.bind fun ok y H3 Z3 g3 ρ3 G3 l3 p3 r3 q3 d3 => ?_⟩
    obtain ⟨wd, e3, d4⟩ := d3.getS
    obtain ⟨wy, by', d5⟩ := d4.get r3 q3
    obtain ⟨w, ew, d6⟩ := d5.of
    have d7 := d6.bind_eq (setM_ok (w := w) (G := G3) e3)
    obtain ⟨a, o, e4, h1, h2, _⟩ := r3.ow i wd e3 hm
    rw [ex] at e4; cases e4
    cases wd with
    | dct kvs =>
      obtain ⟨o', h3, h4⟩ := dput_of h1 h2 by' (Fz.le l3 p3 q1) ew
      exact ⟨a, _, rfl, h3, d7.nx (r3.write hm e3 ex h4)⟩
    | _ => unfold wDPut at ew; cases ew
theorem sOPut {i : Nat} {o k value : Expr} {mv : M W} (hm : Mu i = false) (hu : X.A.units + 1 < cLine) (ho : PE X o (tVar i)) (hk : PE X k (D c Mu rO mb Wx)) (hv : PE X value (D c Mu (rV false) mv Wx)) (hs : swapsWith value (some (.Subscript o k pos')) pos.line X.env = pure false := by rfl) :
    PS X (.Assign [.Subscript o k pos'] value pos) (DS c Mu (mOPut i mb mv) Wx) :=
  PS.weak (ps_dput hu ho hk hv hs) fun D σ H h => DS.bind h fun wv v H1 Z1 P g1 ρ1 G1 r1 q1 d1 => by
    obtain ⟨w0, e1, _, d2⟩ := mS_okS d1
    obtain ⟨x, ex⟩ := r1.has e1
    refine ⟨x, ex, Z1, P, g1, ρ1, G1, r1, d2.bind fun ok y H3 Z3 g3 ρ3 G3 l3 p3 r3 q3 d3 => ?_⟩
    obtain ⟨wd, e3, d4⟩ := d3.getS
    cases wd with
    | obj n =>
      have ed : derefO (.obj n) ρ3 G3 = match G3[n]? with | some u => .ok u ρ3 G3 | none => .bad := rfl
      cases e2 : G3[n]? with
      | none => rw [e2] at ed; exact (d4.bind_bad ed).elim
      | some u =>
        rw [e2] at ed
        have d5 := d4.bind_eq ed
        obtain ⟨wy, by', d6⟩ := d5.get r3 q3
        obtain ⟨w, ew, d7⟩ := d6.of
        have d8 := d7.bind_eq (setO_ok (w := w) (G := G3) e3)
        obtain ⟨v', e4, f⟩ := r3.fz i _ e3 hm
        rw [ex] at e4; cases e4
        cases f with
        | obj e5 =>
          obtain ⟨a2, o, e6, h1, h2, _⟩ := r3.gl n u e2
          rw [e5] at e6; cases e6
          cases u with
          | dct kvs =>
            obtain ⟨o', h3, h4⟩ := dput_of h1 h2 by' (Fz.le l3 p3 q1) ew
            exact ⟨_, _, rfl, h3, d8.nx (r3.writeG e5 h4)⟩
          | _ => unfold wDPut at ew; cases ew
    | _ => exact (d4.bind_bad rfl).elim
/-- {} , a dict with keys that are ints or texts -/
theorem eDict0 : PE X (.Dict [] [] pos) (D c Mu (rV true) (M.pure (.dct [])) Wx) := PE.weak pe_dnewK fun σ H Q ⟨Z, P, g, ρ, G, r, d⟩ p hp =>
  d.pure' (Le.refl _) (Pre.refl _) (r.laid _ hp) (rV_true (r.fresh hp (.dK .nil)))
/-- {k: v, ..}, an object that is changed by others -/
def mNewObj (ks : List (List Nat)) (ms : M (List W)) : M W := M.bind ms fun ws => fun ρ G => .ok (.obj G.length) ρ (G ++ [.dct ((ks.map W.str).zip ws)])
def DPs (c : Cn) (Mu : Nat → Bool) (Wx : XK) (trs : List (TE × TE)) (ks : List Str) (ms : M (List W)) : Prop :=
  ∀ (σ : St) (H : Hp) (Q : List (V × V) → Hp → Prop), D c Mu rL ms Wx σ H (fun vs H' => Q ((ks.map V.str).zip vs) H') → tPairs trs σ H Q
theorem dpNil : DPs c Mu Wx [] [] mNil := fun σ H Q ⟨Z, P, g, ρ, G, r, d⟩ => d.pure r .nil
theorem dpCons {k : Str} {m : M W} {trs : List (TE × TE)} {ks : List Str} {ms : M (List W)} (h : DPs c Mu Wx trs ks ms) : DPs c Mu Wx ((tC (.str k), D c Mu (rV false) m Wx) :: trs) (k :: ks) (mCons m ms) :=
  fun σ H Q h' => h'.bind fun w x H1 Z1 P g1 ρ1 G1 r1 q1 d1 => h σ H1 _ ⟨Z1, P, g1, ρ1, G1, r1, d1.bind fun ws xs H2 Z2 g2 ρ2 G2 l2 p2 r2 q2 d2 => d2.pure r2 (.cons (Fz.le l2 p2 q1) q2)⟩
theorem merge_keys : ∀ (ks : List Str) (vs : List V) (acc : List (Key × V)), ks.Nodup → (∀ k ∈ ks, ∀ p ∈ acc, p.1 ≠ Sum.inr k) → mergeK acc ((ks.map (Sum.inr : Str → Key)).zip vs) = acc ++ (ks.map (Sum.inr : Str → Key)).zip vs
  | [], vs, acc, _, _ => by simp [mergeK]
  | k :: ks, [], acc, _, _ => by simp [mergeK]
  | k :: ks, v :: vs, acc, hn, ha => by
    rw [List.nodup_cons] at hn
    rw [List.map_cons, List.zip_cons_cons]
    show mergeK (putK acc (Sum.inr k) v) ((ks.map (Sum.inr : Str → Key)).zip vs) = _
    have e : putK acc (Sum.inr k) v = acc ++ [(Sum.inr k, v)] := by
      unfold putK
      rw [if_neg]
      intro h
      rw [List.any_eq_true] at h
      obtain ⟨p, hp, hk⟩ := h
      exact ha k List.mem_cons_self p hp (of_decide_eq_true hk)
    rw [e, merge_keys ks vs _ hn.2, List.append_assoc]
    · rfl
    · intro k' hk' p hp
      rcases List.mem_append.mp hp with hp | hp
      · exact ha k' (List.mem_cons_of_mem _ hk') p hp
      · obtain rfl := List.mem_singleton.mp hp
        intro q
        have : k = k' := Sum.inr.inj q
        subst this
        exact hn.1 hk'
theorem fz_zip {K : PySem.W.Frag} {Z : Hp} {g : List Addr} : ∀ (ks : List Str) {ws : List W} {vs : List V}, FzL K Z g ws vs → FzK K Z g (((ks.map (·.cps.toList)).map W.str).zip ws) ((ks.map (Sum.inr : Str → Key)).zip vs)
  | [], _, _, _ => .nil
  | _ :: _, _, _, .nil => .nil
  | k :: ks, _, _, .cons f q => .cons (k := Sum.inr k) f (fz_zip ks q)
theorem zip_keys (ks : List Str) (vs : List V) : (ks.map V.str).zip vs = ((ks.map (Sum.inr : Str → Key)).zip vs).map fun kv => (kV kv.1, kv.2) := by
  induction ks generalizing vs with
  | nil => rfl
  | cons k ks ih =>
    cases vs with
    | nil => rfl
    | cons v vs =>
      rw [List.map_cons, List.map_cons, List.zip_cons_cons, List.zip_cons_cons, List.map_cons, ih]
      rfl
theorem eNewObj {keys : List (Option Expr)} {values : List Expr} {trs : List (TE × TE)} {ks : List Str} {ms : M (List W)} (kl : List (List Nat)) (hkl : ks.map (·.cps.toList) = kl) (hnd : ks.Nodup) (h15' : ks.length ≤ 15) (h : PPs X pos keys values trs) (hd : DPs c Mu Wx trs ks ms) (hall : keys.all (·.isSome) = true) (hl : keys.length = values.length) (h0 : keys ≠ [])
    (h15 : keys.length ≤ 15) : PE X (.Dict keys values pos) (D c Mu (rV false) (mNewObj kl ms) Wx) :=
  PE.weak (pe_disp h hall hl h0 h15) fun σ H Q ⟨Z, P, g, ρ, G, r, d⟩ p hp => hd σ _ _ (by
    have n := r.new hp
    have r2 := (r.laid (.dK []) hp).protect upd_same n
    have lp : Le P (upd P p (.dK [])) := Le.upd n.np
    refine ⟨Z, _, g, ρ, G, r2, Dat.bindP lp d fun ws vs H1 Z1 g1 ρ1 G1 l1 p1 r3 q3 d3 => ?_⟩
    obtain ⟨k1, k2, k3, k4⟩ := r3.kept (p := p) upd_same
    refine ⟨k1, (ks.map (Sum.inr : Str → Key)).zip vs, zip_keys ks vs, by rw [List.length_zip, List.length_map]; omega, ?_⟩
    rw [merge_keys ks vs [] hnd (by intro _ _ p hp; cases hp), List.nil_append]
    have r4 : Rel c Mu Z1 P g1 ρ1 G1 σ (upd H1 p (.dK ((ks.map (Sum.inr : Str → Key)).zip vs))) := by
      have r5 := r3.weakP lp
      refine ⟨fun b u z => ?_, fun b u z => ?_, r5.zp, r5.fz, fun j w' e' m' => ?_, r5.sep, fun k w' e' => ?_, r5.gn, r5.glen, r5.len, r5.tb.upd (.inr ⟨_, k1, .inr ⟨_, rfl⟩⟩)⟩
      · rw [upd_ne (ne_of_none z k2)]; exact r5.zh b u z
      · rw [upd_ne (ne_of_none z n.np)]; exact r5.ph b u z
      · obtain ⟨b, u, e5, j1, j2⟩ := r5.ow j w' e' m'
        refine ⟨b, u, e5, ?_, j2⟩
        rw [upd_ne]
        · exact j1
        · rintro rfl
          exact k4 j w' m' e' e5
      · obtain ⟨b, u, e5, j1, j2⟩ := r5.gl k w' e'
        refine ⟨b, u, e5, ?_, j2⟩
        rw [upd_ne]
        · exact j1
        · rintro rfl
          exact k3 (List.mem_iff_getElem?.mpr ⟨k, e5⟩)
    have n4 : NewA c Mu Z1 P g1 ρ1 σ p := ⟨k2, n.np, k3, k4⟩
    have r6 := r4.newG upd_same n4 (Cont.dK (fz_zip ks q3))
    rw [hkl] at r6
    refine d3 (.ref p) _ Z1 (g1 ++ [p]) (Le.refl _) (Pre.snoc _ _) r6 (rV_false (.obj ?_))
    rw [← r4.glen]
    simp)
/-! ### lists of one's own -/
/-- f: the list, the arguments; what comes back, the list behind it -/
def mMeth (f : List W → List W → Option (W × List W)) (i : Nat) (ms : M (List W)) : M W := M.bind (mS i) fun o => M.bind o.get fun x0 => M.bind (M.of (lstW x0)) fun _ => M.bind ms fun ws => M.bind o.get fun x => M.bind (M.of ((lstW x).bind fun l => f l ws)) fun q => M.bind (setM i (.lst q.2)) fun _ => M.pure q.1
def SndM (c : Cn) (r : V → List V → Hp → VK → Prop) (f : List W → List W → Option (W × List W)) : Prop :=
  ∀ (Z : Hp) (g : List Addr) (H : Hp) (a : Addr) (xs vs : List V) (wl ws : List W) (res : W) (wl2 : List W) (Q : VK), Le Z H → H a = some (.lst xs) → FzL c.K Z g wl xs → FzL c.K Z g ws vs → f wl ws = some (res, wl2) →
    (∀ (v : V) (xs2 : List V), FzL c.K Z g wl2 xs2 → Fz c.K Z g res v → Q v (upd H a (.lst xs2))) → r (.ref a) vs H Q
theorem lstW_some {w : W} {l : List W} (h : lstW w = some l) : w = .lst l := by
  cases w <;> simp [lstW] at h
  rw [h]
theorem Dat.getS' {α β : Type} {rel : RelT α β} {i : Nat} {f : W → M α} {ρ : List (Option W)} {G : List W} {Z P : Hp} {g : List Addr} {σ : St} {Q : β → Hp → Prop} (d : Dat c Mu rel (M.bind (Opd.s i).get f) Wx Z P g ρ G σ Q) : ∃ w, ρ[i]? = some (some w) ∧ Dat c Mu rel (f w) Wx Z P g ρ G σ Q := by
  rcases getS_cases i ρ G with e | ⟨w, e, e2⟩
  · exact (d.bind_bad e).elim
  · exact ⟨w, e, d.bind_eq e2⟩
theorem mS_okD {α β : Type} {rel : RelT α β} {i : Nat} {f : Opd → M α} {ρ : List (Option W)} {G : List W} {Z P : Hp} {g : List Addr} {σ : St} {Q : β → Hp → Prop} (d : Dat c Mu rel (M.bind (mS i) f) Wx Z P g ρ G σ Q) : ∃ w, ρ[i]? = some (some w) ∧ Dat c Mu rel (f (.s i)) Wx Z P g ρ G σ Q := by
  have e : mS i ρ G = .bad ∨ ∃ w, ρ[i]? = some (some w) ∧ mS i ρ G = .ok (.s i) ρ G := by
    unfold mS
    cases e : ρ[i]? with
    | none => exact .inl rfl
    | some ow =>
      cases ow with
      | none => exact .inl rfl
      | some w => exact .inr ⟨w, rfl, rfl⟩
  rcases e with e | ⟨w, e1, e2⟩
  · exact (d.bind_bad e).elim
  · exact ⟨w, e1, d.bind_eq e2⟩
theorem dMeth {i : Nat} {f : List W → List W → Option (W × List W)} {ms : M (List W)} {r : V → List V → Hp → VK → Prop} {t : TA} (hm : Mu i = true) (s : SndM c r f) {σ : St} {H : Hp} {Q : VK} (h : D c Mu (rV false) (mMeth f i ms) Wx σ H Q) :
    tBM c.K "list" r (tVar i) (D c Mu rL ms Wx) σ H Q := by
  obtain ⟨Z, P, g, ρ, G, r0, d⟩ := h
  obtain ⟨w0, e1, d⟩ := mS_okD d
  obtain ⟨w1, e2, d⟩ := d.getS'
  rw [e1] at e2; cases e2
  obtain ⟨l0, el0, dd⟩ : ∃ l, lstW w0 = some l ∧ Dat c Mu (rV false) (M.bind ms fun ws => M.bind (Opd.s i).get fun x => M.bind (M.of ((lstW x).bind fun l => f l ws)) fun q => M.bind (setM i (.lst q.2)) fun _ => M.pure q.1) Wx Z P g ρ G σ Q := by
    cases e : lstW w0 with
    | none => exact (d.bind_bad (by rw [e]; rfl)).elim
    | some l => exact ⟨l, rfl, d.bind_eq (by rw [e]; rfl)⟩
  obtain rfl := lstW_some el0
  obtain ⟨a, o, ex, h1, h2, _⟩ := r0.ow i _ e1 hm
  cases h2 with
  | lst f0 =>
    refine ⟨.ref a, ex, .inl ⟨rfl, _, SqL.of h1⟩, Z, P, g, ρ, G, r0, dd.bind fun ws vs H1 Z1 g1 ρ1 G1 l1 p1 r1 q1 d1 => ?_⟩
    obtain ⟨w2, e3, d2⟩ := d1.getS'
    cases e4 : (lstW w2).bind fun l => f l ws with
    | none => exact (d2.bind_bad (by rw [e4]; rfl)).elim
    | some q =>
      obtain ⟨res, wl2⟩ := q
      have d3 := d2.bind_eq (a := (res, wl2)) (ρ' := ρ1) (G' := G1) (by rw [e4]; rfl)
      cases el : lstW w2 with
      | none => rw [el] at e4; cases e4
      | some l =>
        rw [el, Option.bind_some] at e4
        obtain rfl := lstW_some el
        obtain ⟨a', o', ex', h1', h2', _⟩ := r1.ow i _ e3 hm
        rw [ex] at ex'; cases ex'
        cases h2' with
        | lst f1 =>
          have d4 := d3.bind_eq (setM_ok (w := .lst wl2) (G := G1) e3)
          refine s Z1 g1 H1 a _ vs l ws res wl2 Q r1.zh h1' f1 q1 e4 fun v xs2 f2 fv => d4.pure (r1.write hm e3 ex (.lst f2)) (rV_false fv)
/-- x.m(e, ..) -/
theorem eMeth {o : Expr} {name : Str} {apos : Pos} {i : Nat} {r : V → List V → Hp → VK → Prop} {f : List W → List W → Option (W × List W)} {ms : M (List W)} (hm : Mu i = true) (s : SndM c r f)
    (hb : PE X (.Call (.Attribute o name apos) (e :: es) [] pos) (tBM X.K "list" r (tVar i) (D c Mu rL ms Wx))) (hK : X.K = c.K := by rfl) : PE X (.Call (.Attribute o name apos) (e :: es) [] pos) (D c Mu (rV false) (mMeth f i ms) Wx) :=
  PE.weak hb fun σ H Q h => by rw [hK]; exact dMeth (t := D c Mu rL ms Wx) hm s h
theorem eMeth0 {o : Expr} {name : Str} {apos : Pos} {i : Nat} {r : V → List V → Hp → VK → Prop} {f : List W → List W → Option (W × List W)} (hm : Mu i = true) (s : SndM c r f)
    (hb : PE X (.Call (.Attribute o name apos) [] [] pos) (tBM0 X.K "list" r (tVar i))) (hK : X.K = c.K := by rfl) : PE X (.Call (.Attribute o name apos) [] [] pos) (D c Mu (rV false) (mMeth f i mNil) Wx) :=
  PE.weak hb fun σ H Q h => by
    rw [hK]
    obtain ⟨v, ev, ty, Z, P, g, ρ, G, r, d⟩ := dMeth (t := D c Mu rL mNil Wx) hm s h
    exact ⟨v, ev, ty, d.pure r .nil⟩
def fApp : List W → List W → Option (W × List W) := fun l ws => match ws with
  | [y] => if decide (l.length < 16777216) then some (.non, l ++ [y]) else none
  | _ => none
theorem sApp : SndM c rAppend fApp := fun Z g H a xs vs wl ws res wl2 Q l h f fa e k => by
  unfold fApp at e
  split at e
  · cases fa with
    | cons f1 q1 =>
      cases q1
      split at e
      · cases e
        rename_i hs
        exact ⟨a, xs, _, rfl, rfl, h, by rw [← f.length, sizeLine_eq]; exact of_decide_eq_true hs, k _ _ (f.append (.one f1)) .non⟩
      · cases e
  · cases e
def fPop : List W → List W → Option (W × List W) := fun l ws => match ws with
  | [] => (l[l.length - 1]?).map fun w => (w, l.dropLast)
  | _ => none
theorem FzL.dropLast {K : PySem.W.Frag} {Z : Hp} {g : List Addr} {ws : List W} {vs : List V} (h : FzL K Z g ws vs) : FzL K Z g ws.dropLast vs.dropLast := by
  rw [List.dropLast_eq_take, List.dropLast_eq_take, h.length]
  exact h.take _
theorem FzL.eraseIdx {K : PySem.W.Frag} {Z : Hp} {g : List Addr} : ∀ {ws : List W} {vs : List V} (i : Nat), FzL K Z g ws vs → FzL K Z g (ws.eraseIdx i) (vs.eraseIdx i)
  | _, _, _, .nil => .nil
  | _, _, 0, .cons _ q => q
  | _, _, i + 1, .cons f q => .cons f (FzL.eraseIdx i q)
theorem sPop : SndM c rPop fPop := fun Z g H a xs vs wl ws res wl2 Q l h f fa e k => by
  unfold fPop at e
  split at e
  · cases fa
    cases e2 : wl[wl.length - 1]? with
    | none => rw [e2] at e; cases e
    | some w =>
      rw [e2] at e
      cases e
      obtain ⟨v, e3, fv⟩ := f.get e2
      exact ⟨a, xs, v, rfl, rfl, h, by rw [← f.length]; exact e3, k _ _ f.dropLast fv⟩
  · cases e
def fPopAt : List W → List W → Option (W × List W) := fun l ws => match ws with
  | [.int i] => if decide (-(2 ^ 63) ≤ i) && decide (i < 2 ^ 63) then (seqIndex? i l.length).bind fun k => (l[k]?).map fun w => (w, l.eraseIdx k) else none
  | _ => none
theorem sPopAt : SndM c rPopAt fPopAt := fun Z g H a xs vs wl ws res wl2 Q l h f fa e k => by
  unfold fPopAt at e
  split at e
  · split at e
    · rename_i i hs
      rw [Bool.and_eq_true] at hs
      cases fa with
      | cons f1 q1 =>
        cases q1
        cases f1
        cases e2 : seqIndex? i wl.length with
        | none => rw [e2] at e; cases e
        | some j =>
          rw [e2, Option.bind_some] at e
          cases e3 : wl[j]? with
          | none => rw [e3] at e; cases e
          | some w =>
            rw [e3] at e
            cases e
            obtain ⟨v, e4, fv⟩ := f.get e3
            exact ⟨a, xs, i, j, v, rfl, rfl, h, of_decide_eq_true hs.1, of_decide_eq_true hs.2, by rw [← f.length]; exact e2, e4, k _ _ (f.eraseIdx j) fv⟩
    · cases e
  · cases e
def fExt : List W → List W → Option (W × List W) := fun l ws => match ws with
  | [.lst zs] => if szOk (l.length + zs.length) then some (.non, l ++ zs) else none
  | _ => none
theorem sExt : SndM c rExtend fExt := fun Z g H a xs vs wl ws res wl2 Q l h f fa e k => by
  unfold fExt at e
  split at e
  · split at e
    · cases e
      rename_i hs
      cases fa with
      | cons f1 q1 =>
        cases q1
        cases f1 with
        | lst hb fz =>
          exact ⟨a, _, xs, _, rfl, rfl, h, l _ _ hb, by rw [← f.length, ← fz.length]; exact szOk_le hs, k _ _ (f.append fz) .non⟩
    · cases e
  · cases e
/-! ### x[k] = e -/
def wSetL (x k v : W) : Option W := match x, k with
  | .lst ws, .int i => (ixN ws.length i).map fun j => .lst (ws.set j v)
  | _, _ => none
def mLPut (i : Nat) (mk : M Opd) (mv : M W) : M Fl := M.bind mv fun v => M.bind (mS i) fun o => M.bind mk fun ok => M.bind o.get fun x => M.bind ok.get fun y => M.bind (M.of (wSetL x y v)) fun w => M.bind (setM i w) fun _ => M.pure .nx
theorem sLPut {i : Nat} {o k value : Expr} {mv : M W} (hm : Mu i = true) (ho : PE X o (tVar i)) (hk : PE X k (D c Mu rO mb Wx)) (hv : PE X value (D c Mu (rV false) mv Wx))
    (ha : ∀ v, assign (.Subscript o k pos') X.env v = (do
      let ov ← holding [v] (eval o X.env)
      let iv ← holding [v, ov] (eval k X.env)
      standAt pos'
      holding [v, ov, iv] (setItem ov iv v)
      release [v, ov, iv] []) := by intro _; rfl) (hs : swapsWithSole [.Subscript o k pos'] value pos.line X.env = pure false := by rfl) (hw : swappedStores [.Subscript o k pos'] value X.env = pure none := by rfl)
    (h1 : (assignEach [.Subscript o k pos'] X.env).map (·.2) = [assign (.Subscript o k pos') X.env] := by rfl) :
    PS X (.Assign [.Subscript o k pos'] value pos) (DS c Mu (mLPut i mb mv) Wx) :=
  PS.weak (ps_asg hv (pg_sub ho hk set_list ha) hs hw h1) fun D σ H h => DS.bind h fun wv v H1 Z1 P g1 ρ1 G1 r1 q1 d1 => by
    obtain ⟨w0, e1, _, d2⟩ := mS_okS d1
    obtain ⟨x, ex⟩ := r1.has e1
    refine ⟨x, ex, Z1, P, g1, ρ1, G1, r1, d2.bind fun ok y H3 Z3 g3 ρ3 G3 l3 p3 r3 q3 d3 => ?_⟩
    obtain ⟨wd, e3, d4⟩ := d3.getS
    obtain ⟨wy, by', d5⟩ := d4.get r3 q3
    obtain ⟨w, ew, d6⟩ := d5.of
    have d7 := d6.bind_eq (setM_ok (w := w) (G := G3) e3)
    obtain ⟨a, o, e4, h1, h2, _⟩ := r3.ow i wd e3 hm
    rw [ex] at e4; cases e4
    unfold wSetL at ew
    split at ew
    · rename_i ws i'
      cases h2 with
      | lst f =>
        rename_i xs
        obtain rfl := by'.int
        cases e5 : ixN ws.length i' with
        | none => rw [e5] at ew; cases ew
        | some j =>
          rw [e5] at ew
          cases ew
          exact ⟨a, xs, i', j, rfl, rfl, h1, by rw [← f.length]; exact e5, d7.nx (r3.write hm e3 ex (.lst (FzL.set (Fz.le l3 p3 q1) j f)))⟩
    · cases ew
end
end Mp
set_option Elab.async false
set_option linter.all false
set_option maxRecDepth 100000
set_option maxHeartbeats 2000000
/-! Mp10: what is walked; for; comprehensions. -/
namespace Mp
open PySem PySem.Spec L2
open PyProof.Rows hiding St

/-! ### what is walked -/
def seqW : W → Option (List W)
  | .lst ws => some ws
  | .tup ws => some ws
  | .str s => some (s.map fun c => .str [c])
  | .scr ns => some (ns.map W.int)
  | _ => none
def rngOk (i : Int) : Bool := decide (-(2 ^ 62) ≤ i) && decide (i < 2 ^ 62)
def rng1 : W → Option (List W)
  | .int j => if rngOk j then some ((List.range j.toNat).map fun (i : Nat) => W.int i) else none
  | _ => none
def rng2 : W → W → Option (List W)
  | .int i, .int j => if rngOk i && rngOk j then some ((List.range (j - i).toNat).map fun (k : Nat) => W.int (i + k)) else none
  | _, _ => none
def zipW : W → W → Option (List W)
  | .lst a, .lst b => some (List.zipWith (fun x y => .tup [x, y]) a b)
  | .tup a, .tup b => some (List.zipWith (fun x y => .tup [x, y]) a b)
  | _, _ => none
def mSeqI (m : M W) : M (List W) := M.bind m fun w => M.of (seqW w)
def mI1 (f : W → Option (List W)) (ms : M (List Opd)) : M (List W) := M.bind ms fun os => M.bind (getAll os) fun ws => match ws with
  | [x] => M.of (f x)
  | _ => M.bad
def mI2 (f : W → W → Option (List W)) (ms : M (List Opd)) : M (List W) := M.bind ms fun os => M.bind (getAll os) fun ws => match ws with
  | [x, y] => M.of (f x y)
  | _ => M.bad

/-- the iterator J walks ws -/
def ItOk (c : Cn) (Z P : Hp) (g : List Addr) (J : It) (ws : List W) : Prop :=
  ∀ (Z2 H : Hp) (g2 : List Addr), Le Z Z2 → Pre g g2 → Le Z2 H →
    (∀ (i : Nat) (w : W), ws[i]? = some w → J.go i H ∧ ∀ (x : V) (H' : Hp), J.yld i H x H' → (H' = H ∧ Fz c.K Z2 g2 w x) ∨ ∃ p o, H p = none ∧ H' = upd H p o ∧ NTbl o ∧ Fz c.K (upd Z2 p o) g2 w x) ∧ J.stop ws.length H
def rI : RelT (List W) It := fun c _ Z P g _ _ _ ws J => ItOk c Z P g J ws

section
variable {X : Cx} {c : Cn} {Mu : Nat → Bool} {Wx : XK} {fr : Bool} {e a b tg : Expr} {es : List Expr} {pos pos' : Pos} {ma mb mc : M Opd} {sts : List Stmt}
theorem PI.weak {t t' : TI} (h : PI X tg e t) (k : ∀ σ H Q, t' σ H Q → t σ H Q) : PI X tg e t' := ⟨fun pins s σ H R I hw => h.run pins s σ H R I (k _ _ _ hw)⟩
theorem PI.or {t t' : TI} (h : PI X tg e t) (h' : PI X tg e t') : PI X tg e (fun σ H R => t σ H R ∨ t' σ H R) := ⟨fun pins s σ H R I hw => hw.elim (h.run pins s σ H R I) (h'.run pins s σ H R I)⟩
theorem it_lst {Z P : Hp} {g : List Addr} {ad : Addr} {xs : List V} {ws : List W} (h : Z ad = some (.lst xs)) (f : FzL c.K Z g ws xs) : ItOk c Z P g (Itl c.K ad) ws := fun Z2 H g2 l p l2 => by
  have hH := l2 _ _ (l _ _ h)
  refine ⟨fun i w e => ?_, xs, SqL.of hH, by rw [f.length]; exact Nat.le_refl _⟩
  obtain ⟨v, e2, fv⟩ := f.get e
  refine ⟨⟨xs, v, SqL.of hH, e2⟩, fun x H' ⟨eH, hx⟩ => .inl ⟨eH, ?_⟩⟩
  have := hx xs (SqL.of hH)
  rw [e2] at this; cases this
  exact fv.le l p
theorem it_scr {Z P : Hp} {g : List Addr} {ad : Addr} {ns : List Int} (h : SqL c.K Z ad (ns.map V.int)) : ItOk c Z P g (Itl c.K ad) (ns.map W.int) := fun Z2 H g2 l p l2 => by
  have hH := SqL.le l2 (SqL.le l h)
  refine ⟨fun i w e => ?_, _, hH, by simp⟩
  rw [List.getElem?_map] at e
  cases e1 : ns[i]? with
  | none => rw [e1] at e; cases e
  | some n =>
    rw [e1] at e; cases e
    have e2 : (ns.map V.int)[i]? = some (V.int n) := by rw [List.getElem?_map, e1]; rfl
    refine ⟨⟨_, _, hH, e2⟩, fun x H' ⟨eH, hx⟩ => .inl ⟨eH, ?_⟩⟩
    have := hx _ hH
    rw [e2] at this; cases this
    exact .int n
theorem it_tup {Z P : Hp} {g : List Addr} {ad : Addr} {xs : List V} {ws : List W} (h : SqT c.K Z ad xs) (f : FzL c.K Z g ws xs) : ItOk c Z P g (Itt c.K ad) ws := fun Z2 H g2 l p l2 => by
  have hH := SqT.le l2 (SqT.le l h)
  refine ⟨fun i w e => ?_, xs, hH, by rw [f.length]; exact Nat.le_refl _⟩
  obtain ⟨v, e2, fv⟩ := f.get e
  refine ⟨⟨xs, v, hH, e2⟩, fun x H' ⟨eH, hx⟩ => .inl ⟨eH, ?_⟩⟩
  have := hx xs hH
  rw [e2] at this; cases this
  exact fv.le l p
theorem it_str {Z P : Hp} {g : List Addr} {z : Str} (o : ∀ n ∈ z.cps.toList, n < 0x110000) : ItOk c Z P g (Its z) (z.cps.toList.map fun c => .str [c]) := fun Z2 H g2 l p l2 => by
  refine ⟨fun i w e => ?_, by show z.cps.size ≤ _; simp⟩
  rw [List.getElem?_map] at e
  cases e1 : z.cps.toList[i]? with
  | none => rw [e1] at e; cases e
  | some n =>
    rw [e1] at e; cases e
    refine ⟨(by have := (List.getElem?_eq_some_iff.mp e1).1; rw [Array.length_toList] at this; exact this), fun x H' ⟨eH, n', e2, ex⟩ => .inl ⟨eH, ?_⟩⟩
    subst ex
    have : z.cps.toList[i]? = some n' := by rw [Array.getElem?_toList]; exact e2
    rw [e1] at this; cases this
    exact Fz.strOf rfl fun m hm => by obtain rfl := List.mem_singleton.mp hm; exact o _ (List.mem_of_getElem? e1)
theorem it_rng {Z P : Hp} {g : List Addr} (lo : Int) (n : Nat) : ItOk c Z P g (Itr lo n) ((List.range n).map fun (k : Nat) => W.int (lo + k)) := fun Z2 H g2 l p l2 => by
  refine ⟨fun i w e => ?_, by show n ≤ _; simp⟩
  rw [List.getElem?_map] at e
  cases e1 : (List.range n)[i]? with
  | none => rw [e1] at e; cases e
  | some k =>
    rw [e1] at e; cases e
    obtain ⟨h1, h2⟩ := List.getElem?_eq_some_iff.mp e1
    rw [List.length_range] at h1
    rw [List.getElem_range] at h2
    subst h2
    exact ⟨h1, fun x H' ⟨eH, ex⟩ => .inl ⟨eH, by subst ex; exact .int _⟩⟩
/-- for x in a list, a tuple, a text, the script -/
theorem iSeq {m : M W} (h : PE X e (D c Mu (rV false) m Wx)) (hK : X.K = c.K := by rfl) : PI X tg e (D c Mu rI (mSeqI m) Wx) :=
  PI.weak (PI.or (pi_list h) (PI.or (pi_tup h) (pi_str h))) fun σ H R ⟨Z, P, g, ρ, G, r, d⟩ => by
    rw [hK]
    cases em : m ρ G with
    | bad => exact (d.bind_bad em).elim
    | exc k G' =>
      refine .inl ⟨Z, P, g, ρ, G, r, ?_⟩
      unfold Dat mSeqI M.bind at d
      unfold Dat
      rw [em] at d ⊢
      exact d
    | ok w ρ' G' =>
      have d2 := d.bind_eq em
      have go : ∀ {Q1 : V → Hp → Prop}, (∀ (x : V) (H1 Z1 : Hp) (g1 : List Addr), Le Z Z1 → Pre g g1 → Rel c Mu Z1 P g1 ρ' G' σ H1 → Fz c.K Z1 g1 w x → Q1 x H1) → D c Mu (rV false) m Wx σ H Q1 := fun {Q1} k => by
        refine ⟨Z, P, g, ρ, G, r, ?_⟩
        unfold Dat
        rw [em]
        exact fun x H1 Z1 g1 l p r1 q => k x H1 Z1 g1 l p r1 q
      obtain ⟨ws, ew, d3⟩ := d2.of
      cases w <;> simp only [seqW] at ew <;> cases ew
      · refine .inr (.inr (go fun x H1 Z1 g1 l p r1 f => ?_))
        cases f with
        | str z hz => exact ⟨z, rfl, d3.pure' l p r1 (it_str (strOk_mem hz))⟩
      · refine .inr (.inl (go fun x H1 Z1 g1 l p r1 f => ?_))
        cases f with
        | tup h1 f1 => exact ⟨_, rfl, ⟨_, SqT.le r1.zh h1⟩, d3.pure' l p r1 (it_tup h1 f1)⟩
      · refine .inl (go fun x H1 Z1 g1 l p r1 f => ?_)
        cases f with
        | lst h1 f1 => exact ⟨_, rfl, ⟨_, SqL.of (r1.zh _ _ h1)⟩, d3.pure' l p r1 (it_lst h1 f1)⟩
      · refine .inl (go fun x H1 Z1 g1 l p r1 f => ?_)
        cases f with
        | scr h1 => exact ⟨_, rfl, ⟨_, SqL.le r1.zh h1⟩, d3.pure' l p r1 (it_scr h1)⟩
theorem rngOk_of {i : Int} (h : rngOk i = true) : -(2 ^ 62) ≤ i ∧ i < 2 ^ 62 := by
  unfold rngOk at h
  rw [Bool.and_eq_true] at h
  exact ⟨of_decide_eq_true h.1, of_decide_eq_true h.2⟩
/-- for k in range(n) -/
theorem iRange1 {p : Pos} {ms : M (List Opd)} (hg : Gl X "range") (hm : X.mg "range" = none) (ha : PA X [a] (D c Mu rOs ms Wx)) (hs : starEach [a] X.env = [(false, eval a X.env)] := by rfl) : PI X tg (.Call (.Name "range" p) [a] [] pos) (D c Mu rI (mI1 rng1 ms) Wx) :=
  PI.weak (pi_range1 hg hm ha hs) fun σ H R h => h.bind fun os xs H1 Z1 P g1 ρ1 G1 r1 q1 d1 => by
    obtain ⟨ws, bs, d2⟩ := d1.getAll r1 q1
    cases bs with
    | nil => exact d2.elim
    | cons b t =>
      cases t with
      | cons _ _ => exact d2.elim
      | nil =>
        obtain ⟨l, el, d3⟩ := Dat.of d2
        rename_i wx x
        cases wx <;> simp only [rng1] at el <;> first | cases el | skip
        split at el
        · cases el
          rename_i j hj
          obtain rfl := b.int
          obtain ⟨h1, h2⟩ := rngOk_of hj
          refine ⟨j, rfl, h1, h2, d3.pure r1 ?_⟩
          have h0 : ItOk c Z1 P g1 (Itr 0 j.toNat) ((List.range j.toNat).map fun (i : Nat) => W.int i) := by
            have := it_rng (c := c) (Z := Z1) (P := P) (g := g1) 0 j.toNat
            simpa using this
          exact h0
        · cases el
theorem iRange2 {p : Pos} {ms : M (List Opd)} (hg : Gl X "range") (hm : X.mg "range" = none) (ha : PA X [a, b] (D c Mu rOs ms Wx)) (hs : starEach [a, b] X.env = [(false, eval a X.env), (false, eval b X.env)] := by rfl) (hs2 : starEach [b] X.env = [(false, eval b X.env)] := by rfl) : PI X tg (.Call (.Name "range" p) [a, b] [] pos) (D c Mu rI (mI2 rng2 ms) Wx) :=
  PI.weak (pi_range2 hg hm ha hs hs2) fun σ H R h => h.bind fun os xs H1 Z1 P g1 ρ1 G1 r1 q1 d1 => by
    obtain ⟨ws, bs, d2⟩ := d1.getAll r1 q1
    cases bs with
    | nil => exact d2.elim
    | cons b t =>
      cases t with
      | nil => exact d2.elim
      | cons b' t =>
        cases t with
        | cons _ _ => exact d2.elim
        | nil =>
          obtain ⟨l, el, d3⟩ := Dat.of d2
          rename_i wx x wy y
          cases wx <;> cases wy <;> simp only [rng2] at el <;> first | cases el | skip
          split at el
          · cases el
            rename_i i j hj
            rw [Bool.and_eq_true] at hj
            obtain rfl := b.int
            obtain rfl := b'.int
            obtain ⟨h1, h2⟩ := rngOk_of hj.1
            obtain ⟨h3, h4⟩ := rngOk_of hj.2
            exact ⟨i, j, rfl, ⟨h1, h2, h3, h4⟩, d3.pure r1 (it_rng i _)⟩
          · cases el

/-! ### for -/
theorem Rel.grow {Z P H H' : Hp} {g : List Addr} {ρ : List (Option W)} {G : List W} {σ : St} {w : W} {x : V} (r : Rel c Mu Z P g ρ G σ H) (h : (H' = H ∧ Fz c.K Z g w x) ∨ ∃ p o, H p = none ∧ H' = upd H p o ∧ NTbl o ∧ Fz c.K (upd Z p o) g w x) :
    ∃ Z', Le Z Z' ∧ Rel c Mu Z' P g ρ G σ H' ∧ Fz c.K Z' g w x := by
  rcases h with ⟨rfl, f⟩ | ⟨p, o, hp, rfl, no, f⟩
  · exact ⟨Z, Le.refl _, r, f⟩
  · exact ⟨upd Z p o, Le.upd (r.new hp).nz, r.fixed o hp no, f⟩
theorem DatS.bindU {vs : List Nat} {σ : St} {t : M Unit} {n : M Fl} {Z P : Hp} {g : List Addr} {ρ : List (Option W)} {G : List W} {D : Ends} (h : DatS c Mu (M.bind t fun _ => n) Wx Z P g ρ G D) (hx : ∀ k G', t ρ G ≠ .exc k G') {Q : St → Hp → Prop}
    (k : ∀ (σ' : St) (H' Z' : Hp) (g' : List Addr) (ρ' : List (Option W)) (G' : List W), Le Z Z' → Pre g g' → Rel c Mu Z' P g' ρ' G' σ' H' → DatS c Mu n Wx Z' P g' ρ' G' D → Q σ' H') : DatU c Mu vs t Z P g ρ G σ Q := by
  unfold DatS M.bind at h
  unfold DatU
  cases e : t ρ G with
  | bad => rw [e] at h; exact h
  | exc k G' => exact (hx k G' e).elim
  | ok u ρ' G' => rw [e] at h; exact fun σ' H' Z' g' l p r _ => k σ' H' Z' g' ρ' G' l p r (DatS.le l p h)
theorem sFor {vs : List Nat} {mi : M (List W)} {mt : W → M Unit} {mb : M Fl} (hcl : Calm mt) (hp : PassesOwn (model X.prog X.w) X.A X.env X.xe) (hc : X.calm = true) (hi : PI X tg e (D c Mu rI mi Wx)) (hg : PG X tg (DG c Mu vs mt)) (hb : PSs X sts (DS c Mu mb Wx))
    (hs : ∀ x, foldedSetIterable e X.env x = pure x := by intro _; rfl) : PS X (.For tg e sts [] pos) (DS c Mu (M.bind mi fun ws => mFor mt mb ws) Wx) :=
  PS.weak (ps_for hp hc hi hg hb hs) fun D σ H h => DS.bind h fun ws J H1 Z1 P g1 ρ1 G1 r1 q1 d1 => by
    refine ⟨fun i m σ H => m = ws.length - i ∧ i ≤ ws.length ∧ ∃ Z2 g2 ρ2 G2, Le Z1 Z2 ∧ Pre g1 g2 ∧ Rel c Mu Z2 P g2 ρ2 G2 σ H ∧ DatS c Mu (mFor mt mb (ws.drop i)) Wx Z2 P g2 ρ2 G2 D,
      ⟨ws.length, by simp, Nat.zero_le _, Z1, g1, ρ1, G1, Le.refl _, Pre.refl _, r1, d1⟩, fun i m σ H ⟨em, hi, Z2, g2, ρ2, G2, l2, p2, r2, d2⟩ => ?_⟩
    obtain ⟨it, st⟩ := q1 Z2 H g2 l2 p2 r2.zh
    by_cases hlt : i < ws.length
    · have ew : ws[i]? = some ws[i] := List.getElem?_eq_getElem hlt
      obtain ⟨go, yl⟩ := it i _ ew
      refine .inr ⟨go, fun σ' H' => ∃ Z3 g3 ρ3 G3, Le Z1 Z3 ∧ Pre g1 g3 ∧ Rel c Mu Z3 P g3 ρ3 G3 σ' H' ∧ DatS c Mu (mFor mt mb (ws.drop (i + 1))) Wx Z3 P g3 ρ3 G3 D, fun σ' H' q => ⟨m - 1, by omega, by omega, hlt, q⟩, fun x H' y => ?_⟩
      obtain ⟨Z3, l3, r3, f3⟩ := r2.grow (yl x H' y)
      rw [List.drop_eq_getElem_cons hlt] at d2
      have d3 := d2.le l3 (Pre.refl _)
      refine ⟨Z3, P, g2, ρ2, G2, ws[i], r3, f3, DatS.bindU d3 (hcl _ _ _) fun σ' H' Z' g' ρ' G' l p r' d' => ⟨Z', P, g', ρ', G', r', ?_⟩⟩
      unfold DatS M.bind at d'
      unfold DatS
      have l4 := l2.trans (l3.trans l)
      cases e : mb ρ' G' with
      | bad => rw [e] at d'; exact d'
      | exc k G' => rw [e] at d'; exact d'
      | ok f ρ'' G'' =>
        rw [e] at d'
        cases f with
        | nx => exact fun σ' H' Z'' g'' l' p' r => ⟨Z'', g'', ρ'', G'', l4.trans l', p2.trans (p.trans p'), r, DatS.le l' p' d'⟩
        | ct => exact fun σ' H' Z'' g'' l' p' r => ⟨Z'', g'', ρ'', G'', l4.trans l', p2.trans (p.trans p'), r, DatS.le l' p' d'⟩
        | bk => exact d'
        | rt w => exact d'
    · have : i = ws.length := by omega
      subst this
      rw [List.drop_length] at d2
      exact .inl ⟨st, d2.nx r2⟩

/-! ### comprehensions -/
def wipeR (ρ : List (Option W)) : List Nat → List (Option W)
  | [] => ρ
  | v :: vs => (wipeR ρ vs).set v none
/-- the slots of the block's own names as they stood ahead of it; their own things are lost -/
def backR (Mu : Nat → Bool) (ρ : List (Option W)) : List Nat → List (Option W) → List (Option W)
  | [], ρ' => ρ'
  | v :: vs, ρ' => (backR Mu ρ vs ρ').set v (if Mu v = true then none else (ρ[v]?).getD none)
def wipeM (vs : List Nat) : M Unit := fun ρ G => .ok () (wipeR ρ vs) G
def lcLoop (vs : List Nat) (mt : W → M Unit) (mtest : M Bool) (me : M W) : List W → M (List W)
  | [] => M.pure []
  | w :: ws => M.bind (mt w) fun _ => M.bind (noexc mtest) fun t => if t = true then M.bind (noexc me) fun y => M.bind (wipeM vs) fun _ => M.bind (lcLoop vs mt mtest me ws) fun ys => M.pure (y :: ys)
    else M.bind (wipeM vs) fun _ => lcLoop vs mt mtest me ws
def mLc (Mu : Nat → Bool) (vs : List Nat) (mi : M (List W)) (mt : W → M Unit) (mtest : M Bool) (me : M W) : M W := M.bind mi fun ws => fun ρ G =>
  if szOk ws.length = true then match lcLoop vs mt mtest me ws (wipeR ρ vs) G with
    | .ok ys ρ' G' => .ok (.lst ys) (backR Mu ρ vs ρ') G'
    | .exc _ _ => .bad
    | .bad => .bad
  else .bad
def MuB (Mu : Nat → Bool) (vs : List Nat) : Nat → Bool := fun i => Mu i && !vs.contains i
def mTrue : M Bool := M.pure true
theorem xNil : PTs X [] (D c Mu rEq mTrue Wx) := ⟨fun pins s σ H Q I h => pts_nil.run pins s σ H Q I (by obtain ⟨Z, P, g, ρ, G, r, d⟩ := h; exact d.pure r rfl)⟩
theorem xOne {m : M Bool} (h : PT X e (D c Mu rEq m Wx)) : PTs X [e] (D c Mu rEq m Wx) := pts_one h

theorem wipeR_length (ρ : List (Option W)) : ∀ vs : List Nat, (wipeR ρ vs).length = ρ.length
  | [] => rfl
  | v :: vs => by unfold wipeR; rw [List.length_set, wipeR_length ρ vs]
theorem wipeR_some {ρ : List (Option W)} {i : Nat} {w : W} : ∀ {vs : List Nat}, (wipeR ρ vs)[i]? = some (some w) → ρ[i]? = some (some w) ∧ i ∉ vs
  | [], h => ⟨h, by simp⟩
  | v :: vs, h => by
    unfold wipeR at h
    by_cases hi : v = i
    · subst hi
      by_cases hv : v < (wipeR ρ vs).length
      · rw [List.getElem?_set_self hv] at h; cases h
      · rw [List.getElem?_eq_none (by simpa using hv)] at h; cases h
    · rw [List.getElem?_set_ne hi] at h
      obtain ⟨h1, h2⟩ := wipeR_some h
      exact ⟨h1, by simp only [List.mem_cons, not_or]; exact ⟨fun e => hi e.symm, h2⟩⟩
theorem backR_length (ρ ρ' : List (Option W)) : ∀ vs : List Nat, (backR Mu ρ vs ρ').length = ρ'.length
  | [] => rfl
  | v :: vs => by unfold backR; rw [List.length_set, backR_length ρ ρ' vs]
theorem backR_some {ρ ρ' : List (Option W)} {i : Nat} {w : W} : ∀ {vs : List Nat}, (backR Mu ρ vs ρ')[i]? = some (some w) → (i ∉ vs ∧ ρ'[i]? = some (some w)) ∨ (i ∈ vs ∧ Mu i = false ∧ ρ[i]? = some (some w))
  | [], h => .inl ⟨by simp, h⟩
  | v :: vs, h => by
    unfold backR at h
    by_cases hi : v = i
    · subst hi
      by_cases hv : v < (backR Mu ρ vs ρ').length
      · rw [List.getElem?_set_self hv] at h
        split at h
        · cases h
        · rename_i hm
          cases e : ρ[v]? with
          | none => rw [e] at h; cases h
          | some u =>
            rw [e] at h
            refine .inr ⟨by simp, by simpa using hm, ?_⟩
            simpa using h
      · rw [List.getElem?_eq_none (by simpa using hv)] at h; cases h
    · rw [List.getElem?_set_ne hi] at h
      rcases backR_some h with ⟨h1, h2⟩ | ⟨h1, h2⟩
      · exact .inl ⟨by simp only [List.mem_cons, not_or]; exact ⟨fun e => hi e.symm, h1⟩, h2⟩
      · exact .inr ⟨List.mem_cons_of_mem _ h1, h2⟩
theorem wipe_out' {σ : St} {i : Nat} : ∀ {vs : List Nat}, i ∉ vs → (wipe σ vs)[i]? = σ[i]?
  | [], _ => rfl
  | v :: vs, h => by
    rw [List.mem_cons, not_or] at h
    show ((wipe σ vs).set v none)[i]? = _
    rw [List.getElem?_set_ne (fun q => h.1 q.symm), wipe_out' h.2]
theorem muB_of {vs : List Nat} {i : Nat} (h : i ∉ vs) : MuB Mu vs i = Mu i := by
  unfold MuB
  have : vs.contains i = false := by simpa using h
  rw [this]; simp
/-- into a block -/
theorem Rel.wiped {Z P H : Hp} {g : List Addr} {ρ : List (Option W)} {G : List W} {σ σ' : St} {Mu1 : Nat → Bool} (vs : List Nat) (hM : ∀ i, i ∉ vs → Mu1 i = MuB Mu vs i) (r : Rel c Mu1 Z P g ρ G σ' H) (hw : wipe σ' vs = wipe σ vs) : Rel c (MuB Mu vs) Z P g (wipeR ρ vs) G (wipe σ vs) H := by
  have at' : ∀ i, i ∉ vs → (wipe σ vs)[i]? = σ'[i]? := fun i hi => by rw [← hw]; exact wipe_out' hi
  refine ⟨r.zh, r.ph, r.zp, fun i w e m => ?_, fun i w e m => ?_, fun i j w w' a e1 e2 m1 m2 s1 s2 => ?_, r.gl, r.gn, r.glen, ?_, r.tb⟩
  · obtain ⟨e1, hi⟩ := wipeR_some e
    obtain ⟨v, e2, f⟩ := r.fz i w e1 (by rw [hM i hi]; exact m)
    exact ⟨v, by rw [at' i hi]; exact e2, f⟩
  · obtain ⟨e1, hi⟩ := wipeR_some e
    obtain ⟨a, o, e2, q⟩ := r.ow i w e1 (by rw [hM i hi]; exact m)
    exact ⟨a, o, by rw [at' i hi]; exact e2, q⟩
  · obtain ⟨e1', hi⟩ := wipeR_some e1
    obtain ⟨e2', hj⟩ := wipeR_some e2
    rw [at' i hi] at s1
    rw [at' j hj] at s2
    exact r.sep i j w w' a e1' e2' (by rw [hM i hi]; exact m1) (by rw [hM j hj]; exact m2) s1 s2
  · rw [wipeR_length, r.len, ← hw, wipe_length]
/-- .. out of it -/
theorem Rel.back {Z Z' P H H' : Hp} {g g' : List Addr} {ρ ρ' : List (Option W)} {G G' : List W} {σ : St} (vs : List Nat) (r0 : Rel c Mu Z P g ρ G σ H) (l : Le Z Z') (p : Pre g g') (r : Rel c (MuB Mu vs) Z' P g' ρ' G' (wipe σ vs) H') : Rel c Mu Z' P g' (backR Mu ρ vs ρ') G' σ H' := by
  have at' : ∀ i, i ∉ vs → (wipe σ vs)[i]? = σ[i]? := fun i hi => wipe_out' hi
  refine ⟨r.zh, r.ph, r.zp, fun i w e m => ?_, fun i w e m => ?_, fun i j w w' a e1 e2 m1 m2 s1 s2 => ?_, r.gl, r.gn, r.glen, ?_, r.tb⟩
  · rcases backR_some e with ⟨hi, e1⟩ | ⟨hi, hm, e1⟩
    · obtain ⟨v, e2, f⟩ := r.fz i w e1 (by rw [muB_of hi]; exact m)
      exact ⟨v, by rw [← at' i hi]; exact e2, f⟩
    · obtain ⟨v, e2, f⟩ := r0.fz i w e1 hm
      exact ⟨v, e2, f.le l p⟩
  · rcases backR_some e with ⟨hi, e1⟩ | ⟨hi, hm, e1⟩
    · obtain ⟨a, o, e2, q⟩ := r.ow i w e1 (by rw [muB_of hi]; exact m)
      exact ⟨a, o, by rw [← at' i hi]; exact e2, q⟩
    · rw [hm] at m; cases m
  · rcases backR_some e1 with ⟨hi, e1⟩ | ⟨hi, hm, e1⟩
    · rcases backR_some e2 with ⟨hj, e2⟩ | ⟨hj, hm, e2⟩
      · rw [← at' i hi] at s1
        rw [← at' j hj] at s2
        exact r.sep i j w w' a e1 e2 (by rw [muB_of hi]; exact m1) (by rw [muB_of hj]; exact m2) s1 s2
      · rw [hm] at m2; cases m2
    · rw [hm] at m1; cases m1
  · rw [backR_length, r.len, wipe_length]

theorem wipe_wipe (σ : St) (vs : List Nat) : wipe (wipe σ vs) vs = wipe σ vs := by
  have h : ∀ (us : List Nat), (∀ u ∈ us, u ∈ vs) → wipe (wipe σ us) vs = wipe σ vs := fun us => by
    induction us with
    | nil => intro _; rfl
    | cons u us ih =>
      intro h
      show wipe ((wipe σ us).set u none) vs = _
      rw [wipe_in (h u List.mem_cons_self), ih fun v hv => h v (List.mem_cons_of_mem _ hv)]
  exact h vs fun _ h => h
/-- what is kept from outside is changed by whom it is kept for -/
theorem Rel.accum {Z P H : Hp} {g : List Addr} {ρ : List (Option W)} {G : List W} {σ : St} {d : Addr} {o o' : HO} (r : Rel c Mu Z (upd P d o) g ρ G σ H) (m : MutO o := by exact .inl ⟨_, rfl⟩) (m' : MutO o' := by exact .inl ⟨_, rfl⟩) : Rel c Mu Z (upd P d o') g ρ G σ (upd H d o') := by
  obtain ⟨k1, k2, k3, k4⟩ := r.kept (p := d) upd_same
  have np : ∀ a, (upd P d o) a = none → (upd P d o') a = none := fun a h => by
    by_cases ha : a = d
    · subst ha; rw [upd_same] at h; cases h
    · rw [upd_ne ha] at h ⊢; exact h
  refine ⟨fun b u z => ?_, fun b u z => ?_, fun a u z => np a (r.zp a u z), r.fz, fun j w' e' m' => ?_, r.sep, fun k w' e' => ?_, r.gn, r.glen, r.len, (r.tb.upd (.inr ⟨_, k1, m⟩)).tabs, r.tb.nz, fun a u e => ?_⟩
  · rw [upd_ne (ne_of_none z k2)]; exact r.zh b u z
  · by_cases hb : b = d
    · subst hb; rw [upd_same] at z ⊢; exact z
    · rw [upd_ne hb] at z ⊢
      exact r.ph b u (by rw [upd_ne hb]; exact z)
  · obtain ⟨b, u, e5, j1, j2, j3, j4, j5⟩ := r.ow j w' e' m'
    refine ⟨b, u, e5, ?_, j2, j3, np b j4, j5⟩
    rw [upd_ne]
    · exact j1
    · rintro rfl
      exact k4 j w' m' e' e5
  · obtain ⟨b, u, e5, j1, j2, j3, j4⟩ := r.gl k w' e'
    refine ⟨b, u, e5, ?_, j2, j3, np b j4⟩
    rw [upd_ne]
    · exact j1
    · rintro rfl
      exact k3 (List.mem_iff_getElem?.mpr ⟨k, e5⟩)
  · by_cases ha : a = d
    · subst ha; rw [upd_same] at e; cases e; exact m'.nt
    · exact r.tb.np a u (by rw [upd_ne ha] at e ⊢; exact e)
abbrev E0 : XK := fun _ _ _ => False
theorem noexc_ok {α : Type} {m : M α} {ρ : List (Option W)} {G : List W} {a : α} {ρ' : List (Option W)} {G' : List W} (h : noexc m ρ G = .ok a ρ' G') : m ρ G = .ok a ρ' G' := by
  unfold noexc at h
  cases e : m ρ G with
  | bad => rw [e] at h; cases h
  | exc k G2 => rw [e] at h; cases h
  | ok b ρ2 G2 => rw [e] at h; exact h
theorem bind_ok {α β : Type} {m : M α} {f : α → M β} {ρ : List (Option W)} {G : List W} {b : β} {ρ' : List (Option W)} {G' : List W} (h : M.bind m f ρ G = .ok b ρ' G') : ∃ a ρ1 G1, m ρ G = .ok a ρ1 G1 ∧ f a ρ1 G1 = .ok b ρ' G' := by
  unfold M.bind at h
  cases e : m ρ G with
  | bad => rw [e] at h; cases h
  | exc k G2 => rw [e] at h; cases h
  | ok a ρ2 G2 => rw [e] at h; exact ⟨a, ρ2, G2, rfl, h⟩
theorem lcRead {vs : List Nat} {mi : M (List W)} {mt : W → M Unit} {mtest : M Bool} {me : M W} {σ : St} {H : Hp} {Q : VK} (h : D c Mu (rV true) (mLc Mu vs mi mt mtest me) Wx σ H Q) :
    tLc (D c Mu rI mi Wx) (DG c (MuB Mu vs) vs mt) (D c (MuB Mu vs) rEq mtest Mp.E0) (D c (MuB Mu vs) (rV false) me Mp.E0) vs σ H Q := by
  refine h.bind fun ws J H1 Z1 P g1 ρ1 G1 r1 q1 d1 => ?_
  intro A hA
  have nA := r1.new hA
  by_cases hsz : szOk ws.length = true
  case neg =>
    unfold Dat at d1
    dsimp only at d1
    rw [if_neg hsz] at d1
    exact d1.elim
  obtain ⟨ys0, ρf, Gf, e0, fin⟩ : ∃ ys ρ' G', lcLoop vs mt mtest me ws (wipeR ρ1 vs) G1 = .ok ys ρ' G' ∧ ∀ (x : V) (H' Z' : Hp) (g' : List Addr), Le Z1 Z' → Pre g1 g' → Rel c Mu Z' P g' (backR Mu ρ1 vs ρ') G' σ H' → rV true c Mu Z' P g' (backR Mu ρ1 vs ρ') σ H' (.lst ys) x → Q x H' := by
    unfold Dat at d1
    dsimp only at d1
    rw [if_pos hsz] at d1
    cases e : lcLoop vs mt mtest me ws (wipeR ρ1 vs) G1 with
    | bad => rw [e] at d1; exact d1.elim
    | exc k G' => rw [e] at d1; exact d1.elim
    | ok ys ρ' G' => rw [e] at d1; exact ⟨ys, ρ', G', rfl, d1⟩
  have hsz' : ws.length ≤ sizeLine := szOk_le hsz
  refine ⟨fun i m H => m = ws.length - i ∧ i ≤ ws.length ∧ ∃ (acc : List V) (aw : List W) (Z2 : Hp) (g2 : List Addr) (ρ2 : List (Option W)) (G2 ys : List W), Le Z1 Z2 ∧ Pre g1 g2 ∧ acc.length ≤ i ∧ FzL c.K Z2 g2 aw acc ∧
      Rel c (MuB Mu vs) Z2 (upd P A (.lst acc)) g2 ρ2 G2 (wipe σ vs) H ∧ lcLoop vs mt mtest me (ws.drop i) ρ2 G2 = .ok ys ρf Gf ∧ aw ++ ys = ys0,
    ⟨ws.length, by simp, Nat.zero_le _, [], [], Z1, g1, wipeR ρ1 vs, G1, ys0, Le.refl _, Pre.refl _, Nat.le_refl _, .nil, ?_, e0, rfl⟩, fun i m H2 ⟨em, hi, acc, aw, Z2, g2, ρ2, G2, ys, l2, p2, hacc, fa, r2, e2, eys⟩ => ?_⟩
  · have r3 := (r1.laid (.lst []) hA).protect upd_same nA
    exact r3.wiped (Mu := Mu) vs (fun i hi => by rw [muB_of hi]) rfl
  · obtain ⟨it, st⟩ := q1 Z2 H2 g2 l2 p2 r2.zh
    by_cases hlt : i < ws.length
    · have ew : ws[i]? = some ws[i] := List.getElem?_eq_getElem hlt
      obtain ⟨go, yl⟩ := it i _ ew
      rw [List.drop_eq_getElem_cons hlt] at e2
      unfold lcLoop at e2
      obtain ⟨u, ρ3, G3, e3, e4⟩ := bind_ok e2
      obtain ⟨t, ρ4, G4, e5, e6⟩ := bind_ok e4
      have e5 := noexc_ok e5
      refine .inr ⟨go, fun H' => ∃ (acc : List V) (aw : List W) (Z2 : Hp) (g2 : List Addr) (ρ2 : List (Option W)) (G2 ys : List W), Le Z1 Z2 ∧ Pre g1 g2 ∧ acc.length ≤ i + 1 ∧ FzL c.K Z2 g2 aw acc ∧
        Rel c (MuB Mu vs) Z2 (upd P A (.lst acc)) g2 ρ2 G2 (wipe σ vs) H' ∧ lcLoop vs mt mtest me (ws.drop (i + 1)) ρ2 G2 = .ok ys ρf Gf ∧ aw ++ ys = ys0, fun H' q => ⟨m - 1, by omega, by omega, hlt, q⟩, fun x H' y => ?_⟩
      obtain ⟨Z3, l3, r3, f3⟩ := r2.grow (yl x H' y)
      refine ⟨Z3, _, g2, ρ2, G2, ws[i], r3, f3, ?_⟩
      unfold DatU
      rw [e3]
      intro σ4 H4 Z4 g4 l4 p4 r4 ag
      rw [wipe_wipe] at ag
      refine ⟨ag, Z4, _, g4, ρ3, G3, r4, ?_⟩
      unfold Dat
      rw [e5]
      intro t' H5 Z5 g5 l5 p5 r5 et
      obtain rfl : t = t' := et
      have lz : Le Z1 Z5 := l2.trans (l3.trans (l4.trans l5))
      have pz : Pre g1 g5 := p2.trans (p4.trans p5)
      have la : Le Z2 Z5 := l3.trans (l4.trans l5)
      have pa : Pre g2 g5 := p4.trans p5
      cases t with
      | true =>
        rw [if_pos rfl] at e6 ⊢
        obtain ⟨yw, ρ5, G5, e7, e8⟩ := bind_ok e6
        have e7 := noexc_ok e7
        obtain ⟨_, ρ6, G6, e9, e10⟩ := bind_ok e8
        cases e9
        obtain ⟨ys', ρ7, G7, e11, e12⟩ := bind_ok e10
        cases e12
        refine ⟨Z5, _, g5, ρ4, G4, r5, ?_⟩
        unfold Dat
        rw [e7]
        intro yv H6 Z6 g6 l6 p6 r6 fy
        obtain ⟨k1, _⟩ := r6.kept (p := A) upd_same
        refine ⟨acc, k1, by omega, acc ++ [yv], aw ++ [yw], Z6, g6, wipeR ρ5 vs, G5, ys', lz.trans l6, pz.trans p6, by simp; omega, (fa.le (la.trans l6) (pa.trans p6)).append (.one fy), ?_, e11, by rw [← eys]; simp⟩
        exact (r6.accum (o' := .lst (acc ++ [yv]))).wiped (Mu := Mu) vs (fun _ _ => rfl) ag
      | false =>
        rw [if_neg Bool.false_ne_true] at e6 ⊢
        obtain ⟨_, ρ6, G6, e9, e10⟩ := bind_ok e6
        cases e9
        exact ⟨acc, aw, Z5, g5, wipeR ρ4 vs, G4, ys, lz, pz, by omega, fa.le la pa, r5.wiped (Mu := Mu) vs (fun _ _ => rfl) ag, e10, eys⟩
    · have : i = ws.length := by omega
      subst this
      rw [List.drop_length] at e2
      cases e2
      rw [List.append_nil] at eys
      subst eys
      obtain ⟨k1, k2, k3, k4⟩ := r2.kept (p := A) upd_same
      have r3 := Rel.back vs r1 l2 p2 (r2.weakP (Le.upd nA.np))
      refine .inl ⟨st, fin (.ref A) H2 Z2 g2 l2 p2 r3 ⟨A, _, rfl, k1, .lst fa, k2, nA.np, k3, fun i w' m e q => ?_⟩⟩
      rcases backR_some e with ⟨hi, e1⟩ | ⟨hi, hm, e1⟩
      · exact k4 i w' (by rw [muB_of hi]; exact m) e1 (by rw [wipe_out' hi]; exact q)
      · rw [hm] at m; cases m
/-- [elt for target in iter if ..] -/
theorem eLc {elt iter : Expr} {ifs : List Expr} {scope : Scope} {own : List (Str × Nat)} {mi : M (List W)} {mt : W → M Unit} {mtest : M Bool} {me : M W} (vs : List Nat) (hvs : own.map (·.2) = vs) (hc : X.calm = true) (hN : X.N.Nodup) (hi : PI X tg iter (D c Mu rI mi Wx)) (ok : BlkOk X.N X.env.scope scope own)
    (hg : ∀ (s : Shared) (H : Hp) (C : Addr) (cl : List (Str × Addr)) (fp : List Addr), PG (X.blk s H scope (compEnvC scope cl C X.env) fp) tg (DG c (MuB Mu vs) vs mt)) (ht : ∀ (s : Shared) (H : Hp) (C : Addr) (cl : List (Str × Addr)) (fp : List Addr), PTs (X.blk s H scope (compEnvC scope cl C X.env) fp) ifs (D c (MuB Mu vs) rEq mtest Mp.E0))
    (he : ∀ (s : Shared) (H : Hp) (C : Addr) (cl : List (Str × Addr)) (fp : List Addr), PE (X.blk s H scope (compEnvC scope cl C X.env) fp) elt (D c (MuB Mu vs) (rV false) me Mp.E0)) (hs : ∀ x, foldedSetIterable iter X.env x = pure x := by intro _; rfl) :
    PE X (.ListComp elt [⟨tg, iter, ifs, 0⟩] scope pos) (D c Mu (rV true) (mLc Mu vs mi mt mtest me) Wx) :=
  PE.weak (pe_lc hc hN hi ok hg ht he hs) fun σ H Q h => by rw [hvs]; exact lcRead h
/-- x = [..] on one line -/
theorem sSetLc {i : Nat} {y : Str} {py : Pos} {elt iter : Expr} {ifs : List Expr} {scope : Scope} {own : List (Str × Nat)} {spos : Pos} {mi : M (List W)} {mt : W → M Unit} {mtest : M Bool} {me : M W} (vs : List Nat) (hvs : own.map (·.2) = vs) (hm : Mu i = false) (hc : X.calm = true) (hN : X.N.Nodup) (hy : X.N[i]? = some y) (hyl : X.env.scope.names.lookup y = some .local)
    (hsw : swapsWith (.ListComp elt [⟨tg, iter, ifs, 0⟩] scope pos) (some (.Name y py)) spos.line X.env = pure true) (hi : PI X tg iter (D c Mu rI mi Wx)) (ok : BlkOk X.N X.env.scope scope own)
    (hg : ∀ (s : Shared) (H : Hp) (C : Addr) (cl : List (Str × Addr)) (fp : List Addr), PG (X.blk s H scope (compEnvC scope cl C X.env) fp) tg (DG c (MuB Mu vs) vs mt)) (ht : ∀ (s : Shared) (H : Hp) (C : Addr) (cl : List (Str × Addr)) (fp : List Addr), PTs (X.blk s H scope (compEnvC scope cl C X.env) fp) ifs (D c (MuB Mu vs) rEq mtest Mp.E0))
    (he : ∀ (s : Shared) (H : Hp) (C : Addr) (cl : List (Str × Addr)) (fp : List Addr), PE (X.blk s H scope (compEnvC scope cl C X.env) fp) elt (D c (MuB Mu vs) (rV false) me Mp.E0)) (hs : ∀ x, foldedSetIterable iter X.env x = pure x := by intro _; rfl) :
    PS X (.Assign [.Name y py] (.ListComp elt [⟨tg, iter, ifs, 0⟩] scope pos) spos) (DS c Mu (mSet i (mLc Mu vs mi mt mtest me)) Wx) :=
  PS.weak (ps_setLc hc hN hy hyl hsw hi ok hg ht he hs) fun D σ H h => by
    rw [hvs]
    refine lcRead (DS.bind (rel := rV true) h fun w x H1 Z1 P g1 ρ1 G1 r1 q1 d1 => ?_)
    have d2 := d1.bind_eq (a := ()) (ρ' := ρ1.set i (some w)) (G' := G1) rfl
    obtain ⟨a, o, rfl, h1, h2, h3, h4, h5, h6⟩ := q1
    have r2 := r1.freeze h1 ⟨h3, h4, h5, h6⟩ h2.mutO.nt
    have l2 : Le Z1 (upd Z1 a o) := Le.upd h3
    exact (d2.le l2 (Pre.refl _)).nx (r2.setV hm ((h2.le l2 (Pre.refl _)).fz upd_same))
theorem sSetLcF {i : Nat} {y : Str} {py : Pos} {elt iter : Expr} {ifs : List Expr} {scope : Scope} {own : List (Str × Nat)} {spos : Pos} {mi : M (List W)} {mt : W → M Unit} {mtest : M Bool} {me : M W} (vs : List Nat) (hvs : own.map (·.2) = vs) (hm : Mu i = true) (hc : X.calm = true) (hN : X.N.Nodup) (hy : X.N[i]? = some y) (hyl : X.env.scope.names.lookup y = some .local)
    (hsw : swapsWith (.ListComp elt [⟨tg, iter, ifs, 0⟩] scope pos) (some (.Name y py)) spos.line X.env = pure true) (hi : PI X tg iter (D c Mu rI mi Wx)) (ok : BlkOk X.N X.env.scope scope own)
    (hg : ∀ (s : Shared) (H : Hp) (C : Addr) (cl : List (Str × Addr)) (fp : List Addr), PG (X.blk s H scope (compEnvC scope cl C X.env) fp) tg (DG c (MuB Mu vs) vs mt)) (ht : ∀ (s : Shared) (H : Hp) (C : Addr) (cl : List (Str × Addr)) (fp : List Addr), PTs (X.blk s H scope (compEnvC scope cl C X.env) fp) ifs (D c (MuB Mu vs) rEq mtest Mp.E0))
    (he : ∀ (s : Shared) (H : Hp) (C : Addr) (cl : List (Str × Addr)) (fp : List Addr), PE (X.blk s H scope (compEnvC scope cl C X.env) fp) elt (D c (MuB Mu vs) (rV false) me Mp.E0)) (hs : ∀ x, foldedSetIterable iter X.env x = pure x := by intro _; rfl) :
    PS X (.Assign [.Name y py] (.ListComp elt [⟨tg, iter, ifs, 0⟩] scope pos) spos) (DS c Mu (mSet i (mLc Mu vs mi mt mtest me)) Wx) :=
  PS.weak (ps_setLc hc hN hy hyl hsw hi ok hg ht he hs) fun D σ H h => by
    rw [hvs]
    refine lcRead (DS.bind (rel := rV true) h fun w x H1 Z1 P g1 ρ1 G1 r1 q1 d1 => ?_)
    have d2 := d1.bind_eq (a := ()) (ρ' := ρ1.set i (some w)) (G' := G1) rfl
    exact d2.nx (r1.setF hm q1)
end
end Mp
set_option Elab.async false
set_option linter.all false
set_option maxRecDepth 100000
set_option maxHeartbeats 2000000
/-! Mp11: len, truth tests, list.index, list of a text, pairs stored with a thing of one's own, a lambda handed on. -/
namespace Mp
open PySem PySem.Spec L2
open PyProof.Rows hiding St

section
variable {X : Cx} {c : Cn} {Mu : Nat → Bool} {Wx : XK} {fr : Bool} {e a b tg : Expr} {es : List Expr} {pos pos' : Pos} {ma mb mc : M Opd} {sts : List Stmt}
theorem call_lenA : CallR X (.builtin "len") (rLen X.K) := call_len_seq.or (call_len_str.or call_lenD)

/-! ### truth -/
theorem tru_of {Z H : Hp} {g : List Addr} {w : W} {x : V} {k : Bool} (l : Le Z H) (b : Bor c Z g H w x) (h : truW w = some k) : TruV c.K x H k := by
  cases w <;> simp only [truW] at h <;> first | cases h | skip
  · rw [b.non]; rfl
  · rw [b.bl]; rfl
  · rw [b.int]; rfl
  · split at h
    · cases h
      rename_i s hs
      obtain ⟨z, rfl, e1, _, l1⟩ := b.strM
      refine ⟨by rw [l1]; exact szOk_le hs, ?_⟩
      rw [l1]
      cases s with
      | nil => rfl
      | cons n r =>
        show true = _
        rw [List.length_cons]
        symm
        rw [bne_iff_ne]
        omega
    · cases h
  · obtain ⟨ad, xs, rfl, _, h1, f1⟩ := b.tup l
    refine .inr (.inl ⟨xs, h1, ?_⟩)
    cases f1 <;> rfl
  · obtain ⟨ad, xs, rfl, h1, f1⟩ := b.lst l
    refine .inl ⟨xs, SqL.of h1, ?_⟩
    cases f1 <;> rfl
  · obtain ⟨ad, xs, rfl, h1, f1⟩ := b.dct l
    refine .inr (.inr ⟨xs, h1, ?_⟩)
    cases f1 <;> rfl
theorem tTru {m : M Opd} (h : PE X e (D c Mu rO m Wx)) (he : ∀ whole, isTrue e X.env whole = (do let v ← whole; standAt e.pos; holding [v] (truthy v)) := by intro _; rfl) (hK : X.K = c.K := by rfl) : PT X e (D c Mu rEq (mT m) Wx) :=
  PT.weak (pt_truth h he) fun σ H Q h => h.bind fun o x H1 Z1 P g1 ρ1 G1 r1 q1 d1 => by
    obtain ⟨w, b, d2⟩ := d1.get r1 q1
    obtain ⟨k, ek, d3⟩ := d2.of
    rw [hK]
    exact ⟨k, tru_of r1.zh b ek, d3.pure r1 rfl⟩

/-! ### l.index(x): a list looked at -/
def mMethR (f : W → List W → Option W) (mo : M Opd) (ms : M (List Opd)) : M W := M.bind mo fun o => M.bind o.get fun x0 => M.bind (M.of (lstW x0)) fun _ => M.bind ms fun os => M.bind o.get fun x => M.bind (getAll os) fun ws => M.of (f x ws)
def SndR (c : Cn) (r : V → List V → Hp → VK → Prop) (f : W → List W → Option W) : Prop :=
  ∀ (Z : Hp) (g : List Addr) (H : Hp) (x : V) (vs : List V) (wx : W) (ws : List W) (res : W) (Q : VK), Le Z H → Bor c Z g H wx x → Paired (Bor c Z g H) ws vs → f wx ws = some res → (∀ v : V, Fz c.K Z g res v → Q v H) → r x vs H Q
theorem Bor.tyL {Z H : Hp} {g : List Addr} {ws : List W} {x : V} (l : Le Z H) (b : Bor c Z g H (.lst ws) x) : tyV c.K "list" x H := by
  obtain ⟨a, xs, rfl, h1, _⟩ := b.lst l
  exact .inl ⟨rfl, _, SqL.of h1⟩
theorem eMethR {o : Expr} {name : Str} {apos : Pos} {r : V → List V → Hp → VK → Prop} {f : W → List W → Option W} {mo : M Opd} {ms : M (List Opd)} (s : SndR c r f)
    (hb : PE X (.Call (.Attribute o name apos) (e :: es) [] pos) (tBM X.K "list" r (D c Mu rO mo Wx) (D c Mu rOs ms Wx))) (hK : X.K = c.K := by rfl) : PE X (.Call (.Attribute o name apos) (e :: es) [] pos) (D c Mu (rV false) (mMethR f mo ms) Wx) :=
  PE.weak hb fun σ H Q h => by
    rw [hK]
    refine h.bind fun o x H1 Z1 P g1 ρ1 G1 r1 q1 d1 => ?_
    obtain ⟨w0, b0, d2⟩ := d1.get r1 q1
    cases el : lstW w0 with
    | none => exact (d2.bind_bad (by rw [el]; rfl)).elim
    | some l =>
      rw [el, M.of_bind rfl] at d2
      obtain rfl := lstW_some el
      refine ⟨b0.tyL r1.zh, Z1, P, g1, ρ1, G1, r1, d2.bind fun os vs H2 Z2 g2 ρ2 G2 l2 p2 r2 q2 d3 => ?_⟩
      obtain ⟨wx, bx, d4⟩ := d3.get r2 (rO.le (H' := H2) (P' := P) (ρ' := ρ2) l2 p2 q1)
      obtain ⟨ws, bs, d5⟩ := d4.getAll r2 q2
      obtain ⟨res, er, d6⟩ := d5.of
      exact s Z2 g2 H2 x vs wx ws res Q r2.zh bx bs er fun v f => d6.pure r2 (rV_false f)
def idxW (y : W) : List W → Option Nat
  | [] => none
  | z :: zs => if eqW z y then some 0 else (idxW y zs).map (· + 1)
def wIndex : W → List W → Option W
  | .lst zs, [y] => if flatW y && zs.all flatW then (idxW y zs).map fun j => .int (j : Nat) else none
  | _, _ => none
theorem idx_spec {K : PySem.W.Frag} {Z : Hp} {g : List Addr} {y : W} {v : V} (f : Fz K Z g y v) (hy : flatW y = true) : ∀ {ws : List W} {xs : List V} {j : Nat}, FzL K Z g ws xs → ws.all flatW = true → idxW y ws = some j →
    ∃ z, xs[j]? = some z ∧ eqV z v = true ∧ ∀ (m : Nat) (z' : V), m < j → xs[m]? = some z' → eqV z' v = false
  | _, _, _, .nil, _, h => by simp [idxW] at h
  | w :: ws, x :: xs, j, .cons f1 q, ha, h => by
    rw [List.all_cons, Bool.and_eq_true] at ha
    unfold idxW at h
    have e1 := eqV_eq f1 f ha.1 hy
    split at h
    · rename_i he
      cases h
      exact ⟨x, rfl, by rw [e1, he], fun m z' hm => absurd hm (Nat.not_lt_zero _)⟩
    · rename_i he
      cases e2 : idxW y ws with
      | none => rw [e2] at h; cases h
      | some k =>
        rw [e2] at h
        cases h
        obtain ⟨z, h1, h2, h3⟩ := idx_spec f hy q ha.2 e2
        refine ⟨z, by simpa using h1, h2, fun m z' hm hz => ?_⟩
        cases m with
        | zero =>
          simp at hz
          subst hz
          rw [e1]
          simpa using he
        | succ m => exact h3 m z' (Nat.lt_of_succ_lt_succ hm) (by simpa using hz)
theorem sIndex : SndR c (rIndex c.K) wIndex := fun Z g H x vs wx ws res Q l bx bs e k => by
  unfold wIndex at e
  split at e
  · split at e
    · rename_i zs y hf
      rw [Bool.and_eq_true] at hf
      cases bs with
      | cons b t =>
        cases t
        cases e2 : idxW y zs with
        | none => rw [e2] at e; cases e
        | some j =>
          rw [e2] at e
          cases e
          obtain ⟨a, xs, rfl, h1, f1⟩ := bx.lst l
          obtain ⟨fv, f⟩ := bor_flat b hf.1
          obtain ⟨z, h2, h3, h4⟩ := idx_spec f hf.1 f1 hf.2 e2
          exact ⟨a, xs, _, j, z, rfl, rfl, SqL.of h1, fv, fzl_flat f1 hf.2, h2, h3, h4, k _ (.int _)⟩
    · cases e
  · cases e

/-! ### list of a text -/
def rListS : List V → Hp → VK → Prop := fun xs H Q => ∃ z, xs = [.str z] ∧ z.length ≤ sizeLine ∧ ∀ l, H l = none → Q (.ref l) (upd H l (.lst (z.cps.toList.map fun n => .str ⟨#[n]⟩)))
theorem call_listS (hc : X.calm = true) : CallR X (.type "list") rListS := by
  intro pins s σ H xs us Q I r h
  obtain ⟨z, rfl, hz, q⟩ := h
  obtain ⟨u, rfl, rx⟩ := vals1 r
  obtain ⟨t, rfl⟩ := rx
  refine PySem.call_list_str (I.ok.hd hc) z t (fun h' tk acc' c' hkeep hS hacc => ?_) hz
  refine ⟨.ref s.heap.objs.size, upd H s.heap.objs.size (.lst (z.cps.toList.map fun n => .str ⟨#[n]⟩)), I.laid hkeep (Nat.le_refl _) (show ObjOk X.prog X.w _ _ _ (.lst _) from ⟨?_, acc'.toList, c', ?_, ?_⟩), rfl, q _ (I.hok.fresh (Nat.le_refl _))⟩
  · rw [List.length_map, Array.length_toList]; exact hz
  · refine vals_of_at (by rw [List.length_map, Array.length_toList, Array.length_toList, hacc.1]) fun j x w h1 h2 => ?_
    obtain ⟨n, u, e1, e2⟩ := hacc.2 j w (by rw [← Array.getElem?_toList]; exact h2)
    rw [List.getElem?_map, Array.getElem?_toList, e1] at h1
    cases h1
    subst e2
    exact ⟨u, rfl⟩
  · exact hS
def wListS : W → Option W
  | .str s => if szOk s.length then some (.lst (s.map fun n => .str [n])) else none
  | _ => none
theorem fz_signs {K : PySem.W.Frag} {Z : Hp} {g : List Addr} : ∀ {l : List Nat}, (∀ n ∈ l, n < 0x110000) → FzL K Z g (l.map fun n => .str [n]) (l.map fun n => V.str ⟨#[n]⟩)
  | [], _ => .nil
  | n :: l, h => .cons (Fz.strOf rfl fun m hm => by obtain rfl := List.mem_singleton.mp hm; exact h _ List.mem_cons_self) (fz_signs fun m hm => h m (List.mem_cons_of_mem _ hm))
theorem sListS : SndA c Mu true rListS (f1 wListS) := sA1 fun Z P g ρ G σ H x wx w Q r bx e k => by
  cases wx <;> simp only [wListS] at e <;> first | cases e | skip
  split at e
  · cases e
    rename_i hs
    obtain ⟨z, rfl, e1, o1, l1⟩ := bx.strM
    refine ⟨z, rfl, by rw [l1]; exact szOk_le hs, fun p hp => k _ _ Z (Le.refl _) (r.laid _ hp) (rV_true (r.fresh hp (.lst ?_)))⟩
    rw [e1]
    exact fz_signs o1
  · cases e

/-! ### x, y = e1, e2; the first a new thing of its own -/
def mParF (i j : Nat) (m n : M W) : M Fl := M.bind m fun v => M.bind n fun w => M.bind (setU i v) fun _ => M.bind (setU j w) fun _ => M.pure .nx
theorem DatS.bindP {α β : Type} {rel : RelT α β} {P P' Z : Hp} {g : List Addr} {ρ : List (Option W)} {G : List W} {σ : St} {D : Ends} (lp : Le P P') {m : M α} {f : α → M Fl} {Q1 : β → Hp → Prop} (h : DatS c Mu (M.bind m f) Wx Z P g ρ G D)
    (k : ∀ (a : α) (x : β) (H1 Z1 : Hp) (g1 : List Addr) (ρ1 : List (Option W)) (G1 : List W), Le Z Z1 → Pre g g1 → Rel c Mu Z1 P' g1 ρ1 G1 σ H1 → rel c Mu Z1 P' g1 ρ1 σ H1 a x → DatS c Mu (f a) Wx Z1 P g1 ρ1 G1 D → Q1 x H1) :
    Dat c Mu rel m Wx Z P' g ρ G σ Q1 := by
  unfold DatS M.bind at h
  unfold Dat
  cases e : m ρ G with
  | bad => rw [e] at h; exact h
  | exc n G' =>
    rw [e] at h
    exact fun H' Z' g' l p r => h H' Z' g' l p (r.weakP lp)
  | ok a ρ' G' =>
    rw [e] at h
    exact fun x H' Z' g' l p r q => k a x H' Z' g' ρ' G' l p r q (DatS.le l p h)
theorem sParF {i j : Nat} {x y : Str} {m n : M W} {px py pt : Pos} {kt k2 pt2} (m1 : Mu i = true) (m2 : Mu j = false) (hc : X.calm = true) (hN : X.N.Nodup) (hi : X.N[i]? = some x) (hj : X.N[j]? = some y) (hij : i ≠ j)
    (hx : X.env.scope.names.lookup x = some .local) (hy : X.env.scope.names.lookup y = some .local) (ha : PE X a (D c Mu (rV true) m Wx)) (hb : PE X b (D c Mu (rV false) n Wx))
    (hw : swappedStores [.Tuple [.Name x px, .Name y py] kt pt] (.Tuple [a, b] k2 pt2) X.env = pure (some [x, y]))
    (hs : swapsWithSole [.Tuple [.Name x px, .Name y py] kt pt] (.Tuple [a, b] k2 pt2) pos.line X.env = pure false := by rfl)
    (s1 : starEach [a, b] X.env = (false, eval a X.env) :: starEach [b] X.env := by rfl) (s2 : starEach [b] X.env = (false, eval b X.env) :: starEach [] X.env := by rfl) :
    PS X (.Assign [.Tuple [.Name x px, .Name y py] kt pt] (.Tuple [a, b] k2 pt2) pos) (DS c Mu (mParF i j m n) Wx) :=
  PS.weak (ps_par hc hN hi hj hij hx hy (pa_cons ha (pa_cons hb pa_nil s2) s1) hw hs) fun D σ H h => DS.bind (rel := rV true) h fun w1 x1 H1 Z1 P g1 ρ1 G1 r1 q1 d1 => by
    obtain ⟨ad, o, rfl, h1, h2, h3, h4, h5, h6⟩ := q1
    have n1 : NewA c Mu Z1 P g1 ρ1 σ ad := ⟨h3, h4, h5, h6⟩
    have r2 := r1.protect h1 n1 h2.mutO.nt
    refine ⟨Z1, _, g1, ρ1, G1, r2, DatS.bindP (Le.upd h4) d1 fun w2 x2 H2 Z2 g2 ρ2 G2 l2 p2 r3 q2 d2 => ?_⟩
    obtain ⟨k1, k2, k3, k4⟩ := r3.kept (p := ad) upd_same
    have r4 := r3.weakP (Le.upd h4)
    refine ⟨_, _, rfl, ?_⟩
    have d3 := d2.bind_eq (a := ()) (ρ' := ρ2.set i (some _)) (G' := G2) rfl
    have d4 := d3.bind_eq (a := ()) (ρ' := (ρ2.set i (some _)).set j (some _)) (G' := G2) rfl
    exact d4.nx ((r4.setF m1 ⟨ad, o, rfl, k1, h2.le l2 p2, k2, h4, k3, k4⟩).setV m2 q2)
end
end Mp
set_option Elab.async false
set_option linter.all false
set_option maxRecDepth 100000
set_option maxHeartbeats 2000000
/-! Mp12: f(lambda: ..), f calling it in a try. -/
namespace Mp
open PySem PySem.Spec L2
open PyProof.Rows hiding St

def hideR (Mu : Nat → Bool) (ρ : List (Option W)) : List (Option W) := ρ.mapIdx fun i o => if Mu i = true then none else o
def mTold (Mu : Nat → Bool) (k : Nat) (m : M W) : M W := fun ρ G => match m (hideR Mu ρ) G with
  | .ok w _ G' => .ok w ρ G'
  | .exc n G' => if n = k then .ok .non ρ G' else .bad
  | .bad => .bad
theorem hideR_some {Mu : Nat → Bool} {ρ : List (Option W)} {i : Nat} {w : W} (h : (hideR Mu ρ)[i]? = some (some w)) : ρ[i]? = some (some w) ∧ Mu i = false := by
  unfold hideR at h
  rw [List.getElem?_mapIdx] at h
  cases e : ρ[i]? with
  | none => rw [e] at h; cases h
  | some o =>
    rw [e] at h
    simp only [Option.map_some] at h
    split at h
    · cases h
    · rename_i hm
      exact ⟨by simpa using h, by simpa using hm⟩

def TToldN (K : PySem.W.Frag) (CS : Addr) : (XK → Hp → VK → Prop) → Hp → VK → Prop := fun tl H Q =>
  tl (fun cls _ H' => ∃ b, PySem.W.exmOne K cls (.ref CS) = some b ∧ (b = true → Q .non H') ∧ (b = false → False)) H Q
section
variable {X : Cx} {c : Cn} {Mu : Nat → Bool} {Wx : XK}
theorem told_givesN {Ng : List Str} {x a e q : Str} {sg : Scope} {g CS : Addr} {cdg : Value} {j : Nat} {p1 p2 p3 p4 p5 p6 p7 p8 : Pos} (hge : sg.names.lookup e = some .globalImplicit) (hme : X.mg e = some (.ref CS)) (hde : (e == ("__debug__" : Str)) = false) (h0 : ∀ f : Addr, (L2.start Ng [V.ref f])[0]? = some (some (V.ref f))) :
    LamX.GivesTo X Ng x sg g cdg [.Try [.Return (some (.Call (.Name a p1) [] [] p2)) p3] [.ExceptHandler (some (.Name e p4)) none [.Return (some (.Constant .none j p5)) p6] p7] [] [] p8] a q (TToldN X.K CS) := by
  intro f c' s H Q tl act hc h
  have hgl : Gl (cxOf C8.CX0 X.prog X.w X.K X.mg X.base Ng x sg g cdg X.A X.stack s H C8.E0).nox e := hge
  refine ⟨_, pss_one (ps_try_only (X := (cxOf C8.CX0 X.prog X.w X.K X.mg X.base Ng x sg g cdg X.A X.stack s H C8.E0).nox) (c := .ref CS)
      (tb := fun W D σ H => ∃ Ech : XK, (∀ cls d σ' H', Ech cls d H' → W cls d σ' H') ∧ σ[0]? = some (some (.ref f)) ∧ H c' = some (LamX.CodeO c' q) ∧ tl Ech H D.rt)
      rfl rfl ⟨hgl, hde, .inl hme⟩ LamX.takes0 (fun W pn xe tk _ => ?_) (fun a oe cls d pn _ _ => pss_one (ps_ret pe_non))), ?_⟩
  · refine ⟨fun pins s' σ H' D I h' => ?_⟩
    obtain ⟨Ech, hW, h1, h2, h3⟩ := h'
    have hp := act W pn xe Ech p1 p2 tk hW
    have hq := pss_one (ps_ret (pos := p3) hp)
    exact hq.run pins s' σ H' D I ⟨h1, h2, h3⟩
  · exact ⟨fun cls _ H' => ∃ b, PySem.W.exmOne X.K cls (.ref CS) = some b ∧ (b = true → Q .non H') ∧ (b = false → False), fun cls d σ' H' ⟨b, e1, e2, e3⟩ => ⟨b, e1, fun hb a _ => e2 hb, fun hb => e3 hb⟩, h0 f, hc, h⟩
/-- what else is kept, the relation of the visible slots -/
theorem Rel.hide {Z P : Hp} {g : List Addr} {ρ : List (Option W)} {G : List W} {σ : St} {H : Hp} (r : Rel c Mu Z P g ρ G σ H) : ∃ Pc, Rel c Mu Z Pc g (hideR Mu ρ) G σ H ∧ ∀ (Z' H' : Hp) (g' : List Addr) (G' : List W), Le Z Z' → Pre g g' → Rel0 c Z' Pc g' G' H' → Rel c Mu Z' P g' ρ G' σ H' := by
  obtain ⟨Pc, r0, back⟩ := r.call
  refine ⟨Pc, ⟨r0.zh, r0.ph, r0.zp, fun i w e m => r.fz i w (hideR_some e).1 m, fun i w e m => ?_, fun i j w w' a e1 e2 m1 m2 => ?_, r0.gl, r0.gn, r0.glen, ?_, r0.tb⟩, back⟩
  · rw [(hideR_some e).2] at m; cases m
  · rw [(hideR_some e1).2] at m1; cases m1
  · unfold hideR; rw [List.length_mapIdx]; exact r.len
theorem Rel.extN {Z P : Hp} {g : List Addr} {ρ : List (Option W)} {G : List W} {σ : St} {H H1 : Hp} (r : Rel c Mu Z P g ρ G σ H) (e : LamX.ExtN H H1) (t : LamX.Tabs c.T H1) : Rel c Mu Z P g ρ G σ H1 :=
  ⟨fun a o h => e a o (r.zh a o h) (r.tb.nz a o h), fun a o h => e a o (r.ph a o h) (r.tb.np a o h), r.zp, r.fz,
    fun i w h m => let ⟨a, o, e1, h1, h2, q⟩ := r.ow i w h m; ⟨a, o, e1, e a o h1 h2.mutO.nt, h2, q⟩, r.sep,
    fun n w h => let ⟨a, o, e1, h1, h2, q⟩ := r.gl n w h; ⟨a, o, e1, e a o h1 h2.mutO.nt, h2, q⟩, r.gn, r.glen, r.len, t, r.tb.nz, r.tb.np⟩
theorem dTold {k : Nat} {m : M W} {CS : Addr} (hk : c.ec k = CS) (hx : PySem.W.exmOne c.K (.ref CS) (.ref CS) = some true) {σ : St} {H : Hp} {Q : VK} (h : D c Mu (rV false) (mTold Mu k m) Wx σ H Q) :
    LamX.tLam c.T (TToldN c.K CS) (fun E => D c Mu (rV false) m E) σ H Q := by
  obtain ⟨Z, P, g, ρ, G, r, d⟩ := h
  refine ⟨r.tb.tabs, fun H1 eN tN => ?_⟩
  have r1 := r.extN eN tN
  obtain ⟨Pc, r2, back⟩ := r1.hide
  refine ⟨Z, Pc, g, hideR Mu ρ, G, r2, ?_⟩
  unfold Dat mTold at d
  unfold Dat
  cases e : m (hideR Mu ρ) G with
  | bad => rw [e] at d; exact d
  | ok w ρ' G' =>
    rw [e] at d
    exact fun x H' Z' g' l p r' q => d x H' Z' g' l p (back Z' H' g' G' l p r'.rel0) q
  | exc n G' =>
    rw [e] at d
    intro H' Z' g' l p r'
    dsimp only at d
    by_cases hn : n = k
    · rw [if_pos hn] at d
      subst hn
      exact ⟨true, by rw [hk]; exact hx, fun _ => d .non H' Z' g' l p (back Z' H' g' G' l p r') (rV_false .non), fun h => by cases h⟩
    · rw [if_neg hn] at d
      exact d.elim
/-- x(lambda: body), x's body: try: return a(); except e: return None -/
theorem eTold {x a e : Str} {st : Stmt} {fdg : FuncData} {g cc P CS : Addr} {k n : Nat} {Ng : List Str} {params : Arguments} {body : Expr} {scope : Scope} {m : M W} {p lpos pos : Pos} {j : Nat} {p1 p2 p3 p4 p5 p6 p7 p8 : Pos}
    (F : Fun X.K x x st g fdg) (hbd : defBody st = [.Try [.Return (some (.Call (.Name a p1) [] [] p2)) p3] [.ExceptHandler (some (.Name e p4)) none [.Return (some (.Constant .none j p5)) p6] p7] [] [] p8])
    (hge : (defScope st).names.lookup e = some .globalImplicit) (hme : X.mg e = some (.ref CS)) (hde : (e == ("__debug__" : Str)) = false) (h0 : ∀ f : Addr, (L2.start Ng [V.ref f])[0]? = some (some (V.ref f)))
    (hk' : c.ec n = CS) (hx : PySem.W.exmOne c.K (.ref CS) (.ref CS) = some true)
    (hg : Gl X x) (hm : X.mg x = some (.ref g)) (hb : L2.Binds X.K fdg [a] []) (Sg : FnScope Ng [a] (defScope st)) (hNg : Ng[0]? = some a) (hva : Vis (defScope st) a)
    (TB : LamX.TabB X.base X.mg cc P) (hcode : X.env.code = .ref cc) (hmT : (P, X.env.qual ++ "<lambda>") ∈ c.T) (hu : ∀ p ∈ c.T, p.1 = P → p.2 = X.env.qual ++ "<lambda>") (hr : Room (k + 2) X.A) (L : LamX.LamS X.env.scope scope) (hdef : defaultsOf params X.env = ([], []))
    (hbind : ∀ (q : Str) (cl : List (Str × Addr)) (pm cv ctv : Value), bindArgs (PySem.W.kla_fn "<lambda>" q params body scope cl pm cv ctv) ⟨[], []⟩ = pure [])
    (hbody : ∀ (A : Around) (outer : List Env) (s : Shared) (H : Hp) (E : XK) (f c' : Addr), Room k (A.deeper (LamX.lamEnv X scope s.heap.objs.size f c')) → Takes (LamX.lamCx X A outer s H E scope f c') (fun cls d _ H => E cls d H) → PE (LamX.lamCx X A outer s H E scope f c') body (D c Mu (rV false) m E))
    (hdb : (x == ("__debug__" : Str)) = false := by decide) (hd : (a == ("__debug__" : Str)) = false := by decide) (hcd : (a == ("__classdict__" : Str)) = false := by decide) (hK : X.K = c.K := by rfl) :
    PE X (.Call (.Name x p) [.Lambda params body scope lpos] [] pos) (D c Mu (rV false) (mTold Mu n m) Wx) := by
  obtain ⟨oc, od, kV, doc, pm, an, cdv, ct, osl, rfl, lk, hcg⟩ := F.ex
  refine PE.weak (LamX.pe_lamcall (TT := TToldN X.K CS) (t := fun E => D c Mu (rV false) m E) hg hm F.kp lk hcg hb Sg hNg hva ?_ TB hcode hmT hu hr L hdef hbind (fun A outer s H E f c' hr2 => hbody A outer s H E f c' hr2 (takes_of rfl rfl rfl rfl)) hdb hd hcd) fun σ H Q h => ?_
  · rw [hbd]
    exact told_givesN hge hme hde h0
  · rw [hK]
    exact dTold hk' hx h
end
section
variable {P : Program} {w : World} {K : PySem.W.Frag} {mg : Str → Option Value} {base : Heap} {c : Cn}
/-- a def with its code object told -/
structure FunC (K : PySem.W.Frag) (x qual : Str) (st : Stmt) (f : Addr) (fd : FuncData) (cdv : Value) : Prop where
  ex : ∃ (oc : Value) (od : Option Addr) (kV doc pm : Value) (an : Option Addr) (ct : Value) (osl : Array (Option Value)),
    fd = PySem.W.fnOf x qual (defArgs st) (defBody st) (defScope st) .none kV doc pm an cdv ct ∧ K.lookup f = some ⟨oc, od, .func fd, osl⟩ ∧ PySem.W.codeIn K cdv qual = true
theorem fnFC {x qual : Str} {st : Stmt} {f : Addr} {fd : FuncData} {N ps : List Str} {k : Nat} {cdv : Value} (Mu : Nat → Bool) {m : M Fl} (F : FunC K x qual st f fd cdv) (S : FnScope N ps (defScope st)) (hMu : ∀ i, i < ps.length → Mu i = false)
    (hbody : ∀ (A : Around) (outer : List Env) (s : Shared) (H : Hp) (E : XK), Room k (A.deeper (envOfC qual (defScope st) s.heap.objs.size f cdv)) → Takes (cxOf (L2.CX P w) P w K mg base N qual (defScope st) f cdv A outer s H E) (fun cls d _ H => E cls d H) →
      PassesOwn (model P w) (cxOf (L2.CX P w) P w K mg base N qual (defScope st) f cdv A outer s H E).A (cxOf (L2.CX P w) P w K mg base N qual (defScope st) f cdv A outer s H E).env (cxOf (L2.CX P w) P w K mg base N qual (defScope st) f cdv A outer s H E).xe →
      PSs (cxOf (L2.CX P w) P w K mg base N qual (defScope st) f cdv A outer s H E) (defBody st) (DS c Mu m E)) : FnOk P w K mg base (L2.CX P w) (k + 1) f fd ps (spF c (runF N.length m) ps.length) := by
  obtain ⟨oc, od, kV, doc, pm, an, ct, osl, rfl, lk, hcd⟩ := F.ex
  refine fn_of lk hcd S (fun vs H Q E h => ?_) fun A outer s H vs Q E hr h => ?_
  · obtain ⟨Z, P, g, G, ws, r, f, l, _⟩ := h
    rw [← f.length, l]
  · obtain ⟨Z, P', g, G, ws, r, f, l, d⟩ := h
    refine ⟨_, hbody A outer s H E hr (takes_of rfl rfl rfl rfl) (passes_of rfl), Z, P', g, _, G, rel_start (Mu := Mu) N r f (by rw [l]; exact hMu), ?_⟩
    unfold DatF runF at d
    unfold DatS
    cases e : m (ws.map some ++ List.replicate (N.length - ws.length) none) G with
    | bad => rw [e] at d; exact d
    | exc k G2 => rw [e] at d; exact d
    | ok fl ρ2 G2 =>
      rw [e] at d
      cases fl with
      | nx => exact fun σ' H' Z' g' l p r => d .non H' Z' g' l p r.rel0 .non
      | bk => exact d.elim
      | ct => exact d.elim
      | rt w => exact d
end
end Mp
set_option Elab.async false
set_option linter.all false
set_option maxRecDepth 100000
set_option maxHeartbeats 2000000
/-! Mp13: rules under short names, as the printer names them. -/
namespace Mp
open PySem PySem.Spec L2
open PyProof.Rows hiding St

theorem bt_len : bootBuiltins "len" = some (.builtin "len") := by decide +kernel
theorem bt_abs : bootBuiltins "abs" = some (.builtin "abs") := by decide +kernel
theorem bt_sum : bootBuiltins "sum" = some (.builtin "sum") := by decide +kernel
theorem bt_max : bootBuiltins "max" = some (.builtin "max") := by decide +kernel
theorem bt_min : bootBuiltins "min" = some (.builtin "min") := by decide +kernel
theorem bt_any : bootBuiltins "any" = some (.builtin "any") := by decide +kernel
theorem bt_all : bootBuiltins "all" = some (.builtin "all") := by decide +kernel
theorem bt_sorted : bootBuiltins "sorted" = some (.builtin "sorted") := by decide +kernel
theorem bt_int : bootBuiltins "int" = some (.type "int") := by decide +kernel
theorem bt_tuple : bootBuiltins "tuple" = some (.type "tuple") := by decide +kernel
theorem bt_list : bootBuiltins "list" = some (.type "list") := by decide +kernel
section
variable {prog : Program} {w : World} {A : Around} {E : Value → Shared → Prop} {s : Shared} {l : Addr} {its : List Value} {ns : List Int} {Q : Value → Shared → Prop}
theorem sum_rawT (hh : A.handled = none) (hl : s.heap.IsTuple l its.toArray) (hi : IntsAre its ns)
    (h : ∀ h' tk t', (∀ b o, s.heap.get? b = some o → h'.get? b = some o) → Q (.int ns.sum t') { s with heap := h', toks := tk }) : wpAny (model prog w) A (call (.builtin "sum") [.ref l]) Q E s := by
  obtain ⟨xs, e⟩ := hi.allInts.items
  have hn : numsOf (intItems xs).toList = ns := by rw [← e]; exact hi.numsOf
  rw [nums_intItems] at hn
  rw [e] at hl
  have hlt : l < s.heap.objs.size := by obtain ⟨o, ho, _⟩ := hl; exact Heap.lt_size ho
  refine call_sum_walkG (wpAny_pyIter_tuple hl ?_)
  refine ⟨s.heap.objs.size, [s.heap.objs.size, l], [s.heap.objs.size], _, _, _, numAt xs, rfl, Walks.tuple (A := A.in1) hh _ l (Nat.ne_of_lt hlt) (intItems xs), ⟨⟨_, Heap.get?_push_size _ rfl, rfl, rfl⟩, Heap.IsTuple.push hl _⟩, fun b hb => ?_, (fun _ _ => intItems_at), fun h' tk t' hk => ?_⟩
  · rw [Heap.size_push]
    rcases List.mem_cons.mp hb with q | hb
    · rw [q]; exact Nat.lt_succ_self _
    · rw [List.mem_singleton.mp hb]; exact Nat.lt_succ_of_lt hlt
  · have := h h' tk t' fun b o e => hk b o (fun q => Nat.lt_irrefl _ (by have h2 := Heap.lt_size e; rwa [List.mem_singleton.mp q] at h2)) (Heap.get?_push_of_some _ e)
    have e2 : preSum (numAt xs) (intItems xs).size = ns.sum := by
      rw [preSum_eq, List.take_of_length_le (by simp [intItems]), hn]
    rw [e2]
    exact this
end
section
variable {X : Cx} {c : Cn} {Mu : Nat → Bool} {Wx : XK} {fr : Bool} {e a b tg : Expr} {es : List Expr} {pos pos' : Pos} {ma mb mc : M Opd} {sts : List Stmt}
theorem passE0 : Passes (L2.CX X.prog X.w) X Mp.E0 := fun _ _ _ _ _ _ _ h => by
  obtain ⟨_, _, _, _, _, _, _, _, _, _, _, _, _, h⟩ := h
def wAddI : W → W → Option W
  | .int i, .int j => some (.int (i + j))
  | _, _ => none
theorem sAddI : Snd2 c Mu false (rI0 fun i j => .int (i + j)) wAddI := sI2 (g := fun i j => i + j) (fun a b w e => by cases a <;> cases b <;> simp only [wAddI] at e <;> first | (cases e; exact ⟨_, _, rfl, rfl, rfl⟩) | cases e)
  fun i j H Q _ q => ⟨i, j, rfl, rfl, q⟩
def mulOkS (i j : Int) : Bool := decide (i.natAbs < 18446744073709551616) || decide (j.natAbs < 18446744073709551616)
def wMulI : W → W → Option W
  | .int i, .int j => if mulOkS i j then some (.int (i * j)) else none
  | _, _ => none
theorem mulOkS_of {i j : Int} (h : mulOkS i j = true) : CMul i j := by
  unfold mulOkS at h
  rw [Bool.or_eq_true] at h
  rcases h with h | h
  · have := of_decide_eq_true h
    refine .inl ?_
    omega
  · have := of_decide_eq_true h
    refine .inr ?_
    omega
theorem sMulI : Snd2 c Mu false (L2.rI CMul fun i j => .int (i * j)) wMulI := sI2 (g := fun i j => i * j) (fun a b w e => by
    cases a <;> cases b <;> simp only [wMulI] at e <;> first | cases e | skip
    split at e <;> cases e
    exact ⟨_, _, rfl, rfl, rfl⟩)
  fun i j H Q ⟨w, e⟩ q => by
    simp only [wMulI] at e
    split at e
    · rename_i h
      exact ⟨i, j, rfl, rfl, mulOkS_of h, q⟩
    · cases e
def rSumA (K : PySem.W.Frag) : List V → Hp → VK → Prop := fun vs H Q => ∃ (a : Addr) (ns : List Int), vs = [V.ref a] ∧ (SqL K H a (ns.map V.int) ∨ SqT K H a (ns.map V.int)) ∧ Q (.int ns.sum) H
theorem cr_sumA (hc : X.calm = true) : CallR X (.builtin "sum") (rSumA X.K) := by
  intro pins s σ H vs us Q I r h
  obtain ⟨a, ns, rfl, hs, q⟩ := h
  rw [Vals.ref1 r]
  rcases hs with hs | hs
  · obtain ⟨its, rv, hl, _⟩ := I.list hs
    exact sum_raw (I.ok.hd hc) hl.isList rv.ints fun h' tk t' hk => ⟨.int _, H, I.kept hk, ⟨_, rfl⟩, q⟩
  · obtain ⟨its, rv, hl, _⟩ := I.tuple hs
    exact sum_rawT (I.ok.hd hc) hl rv.ints fun h' tk t' hk => ⟨.int _, H, I.kept hk, ⟨_, rfl⟩, q⟩
def wSumA (w : W) : Option W := (itemsW w).bind fun ws => (intsW ws).map fun ns => .int ns.sum
theorem sSumA (hK : X.K = c.K := by rfl) : SndA c Mu false (rSumA X.K) (f1 wSumA) := by
  rw [hK]
  refine sA1 fun Z P g ρ G σ H x wx w Q r bx e k => ?_
  unfold wSumA at e
  cases e1 : itemsW wx with
  | none => rw [e1] at e; cases e
  | some ws =>
    rw [e1, Option.bind_some] at e
    cases e2 : intsW ws with
    | none => rw [e2] at e; cases e
    | some ns =>
      rw [e2] at e; cases e
      cases wx <;> simp only [itemsW] at e1 <;> cases e1
      · obtain ⟨a, xs, rfl, _, h1, f1⟩ := bx.tup r.zh
        exact ⟨a, ns, rfl, .inr (by rw [← fz_ints f1 e2]; exact h1), k _ H Z (Le.refl _) r (rV_false (.int _))⟩
      · obtain ⟨a, xs, rfl, h1, f1⟩ := bx.lst r.zh
        exact ⟨a, ns, rfl, .inl (SqL.of (by rw [← fz_ints f1 e2]; exact h1)), k _ H Z (Le.refl _) r (rV_false (.int _))⟩
end
end Mp
set_option Elab.async false
set_option linter.all false
set_option maxRecDepth 100000
set_option maxHeartbeats 2000000
/-! Mp14: list(zip(x, y)) of two tuples: a zip whose last pair is held by others. -/
namespace ZL
open PySem PySem.Spec L2
open PyProof.Rows hiding St
open PySem.Sem (wp)
theorem zip_no_len : typeLookup (.type "zip") "__len__" = pure none := by rw [typeLookup_type, builtinLookup_eq_fast]; kernel_rfl
theorem zip_no_hint : typeLookup (.type "zip") "__length_hint__" = pure none := by rw [typeLookup_type, builtinLookup_eq_fast]; kernel_rfl
abbrev IsZipB (h : Heap) (z TI TO T : Addr) (b : Bool) : Prop := h.get? z = some { cls := .type "zip", data := .fields #[rawInt T, .bool b, .bool false, .ref TI, .ref TO] }
section
variable {prog : Program} {w : World} {A : Around} {E : Value → Shared → Prop} {s : Shared}
theorem wpAny_loadIfAlive {a : Addr} {o : Obj} {Q : Option Obj → Shared → Prop} (h : s.heap.get? a = some o) (q : Q (some o) s) : wpAny (model prog w) A (loadIfAlive a) Q E s := fun Γ p hΓ => by
  unfold loadIfAlive
  rw [Sem.wp_loadIfAlive, h]
  exact q
theorem owned_held {z TI TO T : Addr} {b : Bool} {o : Obj} {Q : Bool → Shared → Prop} (hz : IsZipB s.heap z TI TO T b) (hT : s.heap.get? T = some o)
    (hQ : ∀ h', IsZipB h' z TI TO T true → Heap.SameBut z s.heap h' → Q false { s with heap := h' }) : wpAny (model prog w) A (Builtin.SmallTypes.ownedTupleIsFree (.ref z)) Q E s := by
  unfold Builtin.SmallTypes.ownedTupleIsFree
  refine wpAny_bind (wpAny_field hz rfl (x := rawInt T) rfl ?_)
  show wpAny _ _ (loadIfAlive T >>= _) _ _ _
  refine wpAny_bind (wpAny_loadIfAlive hT ?_)
  show wpAny _ _ (field (.ref z) 1 >>= _) _ _ _
  refine wpAny_bind (wpAny_field hz rfl (x := .bool b) rfl ?_)
  cases b with
  | true => 
    exact wpAny_pure (hQ _ hz (Heap.SameBut.refl _ _))
  | false =>
    refine wpAny_bind (wpAny_setField_rec hz (by simp) fun h₁ hz₁ hs₁ => ?_)
    exact wpAny_pure (hQ h₁ hz₁ hs₁)
theorem busy_item {z TI TO i1 i2 l1 l2 T : Addr} {bt : Bool} {o : Obj} {k1 k2 : Nat} {xs ys : Array Value} {x y : Value} {Q : Value → Shared → Prop} (D : ZipApart z TI TO i1 i2 l1 l2)
    (hz : IsZipB s.heap z TI TO T bt) (hal : s.heap.get? T = some o) (hTI : IsPair s.heap TI (.ref i1) (.ref i2))
    (h1 : s.heap.IsTupleIter i1 l1 k1) (h2 : s.heap.IsTupleIter i2 l2 k2) (hl1 : s.heap.IsTuple l1 xs) (hl2 : s.heap.IsTuple l2 ys) (hx : xs[k1]? = some x) (hy : ys[k2]? = some y)
    (hQ : ∀ h', IsZipB h' z TI TO T true → h'.IsTupleIter i1 l1 (k1 + 1) → h'.IsTupleIter i2 l2 (k2 + 1) → IsPair h' s.heap.objs.size x y → h'.objs.size = s.heap.objs.size + 1 →
      (∀ c o, c ≠ z → c ≠ i1 → c ≠ i2 → s.heap.get? c = some o → h'.get? c = some o) → Q (.ref s.heap.objs.size) { s with heap := h' }) :
    wpAny (model prog w) A (Builtin.«zip.__next__» ⟨[.ref z], []⟩) (fun fin s' => ∃ v, fin = .done (.ret v) ∧ Q v s') E s := by
  show wpAny _ _ (field (.ref z) 2 >>= _) _ _ _
  refine wpAny_bind (wpAny_field hz rfl (x := .bool false) rfl ?_)
  show wpAny _ _ (field (.ref z) 3 >>= _) _ _ _
  refine wpAny_bind (wpAny_field hz rfl (x := .ref TI) rfl ?_)
  refine wpAny_bind (wpAny_seqItems hTI rfl ?_)
  show wpAny _ _ (Builtin.SmallTypes.ownedTupleIsFree (.ref z) >>= _) _ _ _
  refine wpAny_bind (owned_held hz hal fun h₁ hz₁ hs₁ => ?_)
  simp only [Bool.false_eq_true, if_false]
  refine wpAny_bind ?_
  rw [← Array.forIn_toList]
  simp only [List.forIn_cons, List.forIn_nil]
  refine wpAny_bind (wpAny_bind (wpAny_holding ?_))
  show wpAny _ _ (Builtin.SmallTypes.nextOf (.ref i1) >>= _) _ _ _
  refine wpAny_bind (RZ.nextOf_tuple_item (h1.extBut hs₁.extBut D.i1z) (hl1.extBut hs₁.extBut D.l1z) hx fun h₂ h1₂ hs₂ => wpAny_pure ?_)
  refine wpAny_pure ?_
  refine wpAny_bind (wpAny_bind (wpAny_holding ?_))
  show wpAny _ _ (Builtin.SmallTypes.nextOf (.ref i2) >>= _) _ _ _
  refine wpAny_bind (RZ.nextOf_tuple_item ((h2.extBut hs₁.extBut D.i2z).extBut hs₂.extBut D.i12.symm) ((hl2.extBut hs₁.extBut D.l2z).extBut hs₂.extBut D.l2i1) hy fun h₃ h2₃ hs₃ => wpAny_pure ?_)
  refine wpAny_pure (wpAny_pure ?_)
  refine wpAny_bind (wpAny_newTuple ?_ (by show 2 ≤ sizeLine; decide))
  have hsz : h₃.objs.size = s.heap.objs.size := by rw [hs₃.1, hs₂.1, hs₁.1]
  have hk : ∀ c o, c ≠ z → c ≠ i1 → c ≠ i2 → s.heap.get? c = some o → (h₃.push { cls := .type "tuple", data := .seq #[x, y] }).get? c = some o := fun c o c1 c3 c4 e =>
    Heap.get?_push_of_some _ (hs₃.extBut _ _ c4 (hs₂.extBut _ _ c3 (hs₁.extBut _ _ c1 e)))
  have hz₃ : IsZipB h₃ z TI TO T true := hs₃.extBut _ _ D.i2z.symm (hs₂.extBut _ _ D.i1z.symm hz₁)
  have h1₃ : h₃.IsTupleIter i1 l1 (k1 + 1) := h1₂.extBut hs₃.extBut D.i12
  have z8 : (h₃.push { cls := .type "tuple", data := .seq #[x, y] }).objs.size = s.heap.objs.size + 1 := by rw [Heap.size_push, hsz]
  have hT8 : (h₃.push { cls := .type "tuple", data := .seq #[x, y] }).get? s.heap.objs.size = some { cls := .type "tuple", data := .seq #[x, y] } := by rw [← hsz]; exact Heap.get?_push_size _ rfl
  refine wpAny_pure ⟨_, rfl, ?_⟩
  show Q (.ref h₃.objs.size) _
  rw [hsz]
  exact hQ _ (Heap.get?_push_of_some _ hz₃) (h1₃.at fun o e => Heap.get?_push_of_some _ e) (h2₃.at fun o e => Heap.get?_push_of_some _ e) hT8 z8 hk
theorem busy_end {z TI TO i1 i2 l1 l2 T : Addr} {bt : Bool} {o : Obj} {k1 k2 : Nat} {xs ys : Array Value} {Q : Fin → Shared → Prop} (hh : A.handled = none) (D : ZipApart z TI TO i1 i2 l1 l2)
    (hz : IsZipB s.heap z TI TO T bt) (hal : s.heap.get? T = some o) (hTI : IsPair s.heap TI (.ref i1) (.ref i2))
    (h1 : s.heap.IsTupleIter i1 l1 k1) (h2 : s.heap.IsTupleIter i2 l2 k2) (hl1 : s.heap.IsTuple l1 xs) (hl2 : s.heap.IsTuple l2 ys) (hend : xs[k1]? = none ∨ ys[k2]? = none)
    (hE : ∀ h' e, (∀ c o, c ≠ z → c ≠ i1 → c ≠ i2 → s.heap.get? c = some o → h'.get? c = some o) → (∃ o, h'.get? e = some o ∧ o.cls = .type "StopIteration") → E (.ref e) { s with heap := h' }) :
    wpAny (model prog w) A (Builtin.«zip.__next__» ⟨[.ref z], []⟩) Q E s := by
  show wpAny _ _ (field (.ref z) 2 >>= _) _ _ _
  refine wpAny_bind (wpAny_field hz rfl (x := .bool false) rfl ?_)
  show wpAny _ _ (field (.ref z) 3 >>= _) _ _ _
  refine wpAny_bind (wpAny_field hz rfl (x := .ref TI) rfl ?_)
  refine wpAny_bind (wpAny_seqItems hTI rfl ?_)
  show wpAny _ _ (Builtin.SmallTypes.ownedTupleIsFree (.ref z) >>= _) _ _ _
  refine wpAny_bind (owned_held hz hal fun h₁ hz₁ hs₁ => ?_)
  simp only [Bool.false_eq_true, if_false]
  refine wpAny_bind ?_
  rw [← Array.forIn_toList]
  simp only [List.forIn_cons, List.forIn_nil]
  refine wpAny_bind (wpAny_bind (wpAny_holding ?_))
  show wpAny _ _ (Builtin.SmallTypes.nextOf (.ref i1) >>= _) _ _ _
  cases hx : xs[k1]? with
  | none =>
    exact wpAny_bind (RZ.nextOf_tuple_end hh (h1.extBut hs₁.extBut D.i1z) (hl1.extBut hs₁.extBut D.l1z) hx fun h₂ e hs₂ he => hE h₂ e (fun c o c1 c3 _ x => hs₂ _ _ c3 (hs₁.extBut _ _ c1 x)) he)
  | some x =>
    have hy : ys[k2]? = none := by rcases hend with h | h; rw [hx] at h; cases h; exact h
    refine wpAny_bind (RZ.nextOf_tuple_item (h1.extBut hs₁.extBut D.i1z) (hl1.extBut hs₁.extBut D.l1z) hx fun h₂ h1₂ hs₂ => wpAny_pure ?_)
    refine wpAny_pure ?_
    refine wpAny_bind (wpAny_bind (wpAny_holding ?_))
    show wpAny _ _ (Builtin.SmallTypes.nextOf (.ref i2) >>= _) _ _ _
    exact wpAny_bind (RZ.nextOf_tuple_end hh ((h2.extBut hs₁.extBut D.i2z).extBut hs₂.extBut D.i12.symm) ((hl2.extBut hs₁.extBut D.l2z).extBut hs₂.extBut D.l2i1) hy fun h₃ e hs₃ he =>
      hE h₃ e (fun c o c1 c3 c4 x => hs₃ _ _ c4 (hs₂.extBut _ _ c3 (hs₁.extBut _ _ c1 x))) he)
/-! ### a turn of the zip, the first and the later ones alike -/
/-- the zip stands at i; the last pair handed out is at T (none at the beginning) -/
def ZSt (z TI TO i1 i2 l1 l2 : Addr) (xs ys : Array Value) (i : Nat) (h : Heap) : Prop :=
  (IsZip h z TI TO .none ∨ ∃ T b o, IsZipB h z TI TO T b ∧ h.get? T = some o) ∧ IsPair h TI (.ref i1) (.ref i2) ∧ (∃ a b, IsPair h TO a b) ∧ h.IsTupleIter i1 l1 i ∧ h.IsTupleIter i2 l2 i ∧ h.IsTuple l1 xs ∧ h.IsTuple l2 ys
theorem zip_item {z TI TO i1 i2 l1 l2 : Addr} {i : Nat} {xs ys : Array Value} {x y : Value} {Q : Option Value → Shared → Prop} (D : ZipApart z TI TO i1 i2 l1 l2) (st : ZSt z TI TO i1 i2 l1 l2 xs ys i s.heap) (hx : xs[i]? = some x) (hy : ys[i]? = some y)
    (hQ : ∀ h', ZSt z TI TO i1 i2 l1 l2 xs ys (i + 1) h' → IsPair h' s.heap.objs.size x y → h'.objs.size = s.heap.objs.size + 1 → (∀ c o, c ∉ [z, TI, TO, i1, i2] → s.heap.get? c = some o → h'.get? c = some o) → Q (some (.ref s.heap.objs.size)) { s with heap := h' }) :
    wpAny (model prog w) A (pyNext (.ref z)) Q E s := by
  obtain ⟨hz, hTI, ⟨a, b, hTO⟩, h1, h2, hl1, hl2⟩ := st
  have mem : ∀ {c : Addr}, c ∉ [z, TI, TO, i1, i2] → c ≠ z ∧ c ≠ TI ∧ c ≠ TO ∧ c ≠ i1 ∧ c ≠ i2 := fun h => by simpa using h
  rcases hz with hz | ⟨T, bt, o, hz, hal⟩
  · refine RZ.pyNext_zipT_item D hz hTI hTO h1 h2 hl1 hl2 hx hy fun h' z' TO' h1' h2' hT hsz hk => ?_
    refine hQ h' ⟨.inr ⟨_, false, _, z', hT⟩, hk _ _ D.TIz D.TITO D.TIi1 D.TIi2 hTI, ⟨_, _, TO'⟩, h1', h2', hl1.at fun o e => hk _ o D.l1z D.l1TO D.l1i1 D.l1i2 e, hl2.at fun o e => hk _ o D.l2z D.l2TO D.l2i1 D.l2i2 e⟩ hT hsz fun c o hc e => ?_
    obtain ⟨c1, c2, c3, c4, c5⟩ := mem hc
    exact hk c o c1 c3 c4 c5 e
  · have hTy : s.TypeIs (.ref z) "zip" := ⟨_, hz, rfl⟩
    have nTz : T ≠ z ∨ T = z := by by_cases h : T = z; exact .inr h; exact .inl h
    unfold pyNext
    refine wpAny_bind (wpAny_attempt (wpAny_callSpecial?_slot (name := Str.ofString "__next__") hTy F.slot_zip_next
      (wpAny_call_entry F.slot_zip_next hTy F.entry_zip_next (busy_item D hz hal hTI h1 h2 hl1 hl2 hx hy fun h' z' h1' h2' hT hsz hk => wpAny_pure ?_) (F.args_zip_next_1 _))))
    have hal' : ∃ o', h'.get? T = some o' := by
      by_cases e1 : T = z
      · rw [e1]; exact ⟨_, z'⟩
      · by_cases e2 : T = i1
        · rw [e2]; obtain ⟨o, e, _⟩ := h1'; exact ⟨o, e⟩
        · by_cases e3 : T = i2
          · rw [e3]; obtain ⟨o, e, _⟩ := h2'; exact ⟨o, e⟩
          · exact ⟨o, hk T o e1 e2 e3 hal⟩
    obtain ⟨o', hal'⟩ := hal'
    refine hQ h' ⟨.inr ⟨T, true, o', z', hal'⟩, hk _ _ D.TIz D.TIi1 D.TIi2 hTI, ⟨a, b, hk _ _ D.TOz D.TOi1 D.TOi2 hTO⟩, h1', h2', hl1.at fun o e => hk _ o D.l1z D.l1i1 D.l1i2 e, hl2.at fun o e => hk _ o D.l2z D.l2i1 D.l2i2 e⟩ hT hsz fun c o hc e => ?_
    obtain ⟨c1, c2, c3, c4, c5⟩ := mem hc
    exact hk c o c1 c4 c5 e
theorem zip_end {z TI TO i1 i2 l1 l2 : Addr} {i : Nat} {xs ys : Array Value} {Q : Option Value → Shared → Prop} (hh : A.handled = none) (D : ZipApart z TI TO i1 i2 l1 l2) (st : ZSt z TI TO i1 i2 l1 l2 xs ys i s.heap) (hend : xs[i]? = none ∨ ys[i]? = none)
    (hQ : ∀ h', (∀ c o, c ∉ [z, TI, TO, i1, i2] → s.heap.get? c = some o → h'.get? c = some o) → Q none { s with heap := h' }) : wpAny (model prog w) A (pyNext (.ref z)) Q E s := by
  obtain ⟨hz, hTI, ⟨a, b, hTO⟩, h1, h2, hl1, hl2⟩ := st
  have mem : ∀ {c : Addr}, c ∉ [z, TI, TO, i1, i2] → c ≠ z ∧ c ≠ TI ∧ c ≠ TO ∧ c ≠ i1 ∧ c ≠ i2 := fun h => by simpa using h
  rcases hz with hz | ⟨T, bt, o, hz, hal⟩
  · exact RZ.pyNext_zipT_end hh D hz hTI hTO h1 h2 hl1 hl2 hend fun h' hk => hQ h' fun c o hc e => by
      obtain ⟨c1, c2, c3, c4, c5⟩ := mem hc
      exact hk c o c1 c3 c4 c5 e
  · have hTy : s.TypeIs (.ref z) "zip" := ⟨_, hz, rfl⟩
    unfold pyNext
    refine wpAny_bind (wpAny_attempt (wpAny_callSpecial?_slot (name := Str.ofString "__next__") hTy F.slot_zip_next
      (wpAny_call_entry F.slot_zip_next hTy F.entry_zip_next (busy_end hh D hz hal hTI h1 h2 hl1 hl2 hend fun h' e hk he => ?_) (F.args_zip_next_1 _))))
    obtain ⟨o, ho, hc⟩ := he
    refine wpAny_bind (wpAny_isInstance (T := "StopIteration") (b := true) ⟨o, ho, hc⟩ isSubtype_stop ?_)
    exact wpAny_pure (hQ _ fun c o hc e => by
      obtain ⟨c1, c2, c3, c4, c5⟩ := mem hc
      exact hk c o c1 c4 c5 e)
end
/-! ### the list of the pairs -/
def ZipRd (S : Addr) (Q : VK) : List (V × V) → List V → Hp → Prop
  | [], _, H => Q (.ref S) H
  | (x, y) :: r, acc, H => ∀ T, H T = none → ZipRd S Q r (acc ++ [.ref T]) (upd (upd H T (.tup [x, y])) S (.lst (acc ++ [.ref T])))
section
variable {X : Cx} {pins : List (Addr × Obj)} {σ : St} {Q : VK} {R : Result → Shared → Prop} {A : Around} {z TI TO i1 i2 l1 l2 S : Addr} {xs ys : List V} {us vs : List Value} {res : Value}
theorem zst_off {i : Nat} {h h' : Heap} {ob : Obj} {a b : Array Value} (st : ZSt z TI TO i1 i2 l1 l2 a b i h) (hS : S ∉ [z, TI, TO, i1, i2]) (hT : ∀ T bt o, IsZipB h z TI TO T bt → h.get? T = some o → ∃ o', h'.get? T = some o') (hl : h.get? S = some ob) (hc : ob.cls = .type "list") (k : ∀ c o, c ≠ S → h.get? c = some o → h'.get? c = some o) : ZSt z TI TO i1 i2 l1 l2 a b i h' := by
  obtain ⟨hz, hTI, ⟨x, y, hTO⟩, h1, h2, q1, q2⟩ := st
  have mem : z ≠ S ∧ TI ≠ S ∧ TO ≠ S ∧ i1 ≠ S ∧ i2 ≠ S := by
    simp only [List.mem_cons, List.not_mem_nil, or_false, not_or] at hS
    exact ⟨fun e => hS.1 e.symm, fun e => hS.2.1 e.symm, fun e => hS.2.2.1 e.symm, fun e => hS.2.2.2.1 e.symm, fun e => hS.2.2.2.2 e.symm⟩
  have ne : ∀ {l : Addr} {w : Array Value}, h.IsTuple l w → l ≠ S := fun {l w} q e => by
    obtain ⟨o, ho, hc', _⟩ := q
    rw [e, hl] at ho
    cases ho
    rw [hc] at hc'
    exact absurd (Value.type.inj hc') (by decide)
  refine ⟨?_, k _ _ mem.2.1 hTI, ⟨x, y, k _ _ mem.2.2.1 hTO⟩, h1.at fun o e => k _ o mem.2.2.2.1 e, h2.at fun o e => k _ o mem.2.2.2.2 e, q1.at fun o e => k _ o (ne q1) e, q2.at fun o e => k _ o (ne q2) e⟩
  rcases hz with hz | ⟨T, bt, o, hz, hal⟩
  · exact .inl (k _ _ mem.1 hz)
  · obtain ⟨o', e⟩ := hT T bt o hz hal
    exact .inr ⟨T, bt, o', k _ _ mem.1 hz, e⟩
theorem zip_loop (hh : A.handled = none) (D : ZipApart z TI TO i1 i2 l1 l2) (rv1 : Vals xs us) (rv2 : Vals ys vs) (hS : S ∉ [z, TI, TO, i1, i2]) (hn : (xs.zip ys).length ≤ sizeLine) (fin : ∀ H' s', Inv X pins σ H' s' → Q (.ref S) H' → R (.ok (.ret res)) s') :
    ∀ (ps : List (V × V)) (i : Nat) (s : Shared) (H : Hp) (acc : List V), ps = (xs.zip ys).drop i → i ≤ (xs.zip ys).length → Inv X pins σ H s → ZSt z TI TO i1 i2 l1 l2 us.toArray vs.toArray i s.heap → H S = some (.lst acc) → acc.length = i →
      (∀ b ∈ [z, TI, TO, i1, i2], FpOk X pins H b) → ZipRd S Q ps acc H → codeAny (model X.prog X.w) A (.builtin "list.extend.loop" ⟨[.ref S, .ref z, res], []⟩) R s := by
  have lx := rv1.length
  have ly := rv2.length
  have hlen : (xs.zip ys).length = min xs.length ys.length := List.length_zip
  intro ps
  induction ps with
  | nil =>
    intro i s H acc hp hi I st hH ha hf hq
    have hin : (xs.zip ys).length ≤ i := by
      have := congrArg List.length hp
      rw [List.length_drop] at this
      simp at this
      omega
    refine codeAny_builtin F.entry_extend_loop ?_
    rw [Around.under_plainId F.plain_extend_loop _]
    show wpAny _ A.in1 (pyNext (.ref z) >>= _) _ _ s
    have he : us.toArray[i]? = none ∨ vs.toArray[i]? = none := by
      by_cases h : xs.length ≤ i
      · exact .inl (by simp; omega)
      · exact .inr (by simp; omega)
    refine wpAny_bind (zip_end (A := A.in1) hh D st he fun h' hk => ?_)
    exact wpAny_pure (fin H _ (I.turnedL (t' := s.toks) (ch := [z, TI, TO, i1, i2]) hk hf) hq)
  | cons p ps ih =>
    intro i s H acc hp hi I st hH ha hf hq
    obtain ⟨x, y⟩ := p
    have hlt : i < (xs.zip ys).length := by
      have := congrArg List.length hp
      rw [List.length_drop, List.length_cons] at this
      omega
    have hg : (xs.zip ys)[i]? = some (x, y) := by
      have := List.getElem?_drop (xs := xs.zip ys) (i := i) (j := 0)
      rw [← hp] at this
      simpa using this.symm
    obtain ⟨hx, hy⟩ := List.getElem?_zip_eq_some.mp hg
    obtain ⟨u, hu, ru⟩ := rv1.get hx
    obtain ⟨v, hv, rw'⟩ := rv2.get hy
    refine codeAny_builtin F.entry_extend_loop ?_
    rw [Around.under_plainId F.plain_extend_loop _]
    show wpAny _ A.in1 (pyNext (.ref z) >>= _) _ _ s
    refine wpAny_bind (zip_item (A := A.in1) D st (x := u) (y := v) (by simpa using hu) (by simpa using hv) fun h' st' hT hsz hk => ?_)
    have new : ObjOk X.prog X.w (upd H s.heap.objs.size (.tup [x, y])) h' s.heap.objs.size (.tup [x, y]) :=
      ⟨by show 2 ≤ sizeLine; decide, [u, v], .cons ru (.cons rw' .nil), ⟨_, hT, rfl, _, rfl⟩⟩
    have fr := I.hok.fresh (Nat.le_refl s.heap.objs.size)
    have I1 : Inv X pins σ (upd H s.heap.objs.size (.tup [x, y])) { s with heap := h' } := I.turnedNew (t' := s.toks) (ch := [z, TI, TO, i1, i2]) hk hf (Nat.le_refl _) new
    have nS : S ≠ s.heap.objs.size := ne_of_none hH fr
    have hH1 : (upd H s.heap.objs.size (.tup [x, y])) S = some (.lst acc) := by rw [upd_ne nS]; exact hH
    obtain ⟨zl, its, n, rv, hl, e⟩ := I1.lstM hH1
    show wpAny _ A.in1 (updateSeq S (·.push (.ref s.heap.objs.size)) >>= _) _ _ _
    refine wpAny_bind ?_
    have I2 : Inv X pins σ _ { s with heap := h'.update S (Obj.mapSeq (·.push (.ref s.heap.objs.size))) } := I1.lset (t' := s.toks) (its' := its ++ [.ref s.heap.objs.size]) (ys := acc ++ [.ref s.heap.objs.size]) (f := (·.push (.ref s.heap.objs.size))) hH1 e (by simp) (rv.append (.cons (show RelV (.ref s.heap.objs.size) (.ref s.heap.objs.size) from rfl) .nil)) (by rw [List.length_append, List.length_singleton]; omega)
    have st2 : ZSt z TI TO i1 i2 l1 l2 us.toArray vs.toArray (i + 1) (h'.update S (Obj.mapSeq (·.push (.ref s.heap.objs.size)))) := zst_off st' hS (fun T bt o hz hal => by
        by_cases hTS : T = S
        · rw [hTS]; exact ⟨_, Heap.get?_update_self _ e rfl⟩
        · exact ⟨o, (Heap.get?_update_other _ _ (Ne.symm hTS)).trans hal⟩) e rfl fun c o hc q => (Heap.get?_update_other _ _ (Ne.symm hc)).trans q
    have hq2 := hq s.heap.objs.size fr
    refine wpAny_updateSeq e rfl (wpAny_pure ⟨plainId_quiet F.plain_extend_loop _, ih (i + 1) _ _ (acc ++ [.ref s.heap.objs.size]) (by rw [← List.tail_drop, ← hp]; rfl) hlt I2 st2 upd_same (by rw [List.length_append, List.length_singleton, ha]) (fun b hb => ?_) hq2⟩) ?_ ?_
    · have hb0 := hf b hb
      refine ⟨?_, hb0.2⟩
      have hbS : b ≠ S := fun e => hS (e ▸ hb)
      have hbT : b ≠ s.heap.objs.size := by
        obtain ⟨hz, hTI, ⟨x, y, hTO⟩, ⟨o1, h1, _⟩, ⟨o2, h2, _⟩, _⟩ := st
        have hzl : z < s.heap.objs.size := by
          rcases hz with hz | ⟨_, _, _, hz, _⟩ <;> exact Heap.lt_size hz
        have e' : b = z ∨ b = TI ∨ b = TO ∨ b = i1 ∨ b = i2 := by simpa using hb
        refine Nat.ne_of_lt ?_
        rcases e' with q | q | q | q | q
        · rw [q]; exact hzl
        · rw [q]; exact Heap.lt_size hTI
        · rw [q]; exact Heap.lt_size hTO
        · rw [q]; exact Heap.lt_size h1
        · rw [q]; exact Heap.lt_size h2
      rw [upd_ne hbS, upd_ne hbT]
      exact hb0.1
    · show its.toArray.size ≤ _
      rw [List.size_toArray]; omega
    · show (its.toArray.push _).size ≤ _
      rw [Array.size_push, List.size_toArray]; omega
/-- what list(zip) begins with: the new list at S -/
theorem zip_init (hh : A.handled = none) {s : Shared} {H : Hp} (D : ZipApart z TI TO i1 i2 l1 l2) (rv1 : Vals xs us) (rv2 : Vals ys vs) (hn : (xs.zip ys).length ≤ sizeLine) (I : Inv X pins σ H s) (st : ZSt z TI TO i1 i2 l1 l2 us.toArray vs.toArray 0 s.heap)
    (hS : s.heap.get? S = some { cls := .type "list", data := .seq #[] }) (hHS : H S = some (.lst [])) (hf : ∀ b ∈ [z, TI, TO, i1, i2], FpOk X pins H b) (hSz : S ∉ [z, TI, TO, i1, i2]) (hz0 : IsZip s.heap z TI TO .none)
    (q : ZipRd S Q (xs.zip ys) [] H) (fin : ∀ H' s', Inv X pins σ H' s' → Q (.ref S) H' → R (.ok (.ret .none)) s') :
    wpAny (model X.prog X.w) A.in1 (Builtin.«list.__init__» ⟨[.ref S, .ref z], []⟩)
      (fun fin s' => match fin with | .done f => R (.ok f) s' | .again c' => c'.quiet = true ∧ codeAny (model X.prog X.w) A c' R s') (fun e s' => R (.error e) s') s := by
  have hSne : S ≠ z := fun e => hSz (by simp [e])
  have hzT : s.TypeIs (.ref z) "zip" := by
    rcases st.1 with hz | ⟨_, _, _, hz, _⟩ <;> exact ⟨_, hz, rfl⟩
  have step : ∀ {s1 : Shared} {H1 : Hp} {acc : List V} {its its' : List Value} {acc' : List V} {n : Nat} (f : Array Value → Array Value), Inv X pins σ H1 s1 → ZSt z TI TO i1 i2 l1 l2 us.toArray vs.toArray 0 s1.heap → H1 S = some (.lst acc) →
      s1.heap.get? S = some { cls := .type "list", data := .seq its.toArray n } → f its.toArray = its'.toArray → Vals acc' its' → acc'.length ≤ sizeLine →
      Inv X pins σ (upd H1 S (.lst acc')) { s1 with heap := s1.heap.update S (Obj.mapSeq f) } ∧ ZSt z TI TO i1 i2 l1 l2 us.toArray vs.toArray 0 (s1.heap.update S (Obj.mapSeq f)) ∧
        ∃ n', (s1.heap.update S (Obj.mapSeq f)).get? S = some { cls := .type "list", data := .seq its'.toArray n' } := fun {s1 H1 acc its its' acc' n} f I1 st1 h1 e1 e2 rv hz =>
    ⟨I1.lset (t' := s1.toks) h1 e1 e2 rv hz, zst_off st1 hSz (fun T bt o hz hal => by
        by_cases hTS : T = S
        · rw [hTS]; exact ⟨_, Heap.get?_update_self _ e1 rfl⟩
        · exact ⟨o, (Heap.get?_update_other _ _ (Ne.symm hTS)).trans hal⟩) e1 rfl fun c o hc q => (Heap.get?_update_other _ _ (Ne.symm hc)).trans q, by
      have q := PySem.IsL.update e1 f
      rw [e2] at q
      exact ⟨_, q⟩⟩
  show wpAny _ _ (do let old ← Builtin.List.listItems (.ref S); Builtin.List.listUpdate (.ref S) (fun _ => #[]); letGo old.toList.reverse; Builtin.List.listExtendWith (.ref S) (.ref z) .none) _ _ s
  refine wpAny_bind ?_
  unfold Builtin.List.listItems
  refine wpAny_bind (wpAny_seqItems hS rfl (wpAny_pure ?_))
  show wpAny _ A.in1 (updateSeq S (fun _ => #[]) >>= fun _ => letGo (#[] : Array Value).toList.reverse >>= fun _ => Builtin.List.listExtendWith (.ref S) (.ref z) .none) _ _ s
  refine wpAny_bind (wpAny_updateSeq hS rfl ?_)
  obtain ⟨I1, st1, n1, e1⟩ := step (its := []) (its' := []) (acc' := []) (fun _ => (#[] : Array Value)) I st hHS hS rfl .nil (Nat.zero_le _)
  refine wpAny_bind (wpAny_letGo ?_)
  unfold Builtin.List.listExtendWith
  have hzT1 : ({ s with heap := s.heap.update S (Obj.mapSeq (fun _ => (#[] : Array Value))) } : Shared).TypeIs (.ref z) "zip" := by
    rcases st1.1 with hz | ⟨_, _, _, hz, _⟩ <;> exact ⟨_, hz, rfl⟩
  refine wpAny_bind (wpAny_typeOf hzT1 ?_)
  have h1 : Builtin.List.listSameRef (.ref S) (.ref z) = false := by simp [Builtin.List.listSameRef, hSne]
  have h2 : (Value.type "zip" == Value.type "list") = false := by decide
  have h3 : (Value.type "zip" == Value.type "tuple") = false := by decide
  simp only [h1, h2, h3, Bool.or_false, Bool.false_eq_true, if_false]
  have iter : ∀ {Q1 : Value → Shared → Prop} {E1 : Value → Shared → Prop}, Q1 (.ref z) { s with heap := s.heap.update S (Obj.mapSeq (fun _ => (#[] : Array Value))) } → wpAny (model X.prog X.w) A.in1 (pyIter (.ref z)) Q1 E1 { s with heap := s.heap.update S (Obj.mapSeq (fun _ => (#[] : Array Value))) } := fun h =>
    wpAny_pyIter_zip (show IsZip (s.heap.update S (Obj.mapSeq (fun _ => (#[] : Array Value)))) z TI TO .none from (Heap.get?_update_other _ _ hSne).trans hz0) h
  refine wpAny_bind (iter ?_)
  refine wpAny_bind (wpAny_holding ?_)
  unfold Builtin.List.listLengthHint
  refine wpAny_bind (wpAny_specialOf hzT1 zip_no_len ?_)
  show wpAny _ A.in1 (specialOf (Value.ref z) (Str.ofString "__length_hint__") >>= _) _ _ _
  refine wpAny_bind (wpAny_specialOf hzT1 zip_no_hint ?_)
  refine wpAny_pure ?_
  show wpAny _ A.in1 (rule "list.extend.makes-room" >>= fun _ => Builtin.List.listTouch (.ref S) >>= fun _ =>
    again (.builtin "list.extend.loop" ⟨[.ref S, .ref z, .none], []⟩)) _ _ _
  refine wpAny_bind (wpAny_rule ?_)
  refine wpAny_bind ?_
  show wpAny _ A.in1 (updateSeq S (·.push .none) >>= fun _ => updateSeq S (·.pop)) _ _ _
  refine wpAny_bind (wpAny_updateSeq e1 rfl ?_)
  obtain ⟨I2, st2, n2, e2⟩ := step (its := []) (its' := [.none]) (acc' := [.non]) (·.push .none) I1 st1 upd_same e1 rfl (.cons (show RelV .non .none from rfl) .nil) (by show 1 ≤ sizeLine; decide)
  refine wpAny_updateSeq (hz := by seq_fits) e2 rfl ?_
  obtain ⟨I3, st3, n3, e3⟩ := step (its := [.none]) (its' := []) (acc' := []) (·.pop) I2 st2 upd_same e2 rfl .nil (Nat.zero_le _)
  have eqH : (upd (upd (upd H S (.lst [])) S (.lst [.non])) S (.lst [])) = H := funext fun b => by
    by_cases hb : b = S
    · subst hb; rw [upd_same, hHS]
    · rw [upd_ne hb, upd_ne hb, upd_ne hb]
  refine wpAny_pure ⟨plainId_quiet F.plain_extend_loop _, zip_loop hh D rv1 rv2 hSz hn fin (xs.zip ys) 0 _ _ [] (by simp) (Nat.zero_le _) I3 st3 upd_same rfl (fun b hb => ⟨by rw [eqH]; exact (hf b hb).1, (hf b hb).2⟩) (by rw [eqH]; exact q)⟩
def tListZip (K : PySem.W.Frag) (ta : TA) : TE := fun σ H Q => ta σ H fun vs H1 => ∃ a b xs ys, vs = [.ref a, .ref b] ∧ SqT K H1 a xs ∧ SqT K H1 b ys ∧ (xs.zip ys).length ≤ sizeLine ∧ ∀ S, H1 S = none → ZipRd S Q (xs.zip ys) [] (upd H1 S (.lst []))
theorem pe_listZip {e e2 : Expr} {ta : TA} {p p2 pz pos : Pos} (hc : X.calm = true) (hgl : Gl X "list") (hml : X.mg "list" = none) (hg : Gl X "zip") (hm : X.mg "zip" = none) (ha : PA X [e, e2] ta)
    (hs : starEach [e, e2] X.env = (false, eval e X.env) :: starEach [e2] X.env := by rfl) (hpl : (backTo pz (starEach [e2] X.env)).any (·.1) = false := by rfl)
    (na : starEach [Expr.Call (.Name "zip" p2) [e, e2] [] pz] X.env = (false, eval (Expr.Call (.Name "zip" p2) [e, e2] [] pz) X.env) :: starEach [] X.env := by rfl) :
    PE X (.Call (.Name "list" p) [.Call (.Name "zip" p2) [e, e2] [] pz] [] pos) (tListZip X.K ta) := by
  refine ⟨fun pins s σ H Q I h => ?_⟩
  refine Call_ (ld_blt I hgl hml Mp.bt_list (PyProof.Rows.callWith_type1 (args_cons (Call_ (ld_blt I hg hm PyProof.Rows.boot_zip (PyProof.Rows.callWith_type1 (thn (ha.run pz pins s σ H _ I h) fun us s1 ⟨vs, H1, I1, r1, q1⟩ => ?_) hs hpl))) na) na))
  obtain ⟨a, b, xs, ys, ex, hqx, hqy, hn, q⟩ := q1
  subst ex
  cases r1 with
  | cons r rr =>
    cases rr with
    | cons r' rr =>
      cases rr
      cases r
      cases r'
      obtain ⟨its, rv, p1, _⟩ := I1.tuple hqx
      obtain ⟨its2, rv2, p2, _⟩ := I1.tuple hqy
      obtain ⟨o1, ho1, _⟩ := id p1
      obtain ⟨o2, ho2, _⟩ := id p2
      refine RZ.call_zipT (show s1.heap.IsTuple a its.toArray from p1) (show s1.heap.IsTuple b its2.toArray from p2) fun h' hz hTI hTO h1 h2 hsz hk => ?_
      have I2 : Inv X pins σ H1 { s1 with heap := h' } := I1.kept (t' := s1.toks) hk
      have D := PySem.W.ktu_apart s1.heap.objs.size a b (Heap.lt_size ho1) (Heap.lt_size ho2)
      have st : ZSt (s1.heap.objs.size + 4) (s1.heap.objs.size + 2) (s1.heap.objs.size + 3) s1.heap.objs.size (s1.heap.objs.size + 1) a b its.toArray its2.toArray 0 h' :=
        ⟨.inl hz, hTI, ⟨_, _, hTO⟩, h1, h2, Heap.IsTuple.at p1 (fun o e => hk _ o e), Heap.IsTuple.at p2 (fun o e => hk _ o e)⟩
      refine args_nil ?_
      have hbig : ∀ b ∈ [s1.heap.objs.size + 4, s1.heap.objs.size + 2, s1.heap.objs.size + 3, s1.heap.objs.size, s1.heap.objs.size + 1], s1.heap.objs.size ≤ b ∧ b < s1.heap.objs.size + 5 := fun b hb => by
        have e' : b = s1.heap.objs.size + 4 ∨ b = s1.heap.objs.size + 2 ∨ b = s1.heap.objs.size + 3 ∨ b = s1.heap.objs.size ∨ b = s1.heap.objs.size + 1 := by simpa using hb
        omega
      have fp : ∀ b ∈ [s1.heap.objs.size + 4, s1.heap.objs.size + 2, s1.heap.objs.size + 3, s1.heap.objs.size, s1.heap.objs.size + 1], FpOk X pins H1 b := fun b hb => I1.fpOk (hbig b hb).1 (I1.hok.fresh (hbig b hb).1)
      refine callType_codes (Q₁ := fun obj s₂ => obj = .ref h'.objs.size ∧ s₂ = { s1 with heap := h'.push { cls := .type "list", data := .seq #[] } }) F.called_list (F.typeCall_list_1 _) F.entry_list_init
        (code_list_new _ ⟨rfl, rfl⟩) fun obj s₂ h₂ => ?_
      obtain ⟨rfl, rfl⟩ := h₂
      have hS : (h'.push { cls := .type "list", data := .seq #[] }).get? h'.objs.size = some { cls := .type "list", data := .seq #[] } := Heap.get?_push_size _ rfl
      have I3 : Inv X pins σ (upd H1 h'.objs.size (.lst [])) { s1 with heap := h'.push { cls := .type "list", data := .seq #[] } } := I2.lnew (its := []) (t' := s1.toks) .nil (Nat.zero_le _)
      have hSn : H1 h'.objs.size = none := I2.hok.fresh (Nat.le_refl _)
      have nSz : h'.objs.size ∉ [s1.heap.objs.size + 4, s1.heap.objs.size + 2, s1.heap.objs.size + 3, s1.heap.objs.size, s1.heap.objs.size + 1] := fun hb => by
        have := (hbig _ hb).2
        omega
      have kp : ∀ c o, h'.get? c = some o → (h'.push { cls := .type "list", data := .seq #[] }).get? c = some o := fun c o e => Heap.get?_push_of_some _ e
      have st3 : ZSt (s1.heap.objs.size + 4) (s1.heap.objs.size + 2) (s1.heap.objs.size + 3) s1.heap.objs.size (s1.heap.objs.size + 1) a b its.toArray its2.toArray 0 (h'.push { cls := .type "list", data := .seq #[] }) :=
        ⟨.inl (kp _ _ hz), kp _ _ hTI, ⟨_, _, kp _ _ hTO⟩, h1.at fun o e => kp _ o e, h2.at fun o e => kp _ o e, Heap.IsTuple.at p1 (fun o e => kp _ o (hk _ o e)), Heap.IsTuple.at p2 (fun o e => kp _ o (hk _ o e))⟩
      refine ⟨⟨_, hS, rfl⟩, F.args_list_init_2 _ _, zip_init (A := X.A.in1) (Q := Q) (show X.A.in1.handled = none from I3.ok.hd hc) D rv rv2 hn I3 st3 hS upd_same (fun c hcm => ⟨?_, (fp c hcm).2⟩) nSz (kp _ _ hz) (q _ hSn) fun H' s' I' q' => ⟨rfl, ?_⟩⟩
      · rw [upd_ne (show c ≠ h'.objs.size from fun e => nSz (by rw [← e]; exact hcm))]
        exact (fp c hcm).1
      · exact ⟨.ref h'.objs.size, H', I', rfl, q'⟩
end
end ZL
namespace Mp
open PySem PySem.Spec L2
open PyProof.Rows hiding St
def wListZip : W → W → Option W
  | .tup a, .tup b => if szOk (List.zip a b).length then some (.lst (List.zipWith (fun x y => .tup [x, y]) a b)) else none
  | _, _ => none
section
variable {X : Cx} {c : Cn} {Mu : Nat → Bool} {Wx : XK} {e e2 : Expr} {p p2 pz pos : Pos}
theorem zip_rd {Z P : Hp} {g : List Addr} {ρ : List (Option W)} {G : List W} {σ : St} {S : Addr} {Q : VK} : ∀ {wa wb : List W} {xs ys : List V} {acc : List V} {aw : List W} {Z1 H1 : Hp}, Rel c Mu Z1 (upd P S (.lst acc)) g ρ G σ H1 → Le Z Z1 → FzL c.K Z1 g wa xs → FzL c.K Z1 g wb ys → FzL c.K Z1 g aw acc →
    (∀ (H' Z' : Hp) (acc' : List V), Le Z Z' → Rel c Mu Z' (upd P S (.lst acc')) g ρ G σ H' → FzL c.K Z' g (aw ++ List.zipWith (fun x y => .tup [x, y]) wa wb) acc' → Q (.ref S) H') → ZL.ZipRd S Q (xs.zip ys) acc H1
  | [], _, _, _, acc, aw, Z1, H1, r, l, .nil, _, fa, k => by
    rw [List.zip_nil_left]
    exact k H1 Z1 acc l r (by simpa using fa)
  | _ :: _, [], _, _, acc, aw, Z1, H1, r, l, .cons _ _, .nil, fa, k => by
    rw [List.zip_nil_right]
    exact k H1 Z1 acc l r (by simpa using fa)
  | w :: wa, w' :: wb, x :: xs, y :: ys, acc, aw, Z1, H1, r, l, .cons f1 q1, .cons f2 q2, fa, k => by
    rw [List.zip_cons_cons]
    intro T hT
    have r1 := r.fixed (.tup [x, y]) hT
    have l1 : Le Z1 (upd Z1 T (.tup [x, y])) := Le.upd (r.new hT).nz
    have r2 := r1.accum (o' := .lst (acc ++ [.ref T]))
    have ft : Fz c.K (upd Z1 T (.tup [x, y])) g (.tup [w, w']) (.ref T) := .tup (.inl (.inl upd_same)) (.cons (f1.le l1 (Pre.refl _)) (.cons (f2.le l1 (Pre.refl _)) .nil))
    have e := zip_rd (Z := Z) (Q := Q) r2 (l.trans l1) (q1.le l1 (Pre.refl _)) (q2.le l1 (Pre.refl _)) ((fa.le l1 (Pre.refl _)).append (.one ft)) (fun H' Z' acc' l' r' f' => k H' Z' acc' l' r' (by simpa using f'))
    exact e
theorem eListZip {ms : M (List Opd)} (hgl : Gl X "list") (hml : X.mg "list" = none) (hg : Gl X "zip") (hm : X.mg "zip" = none) (ha : PA X [e, e2] (D c Mu rOs ms Wx)) (hc : X.calm = true := by rfl)
    (hs : starEach [e, e2] X.env = (false, eval e X.env) :: starEach [e2] X.env := by rfl) (hpl : (backTo pz (starEach [e2] X.env)).any (·.1) = false := by rfl)
    (na : starEach [Expr.Call (.Name "zip" p2) [e, e2] [] pz] X.env = (false, eval (Expr.Call (.Name "zip" p2) [e, e2] [] pz) X.env) :: starEach [] X.env := by rfl) (hK : X.K = c.K := by rfl) :
    PE X (.Call (.Name "list" p) [.Call (.Name "zip" p2) [e, e2] [] pz] [] pos) (D c Mu (rV true) (mCall (f2 wListZip) ms) Wx) :=
  PE.weak (ZL.pe_listZip hc hgl hml hg hm ha hs hpl na) fun σ H Q h => h.bind fun os vs H1 Z1 P g1 ρ1 G1 r1 q1 d1 => by
    rw [hK]
    obtain ⟨ws, bs, d2⟩ := d1.getAll r1 q1
    obtain ⟨w, ew, d3⟩ := d2.of
    cases bs with
    | nil => cases ew
    | cons b t =>
      cases t with
      | nil => cases ew
      | cons b' t =>
        cases t with
        | cons _ _ => cases ew
        | nil =>
          rename_i wx x wy y
          cases wx <;> cases wy <;> simp only [f2, wListZip] at ew <;> first | cases ew | skip
          split at ew
          · cases ew
            rename_i hs
            obtain ⟨a, xs, rfl, z1, h1, f1⟩ := b.tup r1.zh
            obtain ⟨a', ys, rfl, z2, h2, f2⟩ := b'.tup r1.zh
            refine ⟨a, a', xs, ys, rfl, h1, h2, ?_, fun S hS => ?_⟩
            · have := szOk_le hs
              rw [List.length_zip, f1.length, f2.length] at this
              rw [List.length_zip]
              exact this
            · have nS := r1.new hS
              have r2 := (r1.laid (.lst []) hS).protect upd_same nS
              refine zip_rd (Z := Z1) r2 (Le.refl _) f1 f2 .nil fun H' Z' acc' l' r' f' => ?_
              obtain ⟨k1, k2, k3, k4⟩ := r'.kept (p := S) upd_same
              exact d3.pure' l' (Pre.refl _) (r'.weakP (Le.upd nS.np)) (rV_true ⟨S, _, rfl, k1, .lst (by simpa using f'), k2, nS.np, k3, k4⟩)
          · cases ew
end
end Mp
set_option Elab.async false
set_option linter.all false
set_option maxRecDepth 100000
set_option maxHeartbeats 2000000
/-! Mp15: the law's beginning and end. -/
namespace Mp
open PySem PySem.Spec L2
open PyProof.Rows hiding St
theorem sql_cut {K : PySem.W.Frag} {H : Hp} {a : Addr} {xs : List V} (h : SqL K H a xs) : ∃ Z : Hp, Le Z H ∧ SqL K Z a xs ∧ ∀ b o, Z b = some o → NTbl o := by
  rcases h with (h | ⟨o, h⟩) | h
  · refine ⟨fun b => if b = a then some (.lst xs) else none, fun b o e => ?_, .inl (.inl (if_pos rfl)), fun b o e => ?_⟩
    · dsimp only at e
      split at e
      · rename_i hb; cases e; rw [hb]; exact h
      · cases e
    · dsimp only at e
      split at e
      · cases e; intro ps q; cases q
      · cases e
  · refine ⟨fun b => if b = a then some (.frz o (.lst xs)) else none, fun b u e => ?_, .inl (.inr ⟨o, if_pos rfl⟩), fun b u e => ?_⟩
    · dsimp only at e
      split at e
      · rename_i hb; cases e; rw [hb]; exact h
      · cases e
    · dsimp only at e
      split at e
      · cases e; intro ps q; cases q
      · cases e
  · exact ⟨fun _ => none, fun b o e => (by cases e), .inr h, fun b o e => (by cases e)⟩
theorem start_law {c : Cn} {fn : Fn} {H : Hp} {a : Addr} {ns : List Int} (hT : ∀ p ∈ c.T, H p.1 = some (.tbl #[])) (hS : SqL c.K H a (ns.map V.int)) (h : ∃ G', fn [.scr ns] [] = .ok (.bl true) [] G') : spF c fn 1 [.ref a] H (fun v _ => v = .bl true) fun _ _ _ => False := by
  obtain ⟨Z, l, hZ, nt⟩ := sql_cut hS
  obtain ⟨G', e⟩ := h
  refine ⟨Z, fun _ => none, [], [], [.scr ns], ⟨l, fun b o e => (by cases e), fun _ _ _ => rfl, fun _ _ e => (by simp at e), fun _ _ e => (by simp at e), fun _ _ _ _ _ e => (by simp at e), fun n w e => (by simp at e), (by simp), rfl, rfl, fun p hp => LamX.TabS.nil (hT p hp), nt, fun b o e => (by cases e)⟩, .cons (.scr hZ) .nil, rfl, ?_⟩
  unfold DatF
  rw [e]
  intro v H' Z' g' _ _ _ f
  cases f
  rfl
theorem cx_none {P : Program} {w : World} {H : Hp} {s : Shared} {e : Value} {s' : Shared} (h : L2.CX P w [] H s (fun _ _ _ => False) e s') : False := by
  obtain ⟨_, _, _, _, _, _, _, _, _, _, _, _, _, h⟩ := h
/-- an exception of a class is what names it -/
theorem exm_self {K : PySem.W.Frag} {S : Addr} (h1 : PySem.W.subIn K (.ref S) (.type "BaseException") = some true) (h2 : PySem.W.isClsIn K S = true) (h3 : PySem.W.typeIn K (.ref S) = some (.type "type")) (h4 : PySem.W.subIn K (.ref S) (.ref S) = some true) :
    PySem.W.exmOne K (.ref S) (.ref S) = some true := by
  have e1 : (PySem.W.subIn K (.ref S) (.type "BaseException") == some true) = true := by rw [h1] <;> rfl
  have e2 : ((PySem.W.clsIn K S).isSome && PySem.W.typeIn K (.ref S) == some (.type "type")) = true := by
    have h2' : (PySem.W.clsIn K S).isSome = true := h2
    rw [h2', h3] <;> rfl
  show (if (PySem.W.subIn K (.ref S) (.type "BaseException") == some true) = true then (if ((PySem.W.clsIn K S).isSome && PySem.W.typeIn K (.ref S) == some (.type "type")) = true then PySem.W.subIn K (.ref S) (.ref S) else none) else none) = some true
  rw [if_pos e1, if_pos e2]
  exact h4
def ecOf (l : List (Nat × Addr)) : Nat → Addr := fun i => (l.lookup i).getD 0
end Mp
set_option Elab.async false
set_option linter.all false
set_option maxRecDepth 100000
set_option maxHeartbeats 2000000
/-! Mq0: runs of plain computations: what holds behind them. -/
namespace Mp
open PySem PySem.Spec L2
open PyProof.Rows hiding St

abbrev Sl := List (Option W)
/-- behind m: Q of an answer, E of an exception; never bad -/
@[irreducible] def Wp {α : Type} (m : M α) (ρ : Sl) (G : List W) (Q : α → Sl → List W → Prop) (E : Nat → List W → Prop) : Prop := match m ρ G with
  | .ok a ρ' G' => Q a ρ' G'
  | .exc n G' => E n G'
  | .bad => False
section
variable {α β : Type} {ρ ρ' : Sl} {G G' : List W} {E : Nat → List W → Prop}
theorem Wp.pure {a : α} {Q : α → Sl → List W → Prop} : Wp (M.pure a) ρ G Q E = Q a ρ G := by unfold Wp; rfl
theorem Wp.bind {m : M α} {f : α → M β} {Q : β → Sl → List W → Prop} : Wp (M.bind m f) ρ G Q E = Wp m ρ G (fun a ρ G => Wp (f a) ρ G Q E) E := by
  unfold Wp M.bind
  cases m ρ G <;> rfl
theorem Wp.of {o : Option α} {Q : α → Sl → List W → Prop} : Wp (M.of o) ρ G Q E = ∃ a, o = some a ∧ Q a ρ G := by
  unfold Wp M.of
  cases o with
  | none => simp
  | some a => simp
theorem Wp.bad {Q : α → Sl → List W → Prop} : Wp M.bad ρ G Q E = False := by unfold Wp; rfl
theorem Wp.getS {i : Nat} {Q : W → Sl → List W → Prop} : Wp (Mp.getS i) ρ G Q E = ∃ w, ρ[i]? = some (some w) ∧ Q w ρ G := by
  unfold Wp Mp.getS
  cases e : ρ[i]? with
  | none => simp
  | some o => cases o <;> simp
theorem Wp.gets {i : Nat} {Q : W → Sl → List W → Prop} : Wp (Opd.get (.s i)) ρ G Q E = ∃ w, ρ[i]? = some (some w) ∧ Q w ρ G := Wp.getS
theorem Wp.getv {w : W} {Q : W → Sl → List W → Prop} : Wp (Opd.get (.v w)) ρ G Q E = Q w ρ G := by unfold Wp; rfl
theorem Wp.mS {i : Nat} {Q : Opd → Sl → List W → Prop} : Wp (Mp.mS i) ρ G Q E = ∃ w, ρ[i]? = some (some w) ∧ Q (.s i) ρ G := by
  unfold Wp Mp.mS
  cases e : ρ[i]? with
  | none => simp
  | some o => cases o <;> simp
theorem Wp.moveS {i : Nat} {Q : W → Sl → List W → Prop} : Wp (Mp.moveS i) ρ G Q E = ∃ w, ρ[i]? = some (some w) ∧ Q w (ρ.set i none) G := by
  unfold Wp Mp.moveS
  cases e : ρ[i]? with
  | none => simp
  | some o => cases o <;> simp
theorem Wp.setU {i : Nat} {w : W} {Q : Unit → Sl → List W → Prop} : Wp (Mp.setU i w) ρ G Q E = Q () (ρ.set i (some w)) G := by unfold Wp; rfl
theorem Wp.setM {i : Nat} {w : W} {Q : Unit → Sl → List W → Prop} : Wp (Mp.setM i w) ρ G Q E = ∃ w0, ρ[i]? = some (some w0) ∧ Q () (ρ.set i (some w)) G := by
  unfold Wp Mp.setM
  cases e : ρ[i]? with
  | none => simp
  | some o => cases o <;> simp
theorem Wp.raise {k : Nat} {Q : Fl → Sl → List W → Prop} : Wp (Mp.mRaise k) ρ G Q E = E k G := by unfold Wp; rfl
theorem Wp.callF {f : Fn} {ws : List W} {Q : W → Sl → List W → Prop} {w : W} {r : Sl} (h : f ws G = .ok w r G') : Wp (Mp.callF f ws) ρ G Q E = Q w ρ G' := by
  unfold Wp Mp.callF
  rw [h]
theorem Wp.callX {f : Fn} {ws : List W} {Q : W → Sl → List W → Prop} {k : Nat} (h : f ws G = .exc k G') : Wp (Mp.callF f ws) ρ G Q E = E k G' := by
  unfold Wp Mp.callF
  rw [h]
theorem Wp.imp {m : M α} {Q Q' : α → Sl → List W → Prop} {E' : Nat → List W → Prop} (h : Wp m ρ G Q E) (k : ∀ a ρ G, Q a ρ G → Q' a ρ G) (k' : ∀ n G, E n G → E' n G) : Wp m ρ G Q' E' := by
  unfold Wp at h ⊢
  cases e : m ρ G with
  | bad => rw [e] at h; exact h
  | exc n G' => rw [e] at h; exact k' _ _ h
  | ok a ρ' G' => rw [e] at h; exact k _ _ _ h
/-- a def's answer -/
theorem runF_of {n : Nat} {m : M Fl} {ws : List W} {w : W} (h : Wp m (ws.map some ++ List.replicate (n - ws.length) none) G (fun fl _ G1 => (fl = .rt w ∨ (fl = .nx ∧ w = .non)) ∧ G1 = G') fun _ _ => False) : runF n m ws G = .ok w [] G' := by
  unfold Wp at h
  unfold runF
  cases e : m (ws.map some ++ List.replicate (n - ws.length) none) G with
  | bad => rw [e] at h; exact h.elim
  | exc k G2 => rw [e] at h; exact h.elim
  | ok fl ρ2 G2 =>
    rw [e] at h
    obtain ⟨h | ⟨h, hw⟩, rfl⟩ := h
    · subst h; rfl
    · subst h; subst hw; rfl
theorem runF_exc {n : Nat} {m : M Fl} {ws : List W} {k : Nat} (h : Wp m (ws.map some ++ List.replicate (n - ws.length) none) G (fun _ _ _ => False) fun j G1 => j = k ∧ G1 = G') : runF n m ws G = .exc k G' := by
  unfold Wp at h
  unfold runF
  cases e : m (ws.map some ++ List.replicate (n - ws.length) none) G with
  | bad => rw [e] at h; exact h.elim
  | exc k G2 => rw [e] at h; obtain ⟨rfl, rfl⟩ := h; rfl
  | ok fl ρ2 G2 => rw [e] at h; exact h.elim

/-! ### the words of the printer -/
theorem Wp.mV {m : M W} {Q : Opd → Sl → List W → Prop} : Wp (Mp.mV m) ρ G Q E = Wp m ρ G (fun w ρ G => Q (.v w) ρ G) E := by
  unfold Mp.mV; simp only [Wp.bind, Wp.pure]
theorem Wp.m2 {f : W → W → Option W} {ma mb : M Opd} {Q : W → Sl → List W → Prop} : Wp (Mp.m2 f ma mb) ρ G Q E = Wp ma ρ G (fun oa ρ G => Wp mb ρ G (fun ob ρ G => Wp oa.get ρ G (fun x ρ G => Wp ob.get ρ G (fun y ρ G => ∃ w, f x y = some w ∧ Q w ρ G) E) E) E) E := by
  unfold Mp.m2; simp only [Wp.bind, Wp.of]
theorem Wp.m1 {f : W → Option W} {ma : M Opd} {Q : W → Sl → List W → Prop} : Wp (Mp.m1 f ma) ρ G Q E = Wp ma ρ G (fun oa ρ G => Wp oa.get ρ G (fun x ρ G => ∃ w, f x = some w ∧ Q w ρ G) E) E := by
  unfold Mp.m1; simp only [Wp.bind, Wp.of]
theorem Wp.mB {m : M W} {Q : Bool → Sl → List W → Prop} : Wp (Mp.mB m) ρ G Q E = Wp m ρ G (fun w ρ G => ∃ b, boolW w = some b ∧ Q b ρ G) E := by
  unfold Mp.mB; simp only [Wp.bind, Wp.of]
theorem Wp.mT {m : M Opd} {Q : Bool → Sl → List W → Prop} : Wp (Mp.mT m) ρ G Q E = Wp m ρ G (fun o ρ G => Wp o.get ρ G (fun w ρ G => ∃ b, truW w = some b ∧ Q b ρ G) E) E := by
  unfold Mp.mT; simp only [Wp.bind, Wp.of]
theorem Wp.mNot {m : M Bool} {Q : Bool → Sl → List W → Prop} : Wp (Mp.mNot m) ρ G Q E = Wp m ρ G (fun b ρ G => Q (!b) ρ G) E := by
  unfold Mp.mNot; simp only [Wp.bind, Wp.pure]
theorem Wp.ite {c : Prop} [Decidable c] {a b : M α} {Q : α → Sl → List W → Prop} : Wp (if c then a else b) ρ G Q E = if c then Wp a ρ G Q E else Wp b ρ G Q E := by
  split <;> rfl
theorem Wp.mAnd {m n : M Bool} {Q : Bool → Sl → List W → Prop} : Wp (Mp.mAnd m n) ρ G Q E = Wp m ρ G (fun b ρ G => if b = true then Wp n ρ G Q E else Q false ρ G) E := by
  unfold Mp.mAnd; simp only [Wp.bind, Wp.ite, Wp.pure]
theorem Wp.mOr {m n : M Bool} {Q : Bool → Sl → List W → Prop} : Wp (Mp.mOr m n) ρ G Q E = Wp m ρ G (fun b ρ G => if b = true then Q true ρ G else Wp n ρ G Q E) E := by
  unfold Mp.mOr; simp only [Wp.bind, Wp.ite, Wp.pure]
theorem Wp.mIf {t : M Bool} {a b : M α} {Q : α → Sl → List W → Prop} : Wp (Mp.mIf t a b) ρ G Q E = Wp t ρ G (fun k ρ G => if k = true then Wp a ρ G Q E else Wp b ρ G Q E) E := by
  unfold Mp.mIf; simp only [Wp.bind, Wp.ite]
theorem Wp.mNotV {m : M W} {Q : W → Sl → List W → Prop} : Wp (Mp.mNotV m) ρ G Q E = Wp m ρ G (fun w ρ G => ∃ b, boolW w = some b ∧ Q (.bl (!b)) ρ G) E := by
  unfold Mp.mNotV; simp only [Wp.bind, Wp.mB, Wp.pure]
theorem Wp.mAndV {m n : M W} {Q : W → Sl → List W → Prop} : Wp (Mp.mAndV m n) ρ G Q E = Wp m ρ G (fun w ρ G => ∃ b, boolW w = some b ∧ if b = true then Wp n ρ G Q E else Q (.bl false) ρ G) E := by
  unfold Mp.mAndV; simp only [Wp.bind, Wp.mB, Wp.ite, Wp.pure]
theorem Wp.mOrV {m n : M W} {Q : W → Sl → List W → Prop} : Wp (Mp.mOrV m n) ρ G Q E = Wp m ρ G (fun w ρ G => ∃ b, boolW w = some b ∧ if b = true then Q (.bl true) ρ G else Wp n ρ G Q E) E := by
  unfold Mp.mOrV; simp only [Wp.bind, Wp.mB, Wp.ite, Wp.pure]
theorem Wp.mCh {f f' : W → W → Option W} {ma mb mc : M Opd} {Q : W → Sl → List W → Prop} : Wp (Mp.mCh f f' ma mb mc) ρ G Q E = Wp ma ρ G (fun oa ρ G => Wp mb ρ G (fun ob ρ G => Wp oa.get ρ G (fun x ρ G => Wp ob.get ρ G (fun y ρ G => ∃ k, (f x y).bind boolW = some k ∧
    if k = true then Wp mc ρ G (fun oc ρ G => Wp ob.get ρ G (fun y ρ G => Wp oc.get ρ G (fun z ρ G => ∃ w, f' y z = some w ∧ Q w ρ G) E) E) E else Q (.bl false) ρ G) E) E) E) E := by
  unfold Mp.mCh; simp only [Wp.bind, Wp.of, Wp.ite, Wp.pure]
theorem Wp.mNil {Q : List α → Sl → List W → Prop} : Wp (Mp.mNil (α := α)) ρ G Q E = Q [] ρ G := by unfold Wp; rfl
theorem Wp.mCons {m : M α} {ms : M (List α)} {Q : List α → Sl → List W → Prop} : Wp (Mp.mCons m ms) ρ G Q E = Wp m ρ G (fun a ρ G => Wp ms ρ G (fun as ρ G => Q (a :: as) ρ G) E) E := by
  unfold Mp.mCons; simp only [Wp.bind, Wp.pure]
theorem Wp.getAll0 {Q : List W → Sl → List W → Prop} : Wp (getAll []) ρ G Q E = Q [] ρ G := by unfold Wp; rfl
theorem Wp.getAllC {o : Opd} {os : List Opd} {Q : List W → Sl → List W → Prop} : Wp (getAll (o :: os)) ρ G Q E = Wp o.get ρ G (fun w ρ G => Wp (getAll os) ρ G (fun ws ρ G => Q (w :: ws) ρ G) E) E := by
  rw [getAll]; simp only [Wp.bind, Wp.pure]
theorem Wp.mCall {f : List W → Option W} {ms : M (List Opd)} {Q : W → Sl → List W → Prop} : Wp (Mp.mCall f ms) ρ G Q E = Wp ms ρ G (fun os ρ G => Wp (getAll os) ρ G (fun ws ρ G => ∃ w, f ws = some w ∧ Q w ρ G) E) E := by
  unfold Mp.mCall; simp only [Wp.bind, Wp.of]
theorem Wp.mTup {ms : M (List W)} {Q : W → Sl → List W → Prop} : Wp (Mp.mTup ms) ρ G Q E = Wp ms ρ G (fun ws ρ G => szOk ws.length = true ∧ Q (.tup ws) ρ G) E := by
  unfold Mp.mTup; simp only [Wp.bind, Wp.of]
  congr 1; funext ws ρ G; apply propext
  constructor
  · rintro ⟨a, h, q⟩
    split at h
    · cases h; exact ⟨‹_›, q⟩
    · cases h
  · rintro ⟨h, q⟩; exact ⟨_, if_pos h, q⟩
theorem Wp.mLst {ms : M (List W)} {Q : W → Sl → List W → Prop} : Wp (Mp.mLst ms) ρ G Q E = Wp ms ρ G (fun ws ρ G => szOk ws.length = true ∧ Q (.lst ws) ρ G) E := by
  unfold Mp.mLst; simp only [Wp.bind, Wp.of]
  congr 1; funext ws ρ G; apply propext
  constructor
  · rintro ⟨a, h, q⟩
    split at h
    · cases h; exact ⟨‹_›, q⟩
    · cases h
  · rintro ⟨h, q⟩; exact ⟨_, if_pos h, q⟩
theorem Wp.mCallF {f : Fn} {ms : M (List W)} {Q : W → Sl → List W → Prop} : Wp (Mp.mCallF f ms) ρ G Q E = Wp ms ρ G (fun ws ρ G => Wp (Mp.callF f ws) ρ G Q E) E := by
  unfold Mp.mCallF; simp only [Wp.bind]
theorem Wp.mNo {Q : Option Int → Sl → List W → Prop} : Wp Mp.mNo ρ G Q E = Q none ρ G := by unfold Wp; rfl
theorem Wp.mSome {m : M Opd} {Q : Option Int → Sl → List W → Prop} : Wp (Mp.mSome m) ρ G Q E = Wp m ρ G (fun o ρ G => Wp o.get ρ G (fun w ρ G => ∃ i, intW w = some i ∧ Q (some i) ρ G) E) E := by
  unfold Mp.mSome; simp only [Wp.bind, Wp.of, Wp.pure]
theorem Wp.mCut {f : W → Option Int → Option Int → Option W} {m : M Opd} {lo hi : M (Option Int)} {Q : W → Sl → List W → Prop} : Wp (Mp.mCut f m lo hi) ρ G Q E = Wp m ρ G (fun o ρ G => Wp lo ρ G (fun l ρ G => Wp hi ρ G (fun h ρ G => Wp o.get ρ G (fun w ρ G => ∃ r, f w l h = some r ∧ Q r ρ G) E) E) E) E := by
  unfold Mp.mCut; simp only [Wp.bind, Wp.of]
theorem Wp.mM1 {f : W → W → Option W} {mo : M W} {ma : M Opd} {Q : W → Sl → List W → Prop} : Wp (Mp.mM1 f mo ma) ρ G Q E = Wp mo ρ G (fun o ρ G => ∃ s, strW o = some s ∧ Wp ma ρ G (fun oa ρ G => Wp oa.get ρ G (fun x ρ G => ∃ r, f (.str s) x = some r ∧ Q r ρ G) E) E) E := by
  unfold Mp.mM1; simp only [Wp.bind, Wp.of]
theorem Wp.mMethR {f : W → List W → Option W} {mo : M Opd} {ms : M (List Opd)} {Q : W → Sl → List W → Prop} : Wp (Mp.mMethR f mo ms) ρ G Q E = Wp mo ρ G (fun o ρ G => Wp o.get ρ G (fun x0 ρ G => ∃ l, lstW x0 = some l ∧ Wp ms ρ G (fun os ρ G => Wp o.get ρ G (fun x ρ G => Wp (getAll os) ρ G (fun ws ρ G => ∃ r, f x ws = some r ∧ Q r ρ G) E) E) E) E) E := by
  unfold Mp.mMethR; simp only [Wp.bind, Wp.of]
theorem Wp.mMeth {f : List W → List W → Option (W × List W)} {i : Nat} {ms : M (List W)} {Q : W → Sl → List W → Prop} : Wp (Mp.mMeth f i ms) ρ G Q E = ∃ l0, ρ[i]? = some (some (.lst l0)) ∧ Wp ms ρ G (fun ws ρ G => ∃ l, ρ[i]? = some (some (.lst l)) ∧ ∃ q, f l ws = some q ∧ Q q.1 (ρ.set i (some (.lst q.2))) G) E := by
  unfold Mp.mMeth
  simp only [Wp.bind, Wp.of, Wp.mS, Wp.gets, Wp.setM, Wp.pure]
  apply propext
  constructor
  · rintro ⟨w, h1, w', h2, l, h3, h4⟩
    rw [h1] at h2; cases h2
    obtain rfl := lstW_some h3
    refine ⟨l, h1, h4.imp (fun ws ρ G ⟨w, h5, q, h6, w0, h7, h8⟩ => ?_) fun _ _ h => h⟩
    cases e : lstW w with
    | none => rw [e] at h6; cases h6
    | some l1 =>
      rw [e, Option.bind_some] at h6
      obtain rfl := lstW_some e
      exact ⟨l1, h5, q, h6, h8⟩
  · rintro ⟨l0, h1, h2⟩
    exact ⟨_, h1, _, h1, l0, rfl, h2.imp (fun ws ρ G ⟨l, h3, q, h4, h5⟩ => ⟨_, h3, q, h4, _, h3, h5⟩) fun _ _ h => h⟩
theorem Wp.mSeq {m n : M Fl} {Q : Fl → Sl → List W → Prop} : Wp (Mp.mSeq m n) ρ G Q E = Wp m ρ G (fun f ρ G => match f with | .nx => Wp n ρ G Q E | .bk => Q .bk ρ G | .ct => Q .ct ρ G | .rt w => Q (.rt w) ρ G) E := by
  unfold Mp.mSeq; rw [Wp.bind]
  congr 1; funext f ρ G; cases f <;> simp only [Wp.pure]
theorem Wp.mSkip {Q : Fl → Sl → List W → Prop} : Wp Mp.mSkip ρ G Q E = Q .nx ρ G := by unfold Wp; rfl
theorem Wp.mSet {i : Nat} {m : M W} {Q : Fl → Sl → List W → Prop} : Wp (Mp.mSet i m) ρ G Q E = Wp m ρ G (fun w ρ G => Q .nx (ρ.set i (some w)) G) E := by
  unfold Mp.mSet; simp only [Wp.bind, Wp.setU, Wp.pure]
theorem Wp.mRet {m : M W} {Q : Fl → Sl → List W → Prop} : Wp (Mp.mRet m) ρ G Q E = Wp m ρ G (fun w ρ G => Q (.rt w) ρ G) E := by
  unfold Mp.mRet; simp only [Wp.bind, Wp.pure]
theorem Wp.mDrop {m : M W} {Q : Fl → Sl → List W → Prop} : Wp (Mp.mDrop m) ρ G Q E = Wp m ρ G (fun w ρ G => Q .nx ρ G) E := by
  unfold Mp.mDrop; simp only [Wp.bind, Wp.pure]
theorem Wp.mAug {f : W → W → Option W} {i : Nat} {m : M Opd} {Q : Fl → Sl → List W → Prop} : Wp (Mp.mAug f i m) ρ G Q E = ∃ w0, ρ[i]? = some (some w0) ∧ Wp m ρ G (fun oe ρ G => ∃ x, ρ[i]? = some (some x) ∧ Wp oe.get ρ G (fun y ρ G => ∃ w, f x y = some w ∧ Q .nx (ρ.set i (some w)) G) E) E := by
  unfold Mp.mAug; simp only [Wp.bind, Wp.of, Wp.mS, Wp.gets, Wp.setU, Wp.pure]
theorem Wp.mPar {i j : Nat} {a b : M W} {Q : Fl → Sl → List W → Prop} : Wp (Mp.mPar i j (Mp.mCons a (Mp.mCons b Mp.mNil))) ρ G Q E = Wp a ρ G (fun v ρ G => Wp b ρ G (fun w ρ G => Q .nx ((ρ.set i (some v)).set j (some w)) G) E) E := by
  unfold Mp.mPar; simp only [Wp.bind, Wp.mCons, Wp.mNil, Wp.setU, Wp.pure]
theorem Wp.mParF {i j : Nat} {a b : M W} {Q : Fl → Sl → List W → Prop} : Wp (Mp.mParF i j a b) ρ G Q E = Wp a ρ G (fun v ρ G => Wp b ρ G (fun w ρ G => Q .nx ((ρ.set i (some v)).set j (some w)) G) E) E := by
  unfold Mp.mParF; simp only [Wp.bind, Wp.setU, Wp.pure]
theorem Wp.mAsg {t : W → M Unit} {m : M W} {Q : Fl → Sl → List W → Prop} : Wp (Mp.mAsg t m) ρ G Q E = Wp m ρ G (fun w ρ G => Wp (t w) ρ G (fun _ ρ G => Q .nx ρ G) E) E := by
  unfold Mp.mAsg; simp only [Wp.bind, Wp.pure]
theorem Wp.tgTup {n : Nat} {ts : List W → M Unit} {ws : List W} {Q : Unit → Sl → List W → Prop} (h : ws.length = n) : Wp (Mp.tgTup n ts (.tup ws)) ρ G Q E = Wp (ts ws) ρ G Q E := by
  show Wp (if ws.length = n then ts ws else M.bad) ρ G Q E = _
  rw [if_pos h]
theorem Wp.tgCons {t : W → M Unit} {ts : List W → M Unit} {w : W} {ws : List W} {Q : Unit → Sl → List W → Prop} : Wp (Mp.tgCons t ts (w :: ws)) ρ G Q E = Wp (t w) ρ G (fun _ ρ G => Wp (ts ws) ρ G Q E) E := by
  show Wp (M.bind (t w) fun _ => ts ws) ρ G Q E = _
  rw [Wp.bind]
theorem Wp.tgNil {Q : Unit → Sl → List W → Prop} : Wp (Mp.tgNil []) ρ G Q E = Q () ρ G := by unfold Wp; rfl
theorem Wp.mSeqI {m : M W} {Q : List W → Sl → List W → Prop} : Wp (Mp.mSeqI m) ρ G Q E = Wp m ρ G (fun w ρ G => ∃ l, seqW w = some l ∧ Q l ρ G) E := by
  unfold Mp.mSeqI; simp only [Wp.bind, Wp.of]
theorem Wp.mI1 {f : W → Option (List W)} {a : M Opd} {Q : List W → Sl → List W → Prop} : Wp (Mp.mI1 f (Mp.mCons a Mp.mNil)) ρ G Q E = Wp a ρ G (fun o ρ G => Wp o.get ρ G (fun x ρ G => ∃ l, f x = some l ∧ Q l ρ G) E) E := by
  unfold Mp.mI1; simp only [Wp.bind, Wp.mCons, Wp.mNil, Wp.getAllC, Wp.getAll0, Wp.of]
theorem Wp.mI2 {f : W → W → Option (List W)} {a b : M Opd} {Q : List W → Sl → List W → Prop} : Wp (Mp.mI2 f (Mp.mCons a (Mp.mCons b Mp.mNil))) ρ G Q E = Wp a ρ G (fun o ρ G => Wp b ρ G (fun o' ρ G => Wp o.get ρ G (fun x ρ G => Wp o'.get ρ G (fun y ρ G => ∃ l, f x y = some l ∧ Q l ρ G) E) E) E) E := by
  unfold Mp.mI2; simp only [Wp.bind, Wp.mCons, Wp.mNil, Wp.getAllC, Wp.getAll0, Wp.of]
/-! ### loops -/
/-- what stands behind a turn -/
def turnQ (I : Sl → List W → Prop) (Q : Fl → Sl → List W → Prop) : Fl → Sl → List W → Prop := fun f ρ G => match f with
  | .nx => I ρ G
  | .ct => I ρ G
  | .bk => Q .nx ρ G
  | .rt w => Q (.rt w) ρ G
theorem Wp.mFor {tg : W → M Unit} {b : M Fl} {Q : Fl → Sl → List W → Prop} (I : Nat → Sl → List W → Prop) : ∀ {ws : List W} {ρ : Sl} {G : List W} (k : Nat), I k ρ G →
    (∀ (i : Nat) (w : W) (ρ : Sl) (G : List W), ws[i]? = some w → I (k + i) ρ G → Wp (tg w) ρ G (fun _ ρ G => Wp b ρ G (turnQ (I (k + i + 1)) Q) E) E) → (∀ ρ G, I (k + ws.length) ρ G → Q .nx ρ G) → Wp (Mp.mFor tg b ws) ρ G Q E
  | [], ρ, G, k, h0, _, fin => by unfold Mp.mFor; rw [Wp.pure]; exact fin ρ G h0
  | w :: ws, ρ, G, k, h0, step, fin => by
    have h1 := step 0 w ρ G rfl h0
    unfold Mp.mFor
    rw [Wp.bind]
    refine h1.imp (fun _ ρ G h => ?_) fun _ _ h => h
    rw [Wp.bind]
    refine h.imp (fun f ρ G h => ?_) fun _ _ h => h
    have rc : I (k + 1) ρ G → Wp (Mp.mFor tg b ws) ρ G Q E := fun h => Wp.mFor I (k + 1) h (fun i w ρ G e q => by
        have := step (i + 1) w ρ G (by simpa using e) (by rw [show k + (i + 1) = k + 1 + i by omega]; exact q)
        rw [show k + (i + 1) = k + 1 + i by omega] at this
        exact this) (fun ρ G q => fin ρ G (by rw [List.length_cons, show k + (ws.length + 1) = k + 1 + ws.length by omega]; exact q))
    cases f with
    | nx => exact rc h
    | ct => exact rc h
    | bk => dsimp only; rw [Wp.pure]; exact h
    | rt w => dsimp only; rw [Wp.pure]; exact h
/-- while: I m: so many turns at most are left -/
theorem Wp.mWhile {t : M Bool} {b : M Fl} {Q : Fl → Sl → List W → Prop} (I : Nat → Sl → List W → Prop) (step : ∀ m ρ G, I m ρ G → Wp t ρ G (fun k ρ G => if k = true then Wp b ρ G (turnQ (fun ρ G => ∃ m', m' < m ∧ I m' ρ G) Q) E else Q .nx ρ G) E) :
    ∀ (n m : Nat) (ρ : Sl) (G : List W), m < n → I m ρ G → Wp (Mp.mWhile n t b) ρ G Q E
  | 0, m, ρ, G, h, _ => absurd h (Nat.not_lt_zero _)
  | n + 1, m, ρ, G, h, hI => by
    unfold Mp.mWhile
    rw [Wp.bind]
    refine (step m ρ G hI).imp (fun k ρ G h1 => ?_) fun _ _ h => h
    rw [Wp.ite]
    split
    · rename_i hk
      rw [if_pos hk] at h1
      rw [Wp.bind]
      refine h1.imp (fun f ρ G h2 => ?_) fun _ _ h => h
      cases f with
      | nx => obtain ⟨m', hm, h3⟩ := h2; exact Wp.mWhile I step n m' ρ G (by omega) h3
      | ct => obtain ⟨m', hm, h3⟩ := h2; exact Wp.mWhile I step n m' ρ G (by omega) h3
      | bk => dsimp only; rw [Wp.pure]; exact h2
      | rt w => dsimp only; rw [Wp.pure]; exact h2
    · rename_i hk
      rw [if_neg hk] at h1
      rw [Wp.pure]; exact h1
theorem Wp.wipeM {vs : List Nat} {Q : Unit → Sl → List W → Prop} : Wp (Mp.wipeM vs) ρ G Q E = Q () (wipeR ρ vs) G := by unfold Wp; rfl
/-- a comprehension -/
theorem Wp.lcLoop {vs : List Nat} {mt : W → M Unit} {mtest : M Bool} {me : M W} {Q : List W → Sl → List W → Prop} (I : Nat → List W → Sl → List W → Prop) : ∀ {ws : List W} {ρ : Sl} {G : List W} {acc : List W} (k : Nat), I k acc ρ G →
    (∀ (i : Nat) (w : W) (acc : List W) (ρ : Sl) (G : List W), ws[i]? = some w → I (k + i) acc ρ G → Wp (mt w) ρ G (fun _ ρ G => Wp mtest ρ G (fun t ρ G => if t = true then Wp me ρ G (fun y ρ G => I (k + i + 1) (acc ++ [y]) (wipeR ρ vs) G) (fun _ _ => False) else I (k + i + 1) acc (wipeR ρ vs) G) (fun _ _ => False)) (fun _ _ => False)) →
    (∀ acc ρ G, I (k + ws.length) acc ρ G → Q acc ρ G) → Wp (Mp.lcLoop vs mt mtest me ws) ρ G (fun ys ρ G => Q (acc ++ ys) ρ G) (fun _ _ => False)
  | [], ρ, G, acc, k, h0, _, fin => by
    unfold Mp.lcLoop; rw [Wp.pure]; show Q (acc ++ []) ρ G
    rw [List.append_nil]
    exact fin acc ρ G h0
  | w :: ws, ρ, G, acc, k, h0, step, fin => by
    have h1 := step 0 w acc ρ G rfl h0
    unfold Mp.lcLoop
    rw [Wp.bind]
    refine h1.imp (fun _ ρ G h => ?_) fun _ _ h => h
    have nx : ∀ {α : Type} {m : M α} {ρ : Sl} {G : List W} {Q1 : α → Sl → List W → Prop}, Wp m ρ G Q1 (fun _ _ => False) → Wp (noexc m) ρ G Q1 (fun _ _ => False) := fun {α m ρ G Q1} h => by
      unfold Wp at h
      unfold Wp noexc
      cases e : m ρ G <;> rw [e] at h <;> first | exact h | exact h.elim
    have rc : ∀ acc ρ G, I (k + 1) acc ρ G → Wp (Mp.lcLoop vs mt mtest me ws) ρ G (fun ys ρ G => Q (acc ++ ys) ρ G) (fun _ _ => False) := fun acc ρ G h => Wp.lcLoop I (k + 1) h (fun i w acc ρ G e q => by
        have := step (i + 1) w acc ρ G (by simpa using e) (by rw [show k + (i + 1) = k + 1 + i by omega]; exact q)
        rw [show k + (i + 1) = k + 1 + i by omega] at this
        exact this) (fun acc ρ G q => fin acc ρ G (by rw [List.length_cons, show k + (ws.length + 1) = k + 1 + ws.length by omega]; exact q))
    rw [Wp.bind]
    refine (nx h).imp (fun t ρ G h => ?_) fun _ _ h => h
    rw [Wp.ite]
    split
    · rename_i ht
      rw [if_pos ht] at h
      rw [Wp.bind]
      refine (nx h).imp (fun y ρ G h => ?_) fun _ _ h => h
      rw [Wp.bind]
      rw [Wp.wipeM, Wp.bind]
      refine (rc _ _ _ h).imp (fun ys ρ G h => ?_) fun _ _ h => h
      rw [Wp.pure]; show Q (acc ++ (y :: ys)) ρ G
      simpa using h
    · rename_i ht
      rw [if_neg ht] at h
      rw [Wp.bind]
      rw [Wp.wipeM]; exact rc _ _ _ h
theorem Wp.mLc {Mu : Nat → Bool} {vs : List Nat} {mi : M (List W)} {mt : W → M Unit} {mtest : M Bool} {me : M W} {Q : W → Sl → List W → Prop} : Wp (Mp.mLc Mu vs mi mt mtest me) ρ G Q E = Wp mi ρ G (fun ws ρ G => szOk ws.length = true ∧ Wp (Mp.lcLoop vs mt mtest me ws) (wipeR ρ vs) G (fun ys ρ' G => Q (.lst ys) (backR Mu ρ vs ρ') G) (fun _ _ => False)) E := by
  unfold Mp.mLc
  rw [Wp.bind]
  congr 1; funext ws ρ G; apply propext
  constructor
  · intro h
    unfold Wp at h
    dsimp only at h
    by_cases hs : szOk ws.length = true
    · rw [if_pos hs] at h
      refine ⟨hs, ?_⟩
      unfold Wp
      cases e : Mp.lcLoop vs mt mtest me ws (wipeR ρ vs) G <;> rw [e] at h <;> exact h
    · rw [if_neg hs] at h; exact h.elim
  · rintro ⟨hs, h⟩
    unfold Wp at h
    unfold Wp
    dsimp only
    rw [if_pos hs]
    cases e : Mp.lcLoop vs mt mtest me ws (wipeR ρ vs) G <;> rw [e] at h <;> exact h
/-- a comprehension that changes nothing: each item's part told by f -/
theorem Wp.lc_pure {Mu : Nat → Bool} {vs : List Nat} {mt : W → M Unit} {mtest : M Bool} {me : M W} {ws : List W} {Q : W → Sl → List W → Prop} (f : W → Option W) (hs : szOk ws.length = true)
    (h : ∀ w ∈ ws, Wp (mt w) (wipeR ρ vs) G (fun _ ρ1 G1 => Wp mtest ρ1 G1 (fun t ρ2 G2 => if t = true then Wp me ρ2 G2 (fun y ρ3 G3 => f w = some y ∧ wipeR ρ3 vs = wipeR ρ vs ∧ G3 = G) (fun _ _ => False) else f w = none ∧ wipeR ρ2 vs = wipeR ρ vs ∧ G2 = G) (fun _ _ => False)) (fun _ _ => False))
    (q : Q (.lst (ws.filterMap f)) ρ G) (hρ : backR Mu ρ vs (wipeR ρ vs) = ρ := by rfl) : szOk ws.length = true ∧ Wp (Mp.lcLoop vs mt mtest me ws) (wipeR ρ vs) G (fun ys ρ' G => Q (.lst ys) (backR Mu ρ vs ρ') G) (fun _ _ => False) := by
  refine ⟨hs, ?_⟩
  have := Wp.lcLoop (vs := vs) (mt := mt) (mtest := mtest) (me := me) (ws := ws) (ρ := wipeR ρ vs) (G := G) (acc := []) (Q := fun ys ρ' G => Q (.lst ys) (backR Mu ρ vs ρ') G) (fun i acc ρ1 G1 => acc = (ws.take i).filterMap f ∧ ρ1 = wipeR ρ vs ∧ G1 = G) 0 ⟨by simp, rfl, rfl⟩ (fun i w acc ρ1 G1 e h1 => ?_) (fun acc ρ1 G1 h1 => ?_)
  · simpa using this
  · obtain ⟨rfl, rfl, rfl⟩ := h1
    rw [Nat.zero_add]
    have hm := h w (List.mem_of_getElem? e)
    have ht : ws.take (i + 1) = ws.take i ++ [w] := by
      rw [List.take_add_one, e]; rfl
    refine hm.imp (fun _ ρ G h => h.imp (fun t ρ G h => ?_) fun _ _ h => h) fun _ _ h => h
    split
    · rename_i hk
      rw [if_pos hk] at h
      refine h.imp (fun y ρ G ⟨h1, h2, h3⟩ => ⟨?_, h2, h3⟩) fun _ _ h => h
      rw [ht, List.filterMap_append]
      simp [h1]
    · rename_i hk
      rw [if_neg hk] at h
      obtain ⟨h1, h2, h3⟩ := h
      refine ⟨?_, h2, h3⟩
      rw [ht, List.filterMap_append]
      simp [h1]
  · obtain ⟨rfl, rfl, rfl⟩ := h1
    rw [Nat.zero_add, List.take_length, hρ]
    exact q
theorem Wp.comp {Mu : Nat → Bool} {vs : List Nat} {mi : M (List W)} {mt : W → M Unit} {mtest : M Bool} {me : M W} {Q : W → Sl → List W → Prop} (f : W → Option W) (ws : List W) (hs : szOk ws.length = true)
    (hi : Wp mi ρ G (fun l ρ1 G1 => l = ws ∧ ρ1 = ρ ∧ G1 = G) E)
    (h : ∀ w ∈ ws, Wp (mt w) (wipeR ρ vs) G (fun _ ρ1 G1 => Wp mtest ρ1 G1 (fun t ρ2 G2 => if t = true then Wp me ρ2 G2 (fun y ρ3 G3 => f w = some y ∧ wipeR ρ3 vs = wipeR ρ vs ∧ G3 = G) (fun _ _ => False) else f w = none ∧ wipeR ρ2 vs = wipeR ρ vs ∧ G2 = G) (fun _ _ => False)) (fun _ _ => False))
    (q : Q (.lst (ws.filterMap f)) ρ G) (hρ : backR Mu ρ vs (wipeR ρ vs) = ρ := by rfl) : Wp (Mp.mLc Mu vs mi mt mtest me) ρ G Q E := by
  rw [Wp.mLc]
  refine hi.imp (fun l ρ1 G1 h1 => ?_) fun _ _ h => h
  obtain ⟨rfl, rfl, rfl⟩ := h1
  exact Wp.lc_pure f hs h q hρ
theorem runF_ex {n : Nat} {m : M Fl} {ws : List W} {P : W → List W → Prop} (h : Wp m (ws.map some ++ List.replicate (n - ws.length) none) G (fun fl _ G1 => ∃ w, fl = .rt w ∧ P w G1) fun _ _ => False) : ∃ w G1, P w G1 ∧ runF n m ws G = .ok w [] G1 := by
  unfold Wp at h
  unfold runF
  cases e : m (ws.map some ++ List.replicate (n - ws.length) none) G with
  | bad => rw [e] at h; exact h.elim
  | exc k G2 => rw [e] at h; exact h.elim
  | ok fl ρ2 G2 =>
    rw [e] at h
    obtain ⟨w, rfl, h⟩ := h
    exact ⟨w, G2, h, rfl⟩
/-- a comprehension that draws -/
theorem Wp.compS {Mu : Nat → Bool} {vs : List Nat} {mi : M (List W)} {mt : W → M Unit} {mtest : M Bool} {me : M W} {Q : W → Sl → List W → Prop} (I : Nat → List W → List W → Prop) (ws : List W) (hs : szOk ws.length = true)
    (hi : Wp mi ρ G (fun l ρ1 G1 => l = ws ∧ ρ1 = ρ ∧ G1 = G) E) (h0 : I 0 [] G)
    (h : ∀ (i : Nat) (w : W) (acc G : List W), ws[i]? = some w → I i acc G → Wp (mt w) (wipeR ρ vs) G (fun _ ρ1 G1 => Wp mtest ρ1 G1 (fun t ρ2 G2 => if t = true then Wp me ρ2 G2 (fun y ρ3 G3 => I (i + 1) (acc ++ [y]) G3 ∧ wipeR ρ3 vs = wipeR ρ vs) (fun _ _ => False) else I (i + 1) acc G2 ∧ wipeR ρ2 vs = wipeR ρ vs) (fun _ _ => False)) (fun _ _ => False))
    (q : ∀ acc G', I ws.length acc G' → Q (.lst acc) ρ G') (hρ : backR Mu ρ vs (wipeR ρ vs) = ρ := by rfl) : Wp (Mp.mLc Mu vs mi mt mtest me) ρ G Q E := by
  rw [Wp.mLc]
  refine hi.imp (fun l ρ1 G1 h1 => ?_) fun _ _ h => h
  obtain ⟨rfl, rfl, rfl⟩ := h1
  refine ⟨hs, ?_⟩
  have := Wp.lcLoop (vs := vs) (mt := mt) (mtest := mtest) (me := me) (ws := l) (ρ := wipeR ρ1 vs) (G := G1) (acc := []) (Q := fun ys ρ' G => Q (.lst ys) (backR Mu ρ1 vs ρ') G) (fun i acc ρ2 G2 => ρ2 = wipeR ρ1 vs ∧ I i acc G2) 0 ⟨rfl, h0⟩ (fun i w acc ρ2 G2 e h1 => ?_) (fun acc ρ2 G2 h1 => ?_)
  · simpa using this
  · obtain ⟨rfl, h1⟩ := h1
    rw [Nat.zero_add] at h1 ⊢
    refine (h i w acc G2 e h1).imp (fun _ ρ G h => h.imp (fun t ρ G h => ?_) fun _ _ h => h) fun _ _ h => h
    split
    · rename_i hk
      rw [if_pos hk] at h
      exact h.imp (fun y ρ G ⟨h1, h2⟩ => ⟨h2, h1⟩) fun _ _ h => h
    · rename_i hk
      rw [if_neg hk] at h
      exact ⟨h.2, h.1⟩
  · obtain ⟨rfl, h1⟩ := h1
    rw [Nat.zero_add] at h1
    rw [hρ]
    exact q acc G2 h1
end
end Mp
set_option Elab.async false
set_option linter.all false
set_option maxRecDepth 100000
set_option maxHeartbeats 2000000
/-! Mq1: plain operations at plain numbers. -/
namespace Mp
open PySem PySem.Spec L2
open PyProof.Rows hiding St
theorem szOk_of {n : Nat} (h : n ≤ 16777216) : szOk n = true := decide_eq_true h
theorem blsW_bl : ∀ l : List Bool, blsW (l.map W.bl) = some l
  | [] => rfl
  | b :: l => by show (blsW (l.map W.bl)).map (b :: ·) = _; rw [blsW_bl l]; rfl
theorem intsW_int : ∀ l : List Int, intsW (l.map W.int) = some l
  | [] => rfl
  | b :: l => by show (intsW (l.map W.int)).map (b :: ·) = _; rw [intsW_int l]; rfl
theorem strsW_str : ∀ l : List (List Nat), strsW (l.map W.str) = some l
  | [] => rfl
  | b :: l => by show (strsW (l.map W.str)).map (b :: ·) = _; rw [strsW_str l]; rfl
theorem fm_some {α β : Type} (g : α → β) : ∀ l : List α, l.filterMap (fun a => some (g a)) = l.map g
  | [] => rfl
  | a :: l => by rw [List.filterMap_cons, fm_some g l]; rfl
theorem all_true {l : List W} (h : ∀ w ∈ l, w = .bl true) : wAll (.lst l) = some (.bl true) := by
  have e : l = (l.map fun _ => true).map W.bl := by
    rw [List.map_map]
    conv => lhs; rw [← List.map_id l]
    exact List.map_congr_left fun w hw => by rw [h w hw]; rfl
  rw [e]
  show (blsW ((l.map fun _ => true).map W.bl)).map (fun bs => W.bl (bs.all id)) = _
  rw [blsW_bl]
  simp
theorem any_false {l : List W} (h : ∀ w ∈ l, w = .bl false) : wAny (.lst l) = some (.bl false) := by
  have e : l = (l.map fun _ => false).map W.bl := by
    rw [List.map_map]
    conv => lhs; rw [← List.map_id l]
    exact List.map_congr_left fun w hw => by rw [h w hw]; rfl
  rw [e]
  show (blsW ((l.map fun _ => false).map W.bl)).map (fun bs => W.bl (bs.any id)) = _
  rw [blsW_bl]
  simp
theorem atI_n {α : Type} {xs : List α} {k : Nat} {x : α} (h : xs[k]? = some x) : atI xs (k : Int) = some x := atI_nat h
theorem q_ix_str {s : List Nat} {k c : Nat} (h : s[k]? = some c) (hs : s.length ≤ 16777216) : wIx (.str s) (.int (k : Int)) = some (.str [c]) := by
  show (if szOk s.length then (atI s k).map fun c => W.str [c] else none) = _
  rw [szOk_of hs, if_pos rfl, atI_n h]; rfl
theorem q_ix_lst {s : List W} {k : Nat} {c : W} (h : s[k]? = some c) : wIx (.lst s) (.int (k : Int)) = some c := atI_n h
theorem q_ix_tup {s : List W} {k : Nat} {c : W} (h : s[k]? = some c) : wIx (.tup s) (.int (k : Int)) = some c := atI_n h
theorem q_mod_n {a b : Nat} (h : 0 < b) : wMod (.int a) (.int b) = some (.int ((a % b : Nat) : Int)) := by
  show (if decide ((0 : Int) < b) then some (W.int ((a : Int) % b)) else none) = _
  rw [if_pos (decide_eq_true (by omega)), Int.natCast_emod]
theorem big_lt {b : Nat} (hb : b ≤ 2 ^ 64) : ((b : Int)).natAbs < 2 ^ 8000 := by
  rw [Int.natAbs_natCast]
  exact Nat.lt_of_le_of_lt hb (Nat.pow_lt_pow_right (by decide) (by decide))
theorem q_div_n {a b : Nat} (h : 0 < b) (hb : b ≤ 2 ^ 64) : wDiv (.int a) (.int b) = some (.int ((a / b : Nat) : Int)) := by
  show (if decide ((0 : Int) < b) && decide (((b : Int)).natAbs < 2 ^ 8000) then some (W.int ((a : Int) / b)) else none) = _
  rw [decide_eq_true (by omega), decide_eq_true (big_lt hb), Int.natCast_ediv]; rfl
theorem q_mul_n {a b : Nat} (h : a < 18446744073709551616) : wMul (.int a) (.int b) = some (.int ((a * b : Nat) : Int)) := by
  show (if mulOk a b then some (W.int ((a : Int) * b)) else none) = _
  rw [if_pos (by unfold mulOk; rw [Int.natAbs_natCast, decide_eq_true h]; rfl), Int.natCast_mul]
theorem q_add_n {a b : Nat} : wAdd (.int a) (.int b) = some (.int ((a + b : Nat) : Int)) := by
  show some (W.int ((a : Int) + b)) = _
  rw [Int.natCast_add]
theorem q_addI_n {a b : Nat} : wAddI (.int a) (.int b) = some (.int ((a + b : Nat) : Int)) := by
  show some (W.int ((a : Int) + b)) = _
  rw [Int.natCast_add]
theorem q_len_str {s : List Nat} (hs : s.length ≤ 16777216) : wLen (.str s) = some (.int (s.length : Nat)) := by
  show (if szOk s.length then some (W.int s.length) else none) = _
  rw [if_pos (szOk_of hs)]
theorem q_eq_str {a b : List Nat} : wEq (.str a) (.str b) = some (.bl (a == b)) := rfl
theorem q_ne_str {a b : List Nat} : wNe (.str a) (.str b) = some (.bl (!(a == b))) := rfl
theorem q_eq_int {a b : Int} : wEq (.int a) (.int b) = some (.bl (a == b)) := rfl
theorem q_ne_int {a b : Int} : wNe (.int a) (.int b) = some (.bl (!(a == b))) := rfl
theorem q_count_str {s : List Nat} {d : Nat} : wCount (.str s) (.str [d]) = some (.int (s.count d : Nat)) := rfl
theorem q_rng1_n {n : Nat} (h : n < 2 ^ 62) : rng1 (.int (n : Int)) = some ((List.range n).map fun (i : Nat) => W.int i) := by
  show (if rngOk (n : Int) then some ((List.range (n : Int).toNat).map fun (i : Nat) => W.int i) else none) = _
  rw [if_pos (by unfold rngOk; rw [decide_eq_true (by omega), decide_eq_true (by omega)]; rfl), Int.toNat_natCast]
theorem q_cut_to {s : List Nat} {k : Nat} (hs : s.length ≤ 16777216) : wCut (.str s) none (some (k : Int)) = some (.str (s.take k)) := by
  show (if szOk s.length then some (W.str (cutL s none (some (k : Int)))) else none) = _
  rw [if_pos (szOk_of hs)]
  unfold cutL
  rw [HT.sIx_none, HT.sIx_nat]
  congr 2
  rw [List.drop_zero, Nat.sub_zero]
  by_cases h : k ≤ s.length
  · rw [Nat.min_eq_left h]
  · rw [Nat.min_eq_right (by omega), List.take_of_length_le (Nat.le_refl _), List.take_of_length_le (by omega)]
theorem q_join_strs {ls : List (List Nat)} (h : (ls.map List.length).sum ≤ 16777216) : wJoin (.str []) (.lst (ls.map W.str)) = some (.str (joinS [] ls)) := by
  show (strsW (ls.map W.str)).bind _ = _
  rw [strsW_str]
  show (if szOk ((ls.map List.length).sum + ls.length * 0) then some (W.str (joinS [] ls)) else none) = _
  rw [if_pos (szOk_of (by omega))]
theorem joinS_nil : ∀ ls : List (List Nat), joinS [] ls = ls.flatten
  | [] => rfl
  | [p] => by simp [joinS]
  | p :: q :: r => by
    show p ++ ([] ++ joinS [] (q :: r)) = _
    rw [joinS_nil (q :: r)]; simp
/-- "".join of single signs -/
theorem q_join_signs {l : List Nat} (h : l.length ≤ 16777216) : wJoin (.str []) (.lst (l.map fun c => W.str [c])) = some (.str l) := by
  have e : (l.map fun c => W.str [c]) = (l.map fun c => [c]).map W.str := by rw [List.map_map]; rfl
  rw [e, q_join_strs, joinS_nil]
  · congr 2
    clear e h
    induction l with
    | nil => rfl
    | cons a l ih => rw [List.map_cons, List.flatten_cons, ih]; rfl
  · rw [List.map_map]
    have : (l.map (List.length ∘ fun c => [c])) = l.map fun _ => 1 := List.map_congr_left fun _ _ => rfl
    rw [this]
    have s : ∀ l : List Nat, (l.map fun _ => 1).sum = l.length := fun l => by induction l with
      | nil => rfl
      | cons a l ih => rw [List.map_cons, List.sum_cons, ih, List.length_cons]; omega
    rw [s]; exact h
theorem q_app_ok {l : List W} {y : W} (h : l.length < 16777216) : fApp l [y] = some (.non, l ++ [y]) := by
  show (if decide (l.length < 16777216) then some (W.non, l ++ [y]) else none) = _
  rw [if_pos (decide_eq_true h)]
section
variable {i j : Int} {a b : List Nat} {x y : W} {l : List W} {f : W → Option W} {g : W → W → Option W} {k m : Bool}
theorem q_le : wLe (.int i) (.int j) = some (.bl (decide (i ≤ j))) := rfl
theorem q_lt : wLtI (.int i) (.int j) = some (.bl (decide (i < j))) := rfl
theorem q_gt : wGt (.int i) (.int j) = some (.bl (decide (j < i))) := rfl
theorem q_ge : wGe (.int i) (.int j) = some (.bl (decide (j ≤ i))) := rfl
theorem q_sub : wSub (.int i) (.int j) = some (.int (i - j)) := rfl
theorem q_neg : wNeg (.int i) = some (.int (-i)) := rfl
theorem q_eq_b : wEq (.bl k) (.bl m) = some (.bl (k == m)) := rfl
theorem q_ne_b : wNe (.bl k) (.bl m) = some (.bl (!(k == m))) := rfl
theorem q_b : boolW (.bl k) = some k := rfl
theorem q_i : intW (.int i) = some i := rfl
theorem q_s : strW (.str a) = some a := rfl
theorem q_l : lstW (.lst l) = some l := rfl
theorem q_seqS : seqW (.str a) = some (a.map fun c => .str [c]) := rfl
theorem q_seqL : seqW (.lst l) = some l := rfl
theorem q_seqT : seqW (.tup l) = some l := rfl
theorem q_seqN {ns : List Int} : seqW (.scr ns) = some (ns.map W.int) := rfl
theorem q_f1 : f1 f [x] = f x := rfl
theorem q_f2 : f2 g [x, y] = g x y := rfl
theorem q_abs : wAbs (.int i) = some (.int (if i < 0 then -i else i)) := rfl
theorem q_intI : wInt (.int i) = some (.int i) := rfl
theorem q_isN : w2IsN x .non = some (.bl (isNon x)) := rfl
theorem q_notN : w2NotN x .non = some (.bl (!isNon x)) := rfl
theorem q_tb : truW (.bl k) = some k := rfl
theorem q_ti : truW (.int i) = some (i != 0) := rfl
theorem q_lenL : wLen (.lst l) = some (.int l.length) := rfl
theorem q_lenT : wLen (.tup l) = some (.int l.length) := rfl
theorem q_tuple : wTuple (.lst l) = some (.tup l) := rfl
end
theorem q_mul_s {s : List Nat} {n : Nat} (hn : n ≤ 16777216) (h : s.length * n ≤ 16777216) (hs : s.length ≤ 16777216) : wMul (.str s) (.int (n : Int)) = some (.str (repS s n)) := by
  show (if repOk s.length (n : Int) then some (W.str (repS s (n : Int).toNat)) else none) = _
  rw [Int.toNat_natCast, if_pos]
  unfold repOk
  rw [decide_eq_true (show -(2 ^ 63) ≤ (n : Int) by omega), decide_eq_true (show (n : Int) ≤ 16777216 by omega), Int.toNat_natCast, decide_eq_true h, decide_eq_true hs]
  rfl
theorem q_mul_r {a b : Nat} (h : b < 18446744073709551616) : wMul (.int a) (.int b) = some (.int ((a * b : Nat) : Int)) := by
  show (if mulOk a b then some (W.int ((a : Int) * b)) else none) = _
  rw [if_pos (by unfold mulOk; rw [Int.natAbs_natCast, Int.natAbs_natCast, decide_eq_true h, Bool.or_true]; rfl), Int.natCast_mul]
end Mp
set_option Elab.async false
set_option linter.all false
set_option maxRecDepth 100000
set_option maxHeartbeats 4000000
namespace K56
open PySem PySem.Spec L2 Mp
open PyProof.Rows hiding St
abbrev N_share : List Str := ["n", "d", "a", "b"]
def Mu_share : Nat → Bool := fun _ => false
def m_share : M Fl :=
  (mSeq (mIf (mB (m2 wEq (mS 1) (mV (M.pure (.int 0)))))
  (mRaise 1)
  mSkip)
  (mSeq (mIf (mB (m2 wLtI (mS 1) (mV (M.pure (.int 0)))))
  (mPar 0 1 (mCons (m1 wNeg (mS 0)) (mCons (m1 wNeg (mS 1)) mNil)))
  mSkip)
  (mSeq (mPar 2 3 (mCons (mCall (f1 wAbs) (mCons (mS 0) mNil)) (mCons (getS 1) mNil)))
  (mSeq (mWhile 1000000000000 (mB (m2 wGt (mS 3) (mV (M.pure (.int 0)))))
  (mPar 2 3 (mCons (getS 3) (mCons (m2 wMod (mS 2) (mS 3)) mNil))))
  (mRet (mTup (mCons (m2 wDiv (mS 0) (mS 2)) (mCons (m2 wDiv (mS 1) (mS 2)) mNil))))))))
def fn_share : Fn := runF 4 m_share
abbrev N_check_pattern : List Str := ["pattern", "sign"]
def Mu_check_pattern : Nat → Bool := fun _ => false
def m_check_pattern : M Fl :=
  (mSeq (mIf (mOr (mNot (mB (mCh wLe wLe (mV (M.pure (.int 2))) (mV (mCall (f1 wLen) (mCons (mS 0) mNil))) (mV (M.pure (.int 12)))))) (mNot (mT (mV (mCall (f1 wAll) (mCons (mV (mLc Mu_check_pattern [1] (mSeqI (getS 0)) (setU 1) mTrue (m2 wIn (mS 1) (mV (m2 wAdd (mV (M.pure (.str [48, 49, 50, 51]))) (mV (M.pure (.str [46])))))))) mNil))))))
  (mRaise 2)
  mSkip)
  (mIf (mOr (mB (m2 wEq (mV (m2 wIx (mS 0) (mV (M.pure (.int 0))))) (mV (M.pure (.str [46]))))) (mB (m2 wNotIn (mV (M.pure (.str [46]))) (mS 0))))
  (mRaise 2)
  mSkip))
def fn_check_pattern : Fn := runF 2 m_check_pattern
abbrev N_filled : List Str := ["pattern", "length", "found", "at", "k", "sign"]
def Mu_filled : Nat → Bool := fun i => i == 2
def m_filled : M Fl :=
  (mSeq (mDrop (mCallF fn_check_pattern (mCons (getS 0) mNil)))
  (mSeq (mIf (mNot (mB (mCh wLe wLe (mV (M.pure (.int 0))) (mS 1) (mV (M.pure (.int 4000))))))
  (mRaise 2)
  mSkip)
  (mSeq (mSet 2 (mLst mNil))
  (mSeq (mSet 3 (M.pure (.int 0)))
  (mSeq (M.bind (mI1 rng1 (mCons (mS 1) mNil)) fun ws => mFor (setU 4)
  (mSeq (mSet 5 (m2 wIx (mS 0) (mV (m2 wMod (mS 4) (mV (mCall (f1 wLen) (mCons (mS 0) mNil)))))))
  (mSeq (mIf (mB (m2 wEq (mS 5) (mV (M.pure (.str [46])))))
  (mSeq (mSet 5 (m2 wIx (mS 2) (mS 3)))
  (mAug wAddI 3 (mV (M.pure (.int 1)))))
  mSkip)
  (mDrop (mMeth fApp 2 (mCons (getS 5) mNil))))) ws)
  (mRet (mM1 wJoin (M.pure (.str [])) (mS 2))))))))
def fn_filled : Fn := runF 6 m_filled
abbrev N_sign_at : List Str := ["pattern", "place", "holes", "whole", "rest"]
def Mu_sign_at : Nat → Bool := fun _ => false
def m_sign_at : M Fl :=
  (mSeq (mDrop (mCallF fn_check_pattern (mCons (getS 0) mNil)))
  (mSeq (mIf (mNot (mB (mCh wLe wLe (mV (M.pure (.int 0))) (mS 1) (mV (M.pure (.int 1000000000))))))
  (mRaise 2)
  mSkip)
  (mSeq (mSet 2 (mM1 wCount (getS 0) (mV (M.pure (.str [46])))))
  (mWhile 1000000000000 (mB (M.pure (.bl true)))
  (mSeq (mPar 3 4 (mCons (m2 wDiv (mS 1) (mV (mCall (f1 wLen) (mCons (mS 0) mNil)))) (mCons (m2 wMod (mS 1) (mV (mCall (f1 wLen) (mCons (mS 0) mNil)))) mNil)))
  (mSeq (mIf (mB (m2 wNe (mV (m2 wIx (mS 0) (mS 4))) (mV (M.pure (.str [46])))))
  (mRet (m2 wIx (mS 0) (mS 4)))
  mSkip)
  (mSet 1 (m2 wAdd (mV (m2 wMul (mS 3) (mS 2))) (mV (mM1 wCount (mCut wCut (mS 0) mNo (mSome (mS 4))) (mV (M.pure (.str [46])))))))))))))
def fn_sign_at : Fn := runF 5 m_sign_at
abbrev N_depth_at : List Str := ["pattern", "place", "holes", "found"]
def Mu_depth_at : Nat → Bool := fun _ => false
def m_depth_at : M Fl :=
  (mSeq (mDrop (mCallF fn_check_pattern (mCons (getS 0) mNil)))
  (mSeq (mIf (mNot (mB (mCh wLe wLe (mV (M.pure (.int 0))) (mS 1) (mV (M.pure (.int 1000000000))))))
  (mRaise 2)
  mSkip)
  (mSeq (mSet 2 (mM1 wCount (getS 0) (mV (M.pure (.str [46])))))
  (mSeq (mSet 3 (M.pure (.int 0)))
  (mSeq (mWhile 1000000000000 (mB (m2 wEq (mV (m2 wIx (mS 0) (mV (m2 wMod (mS 1) (mV (mCall (f1 wLen) (mCons (mS 0) mNil))))))) (mV (M.pure (.str [46])))))
  (mSeq (mSet 1 (m2 wAdd (mV (m2 wMul (mV (m2 wDiv (mS 1) (mV (mCall (f1 wLen) (mCons (mS 0) mNil))))) (mS 2))) (mV (mM1 wCount (mCut wCut (mS 0) mNo (mSome (mV (m2 wMod (mS 1) (mV (mCall (f1 wLen) (mCons (mS 0) mNil))))))) (mV (M.pure (.str [46])))))))
  (mAug wAddI 3 (mV (M.pure (.int 1))))))
  (mRet (getS 3)))))))
def fn_depth_at : Fn := runF 4 m_depth_at
abbrev N_common : List Str := ["a", "b"]
def Mu_common : Nat → Bool := fun _ => false
def m_common : M Fl :=
  (mSeq (mWhile 1000000000000 (mT (mS 1))
  (mPar 0 1 (mCons (getS 1) (mCons (m2 wMod (mS 0) (mS 1)) mNil))))
  (mRet (getS 0)))
def fn_common : Fn := runF 2 m_common
abbrev N_layers : List Str := ["pattern", "many", "now", "_", "holes", "round_size", "wide", "told", "at", "sign"]
def Mu_layers : Nat → Bool := fun i => i == 7
def m_layers : M Fl :=
  (mSeq (mDrop (mCallF fn_check_pattern (mCons (getS 0) mNil)))
  (mSeq (mIf (mNot (mB (mCh wLe wLe (mV (M.pure (.int 1))) (mS 1) (mV (M.pure (.int 4))))))
  (mRaise 2)
  mSkip)
  (mSeq (mSet 2 (getS 0))
  (mSeq (M.bind (mI1 rng1 (mCons (mV (m2 wSub (mS 1) (mV (M.pure (.int 1))))) mNil)) fun ws => mFor (setU 3)
  (mSeq (mSet 4 (mM1 wCount (getS 2) (mV (M.pure (.str [46])))))
  (mSeq (mSet 5 (m2 wMul (mV (m2 wDiv (mV (mCall (f1 wLen) (mCons (mS 0) mNil))) (mV (mCallF fn_common (mCons (getS 4) (mCons (mCall (f1 wLen) (mCons (mS 0) mNil)) mNil)))))) (mV (mCall (f1 wLen) (mCons (mS 2) mNil)))))
  (mSeq (mIf (mB (m2 wGt (mS 5) (mV (M.pure (.int 4000)))))
  (mRaise 2)
  mSkip)
  (mSeq (mSet 6 (m2 wMul (mS 2) (mV (m2 wDiv (mS 5) (mV (mCall (f1 wLen) (mCons (mS 2) mNil)))))))
  (mSeq (mSet 7 (mLst mNil))
  (mSeq (mSet 8 (M.pure (.int 0)))
  (mSeq (M.bind (mSeqI (getS 6)) fun ws => mFor (setU 9)
  (mIf (mB (m2 wEq (mS 9) (mV (M.pure (.str [46])))))
  (mSeq (mDrop (mMeth fApp 7 (mCons (m2 wIx (mS 0) (mV (m2 wMod (mS 8) (mV (mCall (f1 wLen) (mCons (mS 0) mNil)))))) mNil)))
  (mAug wAddI 8 (mV (M.pure (.int 1)))))
  (mDrop (mMeth fApp 7 (mCons (getS 9) mNil)))) ws)
  (mSet 2 (mM1 wJoin (M.pure (.str [])) (mS 7)))))))))) ws)
  (mRet (getS 2))))))
def fn_layers : Fn := runF 10 m_layers
abbrev N_open_share : List Str := ["pattern", "many", "told"]
def Mu_open_share : Nat → Bool := fun _ => false
def m_open_share : M Fl :=
  (mSeq (mSet 2 (mCallF fn_layers (mCons (getS 0) (mCons (getS 1) mNil))))
  (mRet (mCallF fn_share (mCons (mM1 wCount (getS 2) (mV (M.pure (.str [46])))) (mCons (mCall (f1 wLen) (mCons (mS 2) mNil)) mNil)))))
def fn_open_share : Fn := runF 3 m_open_share
abbrev N_round_at : List Str := ["pattern", "place", "many", "told"]
def Mu_round_at : Nat → Bool := fun _ => false
def m_round_at : M Fl :=
  (mSeq (mDrop (mCallF fn_check_pattern (mCons (getS 0) mNil)))
  (mSeq (M.bind (mI2 rng2 (mCons (mV (M.pure (.int 1))) (mCons (mV (M.pure (.int 5))) mNil))) fun ws => mFor (setU 2)
  (mSeq (mSet 3 (mCallF fn_layers (mCons (getS 0) (mCons (getS 2) mNil))))
  (mIf (mB (m2 wNe (mV (m2 wIx (mS 3) (mV (m2 wMod (mS 1) (mV (mCall (f1 wLen) (mCons (mS 3) mNil))))))) (mV (M.pure (.str [46])))))
  (mRet (mCall (f1 wLen) (mCons (mS 3) mNil)))
  mSkip)) ws)
  (mRaise 2)))
def fn_round_at : Fn := runF 4 m_round_at
abbrev N_sums_at : List Str := ["pattern", "length", "told", "sign"]
def Mu_sums_at : Nat → Bool := fun _ => false
def m_sums_at : M Fl :=
  (mSeq (mSet 2 (mCallF fn_filled (mCons (getS 0) (mCons (getS 1) mNil))))
  (mRet (mCall (f1 wTuple) (mCons (mV (mLc Mu_sums_at [3] (mSeqI (M.pure (.str [48, 49, 50, 51]))) (setU 3) mTrue (mM1 wCount (getS 2) (mS 3)))) mNil))))
def fn_sums_at : Fn := runF 4 m_sums_at
abbrev N__law_tape : List Str := ["script", "cells", "seed", "cell"]
def Mu__law_tape : Nat → Bool := fun _ => false
def m__law_tape : M Fl :=
  (mSeq (mSet 1 (mLc Mu__law_tape [3] (mSeqI (getS 0)) (setU 3) mTrue (mCall (f1 wAbs) (mCons (mV (mCall (f1 wInt) (mCons (mS 3) mNil))) mNil))))
  (mSeq (mSet 2 (M.pure (.int 7)))
  (mSeq (M.bind (mSeqI (getS 1)) fun ws => mFor (setU 3)
  (mSet 2 (m2 wMod (mV (mCall (f1 wInt) (mCons (mV (m2 wAdd (mV (m2 wMul (mS 2) (mV (M.pure (.int 31))))) (mS 3))) mNil))) (mV (M.pure (.int 2147483647))))) ws)
  (mRet (mNewObj [[99, 101, 108, 108, 115], [97, 116], [108, 101, 102, 116], [115, 101, 101, 100], [115, 97, 108, 116]] (mCons (getS 1) (mCons (M.pure (.int 0)) (mCons (M.pure (.int 0)) (mCons (getS 2) (mCons (M.pure (.int 0)) mNil))))))))))
def fn__law_tape : Fn := runF 4 m__law_tape
abbrev N__law_take : List Str := ["tape", "many", "drawn", "mixed"]
def Mu__law_take : Nat → Bool := fun _ => false
def m__law_take : M Fl :=
  (mSeq (mIf (mAnd (mB (m2 wEq (mV (mDGet (mS 0) (mV (M.pure (.str [108, 101, 102, 116]))))) (mV (M.pure (.int 0))))) (mB (m2 wLtI (mV (mDGet (mS 0) (mV (M.pure (.str [97, 116]))))) (mV (mCall (f1 wLen) (mCons (mV (mDGet (mS 0) (mV (M.pure (.str [99, 101, 108, 108, 115]))))) mNil))))))
  (mSeq (mOPut 0 (mV (M.pure (.str [108, 101, 102, 116]))) (m2 wIx (mV (mDGet (mS 0) (mV (M.pure (.str [99, 101, 108, 108, 115]))))) (mV (mDGet (mS 0) (mV (M.pure (.str [97, 116])))))))
  (mOPut 0 (mV (M.pure (.str [97, 116]))) (m2 wAdd (mV (mDGet (mS 0) (mV (M.pure (.str [97, 116]))))) (mV (M.pure (.int 1))))))
  mSkip)
  (mSeq (mIf (mB (m2 wGt (mV (mDGet (mS 0) (mV (M.pure (.str [108, 101, 102, 116]))))) (mV (M.pure (.int 0)))))
  (mSeq (mSet 2 (m2 wMod (mV (mCall (f1 wInt) (mCons (mV (mDGet (mS 0) (mV (M.pure (.str [108, 101, 102, 116]))))) mNil))) (mS 1)))
  (mSeq (mOPut 0 (mV (M.pure (.str [108, 101, 102, 116]))) (m2 wDiv (mV (mDGet (mS 0) (mV (M.pure (.str [108, 101, 102, 116]))))) (mS 1)))
  (mRet (getS 2))))
  mSkip)
  (mSeq (mOPut 0 (mV (M.pure (.str [115, 97, 108, 116]))) (m2 wAdd (mV (mDGet (mS 0) (mV (M.pure (.str [115, 97, 108, 116]))))) (mV (M.pure (.int 1)))))
  (mSeq (mSet 3 (m2 wMod (mV (mCall (f1 wInt) (mCons (mV (m2 wAdd (mV (m2 wMul (mV (mDGet (mS 0) (mV (M.pure (.str [115, 101, 101, 100]))))) (mV (M.pure (.int 48271))))) (mV (m2 wMul (mV (mDGet (mS 0) (mV (M.pure (.str [115, 97, 108, 116]))))) (mV (M.pure (.int 69621))))))) mNil))) (mV (M.pure (.int 2147483647)))))
  (mSeq (mSet 3 (m2 wMod (mV (mCall (f1 wInt) (mCons (mV (m2 wAdd (mV (m2 wAdd (mV (m2 wMul (mS 3) (mS 3))) (mV (m2 wMul (mV (mDGet (mS 0) (mV (M.pure (.str [115, 97, 108, 116]))))) (mV (M.pure (.int 40692))))))) (mV (M.pure (.int 12345))))) mNil))) (mV (M.pure (.int 2147483399)))))
  (mRet (m2 wMod (mV (mCall (f1 wInt) (mCons (mS 3) mNil))) (mS 1))))))))
def fn__law_take : Fn := runF 4 m__law_take
abbrev N__law_named : List Str := ["word", "names", "sign"]
def Mu__law_named : Nat → Bool := fun _ => false
def m__law_named : M Fl :=
  (mRet (mM1 wJoin (M.pure (.str [])) (mV (mLc Mu__law_named [2] (mSeqI (getS 0)) (setU 2) mTrue (mIf (mB (m2 wEq (mS 2) (mV (M.pure (.str [46]))))) (getS 2) (m2 wIx (mS 1) (mV (mCall (f1 wInt) (mCons (mS 2) mNil)))))))))
def fn__law_named : Fn := runF 3 m__law_named
abbrev N__law_places_right : List Str := ["tape", "pattern", "names", "holes", "size", "turn", "place", "sign", "deep", "rest", "whole", "inner", "step", "k"]
def Mu__law_places_right : Nat → Bool := fun _ => false
def m__law_places_right : M Fl :=
  (mSeq (mSet 4 (mCall (f1 wLen) (mCons (mS 1) mNil)))
  (mSeq (M.bind (mI1 rng1 (mCons (mV (M.pure (.int 4))) mNil)) fun ws => mFor (setU 5)
  (mSeq (mSet 6 (mCallF fn__law_take (mCons (getS 0) (mCons (M.pure (.int 1000000)) mNil))))
  (mSeq (mAsg (tgTup 2 (tgCons (setU 7) (tgCons (setU 8) tgNil))) (mTup (mCons (mCallF fn_sign_at (mCons (getS 1) (mCons (getS 6) mNil))) (mCons (mCallF fn_depth_at (mCons (getS 1) (mCons (getS 6) mNil))) mNil))))
  (mSeq (mPar 9 10 (mCons (m2 wMod (mV (mCall (f1 wInt) (mCons (mS 6) mNil))) (mS 4)) (mCons (m2 wDiv (mS 6) (mS 4)) mNil)))
  (mSeq (mIf (mB (m2 wNe (mV (m2 wIx (mS 1) (mS 9))) (mV (M.pure (.str [46])))))
  (mIf (mOr (mB (m2 wNe (mS 7) (mV (m2 wIx (mS 1) (mS 9))))) (mB (m2 wNe (mS 8) (mV (M.pure (.int 0))))))
  (mRet (M.pure (.bl false)))
  mSkip)
  (mSeq (mSet 11 (m2 wAdd (mV (m2 wMul (mS 10) (mV (mCall (f1 wLen) (mCons (mS 3) mNil))))) (mV (mMethR wIndex (mS 3) (mCons (mS 9) mNil)))))
  (mIf (mOr (mB (m2 wNe (mS 7) (mV (mCallF fn_sign_at (mCons (getS 1) (mCons (getS 11) mNil)))))) (mB (m2 wNe (mS 8) (mV (m2 wAdd (mV (mCallF fn_depth_at (mCons (getS 1) (mCons (getS 11) mNil)))) (mV (M.pure (.int 1))))))))
  (mRet (M.pure (.bl false)))
  mSkip)))
  (mSeq (mIf (mOr (mB (m2 wNe (mV (mCallF fn_sign_at (mCons (mCallF fn__law_named (mCons (getS 1) (mCons (getS 2) mNil))) (mCons (getS 6) mNil)))) (mV (m2 wIx (mS 2) (mV (mCall (f1 wInt) (mCons (mS 7) mNil))))))) (mB (m2 wNe (mV (mCallF fn_depth_at (mCons (mCallF fn__law_named (mCons (getS 1) (mCons (getS 2) mNil))) (mCons (getS 6) mNil)))) (mS 8))))
  (mRet (M.pure (.bl false)))
  mSkip)
  (mSeq (mIf (mOr (mB (m2 wNe (mV (mCallF fn_sign_at (mCons (m2 wAdd (mS 1) (mS 1)) (mCons (getS 6) mNil)))) (mS 7))) (mB (m2 wNe (mV (mCallF fn_depth_at (mCons (m2 wAdd (mS 1) (mS 1)) (mCons (getS 6) mNil)))) (mS 8))))
  (mRet (M.pure (.bl false)))
  mSkip)
  (mSeq (mSet 12 (mTold Mu__law_places_right 2 (mCallF fn_round_at (mCons (getS 1) (mCons (getS 6) mNil)))))
  (mSeq (mIf (mAnd (mB (m2 wNe (mV (m2 w2IsN (mS 12) (mV (M.pure .non)))) (mV (m2 wGt (mS 8) (mV (M.pure (.int 3))))))) (mB (m2 wLtI (mS 4) (mV (M.pure (.int 5))))))
  (mRet (M.pure (.bl false)))
  mSkip)
  (mIf (mAnd (mB (m2 w2NotN (mS 12) (mV (M.pure .non)))) (mT (mV (mCall (f1 wAny) (mCons (mV (mLc Mu__law_places_right [13] (mI2 rng2 (mCons (mV (M.pure (.int 1))) (mCons (mV (M.pure (.int 4))) mNil))) (setU 13) mTrue (m2 wNe (mV (mCallF fn_sign_at (mCons (getS 1) (mCons (m2 wAdd (mS 6) (mV (m2 wMul (mS 13) (mS 12)))) mNil)))) (mS 7)))) mNil)))))
  (mRet (M.pure (.bl false)))
  mSkip))))))))) ws)
  (mRet (M.pure (.bl true)))))
def fn__law_places_right : Fn := runF 14 m__law_places_right
abbrev N__law_layers_right : List Str := ["pattern", "long", "holes", "size", "many", "told", "share_v", "power", "k"]
def Mu__law_layers_right : Nat → Bool := fun _ => false
def m__law_layers_right : M Fl :=
  (mSeq (mSet 3 (mCall (f1 wLen) (mCons (mS 0) mNil)))
  (mSeq (M.bind (mSeqI (mTup (mCons (M.pure (.int 1)) (mCons (M.pure (.int 2)) (mCons (M.pure (.int 3)) mNil))))) fun ws => mFor (setU 4)
  (mSeq (mSet 5 (mTold Mu__law_layers_right 2 (mCallF fn_layers (mCons (getS 0) (mCons (getS 4) mNil)))))
  (mIf (mB (m2 w2NotN (mS 5) (mV (M.pure .non))))
  (mSeq (mPar 6 7 (mCons (mCallF fn_open_share (mCons (getS 0) (mCons (getS 4) mNil))) (mCons (mLst (mCons (M.pure (.int 1)) (mCons (M.pure (.int 1)) mNil))) mNil)))
  (mSeq (M.bind (mI1 rng1 (mCons (mS 4) mNil)) fun ws => mFor (setU 8)
  (mSet 7 (mLst (mCons (m2 wMul (mV (m2 wIx (mS 7) (mV (M.pure (.int 0))))) (mV (mCall (f1 wLen) (mCons (mS 2) mNil)))) (mCons (m2 wMul (mV (m2 wIx (mS 7) (mV (M.pure (.int 1))))) (mS 3)) mNil)))) ws)
  (mSeq (mIf (mOr (mB (m2 wNe (mV (m2 wMul (mV (m2 wIx (mS 6) (mV (M.pure (.int 0))))) (mV (m2 wIx (mS 7) (mV (M.pure (.int 1))))))) (mV (m2 wMul (mV (m2 wIx (mS 7) (mV (M.pure (.int 0))))) (mV (m2 wIx (mS 6) (mV (M.pure (.int 1))))))))) (mT (mV (mCall (f1 wAny) (mCons (mV (mLc Mu__law_layers_right [8] (mI1 rng1 (mCons (mV (mCall (f2 wMin2) (mCons (mV (M.pure (.int 400))) (mCons (mV (mCall (f1 wLen) (mCons (mS 5) mNil))) mNil)))) mNil)) (setU 8) mTrue (mAndV (m2 wNe (mV (m2 wIx (mS 5) (mS 8))) (mV (M.pure (.str [46])))) (m2 wNe (mV (m2 wIx (mS 5) (mS 8))) (mV (m2 wIx (mS 1) (mS 8))))))) mNil)))))
  (mRet (M.pure (.bl false)))
  mSkip)
  (mIf (mT (mV (mCall (f1 wAny) (mCons (mV (mLc Mu__law_layers_right [8] (mI1 rng1 (mCons (mV (mCall (f2 wMin2) (mCons (mV (M.pure (.int 200))) (mCons (mV (mCall (f1 wLen) (mCons (mS 5) mNil))) mNil)))) mNil)) (setU 8) mTrue (m2 wNe (mV (m2 wEq (mV (m2 wIx (mS 5) (mS 8))) (mV (M.pure (.str [46]))))) (mV (m2 wGe (mV (mCallF fn_depth_at (mCons (getS 0) (mCons (getS 8) mNil)))) (mS 4)))))) mNil))))
  (mRet (M.pure (.bl false)))
  mSkip))))
  mSkip)) ws)
  (mRet (M.pure (.bl true)))))
def fn__law_layers_right : Fn := runF 9 m__law_layers_right
abbrev N_law : List Str := ["script", "tape", "size", "signs", "pattern", "holes", "long", "left", "names", "k", "few", "dots", "sums", "single", "place", "told", "deep", "digit", "sign", "a", "b"]
def Mu_law : Nat → Bool := fun i => i == 3 || i == 7
def m_law : M Fl :=
  (mSeq (mSet 1 (mCallF fn__law_tape (mCons (getS 0) mNil)))
  (mSeq (mSet 2 (m2 wAdd (mV (M.pure (.int 2))) (mV (mCallF fn__law_take (mCons (getS 1) (mCons (M.pure (.int 4)) mNil))))))
  (mSeq (mSet 3 (mLc Mu_law [9] (mI1 rng1 (mCons (mS 2) mNil)) (setU 9) mTrue (m2 wIx (mV (M.pure (.str [48, 49, 50, 51, 46]))) (mV (mCallF fn__law_take (mCons (getS 1) (mCons (M.pure (.int 5)) mNil)))))))
  (mSeq (mLPut 3 (mV (M.pure (.int 0))) (m2 wIx (mV (M.pure (.str [48, 49, 50, 51]))) (mV (mCallF fn__law_take (mCons (getS 1) (mCons (M.pure (.int 4)) mNil))))))
  (mSeq (mLPut 3 (mV (m2 wAdd (mV (M.pure (.int 1))) (mV (mCallF fn__law_take (mCons (getS 1) (mCons (m2 wSub (mS 2) (mV (M.pure (.int 1)))) mNil)))))) (M.pure (.str [46])))
  (mSeq (mSet 4 (mM1 wJoin (M.pure (.str [])) (mS 3)))
  (mSeq (mSet 5 (mLc Mu_law [9] (mI1 rng1 (mCons (mS 2) mNil)) (setU 9) (mB (m2 wEq (mV (m2 wIx (mS 4) (mS 9))) (mV (M.pure (.str [46]))))) (getS 9)))
  (mSeq (mSet 6 (mCallF fn_filled (mCons (getS 4) (mCons (M.pure (.int 400)) mNil))))
  (mSeq (mParF 7 8 (mCall (f1 wListS) (mCons (mV (M.pure (.str [48, 49, 50, 51]))) mNil)) (M.pure (.str [])))
  (mSeq (M.bind (mI1 rng1 (mCons (mV (M.pure (.int 4))) mNil)) fun ws => mFor (setU 9)
  (mSet 8 (m2 wAdd (mS 8) (mV (mMeth fPopAt 7 (mCons (mCallF fn__law_take (mCons (getS 1) (mCons (mCall (f1 wLen) (mCons (mS 7) mNil)) mNil))) mNil))))) ws)
  (mSeq (mIf (mOr (mB (m2 wNe (mV (mCallF fn_filled (mCons (mCallF fn__law_named (mCons (getS 4) (mCons (getS 8) mNil))) (mCons (M.pure (.int 400)) mNil)))) (mV (mCallF fn__law_named (mCons (getS 6) (mCons (getS 8) mNil)))))) (mB (m2 wNe (mV (mCallF fn_filled (mCons (m2 wAdd (mS 4) (mS 4)) (mCons (M.pure (.int 400)) mNil)))) (mS 6))))
  (mRet (M.pure (.bl false)))
  mSkip)
  (mSeq (mSet 10 (mCallF fn__law_take (mCons (getS 1) (mCons (M.pure (.int 401)) mNil))))
  (mSeq (mIf (mOr (mB (m2 wNe (mV (mCallF fn_filled (mCons (getS 4) (mCons (getS 10) mNil)))) (mV (mCut wCut (mS 6) mNo (mSome (mS 10)))))) (mB (m2 wNe (mV (mCallF fn_filled (mCons (getS 4) (mCons (M.pure (.int 0)) mNil)))) (mV (M.pure (.str []))))))
  (mRet (M.pure (.bl false)))
  mSkip)
  (mSeq (mSet 11 (mM1 wJoin (M.pure (.str [])) (mV (mLc Mu_law [9] (mI1 rng1 (mCons (mV (M.pure (.int 400))) mNil)) (setU 9) (mB (m2 wIn (mV (m2 wMod (mV (mCall (f1 wInt) (mCons (mS 9) mNil))) (mS 2))) (mS 5))) (m2 wIx (mS 6) (mS 9))))))
  (mSeq (mIf (mOr (mB (m2 wNe (mS 11) (mV (mCut wCut (mS 6) mNo (mSome (mV (mCall (f1 wLen) (mCons (mS 11) mNil)))))))) (mT (mV (mCall (f1 wAny) (mCons (mV (mLc Mu_law [9] (mI1 rng1 (mCons (mV (M.pure (.int 400))) mNil)) (setU 9) mTrue (mAndV (m2 wNe (mV (m2 wIx (mS 4) (mV (m2 wMod (mV (mCall (f1 wInt) (mCons (mS 9) mNil))) (mS 2))))) (mV (M.pure (.str [46])))) (m2 wNe (mV (m2 wIx (mS 6) (mS 9))) (mV (m2 wIx (mS 4) (mV (m2 wMod (mV (mCall (f1 wInt) (mCons (mS 9) mNil))) (mS 2))))))))) mNil)))))
  (mRet (M.pure (.bl false)))
  mSkip)
  (mSeq (mSet 12 (mCallF fn_sums_at (mCons (getS 4) (mCons (getS 10) mNil))))
  (mSeq (mIf (mOr (mB (m2 wNe (mV (mCall (f1 wSumA) (mCons (mS 12) mNil))) (mS 10))) (mB (m2 wNe (mS 12) (mV (mCall (f1 wTuple) (mCons (mV (mLc Mu_law [17] (mSeqI (M.pure (.str [48, 49, 50, 51]))) (setU 17) mTrue (mCall (f1 wLen) (mCons (mV (mLc (MuB Mu_law [17]) [18] (mSeqI (mCut wCut (mS 6) mNo (mSome (mS 10)))) (setU 18) (mB (m2 wEq (mS 18) (mS 17))) (getS 18))) mNil)))) mNil))))))
  (mRet (M.pure (.bl false)))
  mSkip)
  (mSeq (mIf (mT (mV (mCall (f1 wAny) (mCons (mV (mLc Mu_law [19, 20] (mSeqI (mCall (f2 wListZip) (mCons (mS 12) (mCons (mV (mCallF fn_sums_at (mCons (getS 4) (mCons (M.pure (.int 400)) mNil)))) mNil)))) (tgTup 2 (tgCons (setU 19) (tgCons (setU 20) tgNil))) mTrue (m2 wGt (mS 19) (mS 20)))) mNil))))
  (mRet (M.pure (.bl false)))
  mSkip)
  (mSeq (mIf (mOr (mNot (mT (mV (mCallF fn__law_places_right (mCons (getS 1) (mCons (getS 4) (mCons (getS 8) (mCons (getS 5) mNil)))))))) (mNot (mT (mV (mCallF fn__law_layers_right (mCons (getS 4) (mCons (getS 6) (mCons (getS 5) mNil))))))))
  (mRet (M.pure (.bl false)))
  mSkip)
  (mSeq (mIf (mB (m2 wNe (mV (mCallF fn_sign_at (mCons (getS 4) (mCons (getS 10) mNil)))) (mV (m2 wIx (mV (mCallF fn_filled (mCons (getS 4) (mCons (m2 wAdd (mS 10) (mV (M.pure (.int 1)))) mNil)))) (mS 10)))))
  (mRet (M.pure (.bl false)))
  mSkip)
  (mSeq (mSet 13 (m2 wAdd (mV (mM1 wJoin (M.pure (.str [])) (mV (mLc Mu_law [9] (mI1 rng1 (mCons (mV (m2 wSub (mS 2) (mV (M.pure (.int 1))))) mNil)) (setU 9) mTrue (m2 wIx (mV (M.pure (.str [48, 49, 50, 51]))) (mV (m2 wMod (mV (mCall (f1 wInt) (mCons (mS 9) mNil))) (mV (M.pure (.int 4)))))))))) (mV (M.pure (.str [46])))))
  (mSeq (mSet 14 (mCallF fn__law_take (mCons (getS 1) (mCons (M.pure (.int 1000000)) mNil))))
  (mSeq (mPar 15 16 (mCons (getS 14) (mCons (M.pure (.int 0)) mNil)))
  (mSeq (M.bind (mI1 rng1 (mCons (mV (M.pure (.int 40))) mNil)) fun ws => mFor (setU 9)
  (mSeq (mIf (mB (m2 wNe (mV (m2 wMod (mV (mCall (f1 wInt) (mCons (mS 15) mNil))) (mS 2))) (mV (m2 wSub (mS 2) (mV (M.pure (.int 1)))))))
  (M.pure .bk)
  mSkip)
  (mPar 15 16 (mCons (m2 wDiv (mS 15) (mS 2)) (mCons (m2 wAdd (mS 16) (mV (M.pure (.int 1)))) mNil)))) ws)
  (mRet (mAndV (m2 wEq (mV (mCallF fn_sign_at (mCons (getS 13) (mCons (getS 14) mNil)))) (mV (m2 wIx (mV (M.pure (.str [48, 49, 50, 51]))) (mV (m2 wMod (mV (mCall (f1 wInt) (mCons (mV (m2 wMod (mV (mCall (f1 wInt) (mCons (mS 15) mNil))) (mS 2))) mNil))) (mV (M.pure (.int 4)))))))) (m2 wEq (mV (mCallF fn_depth_at (mCons (getS 13) (mCons (getS 14) mNil)))) (mS 16))))))))))))))))))))))))))))
def fn_law : Fn := runF 21 m_law
end K56
set_option Elab.async false
set_option linter.all false
set_option maxRecDepth 100000
set_option maxHeartbeats 4000000
/-! the mathematics of patterns, no program in sight -/
namespace K56
/-- the number of dots ahead of place k -/
def Dq (s : Nat → Nat) : Nat → Nat
  | 0 => 0
  | k + 1 => Dq s k + if s k = 46 then 1 else 0
theorem Dq_le (s : Nat → Nat) : ∀ k, Dq s k ≤ k
  | 0 => Nat.le_refl _
  | k + 1 => by
    have := Dq_le s k
    unfold Dq
    split <;> omega
theorem Dq_lt {s : Nat → Nat} (h : s 0 ≠ 46) : ∀ k, 0 < k → Dq s k < k
  | 1, _ => by unfold Dq; rw [if_neg h]; exact Nat.zero_lt_one
  | k + 2, _ => by
    have := Dq_lt h (k + 1) (Nat.succ_pos _)
    unfold Dq
    split <;> omega
theorem dot_lt {s : Nat → Nat} (h : s 0 ≠ 46) {k : Nat} (hk : s k = 46) : Dq s k < k := by
  cases k with
  | zero => exact absurd hk h
  | succ k => exact Dq_lt h _ (Nat.succ_pos _)
/-- the sign that comes to stand at place k, and how deep it lies -/
def fq (s : Nat → Nat) (k : Nat) : Nat := if h : s k = 46 ∧ Dq s k < k then fq s (Dq s k) else s k
termination_by k
decreasing_by exact h.2
def dq (s : Nat → Nat) (k : Nat) : Nat := if h : s k = 46 ∧ Dq s k < k then dq s (Dq s k) + 1 else 0
termination_by k
decreasing_by exact h.2
section
variable {s : Nat → Nat} (h0 : s 0 ≠ 46)
include h0
theorem fq_dot {k : Nat} (hk : s k = 46) : fq s k = fq s (Dq s k) := by
  rw [fq, dif_pos ⟨hk, dot_lt h0 hk⟩]
theorem dq_dot {k : Nat} (hk : s k = 46) : dq s k = dq s (Dq s k) + 1 := by
  rw [dq, dif_pos ⟨hk, dot_lt h0 hk⟩]
omit h0 in
theorem fq_sign {k : Nat} (hk : s k ≠ 46) : fq s k = s k := by
  rw [fq, dif_neg fun h => hk h.1]
omit h0 in
theorem dq_sign {k : Nat} (hk : s k ≠ 46) : dq s k = 0 := by
  rw [dq, dif_neg fun h => hk h.1]
theorem fq_ind {P : Nat → Prop} (h1 : ∀ k, s k ≠ 46 → P k) (h2 : ∀ k, s k = 46 → P (Dq s k) → P k) (k : Nat) : P k := by
  induction k using Nat.strongRecOn with
  | ind k ih =>
    by_cases hk : s k = 46
    · exact h2 k hk (ih _ (dot_lt h0 hk))
    · exact h1 k hk
theorem fq_ne (k : Nat) : fq s k ≠ 46 := fq_ind h0 (P := fun k => fq s k ≠ 46) (fun k hk => by rw [fq_sign hk]; exact hk) (fun k hk ih => by rw [fq_dot h0 hk]; exact ih) k
theorem fq_all {P : Nat → Prop} (h : ∀ k, s k ≠ 46 → P (s k)) (k : Nat) : P (fq s k) := fq_ind h0 (P := fun k => P (fq s k)) (fun k hk => by rw [fq_sign hk]; exact h k hk) (fun k hk ih => by rw [fq_dot h0 hk]; exact ih) k
theorem dq_le (k : Nat) : dq s k ≤ k := fq_ind h0 (P := fun k => dq s k ≤ k) (fun k hk => by rw [dq_sign hk]; omega) (fun k hk ih => by
  rw [dq_dot h0 hk]
  have := dot_lt h0 hk
  omega) k
end
/-! names -/
theorem Dq_name {s t : Nat → Nat} (h : ∀ k, t k = 46 ↔ s k = 46) : ∀ k, Dq t k = Dq s k
  | 0 => rfl
  | k + 1 => by
    unfold Dq
    rw [Dq_name h k]
    by_cases hk : s k = 46
    · rw [if_pos hk, if_pos ((h k).mpr hk)]
    · rw [if_neg hk, if_neg fun q => hk ((h k).mp q)]
theorem fq_name {s t : Nat → Nat} (σ : Nat → Nat) (h0 : s 0 ≠ 46) (h : ∀ k, t k = 46 ↔ s k = 46) (hσ : ∀ k, s k ≠ 46 → t k = σ (s k)) (k : Nat) : fq t k = σ (fq s k) ∧ dq t k = dq s k := by
  have h0' : t 0 ≠ 46 := fun q => h0 ((h 0).mp q)
  refine fq_ind h0 (P := fun k => fq t k = σ (fq s k) ∧ dq t k = dq s k) (fun k hk => ?_) (fun k hk ih => ?_) k
  · have hk' : t k ≠ 46 := fun q => hk ((h k).mp q)
    rw [fq_sign hk, fq_sign hk', dq_sign hk, dq_sign hk', hσ k hk]
    exact ⟨rfl, rfl⟩
  · have hk' : t k = 46 := (h k).mpr hk
    rw [fq_dot h0 hk, fq_dot h0' hk', dq_dot h0 hk, dq_dot h0' hk', Dq_name h]
    exact ⟨ih.1, by rw [ih.2]⟩
/-! levels -/
def itD (s : Nat → Nat) : Nat → Nat → Nat
  | 0, k => k
  | m + 1, k => itD s m (Dq s k)
theorem itD_succ (s : Nat → Nat) : ∀ (m k : Nat), itD s (m + 1) k = Dq s (itD s m k)
  | 0, _ => rfl
  | m + 1, k => by
    show itD s (m + 1) (Dq s k) = Dq s (itD s m (Dq s k))
    exact itD_succ s m (Dq s k)
theorem itD_zero (s : Nat → Nat) : ∀ m, itD s m 0 = 0
  | 0 => rfl
  | m + 1 => by rw [itD_succ, itD_zero s m]; rfl
section
variable {s : Nat → Nat} (h0 : s 0 ≠ 46)
include h0
theorem itD_step : ∀ (m k : Nat), itD s m (k + 1) = itD s m k + if m ≤ dq s k then 1 else 0
  | 0, k => by simp [itD]
  | m + 1, k => by
    show itD s m (Dq s (k + 1)) = itD s m (Dq s k) + _
    rw [show Dq s (k + 1) = Dq s k + if s k = 46 then 1 else 0 from rfl]
    by_cases hk : s k = 46
    · rw [if_pos hk, itD_step m, dq_dot h0 hk]
      congr 1
      by_cases hm : m ≤ dq s (Dq s k)
      · rw [if_pos hm, if_pos (by omega)]
      · rw [if_neg hm, if_neg (by omega)]
    · rw [if_neg hk, dq_sign hk, if_neg (by omega)]
      rfl
theorem deep_at : ∀ (m k : Nat), m ≤ dq s k → dq s k = dq s (itD s m k) + m ∧ fq s k = fq s (itD s m k)
  | 0, k, _ => ⟨rfl, rfl⟩
  | m + 1, k, h => by
    have hk : s k = 46 := by
      by_cases hk : s k = 46
      · exact hk
      · rw [dq_sign hk] at h; omega
    rw [dq_dot h0 hk] at h
    obtain ⟨h1, h2⟩ := deep_at m (Dq s k) (by omega)
    show dq s k = dq s (itD s m (Dq s k)) + (m + 1) ∧ fq s k = fq s (itD s m (Dq s k))
    rw [dq_dot h0 hk, fq_dot h0 hk]
    exact ⟨by omega, h2⟩
end
/-- the row behind m fillings -/
def gq (s : Nat → Nat) (m k : Nat) : Nat := if dq s k < m then fq s k else 46
section
variable {s : Nat → Nat} (h0 : s 0 ≠ 46)
include h0
theorem gq_dot {m k : Nat} : gq s m k = 46 ↔ m ≤ dq s k := by
  unfold gq
  split
  · rename_i h
    exact ⟨fun q => absurd q (fq_ne h0 k), fun q => by omega⟩
  · rename_i h
    exact ⟨fun _ => by omega, fun _ => rfl⟩
theorem gq_next (m k : Nat) : gq s (m + 1) k = if gq s m k = 46 then s (itD s m k) else gq s m k := by
  by_cases h : m ≤ dq s k
  · rw [if_pos ((gq_dot h0).mpr h)]
    obtain ⟨h1, h2⟩ := deep_at h0 m k h
    unfold gq
    by_cases hk : s (itD s m k) = 46
    · rw [dq_dot h0 hk] at h1
      rw [if_neg (by omega), hk]
    · rw [dq_sign hk] at h1
      rw [if_pos (by omega), h2, fq_sign hk]
  · rw [if_neg fun q => h ((gq_dot h0).mp q)]
    unfold gq
    rw [if_pos (by omega), if_pos (by omega)]
theorem gq_one (k : Nat) : gq s 1 k = s k := by
  rw [gq_next h0 0 k, if_pos ((gq_dot h0).mpr (Nat.zero_le _))]
  rfl
end
/-- m fillings stand again behind l places, with H holes in them -/
structure Per (s : Nat → Nat) (m l H : Nat) : Prop where
  pos : 0 < l
  g : ∀ k, gq s m (k + l) = gq s m k
  d : ∀ k, itD s m (k + l) = itD s m k + H
theorem Per.mul {s : Nat → Nat} {m l H : Nat} (p : Per s m l H) : ∀ c k, itD s m (k + c * l) = itD s m k + c * H ∧ gq s m (k + c * l) = gq s m k
  | 0, k => by simp
  | c + 1, k => by
    have ih := p.mul c (k + l)
    have e : k + (c + 1) * l = k + l + c * l := by rw [Nat.succ_mul]; omega
    rw [e, ih.1, ih.2, p.d, p.g]
    refine ⟨?_, rfl⟩
    rw [Nat.succ_mul]; omega
theorem Per.next {s : Nat → Nat} (h0 : s 0 ≠ 46) {n h m l H : Nat} (hn : 0 < n) (hs : ∀ k, s (k + n) = s k) (hD : ∀ k, Dq s (k + n) = Dq s k + h) (p : Per s m l H) :
    Per s (m + 1) (n / Nat.gcd H n * l) (H / Nat.gcd H n * h) := by
  have gp : 0 < Nat.gcd H n := Nat.gcd_pos_of_pos_right _ hn
  have gn : n / Nat.gcd H n * Nat.gcd H n = n := Nat.div_mul_cancel (Nat.gcd_dvd_right H n)
  have gH : H / Nat.gcd H n * Nat.gcd H n = H := Nat.div_mul_cancel (Nat.gcd_dvd_left H n)
  have key : n / Nat.gcd H n * H = H / Nat.gcd H n * n := by
    have h1 : n / Nat.gcd H n * H = n / Nat.gcd H n * (H / Nat.gcd H n * Nat.gcd H n) := by rw [gH]
    have h2 : H / Nat.gcd H n * n = H / Nat.gcd H n * (n / Nat.gcd H n * Nat.gcd H n) := by rw [gn]
    rw [h1, h2, ← Nat.mul_assoc, ← Nat.mul_assoc, Nat.mul_comm (n / Nat.gcd H n)]
  have sD : ∀ q k, Dq s (k + q * n) = Dq s k + q * h ∧ s (k + q * n) = s k := by
    intro q
    induction q with
    | zero => intro k; simp
    | succ q ih =>
      intro k
      have e : k + (q + 1) * n = k + n + q * n := by rw [Nat.succ_mul]; omega
      rw [e, (ih _).1, (ih _).2, hD, hs]
      refine ⟨?_, rfl⟩
      rw [Nat.succ_mul]; omega
  refine ⟨Nat.mul_pos (Nat.div_pos (Nat.le_of_dvd hn (Nat.gcd_dvd_right _ _)) gp) p.pos, fun k => ?_, fun k => ?_⟩
  · have q := p.mul (n / Nat.gcd H n) k
    rw [gq_next h0, gq_next h0, q.1, q.2, key, (sD _ _).2]
  · have q := p.mul (n / Nat.gcd H n) k
    rw [itD_succ, itD_succ, q.1, key, (sD _ _).1]
theorem gcd_key {n H : Nat} : n / Nat.gcd H n * H = H / Nat.gcd H n * n := by
  have gn : n / Nat.gcd H n * Nat.gcd H n = n := Nat.div_mul_cancel (Nat.gcd_dvd_right H n)
  have gH : H / Nat.gcd H n * Nat.gcd H n = H := Nat.div_mul_cancel (Nat.gcd_dvd_left H n)
  have h1 : n / Nat.gcd H n * H = n / Nat.gcd H n * (H / Nat.gcd H n * Nat.gcd H n) := by rw [gH]
  have h2 : H / Nat.gcd H n * n = H / Nat.gcd H n * (n / Nat.gcd H n * Nat.gcd H n) := by rw [gn]
  rw [h1, h2, ← Nat.mul_assoc, ← Nat.mul_assoc, Nat.mul_comm (n / Nat.gcd H n)]
/-- the share of holes -/
theorem dens {n h m l H : Nat} (e : H * n ^ m = h ^ m * l) : (H / Nat.gcd H n * h) * n ^ (m + 1) = h ^ (m + 1) * (n / Nat.gcd H n * l) := by
  have k := gcd_key (n := n) (H := H)
  rw [Nat.pow_succ, Nat.pow_succ]
  calc (H / Nat.gcd H n * h) * (n ^ m * n) = (H / Nat.gcd H n * n) * (h * n ^ m) := by ac_rfl
    _ = (n / Nat.gcd H n * H) * (h * n ^ m) := by rw [k]
    _ = n / Nat.gcd H n * h * (H * n ^ m) := by ac_rfl
    _ = n / Nat.gcd H n * h * (h ^ m * l) := by rw [e]
    _ = h ^ m * h * (n / Nat.gcd H n * l) := by ac_rfl
/-! ### a pattern's row -/
def sgp (p : List Nat) (k : Nat) : Nat := p.getD (k % p.length) 0
theorem sgp_get {p : List Nat} (hp : 0 < p.length) (k : Nat) : p[k % p.length]? = some (sgp p k) := by
  have := Nat.mod_lt k hp
  unfold sgp
  rw [List.getD_eq_getElem?_getD, List.getElem?_eq_getElem this]
  rfl
theorem sgp_per (p : List Nat) (k : Nat) : sgp p (k + p.length) = sgp p k := by
  unfold sgp
  rw [Nat.add_mod_right]
theorem sgp_take {p : List Nat} : ∀ {r : Nat}, r ≤ p.length → Dq (sgp p) r = (p.take r).count 46
  | 0, _ => by simp [Dq]
  | r + 1, h => by
    have ih := sgp_take (p := p) (r := r) (by omega)
    have e : p[r]? = some (sgp p r) := by
      have := sgp_get (p := p) (by omega) r
      rwa [Nat.mod_eq_of_lt (by omega)] at this
    rw [List.take_add_one, e, List.count_append, ← ih]
    show Dq (sgp p) r + (if sgp p r = 46 then 1 else 0) = _
    simp [List.count_cons, List.count_nil]
theorem sgp_dots (p : List Nat) : Dq (sgp p) p.length = p.count 46 := by
  rw [sgp_take (Nat.le_refl _), List.take_length]
theorem Dq_add {s : Nat → Nat} {n : Nat} (hs : ∀ k, s (k + n) = s k) : ∀ k, Dq s (k + n) = Dq s k + Dq s n
  | 0 => by simp [Dq]
  | k + 1 => by
    rw [show k + 1 + n = k + n + 1 by omega]
    show Dq s (k + n) + _ = Dq s k + _ + _
    rw [Dq_add hs k, hs k]
    omega
theorem sgp_D (p : List Nat) (k : Nat) : Dq (sgp p) (k + p.length) = Dq (sgp p) k + p.count 46 := by
  rw [Dq_add (sgp_per p), sgp_dots]
theorem sgp_split {p : List Nat} : ∀ (q r : Nat), r < p.length → Dq (sgp p) (q * p.length + r) = q * p.count 46 + (p.take r).count 46
  | 0, r, h => by rw [Nat.zero_mul, Nat.zero_mul, Nat.zero_add, Nat.zero_add, sgp_take (by omega)]
  | q + 1, r, h => by
    rw [show (q + 1) * p.length + r = q * p.length + r + p.length by rw [Nat.succ_mul]; omega, sgp_D, sgp_split q r h, Nat.succ_mul]
    omega
/-- the way from hole to hole, as the program goes it -/
theorem sgp_inner {p : List Nat} (hp : 0 < p.length) (k : Nat) : k / p.length * p.count 46 + (p.take (k % p.length)).count 46 = Dq (sgp p) k := by
  have h := sgp_split (p := p) (k / p.length) (k % p.length) (Nat.mod_lt _ hp)
  rw [← h]
  congr 1
  rw [Nat.mul_comm]
  exact Nat.div_add_mod k p.length
theorem sgp_twice (p : List Nat) (hp : 0 < p.length) : sgp (p ++ p) = sgp p := by
  funext k
  have h1 := sgp_get (p := p ++ p) (by simp; omega) k
  have h2 := sgp_get hp k
  rw [List.length_append] at h1
  have hm : k % (p.length + p.length) < p.length + p.length := Nat.mod_lt _ (by omega)
  have hk : k % p.length = k % (p.length + p.length) % p.length := by
    rw [Nat.mod_mod_of_dvd]
    exact ⟨2, by omega⟩
  by_cases h : k % (p.length + p.length) < p.length
  · rw [List.getElem?_append_left h] at h1
    rw [hk, Nat.mod_eq_of_lt h, h1] at h2
    exact Option.some.inj h2
  · rw [List.getElem?_append_right (by omega)] at h1
    have e : k % (p.length + p.length) % p.length = k % (p.length + p.length) - p.length := by
      rw [Nat.mod_eq_sub_mod (by omega), Nat.mod_eq_of_lt (by omega)]
    rw [hk, e, h1] at h2
    exact Option.some.inj h2
theorem sgp_map {p : List Nat} (hp : 0 < p.length) (σ : Nat → Nat) (k : Nat) : sgp (p.map σ) k = σ (sgp p k) := by
  have h1 := sgp_get (p := p.map σ) (by simpa using hp) k
  have h2 := sgp_get hp k
  rw [List.length_map, List.getElem?_map, h2] at h1
  exact (Option.some.inj h1).symm
theorem per_one {p : List Nat} (hp : 0 < p.length) (h0 : sgp p 0 ≠ 46) : Per (sgp p) 1 p.length (p.count 46) :=
  ⟨hp, fun k => by rw [gq_one h0, gq_one h0, sgp_per], fun k => sgp_D p k⟩
end K56
namespace K56
/-! ### the lists behind some fillings -/
def LP (p : List Nat) : Nat → Nat × Nat
  | 0 => (p.length, p.count 46)
  | j + 1 => (p.length / Nat.gcd (LP p j).2 p.length * (LP p j).1, (LP p j).2 / Nat.gcd (LP p j).2 p.length * p.count 46)
def lay (p : List Nat) (j : Nat) : List Nat := (List.range (LP p j).1).map (gq (sgp p) (j + 1))
theorem lay_len (p : List Nat) (j : Nat) : (lay p j).length = (LP p j).1 := by unfold lay; rw [List.length_map, List.length_range]
theorem lay_get {p : List Nat} {j k : Nat} (h : k < (LP p j).1) : (lay p j)[k]? = some (gq (sgp p) (j + 1) k) := by
  unfold lay
  rw [List.getElem?_map, List.getElem?_range h]; rfl
theorem LP_per {p : List Nat} (hp : 0 < p.length) (h0 : sgp p 0 ≠ 46) : ∀ j, Per (sgp p) (j + 1) (LP p j).1 (LP p j).2
  | 0 => per_one hp h0
  | j + 1 => (LP_per hp h0 j).next h0 hp (sgp_per p) (sgp_D p)
theorem LP_le (p : List Nat) : ∀ j, (LP p j).1 ≤ p.length ^ (j + 1)
  | 0 => by show p.length ≤ _; rw [Nat.zero_add, Nat.pow_one]; exact Nat.le_refl _
  | j + 1 => by
    show p.length / Nat.gcd (LP p j).2 p.length * (LP p j).1 ≤ _
    rw [Nat.pow_succ, Nat.mul_comm]
    exact Nat.mul_le_mul (LP_le p j) (Nat.div_le_self _ _)
theorem LP_dens (p : List Nat) : ∀ j, (LP p j).2 * p.length ^ (j + 1) = p.count 46 ^ (j + 1) * (LP p j).1
  | 0 => by
    show p.count 46 * _ = _ * p.length
    rw [Nat.zero_add, Nat.pow_one, Nat.pow_one]
  | j + 1 => dens (LP_dens p j)
theorem gq_count {s : Nat → Nat} (h0 : s 0 ≠ 46) (m : Nat) : ∀ l, ((List.range l).map (gq s m)).count 46 = itD s m l
  | 0 => by rw [itD_zero]; rfl
  | l + 1 => by
    rw [List.range_succ, List.map_append, List.count_append, gq_count h0 m l, itD_step h0]
    congr 1
    by_cases h : m ≤ dq s l
    · rw [if_pos h, List.map_singleton, (gq_dot h0).mpr h]; rfl
    · rw [if_neg h, List.map_singleton]
      have : gq s m l ≠ 46 := fun q => h ((gq_dot h0).mp q)
      simp [List.count_cons, this]
theorem lay_count {p : List Nat} (hp : 0 < p.length) (h0 : sgp p 0 ≠ 46) (j : Nat) : (lay p j).count 46 = (LP p j).2 := by
  unfold lay
  rw [gq_count h0]
  have := (LP_per hp h0 j).d 0
  rw [Nat.zero_add, itD_zero, Nat.zero_add] at this
  exact this
theorem rep_per {g : Nat → Nat} {l : Nat} (h : ∀ k, g (k + l) = g k) : ∀ c, (List.replicate c ((List.range l).map g)).flatten = (List.range (c * l)).map g
  | 0 => by simp
  | c + 1 => by
    rw [List.replicate_succ, List.flatten_cons, rep_per h c, Nat.succ_mul, Nat.add_comm (c * l) l, List.range_add, List.map_append, List.map_map]
    congr 1
    exact List.map_congr_left fun k _ => by
      show g k = g (l + k)
      rw [Nat.add_comm, h]
theorem lay_zero {p : List Nat} (hp : 0 < p.length) (h0 : sgp p 0 ≠ 46) : lay p 0 = p := by
  apply List.ext_getElem?
  intro k
  by_cases hk : k < p.length
  · rw [lay_get (show k < (LP p 0).1 from hk), gq_one h0]
    have := sgp_get hp k
    rw [Nat.mod_eq_of_lt hk] at this
    exact this.symm
  · rw [List.getElem?_eq_none (by rw [lay_len]; exact Nat.le_of_not_lt hk), List.getElem?_eq_none (by omega)]
end K56
set_option Elab.async false
set_option linter.all false
set_option maxRecDepth 100000
set_option maxHeartbeats 4000000
set_option exponentiation.threshold 9000
namespace K56
open PySem PySem.Spec L2 Mp
open PyProof.Rows hiding St
/-! ### patterns -/
def dg (c : Nat) : Prop := c = 48 ∨ c = 49 ∨ c = 50 ∨ c = 51
structure OkP (p : List Nat) : Prop where
  lo : 2 ≤ p.length
  hi : p.length ≤ 12
  sg : ∀ c ∈ p, dg c ∨ c = 46
  hd : p[0]? ≠ some 46
  hole : 46 ∈ p
theorem OkP.pos {p : List Nat} (h : OkP p) : 0 < p.length := by have := h.lo; omega
theorem OkP.h0 {p : List Nat} (h : OkP p) : sgp p 0 ≠ 46 := fun e => h.hd (by
  have := sgp_get h.pos 0
  rw [Nat.zero_mod, e] at this
  exact this)
theorem OkP.sz {p : List Nat} (h : OkP p) : p.length ≤ 16777216 := by have := h.hi; omega
theorem OkP.sgs {p : List Nat} (h : OkP p) (k : Nat) : dg (sgp p k) ∨ sgp p k = 46 := h.sg _ (List.mem_of_getElem? (sgp_get h.pos k))
theorem OkP.fdg {p : List Nat} (h : OkP p) (k : Nat) : dg (fq (sgp p) k) := fq_all h.h0 (P := dg) (fun k hk => (h.sgs k).resolve_right hk) k
theorem check_ok {p : List Nat} (h : OkP p) (G : List W) : fn_check_pattern [.str p] G = .ok .non [] G := by
  unfold fn_check_pattern
  refine runF_of ?_
  unfold m_check_pattern
  have h1 := h.lo
  have h2 := h.hi
  have hs : szOk p.length = true := szOk_of h.sz
  have e2 : p[0]? = some (sgp p 0) := by
    have := sgp_get h.pos 0
    rwa [Nat.zero_mod] at this
  have hx : wIx (.str p) (.int 0) = some (.str [sgp p 0]) := q_ix_str (k := 0) e2 h.sz
  simp only [List.map_cons, List.map_nil, List.length_cons, List.length_nil, List.replicate, List.cons_append, List.nil_append]
  simp only [Wp.pure, Wp.bind, Wp.of, Wp.getS, Wp.gets, Wp.getv, Wp.mS, Wp.moveS, Wp.setU, Wp.setM, Wp.raise, Wp.mV, Wp.m2, Wp.m1, Wp.mB, Wp.mT, Wp.mNot, Wp.ite, Wp.mAnd, Wp.mOr, Wp.mIf, Wp.mNotV, Wp.mAndV, Wp.mOrV, Wp.mCh, Wp.mNil, Wp.mCons, Wp.getAll0, Wp.getAllC, Wp.mCall, Wp.mTup, Wp.mLst, Wp.mCallF, Wp.mNo, Wp.mSome, Wp.mCut, Wp.mM1, Wp.mMethR, Wp.mMeth, Wp.mSeq, Wp.mSkip, Wp.mSet, Wp.mRet, Wp.mDrop, Wp.mAug, Wp.mPar, Wp.mParF, Wp.mAsg, Wp.tgNil, Wp.tgCons, Wp.mSeqI, Wp.mI1, Wp.mI2, List.getElem?_cons_zero, List.getElem?_cons_succ, Option.some.injEq, exists_eq_left', exists_eq_left, W.lst.injEq, List.set_cons_zero, List.set_cons_succ, q_le, q_lt, q_gt, q_ge, q_sub, q_neg, q_eq_int, q_ne_int, q_eq_str, q_ne_str, q_eq_b, q_ne_b, q_b, q_i, q_s, q_l, q_seqS, q_seqL, q_seqT, q_seqN, q_f1, q_f2, q_count_str, q_abs, q_intI, q_isN, q_notN, q_tb, q_ti, q_lenL, q_lenT, q_tuple, if_true, Option.bind_some, q_len_str h.sz]
  rw [if_pos (decide_eq_true (by omega)), if_neg (by rw [decide_eq_true (by omega)]; decide)]
  refine Wp.comp (fun _ => some (.bl true)) (p.map fun c => .str [c]) (szOk_of (by rw [List.length_map]; exact h.sz)) (by simp only [Wp.pure, Wp.bind, Wp.of, Wp.getS, Wp.gets, Wp.getv, Wp.mS, Wp.moveS, Wp.setU, Wp.setM, Wp.raise, Wp.mV, Wp.m2, Wp.m1, Wp.mB, Wp.mT, Wp.mNot, Wp.ite, Wp.mAnd, Wp.mOr, Wp.mIf, Wp.mNotV, Wp.mAndV, Wp.mOrV, Wp.mCh, Wp.mNil, Wp.mCons, Wp.getAll0, Wp.getAllC, Wp.mCall, Wp.mTup, Wp.mLst, Wp.mCallF, Wp.mNo, Wp.mSome, Wp.mCut, Wp.mM1, Wp.mMethR, Wp.mMeth, Wp.mSeq, Wp.mSkip, Wp.mSet, Wp.mRet, Wp.mDrop, Wp.mAug, Wp.mPar, Wp.mParF, Wp.mAsg, Wp.tgNil, Wp.tgCons, Wp.mSeqI, Wp.mI1, Wp.mI2, List.getElem?_cons_zero, List.getElem?_cons_succ, Option.some.injEq, exists_eq_left', exists_eq_left, W.lst.injEq, List.set_cons_zero, List.set_cons_succ, q_le, q_lt, q_gt, q_ge, q_sub, q_neg, q_eq_int, q_ne_int, q_eq_str, q_ne_str, q_eq_b, q_ne_b, q_b, q_i, q_s, q_l, q_seqS, q_seqL, q_seqT, q_seqN, q_f1, q_f2, q_count_str, q_abs, q_intI, q_isN, q_notN, q_tb, q_ti, q_lenL, q_lenT, q_tuple, if_true, Option.bind_some, and_self]; first | done | rfl | exact ⟨rfl, trivial, trivial⟩) (fun w hw => ?_) ?_
  · obtain ⟨c, hc, rfl⟩ := List.mem_map.mp hw
    simp only [wipeR, mTrue, Wp.pure, Wp.bind, Wp.of, Wp.getS, Wp.gets, Wp.getv, Wp.mS, Wp.moveS, Wp.setU, Wp.setM, Wp.raise, Wp.mV, Wp.m2, Wp.m1, Wp.mB, Wp.mT, Wp.mNot, Wp.ite, Wp.mAnd, Wp.mOr, Wp.mIf, Wp.mNotV, Wp.mAndV, Wp.mOrV, Wp.mCh, Wp.mNil, Wp.mCons, Wp.getAll0, Wp.getAllC, Wp.mCall, Wp.mTup, Wp.mLst, Wp.mCallF, Wp.mNo, Wp.mSome, Wp.mCut, Wp.mM1, Wp.mMethR, Wp.mMeth, Wp.mSeq, Wp.mSkip, Wp.mSet, Wp.mRet, Wp.mDrop, Wp.mAug, Wp.mPar, Wp.mParF, Wp.mAsg, Wp.tgNil, Wp.tgCons, Wp.mSeqI, Wp.mI1, Wp.mI2, List.getElem?_cons_zero, List.getElem?_cons_succ, Option.some.injEq, exists_eq_left', exists_eq_left, W.lst.injEq, List.set_cons_zero, List.set_cons_succ, q_le, q_lt, q_gt, q_ge, q_sub, q_neg, q_eq_int, q_ne_int, q_eq_str, q_ne_str, q_eq_b, q_ne_b, q_b, q_i, q_s, q_l, q_seqS, q_seqL, q_seqT, q_seqN, q_f1, q_f2, q_count_str, q_abs, q_intI, q_isN, q_notN, q_tb, q_ti, q_lenL, q_lenT, q_tuple, if_true, Option.bind_some]
    refine ⟨_, rfl, _, ?_, rfl, trivial, trivial⟩
    rcases h.sg c hc with (rfl | rfl | rfl | rfl) | rfl <;> rfl
  · rw [fm_some]
    refine ⟨_, all_true (fun w hw => ?_), true, rfl, ?_⟩
    · obtain ⟨_, _, rfl⟩ := List.mem_map.mp hw; rfl
    · simp only [Wp.pure, Wp.bind, Wp.of, Wp.getS, Wp.gets, Wp.getv, Wp.mS, Wp.moveS, Wp.setU, Wp.setM, Wp.raise, Wp.mV, Wp.m2, Wp.m1, Wp.mB, Wp.mT, Wp.mNot, Wp.ite, Wp.mAnd, Wp.mOr, Wp.mIf, Wp.mNotV, Wp.mAndV, Wp.mOrV, Wp.mCh, Wp.mNil, Wp.mCons, Wp.getAll0, Wp.getAllC, Wp.mCall, Wp.mTup, Wp.mLst, Wp.mCallF, Wp.mNo, Wp.mSome, Wp.mCut, Wp.mM1, Wp.mMethR, Wp.mMeth, Wp.mSeq, Wp.mSkip, Wp.mSet, Wp.mRet, Wp.mDrop, Wp.mAug, Wp.mPar, Wp.mParF, Wp.mAsg, Wp.tgNil, Wp.tgCons, Wp.mSeqI, Wp.mI1, Wp.mI2, List.getElem?_cons_zero, List.getElem?_cons_succ, Option.some.injEq, exists_eq_left', exists_eq_left, W.lst.injEq, List.set_cons_zero, List.set_cons_succ, q_le, q_lt, q_gt, q_ge, q_sub, q_neg, q_eq_int, q_ne_int, q_eq_str, q_ne_str, q_eq_b, q_ne_b, q_b, q_i, q_s, q_l, q_seqS, q_seqL, q_seqT, q_seqN, q_f1, q_f2, q_count_str, q_abs, q_intI, q_isN, q_notN, q_tb, q_ti, q_lenL, q_lenT, q_tuple, if_true, Option.bind_some, hx]
      rw [if_neg (by decide), if_neg (by simpa using h.h0)]
      refine ⟨.bl false, ?_, false, rfl, ?_⟩
      · show some (W.bl (!decide (46 ∈ p))) = _
        rw [decide_eq_true h.hole]; rfl
      · rw [if_neg (by decide)]
        exact ⟨.inr ⟨trivial, trivial⟩, trivial⟩
def fl (p : List Nat) (L : Nat) : List Nat := (List.range L).map (fq (sgp p))
theorem fl_len (p : List Nat) (L : Nat) : (fl p L).length = L := by unfold fl; rw [List.length_map, List.length_range]
theorem fl_get {p : List Nat} {L k : Nat} (h : k < L) : (fl p L)[k]? = some (fq (sgp p) k) := by
  unfold fl
  rw [List.getElem?_map, List.getElem?_range h]; rfl
theorem fl_succ (p : List Nat) (L : Nat) : fl p (L + 1) = fl p L ++ [fq (sgp p) L] := by
  unfold fl
  rw [List.range_succ, List.map_append]; rfl
theorem Dq_succ (s : Nat → Nat) (k : Nat) : Dq s (k + 1) = Dq s k + if s k = 46 then 1 else 0 := rfl
theorem filled_ok {p : List Nat} (h : OkP p) {L : Nat} (hL : L ≤ 4000) (G : List W) : fn_filled [.str p, .int (L : Int)] G = .ok (.str (fl p L)) [] G := by
  unfold fn_filled
  refine runF_of ?_
  unfold m_filled
  simp only [List.map_cons, List.map_nil, List.length_cons, List.length_nil, List.replicate, List.cons_append, List.nil_append]
  simp only [Wp.pure, Wp.bind, Wp.of, Wp.getS, Wp.gets, Wp.getv, Wp.mS, Wp.moveS, Wp.setU, Wp.setM, Wp.raise, Wp.mV, Wp.m2, Wp.m1, Wp.mB, Wp.mT, Wp.mNot, Wp.ite, Wp.mAnd, Wp.mOr, Wp.mIf, Wp.mNotV, Wp.mAndV, Wp.mOrV, Wp.mCh, Wp.mNil, Wp.mCons, Wp.getAll0, Wp.getAllC, Wp.mCall, Wp.mTup, Wp.mLst, Wp.mCallF, Wp.mNo, Wp.mSome, Wp.mCut, Wp.mM1, Wp.mMethR, Wp.mMeth, Wp.mSeq, Wp.mSkip, Wp.mSet, Wp.mRet, Wp.mDrop, Wp.mAug, Wp.mPar, Wp.mParF, Wp.mAsg, Wp.tgNil, Wp.tgCons, Wp.mSeqI, Wp.mI1, Wp.mI2, List.getElem?_cons_zero, List.getElem?_cons_succ, Option.some.injEq, exists_eq_left', exists_eq_left, W.lst.injEq, List.set_cons_zero, List.set_cons_succ, Wp.callF (check_ok h _), q_le, q_lt, q_gt, q_ge, q_sub, q_neg, q_eq_int, q_ne_int, q_eq_str, q_ne_str, q_eq_b, q_ne_b, q_b, q_i, q_s, q_l, q_seqS, q_seqL, q_seqT, q_seqN, q_f1, q_f2, q_count_str, q_abs, q_intI, q_isN, q_notN, q_tb, q_ti, q_lenL, q_lenT, q_tuple, if_true, Option.bind_some]
  rw [if_pos (decide_eq_true (by omega)), if_neg (by rw [decide_eq_true (by omega)]; decide)]
  refine ⟨rfl, _, q_rng1_n (by omega), ?_⟩
  refine Wp.mFor (fun i ρ G1 => G1 = G ∧ ∃ x y, ρ = [some (.str p), some (.int (L : Int)), some (.lst ((fl p i).map fun c => W.str [c])), some (.int ((Dq (sgp p) i : Nat) : Int)), x, y]) 0 ⟨rfl, none, none, rfl⟩ (fun i w ρ G1 e hI => ?_) (fun ρ G1 hI => ?_)
  · obtain ⟨rfl, x, y, rfl⟩ := hI
    rw [Nat.zero_add] at *
    rw [List.getElem?_map] at e
    have hi : i < L := by
      by_cases hi : i < L
      · exact hi
      · rw [List.getElem?_eq_none (by rw [List.length_range]; omega)] at e; cases e
    rw [List.getElem?_range hi] at e
    cases e
    have hlen := h.hi
    simp only [Wp.pure, Wp.bind, Wp.of, Wp.getS, Wp.gets, Wp.getv, Wp.mS, Wp.moveS, Wp.setU, Wp.setM, Wp.raise, Wp.mV, Wp.m2, Wp.m1, Wp.mB, Wp.mT, Wp.mNot, Wp.ite, Wp.mAnd, Wp.mOr, Wp.mIf, Wp.mNotV, Wp.mAndV, Wp.mOrV, Wp.mCh, Wp.mNil, Wp.mCons, Wp.getAll0, Wp.getAllC, Wp.mCall, Wp.mTup, Wp.mLst, Wp.mCallF, Wp.mNo, Wp.mSome, Wp.mCut, Wp.mM1, Wp.mMethR, Wp.mMeth, Wp.mSeq, Wp.mSkip, Wp.mSet, Wp.mRet, Wp.mDrop, Wp.mAug, Wp.mPar, Wp.mParF, Wp.mAsg, Wp.tgNil, Wp.tgCons, Wp.mSeqI, Wp.mI1, Wp.mI2, List.getElem?_cons_zero, List.getElem?_cons_succ, Option.some.injEq, exists_eq_left', exists_eq_left, W.lst.injEq, List.set_cons_zero, List.set_cons_succ, q_len_str h.sz, f1, q_mod_n h.pos, q_ix_str (sgp_get h.pos i) h.sz, q_eq_str, boolW]
    have hi3 : i ≤ 4000 := by omega
    have hap : ((fl p i).map fun c => W.str [c]).length < 16777216 := by rw [List.length_map, fl_len]; omega
    by_cases hk : sgp p i = 46
    · have hlt := dot_lt h.h0 hk
      have e1 : ((fl p i).map fun c => W.str [c])[Dq (sgp p) i]? = some (.str [fq (sgp p) (Dq (sgp p) i)]) := by rw [List.getElem?_map, fl_get hlt]; rfl
      rw [show ([sgp p i] == [46]) = true by rw [hk]; rfl, if_pos rfl]
      refine ⟨_, q_ix_lst e1, _, q_addI_n (b := 1), _, q_app_ok hap, rfl, some (.int (i : Int)), some (.str [fq (sgp p) (Dq (sgp p) i)]), ?_⟩
      rw [fl_succ, List.map_append, Dq_succ, if_pos hk, fq_dot h.h0 hk]
      rfl
    · rw [show ([sgp p i] == [46]) = false by simpa using hk, if_neg (by decide)]
      refine ⟨_, q_app_ok hap, rfl, some (.int (i : Int)), some (.str [sgp p i]), ?_⟩
      rw [fl_succ, List.map_append, Dq_succ, if_neg hk, fq_sign hk]
      rfl
  · obtain ⟨rfl, x, y, rfl⟩ := hI
    rw [Nat.zero_add, List.length_map, List.length_range]
    simp only [Wp.pure, Wp.bind, Wp.of, Wp.getS, Wp.gets, Wp.getv, Wp.mS, Wp.moveS, Wp.setU, Wp.setM, Wp.raise, Wp.mV, Wp.m2, Wp.m1, Wp.mB, Wp.mT, Wp.mNot, Wp.ite, Wp.mAnd, Wp.mOr, Wp.mIf, Wp.mNotV, Wp.mAndV, Wp.mOrV, Wp.mCh, Wp.mNil, Wp.mCons, Wp.getAll0, Wp.getAllC, Wp.mCall, Wp.mTup, Wp.mLst, Wp.mCallF, Wp.mNo, Wp.mSome, Wp.mCut, Wp.mM1, Wp.mMethR, Wp.mMeth, Wp.mSeq, Wp.mSkip, Wp.mSet, Wp.mRet, Wp.mDrop, Wp.mAug, Wp.mPar, Wp.mParF, Wp.mAsg, Wp.tgNil, Wp.tgCons, Wp.mSeqI, Wp.mI1, Wp.mI2, List.getElem?_cons_zero, List.getElem?_cons_succ, Option.some.injEq, exists_eq_left', exists_eq_left, W.lst.injEq, List.set_cons_zero, List.set_cons_succ, strW, q_join_signs (show (fl p L).length ≤ 16777216 by rw [fl_len]; omega)]
    exact ⟨.inl trivial, trivial⟩
theorem small {k n : Nat} (h : k ≤ 1000000000) : k / n < 18446744073709551616 := Nat.lt_of_le_of_lt (Nat.div_le_self _ _) (by omega)
theorem sign_ok {p : List Nat} (h : OkP p) {k : Nat} (hk : k ≤ 1000000000) (G : List W) : fn_sign_at [.str p, .int (k : Int)] G = .ok (.str [fq (sgp p) k]) [] G := by
  unfold fn_sign_at
  refine runF_of ?_
  unfold m_sign_at
  simp only [List.map_cons, List.map_nil, List.length_cons, List.length_nil, List.replicate, List.cons_append, List.nil_append]
  simp only [Wp.pure, Wp.bind, Wp.of, Wp.getS, Wp.gets, Wp.getv, Wp.mS, Wp.moveS, Wp.setU, Wp.setM, Wp.raise, Wp.mV, Wp.m2, Wp.m1, Wp.mB, Wp.mT, Wp.mNot, Wp.ite, Wp.mAnd, Wp.mOr, Wp.mIf, Wp.mNotV, Wp.mAndV, Wp.mOrV, Wp.mCh, Wp.mNil, Wp.mCons, Wp.getAll0, Wp.getAllC, Wp.mCall, Wp.mTup, Wp.mLst, Wp.mCallF, Wp.mNo, Wp.mSome, Wp.mCut, Wp.mM1, Wp.mMethR, Wp.mMeth, Wp.mSeq, Wp.mSkip, Wp.mSet, Wp.mRet, Wp.mDrop, Wp.mAug, Wp.mPar, Wp.mParF, Wp.mAsg, Wp.tgNil, Wp.tgCons, Wp.mSeqI, Wp.mI1, Wp.mI2, List.getElem?_cons_zero, List.getElem?_cons_succ, Option.some.injEq, exists_eq_left', exists_eq_left, W.lst.injEq, List.set_cons_zero, List.set_cons_succ, Wp.callF (check_ok h _), q_count_str, q_le, q_lt, q_gt, q_ge, q_sub, q_neg, q_eq_int, q_ne_int, q_eq_str, q_ne_str, q_eq_b, q_ne_b, q_b, q_i, q_s, q_l, q_seqS, q_seqL, q_seqT, q_seqN, q_f1, q_f2, q_count_str, q_abs, q_intI, q_isN, q_notN, q_tb, q_ti, q_lenL, q_lenT, q_tuple, if_true, Option.bind_some]
  rw [if_pos (decide_eq_true (by omega)), if_neg (by rw [decide_eq_true (by omega)]; decide)]
  refine Wp.mWhile (fun m ρ G1 => G1 = G ∧ m ≤ k ∧ fq (sgp p) m = fq (sgp p) k ∧ ∃ x y, ρ = [some (.str p), some (.int (m : Int)), some (.int (p.count 46 : Nat)), x, y]) (fun m ρ G1 hI => ?_) _ k _ _ (by omega) ⟨rfl, Nat.le_refl _, rfl, none, none, rfl⟩
  obtain ⟨rfl, hm, hf, x, y, rfl⟩ := hI
  have hmr := Nat.mod_lt m h.pos
  have hn : p.length ≤ 2 ^ 64 := Nat.le_trans h.hi (by decide)
  have hm' : m ≤ 1000000000 := by omega
  simp only [Wp.pure, Wp.bind, Wp.of, Wp.getS, Wp.gets, Wp.getv, Wp.mS, Wp.moveS, Wp.setU, Wp.setM, Wp.raise, Wp.mV, Wp.m2, Wp.m1, Wp.mB, Wp.mT, Wp.mNot, Wp.ite, Wp.mAnd, Wp.mOr, Wp.mIf, Wp.mNotV, Wp.mAndV, Wp.mOrV, Wp.mCh, Wp.mNil, Wp.mCons, Wp.getAll0, Wp.getAllC, Wp.mCall, Wp.mTup, Wp.mLst, Wp.mCallF, Wp.mNo, Wp.mSome, Wp.mCut, Wp.mM1, Wp.mMethR, Wp.mMeth, Wp.mSeq, Wp.mSkip, Wp.mSet, Wp.mRet, Wp.mDrop, Wp.mAug, Wp.mPar, Wp.mParF, Wp.mAsg, Wp.tgNil, Wp.tgCons, Wp.mSeqI, Wp.mI1, Wp.mI2, List.getElem?_cons_zero, List.getElem?_cons_succ, Option.some.injEq, exists_eq_left', exists_eq_left, W.lst.injEq, List.set_cons_zero, List.set_cons_succ, boolW, if_true, q_len_str h.sz, f1, q_div_n h.pos hn, q_mod_n h.pos, q_ix_str (sgp_get h.pos m) h.sz, q_ne_str]
  by_cases hd : sgp p m = 46
  · rw [show (!([sgp p m] == [46])) = false by rw [hd]; rfl, if_neg (by decide)]
    refine ⟨_, q_mul_n (small hm'), _, rfl, _, q_cut_to h.sz, _, rfl, _, q_count_str, _, q_add_n, Dq (sgp p) m, dot_lt h.h0 hd, rfl, ?_, ?_, some (.int ((m / p.length : Nat) : Int)), some (.int ((m % p.length : Nat) : Int)), ?_⟩
    · have := dot_lt h.h0 hd; omega
    · rw [← hf, fq_dot h.h0 hd]
    · rw [sgp_inner h.pos]
  · rw [show (!([sgp p m] == [46])) = true by simpa using hd, if_pos rfl]
    show (_ ∨ _) ∧ _
    rw [← hf, fq_sign hd]
    exact ⟨.inl rfl, rfl⟩
theorem depth_ok {p : List Nat} (h : OkP p) {k : Nat} (hk : k ≤ 1000000000) (G : List W) : fn_depth_at [.str p, .int (k : Int)] G = .ok (.int (dq (sgp p) k : Nat)) [] G := by
  unfold fn_depth_at
  refine runF_of ?_
  unfold m_depth_at
  simp only [List.map_cons, List.map_nil, List.length_cons, List.length_nil, List.replicate, List.cons_append, List.nil_append]
  simp only [Wp.pure, Wp.bind, Wp.of, Wp.getS, Wp.gets, Wp.getv, Wp.mS, Wp.moveS, Wp.setU, Wp.setM, Wp.raise, Wp.mV, Wp.m2, Wp.m1, Wp.mB, Wp.mT, Wp.mNot, Wp.ite, Wp.mAnd, Wp.mOr, Wp.mIf, Wp.mNotV, Wp.mAndV, Wp.mOrV, Wp.mCh, Wp.mNil, Wp.mCons, Wp.getAll0, Wp.getAllC, Wp.mCall, Wp.mTup, Wp.mLst, Wp.mCallF, Wp.mNo, Wp.mSome, Wp.mCut, Wp.mM1, Wp.mMethR, Wp.mMeth, Wp.mSeq, Wp.mSkip, Wp.mSet, Wp.mRet, Wp.mDrop, Wp.mAug, Wp.mPar, Wp.mParF, Wp.mAsg, Wp.tgNil, Wp.tgCons, Wp.mSeqI, Wp.mI1, Wp.mI2, List.getElem?_cons_zero, List.getElem?_cons_succ, Option.some.injEq, exists_eq_left', exists_eq_left, W.lst.injEq, List.set_cons_zero, List.set_cons_succ, Wp.callF (check_ok h _), q_count_str, q_le, q_lt, q_gt, q_ge, q_sub, q_neg, q_eq_int, q_ne_int, q_eq_str, q_ne_str, q_eq_b, q_ne_b, q_b, q_i, q_s, q_l, q_seqS, q_seqL, q_seqT, q_seqN, q_f1, q_f2, q_count_str, q_abs, q_intI, q_isN, q_notN, q_tb, q_ti, q_lenL, q_lenT, q_tuple, if_true, Option.bind_some]
  rw [if_pos (decide_eq_true (by omega)), if_neg (by rw [decide_eq_true (by omega)]; decide)]
  refine Wp.mWhile (fun m ρ G1 => G1 = G ∧ m ≤ k ∧ ∃ f : Nat, f + dq (sgp p) m = dq (sgp p) k ∧ ρ = [some (.str p), some (.int (m : Int)), some (.int (p.count 46 : Nat)), some (.int (f : Int))]) (fun m ρ G1 hI => ?_) _ k _ _ (by omega) ⟨rfl, Nat.le_refl _, 0, by omega, rfl⟩
  obtain ⟨rfl, hm, f, hf, rfl⟩ := hI
  have hmr := Nat.mod_lt m h.pos
  have hn : p.length ≤ 2 ^ 64 := Nat.le_trans h.hi (by decide)
  have hm' : m ≤ 1000000000 := by omega
  simp only [Wp.pure, Wp.bind, Wp.of, Wp.getS, Wp.gets, Wp.getv, Wp.mS, Wp.moveS, Wp.setU, Wp.setM, Wp.raise, Wp.mV, Wp.m2, Wp.m1, Wp.mB, Wp.mT, Wp.mNot, Wp.ite, Wp.mAnd, Wp.mOr, Wp.mIf, Wp.mNotV, Wp.mAndV, Wp.mOrV, Wp.mCh, Wp.mNil, Wp.mCons, Wp.getAll0, Wp.getAllC, Wp.mCall, Wp.mTup, Wp.mLst, Wp.mCallF, Wp.mNo, Wp.mSome, Wp.mCut, Wp.mM1, Wp.mMethR, Wp.mMeth, Wp.mSeq, Wp.mSkip, Wp.mSet, Wp.mRet, Wp.mDrop, Wp.mAug, Wp.mPar, Wp.mParF, Wp.mAsg, Wp.tgNil, Wp.tgCons, Wp.mSeqI, Wp.mI1, Wp.mI2, List.getElem?_cons_zero, List.getElem?_cons_succ, Option.some.injEq, exists_eq_left', exists_eq_left, W.lst.injEq, List.set_cons_zero, List.set_cons_succ, boolW, if_true, q_len_str h.sz, f1, q_div_n h.pos hn, q_mod_n h.pos, q_ix_str (sgp_get h.pos m) h.sz, q_eq_str]
  by_cases hd : sgp p m = 46
  · rw [show ([sgp p m] == [46]) = true by rw [hd]; rfl, if_pos rfl]
    refine ⟨_, q_mul_n (small hm'), _, rfl, _, q_cut_to h.sz, _, rfl, _, q_count_str, _, q_add_n, _, q_addI_n (b := 1), Dq (sgp p) m, dot_lt h.h0 hd, rfl, ?_, f + 1, ?_, ?_⟩
    · have := dot_lt h.h0 hd; omega
    · rw [dq_dot h.h0 hd] at hf; omega
    · rw [sgp_inner h.pos]
  · rw [show ([sgp p m] == [46]) = false by simpa using hd, if_neg (by decide)]
    rw [dq_sign hd] at hf
    rw [← hf]
    exact ⟨.inl rfl, trivial⟩
end K56
set_option Elab.async false
set_option linter.all false
set_option maxRecDepth 100000
set_option maxHeartbeats 4000000
set_option exponentiation.threshold 9000
namespace K56
open PySem PySem.Spec L2 Mp
open PyProof.Rows hiding St
theorem common_ok {a b : Nat} (hb : b ≤ 100000) (G : List W) : fn_common [.int (a : Int), .int (b : Int)] G = .ok (.int (Nat.gcd a b : Nat)) [] G := by
  unfold fn_common
  refine runF_of ?_
  unfold m_common
  simp only [List.map_cons, List.map_nil, List.length_cons, List.length_nil, List.replicate, List.cons_append, List.nil_append]
  simp only [Wp.pure, Wp.bind, Wp.of, Wp.getS, Wp.gets, Wp.getv, Wp.mS, Wp.moveS, Wp.setU, Wp.setM, Wp.raise, Wp.mV, Wp.m2, Wp.m1, Wp.mB, Wp.mT, Wp.mNot, Wp.ite, Wp.mAnd, Wp.mOr, Wp.mIf, Wp.mNotV, Wp.mAndV, Wp.mOrV, Wp.mCh, Wp.mNil, Wp.mCons, Wp.getAll0, Wp.getAllC, Wp.mCall, Wp.mTup, Wp.mLst, Wp.mCallF, Wp.mNo, Wp.mSome, Wp.mCut, Wp.mM1, Wp.mMethR, Wp.mMeth, Wp.mSeq, Wp.mSkip, Wp.mSet, Wp.mRet, Wp.mDrop, Wp.mAug, Wp.mPar, Wp.mParF, Wp.mAsg, Wp.tgNil, Wp.tgCons, Wp.mSeqI, Wp.mI1, Wp.mI2, List.getElem?_cons_zero, List.getElem?_cons_succ, Option.some.injEq, exists_eq_left', exists_eq_left, W.lst.injEq, List.set_cons_zero, List.set_cons_succ, q_le, q_lt, q_gt, q_ge, q_sub, q_neg, q_eq_int, q_ne_int, q_eq_str, q_ne_str, q_eq_b, q_ne_b, q_b, q_i, q_s, q_l, q_seqS, q_seqL, q_seqT, q_seqN, q_f1, q_f2, q_count_str, q_abs, q_intI, q_isN, q_notN, q_tb, q_ti, q_lenL, q_lenT, q_tuple, if_true, Option.bind_some]
  refine Wp.mWhile (fun m ρ G1 => G1 = G ∧ m ≤ b ∧ ∃ x : Nat, Nat.gcd x m = Nat.gcd a b ∧ ρ = [some (.int (x : Int)), some (.int (m : Int))]) (fun m ρ G1 hI => ?_) _ b _ _ (by omega) ⟨rfl, Nat.le_refl _, a, rfl, rfl⟩
  obtain ⟨rfl, hm, x, hg, rfl⟩ := hI
  simp only [Wp.pure, Wp.bind, Wp.of, Wp.getS, Wp.gets, Wp.getv, Wp.mS, Wp.moveS, Wp.setU, Wp.setM, Wp.raise, Wp.mV, Wp.m2, Wp.m1, Wp.mB, Wp.mT, Wp.mNot, Wp.ite, Wp.mAnd, Wp.mOr, Wp.mIf, Wp.mNotV, Wp.mAndV, Wp.mOrV, Wp.mCh, Wp.mNil, Wp.mCons, Wp.getAll0, Wp.getAllC, Wp.mCall, Wp.mTup, Wp.mLst, Wp.mCallF, Wp.mNo, Wp.mSome, Wp.mCut, Wp.mM1, Wp.mMethR, Wp.mMeth, Wp.mSeq, Wp.mSkip, Wp.mSet, Wp.mRet, Wp.mDrop, Wp.mAug, Wp.mPar, Wp.mParF, Wp.mAsg, Wp.tgNil, Wp.tgCons, Wp.mSeqI, Wp.mI1, Wp.mI2, List.getElem?_cons_zero, List.getElem?_cons_succ, Option.some.injEq, exists_eq_left', exists_eq_left, W.lst.injEq, List.set_cons_zero, List.set_cons_succ, q_le, q_lt, q_gt, q_ge, q_sub, q_neg, q_eq_int, q_ne_int, q_eq_str, q_ne_str, q_eq_b, q_ne_b, q_b, q_i, q_s, q_l, q_seqS, q_seqL, q_seqT, q_seqN, q_f1, q_f2, q_count_str, q_abs, q_intI, q_isN, q_notN, q_tb, q_ti, q_lenL, q_lenT, q_tuple, if_true, Option.bind_some]
  by_cases h0 : m = 0
  · subst h0
    rw [if_neg (by decide), Nat.gcd_zero_right] at *
    rw [hg]
    exact ⟨.inl rfl, trivial⟩
  · have hp : 0 < m := Nat.pos_of_ne_zero h0
    rw [if_pos (by simpa using h0)]
    refine ⟨_, q_mod_n hp, x % m, Nat.mod_lt _ hp, rfl, ?_, m, ?_, rfl⟩
    · have := Nat.mod_lt x hp; omega
    · rw [← hg, Nat.gcd_comm m (x % m), Nat.gcd_comm x m, Nat.gcd_rec m x]
theorem share_ok {n d : Nat} (hd : 0 < d) (hb : d ≤ 100000) (G : List W) : fn_share [.int (n : Int), .int (d : Int)] G = .ok (.tup [.int (n / Nat.gcd n d : Nat), .int (d / Nat.gcd n d : Nat)]) [] G := by
  unfold fn_share
  refine runF_of ?_
  unfold m_share
  simp only [List.map_cons, List.map_nil, List.length_cons, List.length_nil, List.replicate, List.cons_append, List.nil_append]
  simp only [Wp.pure, Wp.bind, Wp.of, Wp.getS, Wp.gets, Wp.getv, Wp.mS, Wp.moveS, Wp.setU, Wp.setM, Wp.raise, Wp.mV, Wp.m2, Wp.m1, Wp.mB, Wp.mT, Wp.mNot, Wp.ite, Wp.mAnd, Wp.mOr, Wp.mIf, Wp.mNotV, Wp.mAndV, Wp.mOrV, Wp.mCh, Wp.mNil, Wp.mCons, Wp.getAll0, Wp.getAllC, Wp.mCall, Wp.mTup, Wp.mLst, Wp.mCallF, Wp.mNo, Wp.mSome, Wp.mCut, Wp.mM1, Wp.mMethR, Wp.mMeth, Wp.mSeq, Wp.mSkip, Wp.mSet, Wp.mRet, Wp.mDrop, Wp.mAug, Wp.mPar, Wp.mParF, Wp.mAsg, Wp.tgNil, Wp.tgCons, Wp.mSeqI, Wp.mI1, Wp.mI2, List.getElem?_cons_zero, List.getElem?_cons_succ, Option.some.injEq, exists_eq_left', exists_eq_left, W.lst.injEq, List.set_cons_zero, List.set_cons_succ, q_le, q_lt, q_gt, q_ge, q_sub, q_neg, q_eq_int, q_ne_int, q_eq_str, q_ne_str, q_eq_b, q_ne_b, q_b, q_i, q_s, q_l, q_seqS, q_seqL, q_seqT, q_seqN, q_f1, q_f2, q_count_str, q_abs, q_intI, q_isN, q_notN, q_tb, q_ti, q_lenL, q_lenT, q_tuple, if_true, Option.bind_some]
  rw [if_neg (by simp; omega), if_neg (by simp), if_neg (by simp)]
  have gp : 0 < Nat.gcd n d := Nat.gcd_pos_of_pos_right _ hd
  have gl : Nat.gcd n d ≤ 2 ^ 64 := Nat.le_trans (Nat.le_of_dvd hd (Nat.gcd_dvd_right n d)) (by omega)
  refine Wp.mWhile (fun m ρ G1 => G1 = G ∧ m ≤ d ∧ ∃ x : Nat, Nat.gcd x m = Nat.gcd n d ∧ ρ = [some (.int (n : Int)), some (.int (d : Int)), some (.int (x : Int)), some (.int (m : Int))]) (fun m ρ G1 hI => ?_) _ d _ _ (by omega) ⟨rfl, Nat.le_refl _, n, rfl, rfl⟩
  obtain ⟨rfl, hm, x, hg, rfl⟩ := hI
  simp only [Wp.pure, Wp.bind, Wp.of, Wp.getS, Wp.gets, Wp.getv, Wp.mS, Wp.moveS, Wp.setU, Wp.setM, Wp.raise, Wp.mV, Wp.m2, Wp.m1, Wp.mB, Wp.mT, Wp.mNot, Wp.ite, Wp.mAnd, Wp.mOr, Wp.mIf, Wp.mNotV, Wp.mAndV, Wp.mOrV, Wp.mCh, Wp.mNil, Wp.mCons, Wp.getAll0, Wp.getAllC, Wp.mCall, Wp.mTup, Wp.mLst, Wp.mCallF, Wp.mNo, Wp.mSome, Wp.mCut, Wp.mM1, Wp.mMethR, Wp.mMeth, Wp.mSeq, Wp.mSkip, Wp.mSet, Wp.mRet, Wp.mDrop, Wp.mAug, Wp.mPar, Wp.mParF, Wp.mAsg, Wp.tgNil, Wp.tgCons, Wp.mSeqI, Wp.mI1, Wp.mI2, List.getElem?_cons_zero, List.getElem?_cons_succ, Option.some.injEq, exists_eq_left', exists_eq_left, W.lst.injEq, List.set_cons_zero, List.set_cons_succ, q_le, q_lt, q_gt, q_ge, q_sub, q_neg, q_eq_int, q_ne_int, q_eq_str, q_ne_str, q_eq_b, q_ne_b, q_b, q_i, q_s, q_l, q_seqS, q_seqL, q_seqT, q_seqN, q_f1, q_f2, q_count_str, q_abs, q_intI, q_isN, q_notN, q_tb, q_ti, q_lenL, q_lenT, q_tuple, if_true, Option.bind_some]
  by_cases h0 : m = 0
  · subst h0
    rw [Nat.gcd_zero_right] at hg
    subst hg
    rw [if_neg (by simp)]
    simp only [q_div_n gp gl, Option.some.injEq, exists_eq_left', List.length_cons, List.length_nil]
    exact ⟨rfl, .inl trivial, trivial⟩
  · have hp : 0 < m := Nat.pos_of_ne_zero h0
    rw [if_pos (by simp; omega)]
    refine ⟨_, q_mod_n hp, x % m, Nat.mod_lt _ hp, rfl, ?_, m, ?_, rfl⟩
    · have := Nat.mod_lt x hp; omega
    · rw [← hg, Nat.gcd_comm m (x % m), Nat.gcd_comm x m, Nat.gcd_rec m x]
def told (p : List Nat) (j i : Nat) : List W := ((List.range i).map (gq (sgp p) (j + 2))).map fun c => W.str [c]
theorem told_succ (p : List Nat) (j i : Nat) : told p j (i + 1) = told p j i ++ [.str [gq (sgp p) (j + 2) i]] := by
  unfold told
  rw [List.range_succ, List.map_append, List.map_append]; rfl
theorem pow5 {n j : Nat} (hn : n ≤ 5) (hj : j ≤ 3) : n ^ (j + 1) ≤ 625 := Nat.le_trans (Nat.pow_le_pow_left hn _) (Nat.le_trans (Nat.pow_le_pow_right (by decide) (show j + 1 ≤ 4 by omega)) (by decide))
theorem LP_625 {p : List Nat} (hn : p.length ≤ 5) {j : Nat} (hj : j ≤ 3) : (LP p j).1 ≤ 625 := Nat.le_trans (LP_le p j) (pow5 hn hj)
theorem layers_ok {p : List Nat} (h : OkP p) (h5 : p.length ≤ 5) {j : Nat} (hj : j ≤ 3) (G : List W) : fn_layers [.str p, .int ((j + 1 : Nat) : Int)] G = .ok (.str (lay p j)) [] G := by
  unfold fn_layers
  refine runF_of ?_
  unfold m_layers
  simp only [List.map_cons, List.map_nil, List.length_cons, List.length_nil, List.replicate, List.cons_append, List.nil_append]
  simp only [Wp.pure, Wp.bind, Wp.of, Wp.getS, Wp.gets, Wp.getv, Wp.mS, Wp.moveS, Wp.setU, Wp.setM, Wp.raise, Wp.mV, Wp.m2, Wp.m1, Wp.mB, Wp.mT, Wp.mNot, Wp.ite, Wp.mAnd, Wp.mOr, Wp.mIf, Wp.mNotV, Wp.mAndV, Wp.mOrV, Wp.mCh, Wp.mNil, Wp.mCons, Wp.getAll0, Wp.getAllC, Wp.mCall, Wp.mTup, Wp.mLst, Wp.mCallF, Wp.mNo, Wp.mSome, Wp.mCut, Wp.mM1, Wp.mMethR, Wp.mMeth, Wp.mSeq, Wp.mSkip, Wp.mSet, Wp.mRet, Wp.mDrop, Wp.mAug, Wp.mPar, Wp.mParF, Wp.mAsg, Wp.tgNil, Wp.tgCons, Wp.mSeqI, Wp.mI1, Wp.mI2, List.getElem?_cons_zero, List.getElem?_cons_succ, Option.some.injEq, exists_eq_left', exists_eq_left, W.lst.injEq, List.set_cons_zero, List.set_cons_succ, Wp.callF (check_ok h _), q_le, q_lt, q_gt, q_ge, q_sub, q_neg, q_eq_int, q_ne_int, q_eq_str, q_ne_str, q_eq_b, q_ne_b, q_b, q_i, q_s, q_l, q_seqS, q_seqL, q_seqT, q_seqN, q_f1, q_f2, q_count_str, q_abs, q_intI, q_isN, q_notN, q_tb, q_ti, q_lenL, q_lenT, q_tuple, if_true, Option.bind_some]
  rw [if_pos (decide_eq_true (by omega)), if_neg (by rw [decide_eq_true (by omega)]; decide)]
  rw [show (((j + 1 : Nat) : Int) - 1) = (j : Int) by omega]
  refine ⟨_, q_rng1_n (by omega), ?_⟩
  refine Wp.mFor (fun i ρ G1 => G1 = G ∧ i ≤ j ∧ ∃ x3 x4 x5 x6 x7 x8 x9, ρ = [some (.str p), some (.int ((j + 1 : Nat) : Int)), some (.str (lay p i)), x3, x4, x5, x6, x7, x8, x9]) 0 ⟨rfl, Nat.zero_le _, none, none, none, none, none, none, none, by rw [lay_zero h.pos h.h0]⟩ (fun i w ρ G1 e hI => ?_) (fun ρ G1 hI => ?_)
  · obtain ⟨rfl, hi', x3, x4, x5, x6, x7, x8, x9, rfl⟩ := hI
    rw [Nat.zero_add] at *
    have hi : i < j := by
      have := (List.getElem?_eq_some_iff.mp e).1
      simpa using this
    have l1 := LP_625 (p := p) h5 (j := i) (by omega)
    have l2 := LP_625 (p := p) h5 (j := i + 1) (by omega)
    have per := LP_per h.pos h.h0 i
    have lp := per.pos
    have gp : 0 < Nat.gcd (LP p i).2 p.length := Nat.gcd_pos_of_pos_right _ h.pos
    have gl : Nat.gcd (LP p i).2 p.length ≤ 2 ^ 64 := Nat.le_trans (Nat.le_of_dvd h.pos (Nat.gcd_dvd_right _ _)) (by omega)
    have hsz : (lay p i).length ≤ 16777216 := by rw [lay_len]; omega
    have cnt := lay_count h.pos h.h0 i
    have c0 : p.length / Nat.gcd (LP p i).2 p.length < 18446744073709551616 := Nat.lt_of_le_of_lt (Nat.div_le_self _ _) (by omega)
    have c5 : p.length / Nat.gcd (LP p i).2 p.length ≤ 5 := Nat.le_trans (Nat.div_le_self _ _) h5
    have l2' : p.length / Nat.gcd (LP p i).2 p.length * (LP p i).1 ≤ 625 := l2
    simp only [Wp.pure, Wp.bind, Wp.of, Wp.getS, Wp.gets, Wp.getv, Wp.mS, Wp.moveS, Wp.setU, Wp.setM, Wp.raise, Wp.mV, Wp.m2, Wp.m1, Wp.mB, Wp.mT, Wp.mNot, Wp.ite, Wp.mAnd, Wp.mOr, Wp.mIf, Wp.mNotV, Wp.mAndV, Wp.mOrV, Wp.mCh, Wp.mNil, Wp.mCons, Wp.getAll0, Wp.getAllC, Wp.mCall, Wp.mTup, Wp.mLst, Wp.mCallF, Wp.mNo, Wp.mSome, Wp.mCut, Wp.mM1, Wp.mMethR, Wp.mMeth, Wp.mSeq, Wp.mSkip, Wp.mSet, Wp.mRet, Wp.mDrop, Wp.mAug, Wp.mPar, Wp.mParF, Wp.mAsg, Wp.tgNil, Wp.tgCons, Wp.mSeqI, Wp.mI1, Wp.mI2, List.getElem?_cons_zero, List.getElem?_cons_succ, Option.some.injEq, exists_eq_left', exists_eq_left, W.lst.injEq, List.set_cons_zero, List.set_cons_succ, q_le, q_lt, q_gt, q_ge, q_sub, q_neg, q_eq_int, q_ne_int, q_eq_str, q_ne_str, q_eq_b, q_ne_b, q_b, q_i, q_s, q_l, q_seqS, q_seqL, q_seqT, q_seqN, q_f1, q_f2, q_count_str, q_abs, q_intI, q_isN, q_notN, q_tb, q_ti, q_lenL, q_lenT, q_tuple, if_true, Option.bind_some, q_len_str h.sz, q_len_str hsz, cnt, lay_len, Wp.callF (common_ok (b := p.length) (a := (LP p i).2) (by omega) _), q_div_n gp gl, q_mul_n c0]
    rw [if_neg fun q => by have := of_decide_eq_true q; omega]
    refine ⟨_, q_div_n lp (by omega), ?_⟩
    rw [Nat.mul_div_cancel _ lp]
    have rep : repS (lay p i) (p.length / Nat.gcd (LP p i).2 p.length) = (List.range (LP p (i + 1)).1).map (gq (sgp p) (i + 1)) := rep_per per.g _
    refine ⟨_, q_mul_s (by omega) (by rw [lay_len, Nat.mul_comm]; omega) hsz, ?_⟩
    rw [rep]
    refine ⟨rfl, _, rfl, ?_⟩
    refine Wp.mFor (fun t ρ G2 => G2 = G1 ∧ ∃ x9, ρ = [some (.str p), some (.int ((j + 1 : Nat) : Int)), some (.str (lay p i)), some w, some (.int ((LP p i).2 : Int)), some (.int ((p.length / Nat.gcd (LP p i).2 p.length * (LP p i).1 : Nat) : Int)), some (.str ((List.range (LP p (i + 1)).1).map (gq (sgp p) (i + 1)))), some (.lst (told p i t)), some (.int (itD (sgp p) (i + 1) t : Nat)), x9]) 0 ⟨rfl, x9, ?_⟩ (fun t w2 ρ G2 e2 hI2 => ?_) (fun ρ G2 hI2 => ?_)
    · rw [itD_zero]; rfl
    · obtain ⟨rfl, x9, rfl⟩ := hI2
      rw [Nat.zero_add] at *
      have ht : t < (LP p (i + 1)).1 := by
        have := (List.getElem?_eq_some_iff.mp e2).1
        simpa using this
      rw [List.getElem?_map, List.getElem?_map, List.getElem?_range ht] at e2
      cases e2
      have hap : (told p i t).length < 16777216 := by
        unfold told
        rw [List.length_map, List.length_map, List.length_range]; omega
      have at_ := itD_step h.h0 (i + 1) t
      simp only [Wp.pure, Wp.bind, Wp.of, Wp.getS, Wp.gets, Wp.getv, Wp.mS, Wp.moveS, Wp.setU, Wp.setM, Wp.raise, Wp.mV, Wp.m2, Wp.m1, Wp.mB, Wp.mT, Wp.mNot, Wp.ite, Wp.mAnd, Wp.mOr, Wp.mIf, Wp.mNotV, Wp.mAndV, Wp.mOrV, Wp.mCh, Wp.mNil, Wp.mCons, Wp.getAll0, Wp.getAllC, Wp.mCall, Wp.mTup, Wp.mLst, Wp.mCallF, Wp.mNo, Wp.mSome, Wp.mCut, Wp.mM1, Wp.mMethR, Wp.mMeth, Wp.mSeq, Wp.mSkip, Wp.mSet, Wp.mRet, Wp.mDrop, Wp.mAug, Wp.mPar, Wp.mParF, Wp.mAsg, Wp.tgNil, Wp.tgCons, Wp.mSeqI, Wp.mI1, Wp.mI2, List.getElem?_cons_zero, List.getElem?_cons_succ, Option.some.injEq, exists_eq_left', exists_eq_left, W.lst.injEq, List.set_cons_zero, List.set_cons_succ, q_le, q_lt, q_gt, q_ge, q_sub, q_neg, q_eq_int, q_ne_int, q_eq_str, q_ne_str, q_eq_b, q_ne_b, q_b, q_i, q_s, q_l, q_seqS, q_seqL, q_seqT, q_seqN, q_f1, q_f2, q_count_str, q_abs, q_intI, q_isN, q_notN, q_tb, q_ti, q_lenL, q_lenT, q_tuple, if_true, Option.bind_some, q_len_str h.sz, q_mod_n h.pos, q_ix_str (sgp_get h.pos _) h.sz]
      by_cases hd : gq (sgp p) (i + 1) t = 46
      · rw [show ([gq (sgp p) (i + 1) t] == [46]) = true by rw [hd]; rfl, if_pos rfl]
        refine ⟨_, q_app_ok hap, _, q_addI_n (b := 1), rfl, some (.str [gq (sgp p) (i + 1) t]), ?_⟩
        rw [told_succ, gq_next h.h0 (i + 1) t, if_pos hd, at_, if_pos ((gq_dot h.h0).mp hd)]
      · rw [show ([gq (sgp p) (i + 1) t] == [46]) = false by simpa using hd, if_neg (by decide)]
        refine ⟨_, q_app_ok hap, rfl, some (.str [gq (sgp p) (i + 1) t]), ?_⟩
        rw [told_succ, gq_next h.h0 (i + 1) t, if_neg hd, at_, if_neg fun q => hd ((gq_dot h.h0).mpr q)]
        rfl
    · obtain ⟨rfl, x9, rfl⟩ := hI2
      rw [Nat.zero_add, List.length_map, List.length_map, List.length_range]
      have ej : wJoin (.str []) (.lst (told p i (LP p (i + 1)).1)) = some (.str (lay p (i + 1))) := q_join_signs (l := lay p (i + 1)) (by rw [lay_len]; omega)
      simp only [Wp.pure, Wp.bind, Wp.of, Wp.getS, Wp.gets, Wp.getv, Wp.mS, Wp.moveS, Wp.setU, Wp.setM, Wp.raise, Wp.mV, Wp.m2, Wp.m1, Wp.mB, Wp.mT, Wp.mNot, Wp.ite, Wp.mAnd, Wp.mOr, Wp.mIf, Wp.mNotV, Wp.mAndV, Wp.mOrV, Wp.mCh, Wp.mNil, Wp.mCons, Wp.getAll0, Wp.getAllC, Wp.mCall, Wp.mTup, Wp.mLst, Wp.mCallF, Wp.mNo, Wp.mSome, Wp.mCut, Wp.mM1, Wp.mMethR, Wp.mMeth, Wp.mSeq, Wp.mSkip, Wp.mSet, Wp.mRet, Wp.mDrop, Wp.mAug, Wp.mPar, Wp.mParF, Wp.mAsg, Wp.tgNil, Wp.tgCons, Wp.mSeqI, Wp.mI1, Wp.mI2, List.getElem?_cons_zero, List.getElem?_cons_succ, Option.some.injEq, exists_eq_left', exists_eq_left, W.lst.injEq, List.set_cons_zero, List.set_cons_succ, q_le, q_lt, q_gt, q_ge, q_sub, q_neg, q_eq_int, q_ne_int, q_eq_str, q_ne_str, q_eq_b, q_ne_b, q_b, q_i, q_s, q_l, q_seqS, q_seqL, q_seqT, q_seqN, q_f1, q_f2, q_count_str, q_abs, q_intI, q_isN, q_notN, q_tb, q_ti, q_lenL, q_lenT, q_tuple, if_true, Option.bind_some, ej]
      exact ⟨rfl, by omega, _, _, _, _, _, _, _, rfl⟩
  · obtain ⟨rfl, _, x3, x4, x5, x6, x7, x8, x9, rfl⟩ := hI
    rw [Nat.zero_add, List.length_map, List.length_range]
    simp only [Wp.pure, Wp.bind, Wp.of, Wp.getS, Wp.gets, Wp.getv, Wp.mS, Wp.moveS, Wp.setU, Wp.setM, Wp.raise, Wp.mV, Wp.m2, Wp.m1, Wp.mB, Wp.mT, Wp.mNot, Wp.ite, Wp.mAnd, Wp.mOr, Wp.mIf, Wp.mNotV, Wp.mAndV, Wp.mOrV, Wp.mCh, Wp.mNil, Wp.mCons, Wp.getAll0, Wp.getAllC, Wp.mCall, Wp.mTup, Wp.mLst, Wp.mCallF, Wp.mNo, Wp.mSome, Wp.mCut, Wp.mM1, Wp.mMethR, Wp.mMeth, Wp.mSeq, Wp.mSkip, Wp.mSet, Wp.mRet, Wp.mDrop, Wp.mAug, Wp.mPar, Wp.mParF, Wp.mAsg, Wp.tgNil, Wp.tgCons, Wp.mSeqI, Wp.mI1, Wp.mI2, List.getElem?_cons_zero, List.getElem?_cons_succ, Option.some.injEq, exists_eq_left', exists_eq_left, W.lst.injEq, List.set_cons_zero, List.set_cons_succ]
    exact ⟨.inl trivial, trivial⟩
end K56
set_option Elab.async false
set_option linter.all false
set_option maxRecDepth 100000
set_option maxHeartbeats 4000000
set_option exponentiation.threshold 9000
namespace K56
open PySem PySem.Spec L2 Mp
open PyProof.Rows hiding St
theorem oshare_ok {p : List Nat} (h : OkP p) (h5 : p.length ≤ 5) {j : Nat} (hj : j ≤ 3) (G : List W) : fn_open_share [.str p, .int ((j + 1 : Nat) : Int)] G =
    .ok (.tup [.int ((LP p j).2 / Nat.gcd (LP p j).2 (LP p j).1 : Nat), .int ((LP p j).1 / Nat.gcd (LP p j).2 (LP p j).1 : Nat)]) [] G := by
  unfold fn_open_share
  refine runF_of ?_
  unfold m_open_share
  have l1 := LP_625 (p := p) h5 hj
  have lp := (LP_per h.pos h.h0 j).pos
  have hsz : (lay p j).length ≤ 16777216 := by rw [lay_len]; omega
  simp only [List.map_cons, List.map_nil, List.length_cons, List.length_nil, List.replicate, List.cons_append, List.nil_append]
  simp only [Wp.pure, Wp.bind, Wp.of, Wp.getS, Wp.gets, Wp.getv, Wp.mS, Wp.moveS, Wp.setU, Wp.setM, Wp.raise, Wp.mV, Wp.m2, Wp.m1, Wp.mB, Wp.mT, Wp.mNot, Wp.ite, Wp.mAnd, Wp.mOr, Wp.mIf, Wp.mNotV, Wp.mAndV, Wp.mOrV, Wp.mCh, Wp.mNil, Wp.mCons, Wp.getAll0, Wp.getAllC, Wp.mCall, Wp.mTup, Wp.mLst, Wp.mCallF, Wp.mNo, Wp.mSome, Wp.mCut, Wp.mM1, Wp.mMethR, Wp.mMeth, Wp.mSeq, Wp.mSkip, Wp.mSet, Wp.mRet, Wp.mDrop, Wp.mAug, Wp.mPar, Wp.mParF, Wp.mAsg, Wp.tgNil, Wp.tgCons, Wp.mSeqI, Wp.mI1, Wp.mI2, List.getElem?_cons_zero, List.getElem?_cons_succ, Option.some.injEq, exists_eq_left', exists_eq_left, W.lst.injEq, List.set_cons_zero, List.set_cons_succ, Wp.callF (layers_ok h h5 hj _), q_le, q_lt, q_gt, q_ge, q_sub, q_neg, q_eq_int, q_ne_int, q_eq_str, q_ne_str, q_eq_b, q_ne_b, q_b, q_i, q_s, q_l, q_seqS, q_seqL, q_seqT, q_seqN, q_f1, q_f2, q_count_str, q_abs, q_intI, q_isN, q_notN, q_tb, q_ti, q_lenL, q_lenT, q_tuple, if_true, Option.bind_some, q_len_str hsz, lay_len, lay_count h.pos h.h0, Wp.callF (share_ok (n := (LP p j).2) lp (by omega) _)]
  exact ⟨.inl trivial, trivial⟩
theorem gq_mod {p : List Nat} (h : OkP p) (j k : Nat) : gq (sgp p) (j + 1) (k % (LP p j).1) = gq (sgp p) (j + 1) k := by
  have := ((LP_per h.pos h.h0 j).mul (k / (LP p j).1) (k % (LP p j).1)).2
  rw [← this]
  congr 1
  rw [Nat.mul_comm]
  exact Nat.mod_add_div _ _
theorem rng15 : rng2 (.int 1) (.int 5) = some [.int ((0 + 1 : Nat) : Int), .int ((1 + 1 : Nat) : Int), .int ((2 + 1 : Nat) : Int), .int ((3 + 1 : Nat) : Int)] := rfl
theorem in4 {i : Nat} {w : W} (e : ([.int ((0 + 1 : Nat) : Int), .int ((1 + 1 : Nat) : Int), .int ((2 + 1 : Nat) : Int), .int ((3 + 1 : Nat) : Int)] : List W)[i]? = some w) : i ≤ 3 ∧ w = .int ((i + 1 : Nat) : Int) := by
  match i, e with
  | 0, e => cases e; exact ⟨by omega, rfl⟩
  | 1, e => cases e; exact ⟨by omega, rfl⟩
  | 2, e => cases e; exact ⟨by omega, rfl⟩
  | 3, e => cases e; exact ⟨by omega, rfl⟩
  | i + 4, e => simp at e
theorem round_ok {p : List Nat} (h : OkP p) (h5 : p.length ≤ 5) {k : Nat} (hd : dq (sgp p) k ≤ 3) (G : List W) : fn_round_at [.str p, .int (k : Int)] G = .ok (.int ((LP p (dq (sgp p) k)).1 : Nat)) [] G := by
  unfold fn_round_at
  refine runF_of ?_
  unfold m_round_at
  simp only [List.map_cons, List.map_nil, List.length_cons, List.length_nil, List.replicate, List.cons_append, List.nil_append]
  simp only [Wp.pure, Wp.bind, Wp.of, Wp.getS, Wp.gets, Wp.getv, Wp.mS, Wp.moveS, Wp.setU, Wp.setM, Wp.raise, Wp.mV, Wp.m2, Wp.m1, Wp.mB, Wp.mT, Wp.mNot, Wp.ite, Wp.mAnd, Wp.mOr, Wp.mIf, Wp.mNotV, Wp.mAndV, Wp.mOrV, Wp.mCh, Wp.mNil, Wp.mCons, Wp.getAll0, Wp.getAllC, Wp.mCall, Wp.mTup, Wp.mLst, Wp.mCallF, Wp.mNo, Wp.mSome, Wp.mCut, Wp.mM1, Wp.mMethR, Wp.mMeth, Wp.mSeq, Wp.mSkip, Wp.mSet, Wp.mRet, Wp.mDrop, Wp.mAug, Wp.mPar, Wp.mParF, Wp.mAsg, Wp.tgNil, Wp.tgCons, Wp.mSeqI, Wp.mI1, Wp.mI2, List.getElem?_cons_zero, List.getElem?_cons_succ, Option.some.injEq, exists_eq_left', exists_eq_left, W.lst.injEq, List.set_cons_zero, List.set_cons_succ, Wp.callF (check_ok h _), q_le, q_lt, q_gt, q_ge, q_sub, q_neg, q_eq_int, q_ne_int, q_eq_str, q_ne_str, q_eq_b, q_ne_b, q_b, q_i, q_s, q_l, q_seqS, q_seqL, q_seqT, q_seqN, q_f1, q_f2, q_count_str, q_abs, q_intI, q_isN, q_notN, q_tb, q_ti, q_lenL, q_lenT, q_tuple, if_true, Option.bind_some, rng15]
  refine Wp.mFor (fun i ρ G1 => G1 = G ∧ i ≤ dq (sgp p) k ∧ ∃ x y, ρ = [some (.str p), some (.int (k : Int)), x, y]) 0 ⟨rfl, Nat.zero_le _, none, none, rfl⟩ (fun i w ρ G1 e hI => ?_) (fun ρ G1 hI => ?_)
  · obtain ⟨rfl, hi, x, y, rfl⟩ := hI
    obtain ⟨hi3, rfl⟩ := in4 e
    rw [Nat.zero_add] at *
    have l1 := LP_625 (p := p) h5 hi3
    have lp := (LP_per h.pos h.h0 i).pos
    have hsz : (lay p i).length ≤ 16777216 := by rw [lay_len]; omega
    have hget : (lay p i)[k % (LP p i).1]? = some (gq (sgp p) (i + 1) k) := by rw [lay_get (Nat.mod_lt _ lp), gq_mod h]
    simp only [Wp.pure, Wp.bind, Wp.of, Wp.getS, Wp.gets, Wp.getv, Wp.mS, Wp.moveS, Wp.setU, Wp.setM, Wp.raise, Wp.mV, Wp.m2, Wp.m1, Wp.mB, Wp.mT, Wp.mNot, Wp.ite, Wp.mAnd, Wp.mOr, Wp.mIf, Wp.mNotV, Wp.mAndV, Wp.mOrV, Wp.mCh, Wp.mNil, Wp.mCons, Wp.getAll0, Wp.getAllC, Wp.mCall, Wp.mTup, Wp.mLst, Wp.mCallF, Wp.mNo, Wp.mSome, Wp.mCut, Wp.mM1, Wp.mMethR, Wp.mMeth, Wp.mSeq, Wp.mSkip, Wp.mSet, Wp.mRet, Wp.mDrop, Wp.mAug, Wp.mPar, Wp.mParF, Wp.mAsg, Wp.tgNil, Wp.tgCons, Wp.mSeqI, Wp.mI1, Wp.mI2, List.getElem?_cons_zero, List.getElem?_cons_succ, Option.some.injEq, exists_eq_left', exists_eq_left, W.lst.injEq, List.set_cons_zero, List.set_cons_succ, Wp.callF (layers_ok h h5 hi3 _), q_le, q_lt, q_gt, q_ge, q_sub, q_neg, q_eq_int, q_ne_int, q_eq_str, q_ne_str, q_eq_b, q_ne_b, q_b, q_i, q_s, q_l, q_seqS, q_seqL, q_seqT, q_seqN, q_f1, q_f2, q_count_str, q_abs, q_intI, q_isN, q_notN, q_tb, q_ti, q_lenL, q_lenT, q_tuple, if_true, Option.bind_some, q_len_str hsz, lay_len, q_mod_n lp, q_ix_str hget hsz]
    by_cases hg : gq (sgp p) (i + 1) k = 46
    · rw [show (!([gq (sgp p) (i + 1) k] == [46])) = false by rw [hg]; rfl, if_neg (by decide)]
      exact ⟨rfl, (gq_dot h.h0).mp hg, _, _, rfl⟩
    · rw [show (!([gq (sgp p) (i + 1) k] == [46])) = true by simpa using hg, if_pos rfl]
      have : dq (sgp p) k = i := by
        have hlt : ¬ (i + 1 ≤ dq (sgp p) k) := fun q => hg ((gq_dot h.h0).mpr q)
        omega
      rw [this]
      exact ⟨.inl rfl, rfl⟩
  · obtain ⟨_, h1, _⟩ := hI
    have h1 : 0 + 4 ≤ dq (sgp p) k := h1
    omega
theorem round_exc {p : List Nat} (h : OkP p) (h5 : p.length ≤ 5) {k : Nat} (hd : 3 < dq (sgp p) k) (G : List W) : fn_round_at [.str p, .int (k : Int)] G = .exc 2 G := by
  unfold fn_round_at
  refine runF_exc ?_
  unfold m_round_at
  simp only [List.map_cons, List.map_nil, List.length_cons, List.length_nil, List.replicate, List.cons_append, List.nil_append]
  simp only [Wp.pure, Wp.bind, Wp.of, Wp.getS, Wp.gets, Wp.getv, Wp.mS, Wp.moveS, Wp.setU, Wp.setM, Wp.raise, Wp.mV, Wp.m2, Wp.m1, Wp.mB, Wp.mT, Wp.mNot, Wp.ite, Wp.mAnd, Wp.mOr, Wp.mIf, Wp.mNotV, Wp.mAndV, Wp.mOrV, Wp.mCh, Wp.mNil, Wp.mCons, Wp.getAll0, Wp.getAllC, Wp.mCall, Wp.mTup, Wp.mLst, Wp.mCallF, Wp.mNo, Wp.mSome, Wp.mCut, Wp.mM1, Wp.mMethR, Wp.mMeth, Wp.mSeq, Wp.mSkip, Wp.mSet, Wp.mRet, Wp.mDrop, Wp.mAug, Wp.mPar, Wp.mParF, Wp.mAsg, Wp.tgNil, Wp.tgCons, Wp.mSeqI, Wp.mI1, Wp.mI2, List.getElem?_cons_zero, List.getElem?_cons_succ, Option.some.injEq, exists_eq_left', exists_eq_left, W.lst.injEq, List.set_cons_zero, List.set_cons_succ, Wp.callF (check_ok h _), q_le, q_lt, q_gt, q_ge, q_sub, q_neg, q_eq_int, q_ne_int, q_eq_str, q_ne_str, q_eq_b, q_ne_b, q_b, q_i, q_s, q_l, q_seqS, q_seqL, q_seqT, q_seqN, q_f1, q_f2, q_count_str, q_abs, q_intI, q_isN, q_notN, q_tb, q_ti, q_lenL, q_lenT, q_tuple, if_true, Option.bind_some, rng15]
  refine Wp.mFor (fun i ρ G1 => G1 = G ∧ ∃ x y, ρ = [some (.str p), some (.int (k : Int)), x, y]) 0 ⟨rfl, none, none, rfl⟩ (fun i w ρ G1 e hI => ?_) (fun ρ G1 hI => ?_)
  · obtain ⟨rfl, x, y, rfl⟩ := hI
    obtain ⟨hi3, rfl⟩ := in4 e
    rw [Nat.zero_add] at *
    have l1 := LP_625 (p := p) h5 hi3
    have lp := (LP_per h.pos h.h0 i).pos
    have hsz : (lay p i).length ≤ 16777216 := by rw [lay_len]; omega
    have hget : (lay p i)[k % (LP p i).1]? = some (gq (sgp p) (i + 1) k) := by rw [lay_get (Nat.mod_lt _ lp), gq_mod h]
    simp only [Wp.pure, Wp.bind, Wp.of, Wp.getS, Wp.gets, Wp.getv, Wp.mS, Wp.moveS, Wp.setU, Wp.setM, Wp.raise, Wp.mV, Wp.m2, Wp.m1, Wp.mB, Wp.mT, Wp.mNot, Wp.ite, Wp.mAnd, Wp.mOr, Wp.mIf, Wp.mNotV, Wp.mAndV, Wp.mOrV, Wp.mCh, Wp.mNil, Wp.mCons, Wp.getAll0, Wp.getAllC, Wp.mCall, Wp.mTup, Wp.mLst, Wp.mCallF, Wp.mNo, Wp.mSome, Wp.mCut, Wp.mM1, Wp.mMethR, Wp.mMeth, Wp.mSeq, Wp.mSkip, Wp.mSet, Wp.mRet, Wp.mDrop, Wp.mAug, Wp.mPar, Wp.mParF, Wp.mAsg, Wp.tgNil, Wp.tgCons, Wp.mSeqI, Wp.mI1, Wp.mI2, List.getElem?_cons_zero, List.getElem?_cons_succ, Option.some.injEq, exists_eq_left', exists_eq_left, W.lst.injEq, List.set_cons_zero, List.set_cons_succ, Wp.callF (layers_ok h h5 hi3 _), q_le, q_lt, q_gt, q_ge, q_sub, q_neg, q_eq_int, q_ne_int, q_eq_str, q_ne_str, q_eq_b, q_ne_b, q_b, q_i, q_s, q_l, q_seqS, q_seqL, q_seqT, q_seqN, q_f1, q_f2, q_count_str, q_abs, q_intI, q_isN, q_notN, q_tb, q_ti, q_lenL, q_lenT, q_tuple, if_true, Option.bind_some, q_len_str hsz, lay_len, q_mod_n lp, q_ix_str hget hsz]
    have hg : gq (sgp p) (i + 1) k = 46 := (gq_dot h.h0).mpr (by omega)
    rw [show (!([gq (sgp p) (i + 1) k] == [46])) = false by rw [hg]; rfl, if_neg (by decide)]
    exact ⟨rfl, _, _, rfl⟩
  · obtain ⟨rfl, _⟩ := hI
    exact ⟨trivial, rfl⟩
def sums (p : List Nat) (L : Nat) : List Nat := [(fl p L).count 48, (fl p L).count 49, (fl p L).count 50, (fl p L).count 51]
theorem sums_ok {p : List Nat} (h : OkP p) {L : Nat} (hL : L ≤ 4000) (G : List W) : fn_sums_at [.str p, .int (L : Int)] G = .ok (.tup ((sums p L).map fun c : Nat => W.int (c : Int))) [] G := by
  unfold fn_sums_at
  refine runF_of ?_
  unfold m_sums_at
  simp only [List.map_cons, List.map_nil, List.length_cons, List.length_nil, List.replicate, List.cons_append, List.nil_append]
  simp only [Wp.pure, Wp.bind, Wp.of, Wp.getS, Wp.gets, Wp.getv, Wp.mS, Wp.moveS, Wp.setU, Wp.setM, Wp.raise, Wp.mV, Wp.m2, Wp.m1, Wp.mB, Wp.mT, Wp.mNot, Wp.ite, Wp.mAnd, Wp.mOr, Wp.mIf, Wp.mNotV, Wp.mAndV, Wp.mOrV, Wp.mCh, Wp.mNil, Wp.mCons, Wp.getAll0, Wp.getAllC, Wp.mCall, Wp.mTup, Wp.mLst, Wp.mCallF, Wp.mNo, Wp.mSome, Wp.mCut, Wp.mM1, Wp.mMethR, Wp.mMeth, Wp.mSeq, Wp.mSkip, Wp.mSet, Wp.mRet, Wp.mDrop, Wp.mAug, Wp.mPar, Wp.mParF, Wp.mAsg, Wp.tgNil, Wp.tgCons, Wp.mSeqI, Wp.mI1, Wp.mI2, List.getElem?_cons_zero, List.getElem?_cons_succ, Option.some.injEq, exists_eq_left', exists_eq_left, W.lst.injEq, List.set_cons_zero, List.set_cons_succ, Wp.callF (filled_ok h hL _), q_le, q_lt, q_gt, q_ge, q_sub, q_neg, q_eq_int, q_ne_int, q_eq_str, q_ne_str, q_eq_b, q_ne_b, q_b, q_i, q_s, q_l, q_seqS, q_seqL, q_seqT, q_seqN, q_f1, q_f2, q_count_str, q_abs, q_intI, q_isN, q_notN, q_tb, q_ti, q_lenL, q_lenT, q_tuple, if_true, Option.bind_some]
  refine Wp.comp (fun w => match w with | .str [c] => some (.int ((fl p L).count c : Nat)) | _ => none) [.str [48], .str [49], .str [50], .str [51]] rfl (by simp only [Wp.pure, Wp.bind, Wp.of, Wp.getS, Wp.gets, Wp.getv, Wp.mS, Wp.moveS, Wp.setU, Wp.setM, Wp.raise, Wp.mV, Wp.m2, Wp.m1, Wp.mB, Wp.mT, Wp.mNot, Wp.ite, Wp.mAnd, Wp.mOr, Wp.mIf, Wp.mNotV, Wp.mAndV, Wp.mOrV, Wp.mCh, Wp.mNil, Wp.mCons, Wp.getAll0, Wp.getAllC, Wp.mCall, Wp.mTup, Wp.mLst, Wp.mCallF, Wp.mNo, Wp.mSome, Wp.mCut, Wp.mM1, Wp.mMethR, Wp.mMeth, Wp.mSeq, Wp.mSkip, Wp.mSet, Wp.mRet, Wp.mDrop, Wp.mAug, Wp.mPar, Wp.mParF, Wp.mAsg, Wp.tgNil, Wp.tgCons, Wp.mSeqI, Wp.mI1, Wp.mI2, List.getElem?_cons_zero, List.getElem?_cons_succ, Option.some.injEq, exists_eq_left', exists_eq_left, W.lst.injEq, List.set_cons_zero, List.set_cons_succ, q_le, q_lt, q_gt, q_ge, q_sub, q_neg, q_eq_int, q_ne_int, q_eq_str, q_ne_str, q_eq_b, q_ne_b, q_b, q_i, q_s, q_l, q_seqS, q_seqL, q_seqT, q_seqN, q_f1, q_f2, q_count_str, q_abs, q_intI, q_isN, q_notN, q_tb, q_ti, q_lenL, q_lenT, q_tuple, if_true, Option.bind_some]; first | done | exact ⟨rfl, trivial, trivial⟩ | exact ⟨rfl, rfl, rfl⟩ | exact ⟨trivial, trivial, trivial⟩ | trivial) (fun w hw => ?_) ?_
  · simp only [List.mem_cons, List.not_mem_nil, or_false] at hw
    rcases hw with rfl | rfl | rfl | rfl <;> (simp only [wipeR, mTrue, Wp.pure, Wp.bind, Wp.of, Wp.getS, Wp.gets, Wp.getv, Wp.mS, Wp.moveS, Wp.setU, Wp.setM, Wp.raise, Wp.mV, Wp.m2, Wp.m1, Wp.mB, Wp.mT, Wp.mNot, Wp.ite, Wp.mAnd, Wp.mOr, Wp.mIf, Wp.mNotV, Wp.mAndV, Wp.mOrV, Wp.mCh, Wp.mNil, Wp.mCons, Wp.getAll0, Wp.getAllC, Wp.mCall, Wp.mTup, Wp.mLst, Wp.mCallF, Wp.mNo, Wp.mSome, Wp.mCut, Wp.mM1, Wp.mMethR, Wp.mMeth, Wp.mSeq, Wp.mSkip, Wp.mSet, Wp.mRet, Wp.mDrop, Wp.mAug, Wp.mPar, Wp.mParF, Wp.mAsg, Wp.tgNil, Wp.tgCons, Wp.mSeqI, Wp.mI1, Wp.mI2, List.getElem?_cons_zero, List.getElem?_cons_succ, Option.some.injEq, exists_eq_left', exists_eq_left, W.lst.injEq, List.set_cons_zero, List.set_cons_succ, q_le, q_lt, q_gt, q_ge, q_sub, q_neg, q_eq_int, q_ne_int, q_eq_str, q_ne_str, q_eq_b, q_ne_b, q_b, q_i, q_s, q_l, q_seqS, q_seqL, q_seqT, q_seqN, q_f1, q_f2, q_count_str, q_abs, q_intI, q_isN, q_notN, q_tb, q_ti, q_lenL, q_lenT, q_tuple, if_true, Option.bind_some]; exact ⟨trivial, trivial, trivial⟩)
  · simp only [Wp.pure, Wp.bind, Wp.of, Wp.getS, Wp.gets, Wp.getv, Wp.mS, Wp.moveS, Wp.setU, Wp.setM, Wp.raise, Wp.mV, Wp.m2, Wp.m1, Wp.mB, Wp.mT, Wp.mNot, Wp.ite, Wp.mAnd, Wp.mOr, Wp.mIf, Wp.mNotV, Wp.mAndV, Wp.mOrV, Wp.mCh, Wp.mNil, Wp.mCons, Wp.getAll0, Wp.getAllC, Wp.mCall, Wp.mTup, Wp.mLst, Wp.mCallF, Wp.mNo, Wp.mSome, Wp.mCut, Wp.mM1, Wp.mMethR, Wp.mMeth, Wp.mSeq, Wp.mSkip, Wp.mSet, Wp.mRet, Wp.mDrop, Wp.mAug, Wp.mPar, Wp.mParF, Wp.mAsg, Wp.tgNil, Wp.tgCons, Wp.mSeqI, Wp.mI1, Wp.mI2, List.getElem?_cons_zero, List.getElem?_cons_succ, Option.some.injEq, exists_eq_left', exists_eq_left, W.lst.injEq, List.set_cons_zero, List.set_cons_succ, q_le, q_lt, q_gt, q_ge, q_sub, q_neg, q_eq_int, q_ne_int, q_eq_str, q_ne_str, q_eq_b, q_ne_b, q_b, q_i, q_s, q_l, q_seqS, q_seqL, q_seqT, q_seqN, q_f1, q_f2, q_count_str, q_abs, q_intI, q_isN, q_notN, q_tb, q_ti, q_lenL, q_lenT, q_tuple, if_true, Option.bind_some]
    exact ⟨.inl rfl, trivial⟩
end K56
set_option Elab.async false
set_option linter.all false
set_option maxRecDepth 100000
set_option maxHeartbeats 4000000
set_option exponentiation.threshold 9000
/-! Mt: the laws' tape: what it draws. -/
namespace Mp
open PySem PySem.Spec L2
open PyProof.Rows hiding St
section
variable {ρ : Sl} {G : List W} {E : Nat → List W → Prop}
theorem Wp.derefN {n : Nat} {Q : W → Sl → List W → Prop} : Wp (Mp.deref (.obj n)) ρ G Q E = ∃ u, G[n]? = some u ∧ Q u ρ G := by
  unfold Wp Mp.deref
  cases e : G[n]? <;> simp [e]
theorem Wp.derefD {kvs : List (W × W)} {Q : W → Sl → List W → Prop} : Wp (Mp.deref (.dct kvs)) ρ G Q E = Q (.dct kvs) ρ G := by unfold Wp; rfl
theorem Wp.mDGet {ma mb : M Opd} {Q : W → Sl → List W → Prop} : Wp (Mp.mDGet ma mb) ρ G Q E = Wp ma ρ G (fun oa ρ G => Wp mb ρ G (fun ob ρ G => Wp oa.get ρ G (fun x ρ G => Wp (Mp.deref x) ρ G (fun d ρ G => Wp ob.get ρ G (fun y ρ G => ∃ w, wDGet d y = some w ∧ Q w ρ G) E) E) E) E) E := by
  unfold Mp.mDGet; simp only [Wp.bind, Wp.of]
theorem Wp.mDIn {f : W → W → Option W} {mb ma : M Opd} {Q : W → Sl → List W → Prop} : Wp (Mp.mDIn f mb ma) ρ G Q E = Wp mb ρ G (fun ob ρ G => Wp ma ρ G (fun oa ρ G => Wp oa.get ρ G (fun x ρ G => Wp (Mp.deref x) ρ G (fun d ρ G => Wp ob.get ρ G (fun y ρ G => ∃ w, f y d = some w ∧ Q w ρ G) E) E) E) E) E := by
  unfold Mp.mDIn; simp only [Wp.bind, Wp.of]
theorem Wp.mOPut {i n : Nat} {mk : M Opd} {mv : M W} {Q : Fl → Sl → List W → Prop} (hi : ρ[i]? = some (some (.obj n))) (h : Wp mv ρ G (fun v ρ1 G1 => ρ1[i]? = some (some (.obj n)) ∧ Wp mk ρ1 G1 (fun ok ρ2 G2 => ρ2[i]? = some (some (.obj n)) ∧ ∃ d, G2[n]? = some d ∧ Wp ok.get ρ2 G2 (fun y ρ3 G3 => ρ3[i]? = some (some (.obj n)) ∧ ∃ w, wDPut d y v = some w ∧ Q .nx ρ3 (G3.set n w)) E) E) E) : Wp (Mp.mOPut i mk mv) ρ G Q E := by
  unfold Mp.mOPut
  simp only [Wp.bind, Wp.of, Wp.mS, Wp.gets]
  refine h.imp (fun v ρ1 G1 ⟨h1, h⟩ => ⟨_, h1, h.imp (fun ok ρ2 G2 ⟨h2, d, hd, h⟩ => ⟨_, h2, ?_⟩) fun _ _ h => h⟩) fun _ _ h => h
  have e : Mp.derefO (.obj n) ρ2 G2 = .ok d ρ2 G2 := by
    show (match G2[n]? with | some u => R.ok u ρ2 G2 | none => .bad) = _
    rw [hd]
  have hd' : Wp (Mp.derefO (.obj n)) ρ2 G2 (fun d' ρ3 G3 => d' = d ∧ ρ3 = ρ2 ∧ G3 = G2) E := by
    unfold Wp; rw [e]; exact ⟨rfl, rfl, rfl⟩
  refine hd'.imp (fun d' ρ' G' ⟨q1, q2, q3⟩ => ?_) fun _ _ h => h
  subst q1; subst q2; subst q3
  refine Wp.imp (Q := fun y ρ3 G3 => ρ3[i]? = some (some (.obj n)) ∧ ∃ w, wDPut d' y v = some w ∧ Q .nx ρ3 (G3.set n w)) h (fun y ρ3 G3 ⟨h3, w, hw, q⟩ => ⟨w, hw, ?_⟩) fun _ _ h => h
  have e2 : Mp.setO i w ρ3 G3 = .ok () ρ3 (G3.set n w) := setO_ok h3
  unfold Wp
  rw [e2]
  exact q
theorem Wp.mNewObj {ks : List (List Nat)} {ms : M (List W)} {Q : W → Sl → List W → Prop} : Wp (Mp.mNewObj ks ms) ρ G Q E = Wp ms ρ G (fun ws ρ G => Q (.obj G.length) ρ (G ++ [.dct ((ks.map W.str).zip ws)])) E := by
  unfold Mp.mNewObj; rw [Wp.bind]; congr 1; funext ws ρ G; unfold Wp; rfl
end
/-- a tape -/
def tp (cells : List Nat) (at_ left seed salt : Nat) : W := .dct [(.str [99, 101, 108, 108, 115], .lst (cells.map fun c : Nat => W.int (c : Int))), (.str [97, 116], .int (at_ : Int)), (.str [108, 101, 102, 116], .int (left : Int)), (.str [115, 101, 101, 100], .int (seed : Int)), (.str [115, 97, 108, 116], .int (salt : Int))]
def IsTape (w : W) : Prop := ∃ cells at_ left seed salt, w = tp cells at_ left seed salt
def tapeM : M Fl :=
  (mSeq (mSet 1 (mLc (fun _ => false) [3] (mSeqI (getS 0)) (setU 3) mTrue (mCall (f1 wAbs) (mCons (mV (mCall (f1 wInt) (mCons (mS 3) mNil))) mNil))))
  (mSeq (mSet 2 (M.pure (.int 7)))
  (mSeq (M.bind (mSeqI (getS 1)) fun ws => mFor (setU 3)
  (mSet 2 (m2 wMod (mV (mCall (f1 wInt) (mCons (mV (m2 wAdd (mV (m2 wMul (mS 2) (mV (M.pure (.int 31))))) (mS 3))) mNil))) (mV (M.pure (.int 2147483647))))) ws)
  (mRet (mNewObj [[99, 101, 108, 108, 115], [97, 116], [108, 101, 102, 116], [115, 101, 101, 100], [115, 97, 108, 116]] (mCons (getS 1) (mCons (M.pure (.int 0)) (mCons (M.pure (.int 0)) (mCons (getS 2) (mCons (M.pure (.int 0)) mNil))))))))))
theorem abs_nat (i : Int) : (if i < 0 then -i else i) = ((i.natAbs : Nat) : Int) := by split <;> omega
theorem tape_ok {ns : List Int} (h : ns.length ≤ 63) : ∃ w, IsTape w ∧ runF 4 tapeM [.scr ns] [] = .ok (.obj 0) [] [w] := by
  have key := runF_ex (n := 4) (m := tapeM) (ws := [.scr ns]) (G := []) (P := fun w G1 => w = .obj 0 ∧ ∃ sd : Nat, G1 = [tp (ns.map Int.natAbs) 0 0 sd 0]) (by
    simp only [List.map_cons, List.map_nil, List.length_cons, List.length_nil, List.replicate, List.cons_append, List.nil_append]
    unfold tapeM
    simp only [Wp.pure, Wp.bind, Wp.of, Wp.getS, Wp.gets, Wp.getv, Wp.mS, Wp.moveS, Wp.setU, Wp.setM, Wp.raise, Wp.mV, Wp.m2, Wp.m1, Wp.mB, Wp.mT, Wp.mNot, Wp.ite, Wp.mAnd, Wp.mOr, Wp.mIf, Wp.mNotV, Wp.mAndV, Wp.mOrV, Wp.mCh, Wp.mNil, Wp.mCons, Wp.getAll0, Wp.getAllC, Wp.mCall, Wp.mTup, Wp.mLst, Wp.mCallF, Wp.mNo, Wp.mSome, Wp.mCut, Wp.mM1, Wp.mMethR, Wp.mMeth, Wp.mSeq, Wp.mSkip, Wp.mSet, Wp.mRet, Wp.mDrop, Wp.mAug, Wp.mPar, Wp.mParF, Wp.mAsg, Wp.tgNil, Wp.tgCons, Wp.mSeqI, Wp.mI1, Wp.mI2, List.getElem?_cons_zero, List.getElem?_cons_succ, Option.some.injEq, exists_eq_left', exists_eq_left, W.lst.injEq, List.set_cons_zero, List.set_cons_succ, q_le, q_lt, q_gt, q_ge, q_sub, q_neg, q_eq_int, q_ne_int, q_eq_str, q_ne_str, q_eq_b, q_ne_b, q_b, q_i, q_s, q_l, q_seqS, q_seqL, q_seqT, q_seqN, q_f1, q_f2, q_count_str, q_abs, q_intI, q_isN, q_notN, q_tb, q_ti, q_lenL, q_lenT, q_tuple, if_true, Option.bind_some]
    refine Wp.comp (fun w => match w with | .int i => some (.int ((i.natAbs : Nat) : Int)) | _ => none) (ns.map W.int) (szOk_of (by rw [List.length_map]; omega)) (by simp only [Wp.pure, Wp.bind, Wp.of, Wp.getS, Wp.gets, Wp.getv, Wp.mS, Wp.moveS, Wp.setU, Wp.setM, Wp.raise, Wp.mV, Wp.m2, Wp.m1, Wp.mB, Wp.mT, Wp.mNot, Wp.ite, Wp.mAnd, Wp.mOr, Wp.mIf, Wp.mNotV, Wp.mAndV, Wp.mOrV, Wp.mCh, Wp.mNil, Wp.mCons, Wp.getAll0, Wp.getAllC, Wp.mCall, Wp.mTup, Wp.mLst, Wp.mCallF, Wp.mNo, Wp.mSome, Wp.mCut, Wp.mM1, Wp.mMethR, Wp.mMeth, Wp.mSeq, Wp.mSkip, Wp.mSet, Wp.mRet, Wp.mDrop, Wp.mAug, Wp.mPar, Wp.mParF, Wp.mAsg, Wp.tgNil, Wp.tgCons, Wp.mSeqI, Wp.mI1, Wp.mI2, List.getElem?_cons_zero, List.getElem?_cons_succ, Option.some.injEq, exists_eq_left', exists_eq_left, W.lst.injEq, List.set_cons_zero, List.set_cons_succ, q_le, q_lt, q_gt, q_ge, q_sub, q_neg, q_eq_int, q_ne_int, q_eq_str, q_ne_str, q_eq_b, q_ne_b, q_b, q_i, q_s, q_l, q_seqS, q_seqL, q_seqT, q_seqN, q_f1, q_f2, q_count_str, q_abs, q_intI, q_isN, q_notN, q_tb, q_ti, q_lenL, q_lenT, q_tuple, if_true, Option.bind_some]; first | done | exact ⟨rfl, trivial, trivial⟩ | exact ⟨rfl, rfl, rfl⟩ | exact ⟨trivial, trivial, trivial⟩ | trivial) (fun w hw => ?_) ?_
    · obtain ⟨i, hi, rfl⟩ := List.mem_map.mp hw
      simp only [wipeR, mTrue, Wp.pure, Wp.bind, Wp.of, Wp.getS, Wp.gets, Wp.getv, Wp.mS, Wp.moveS, Wp.setU, Wp.setM, Wp.raise, Wp.mV, Wp.m2, Wp.m1, Wp.mB, Wp.mT, Wp.mNot, Wp.ite, Wp.mAnd, Wp.mOr, Wp.mIf, Wp.mNotV, Wp.mAndV, Wp.mOrV, Wp.mCh, Wp.mNil, Wp.mCons, Wp.getAll0, Wp.getAllC, Wp.mCall, Wp.mTup, Wp.mLst, Wp.mCallF, Wp.mNo, Wp.mSome, Wp.mCut, Wp.mM1, Wp.mMethR, Wp.mMeth, Wp.mSeq, Wp.mSkip, Wp.mSet, Wp.mRet, Wp.mDrop, Wp.mAug, Wp.mPar, Wp.mParF, Wp.mAsg, Wp.tgNil, Wp.tgCons, Wp.mSeqI, Wp.mI1, Wp.mI2, List.getElem?_cons_zero, List.getElem?_cons_succ, Option.some.injEq, exists_eq_left', exists_eq_left, W.lst.injEq, List.set_cons_zero, List.set_cons_succ, q_le, q_lt, q_gt, q_ge, q_sub, q_neg, q_eq_int, q_ne_int, q_eq_str, q_ne_str, q_eq_b, q_ne_b, q_b, q_i, q_s, q_l, q_seqS, q_seqL, q_seqT, q_seqN, q_f1, q_f2, q_count_str, q_abs, q_intI, q_isN, q_notN, q_tb, q_ti, q_lenL, q_lenT, q_tuple, if_true, Option.bind_some, abs_nat]
      first | done | exact ⟨rfl, trivial, trivial⟩ | exact ⟨rfl, rfl, rfl⟩ | exact ⟨trivial, trivial, trivial⟩ | trivial
    · have e : ((ns.map W.int).filterMap fun w => match w with | .int i => some (W.int ((i.natAbs : Nat) : Int)) | _ => none) = (ns.map Int.natAbs).map fun c : Nat => W.int (c : Int) := by
        clear h
        induction ns with
        | nil => rfl
        | cons n ns ih => rw [List.map_cons, List.filterMap_cons, ih]; rfl
      rw [e]
      simp only [Wp.pure, Wp.bind, Wp.of, Wp.getS, Wp.gets, Wp.getv, Wp.mS, Wp.moveS, Wp.setU, Wp.setM, Wp.raise, Wp.mV, Wp.m2, Wp.m1, Wp.mB, Wp.mT, Wp.mNot, Wp.ite, Wp.mAnd, Wp.mOr, Wp.mIf, Wp.mNotV, Wp.mAndV, Wp.mOrV, Wp.mCh, Wp.mNil, Wp.mCons, Wp.getAll0, Wp.getAllC, Wp.mCall, Wp.mTup, Wp.mLst, Wp.mCallF, Wp.mNo, Wp.mSome, Wp.mCut, Wp.mM1, Wp.mMethR, Wp.mMeth, Wp.mSeq, Wp.mSkip, Wp.mSet, Wp.mRet, Wp.mDrop, Wp.mAug, Wp.mPar, Wp.mParF, Wp.mAsg, Wp.tgNil, Wp.tgCons, Wp.mSeqI, Wp.mI1, Wp.mI2, List.getElem?_cons_zero, List.getElem?_cons_succ, Option.some.injEq, exists_eq_left', exists_eq_left, W.lst.injEq, List.set_cons_zero, List.set_cons_succ, q_le, q_lt, q_gt, q_ge, q_sub, q_neg, q_eq_int, q_ne_int, q_eq_str, q_ne_str, q_eq_b, q_ne_b, q_b, q_i, q_s, q_l, q_seqS, q_seqL, q_seqT, q_seqN, q_f1, q_f2, q_count_str, q_abs, q_intI, q_isN, q_notN, q_tb, q_ti, q_lenL, q_lenT, q_tuple, if_true, Option.bind_some]
      refine Wp.mFor (fun i ρ G1 => G1 = [] ∧ ∃ (sd : Nat) (x : Option W), ρ = [some (.scr ns), some (.lst ((ns.map Int.natAbs).map fun c : Nat => W.int (c : Int))), some (.int (sd : Int)), x]) 0 ⟨rfl, 7, none, rfl⟩ (fun i w ρ G1 e hI => ?_) (fun ρ G1 hI => ?_)
      · obtain ⟨rfl, sd, x, rfl⟩ := hI
        have hw := List.mem_of_getElem? e
        obtain ⟨n, hn, rfl⟩ := List.mem_map.mp hw
        simp only [Wp.pure, Wp.bind, Wp.of, Wp.getS, Wp.gets, Wp.getv, Wp.mS, Wp.moveS, Wp.setU, Wp.setM, Wp.raise, Wp.mV, Wp.m2, Wp.m1, Wp.mB, Wp.mT, Wp.mNot, Wp.ite, Wp.mAnd, Wp.mOr, Wp.mIf, Wp.mNotV, Wp.mAndV, Wp.mOrV, Wp.mCh, Wp.mNil, Wp.mCons, Wp.getAll0, Wp.getAllC, Wp.mCall, Wp.mTup, Wp.mLst, Wp.mCallF, Wp.mNo, Wp.mSome, Wp.mCut, Wp.mM1, Wp.mMethR, Wp.mMeth, Wp.mSeq, Wp.mSkip, Wp.mSet, Wp.mRet, Wp.mDrop, Wp.mAug, Wp.mPar, Wp.mParF, Wp.mAsg, Wp.tgNil, Wp.tgCons, Wp.mSeqI, Wp.mI1, Wp.mI2, List.getElem?_cons_zero, List.getElem?_cons_succ, Option.some.injEq, exists_eq_left', exists_eq_left, W.lst.injEq, List.set_cons_zero, List.set_cons_succ, q_le, q_lt, q_gt, q_ge, q_sub, q_neg, q_eq_int, q_ne_int, q_eq_str, q_ne_str, q_eq_b, q_ne_b, q_b, q_i, q_s, q_l, q_seqS, q_seqL, q_seqT, q_seqN, q_f1, q_f2, q_count_str, q_abs, q_intI, q_isN, q_notN, q_tb, q_ti, q_lenL, q_lenT, q_tuple, if_true, Option.bind_some]
        exact ⟨_, q_mul_r (b := 31) (by decide), _, q_add_n, _, rfl, _, q_mod_n (b := 2147483647) (by decide), rfl, _, _, rfl⟩
      · obtain ⟨rfl, sd, x, rfl⟩ := hI
        simp only [Wp.pure, Wp.bind, Wp.of, Wp.getS, Wp.gets, Wp.getv, Wp.mS, Wp.moveS, Wp.setU, Wp.setM, Wp.raise, Wp.mV, Wp.m2, Wp.m1, Wp.mB, Wp.mT, Wp.mNot, Wp.ite, Wp.mAnd, Wp.mOr, Wp.mIf, Wp.mNotV, Wp.mAndV, Wp.mOrV, Wp.mCh, Wp.mNil, Wp.mCons, Wp.getAll0, Wp.getAllC, Wp.mCall, Wp.mTup, Wp.mLst, Wp.mCallF, Wp.mNo, Wp.mSome, Wp.mCut, Wp.mM1, Wp.mMethR, Wp.mMeth, Wp.mSeq, Wp.mSkip, Wp.mSet, Wp.mRet, Wp.mDrop, Wp.mAug, Wp.mPar, Wp.mParF, Wp.mAsg, Wp.tgNil, Wp.tgCons, Wp.mSeqI, Wp.mI1, Wp.mI2, List.getElem?_cons_zero, List.getElem?_cons_succ, Option.some.injEq, exists_eq_left', exists_eq_left, W.lst.injEq, List.set_cons_zero, List.set_cons_succ, q_le, q_lt, q_gt, q_ge, q_sub, q_neg, q_eq_int, q_ne_int, q_eq_str, q_ne_str, q_eq_b, q_ne_b, q_b, q_i, q_s, q_l, q_seqS, q_seqL, q_seqT, q_seqN, q_f1, q_f2, q_count_str, q_abs, q_intI, q_isN, q_notN, q_tb, q_ti, q_lenL, q_lenT, q_tuple, if_true, Option.bind_some, Wp.mNewObj]
        exact ⟨_, rfl, rfl, sd, rfl⟩)
  obtain ⟨w, G1, ⟨rfl, sd, rfl⟩, e⟩ := key
  exact ⟨_, ⟨_, _, _, _, _, rfl⟩, e⟩
def takeM : M Fl :=
  (mSeq (mIf (mAnd (mB (m2 wEq (mV (mDGet (mS 0) (mV (M.pure (.str [108, 101, 102, 116]))))) (mV (M.pure (.int 0))))) (mB (m2 wLtI (mV (mDGet (mS 0) (mV (M.pure (.str [97, 116]))))) (mV (mCall (f1 wLen) (mCons (mV (mDGet (mS 0) (mV (M.pure (.str [99, 101, 108, 108, 115]))))) mNil))))))
  (mSeq (mOPut 0 (mV (M.pure (.str [108, 101, 102, 116]))) (m2 wIx (mV (mDGet (mS 0) (mV (M.pure (.str [99, 101, 108, 108, 115]))))) (mV (mDGet (mS 0) (mV (M.pure (.str [97, 116])))))))
  (mOPut 0 (mV (M.pure (.str [97, 116]))) (m2 wAdd (mV (mDGet (mS 0) (mV (M.pure (.str [97, 116]))))) (mV (M.pure (.int 1))))))
  mSkip)
  (mSeq (mIf (mB (m2 wGt (mV (mDGet (mS 0) (mV (M.pure (.str [108, 101, 102, 116]))))) (mV (M.pure (.int 0)))))
  (mSeq (mSet 2 (m2 wMod (mV (mCall (f1 wInt) (mCons (mV (mDGet (mS 0) (mV (M.pure (.str [108, 101, 102, 116]))))) mNil))) (mS 1)))
  (mSeq (mOPut 0 (mV (M.pure (.str [108, 101, 102, 116]))) (m2 wDiv (mV (mDGet (mS 0) (mV (M.pure (.str [108, 101, 102, 116]))))) (mS 1)))
  (mRet (getS 2))))
  mSkip)
  (mSeq (mOPut 0 (mV (M.pure (.str [115, 97, 108, 116]))) (m2 wAdd (mV (mDGet (mS 0) (mV (M.pure (.str [115, 97, 108, 116]))))) (mV (M.pure (.int 1)))))
  (mSeq (mSet 3 (m2 wMod (mV (mCall (f1 wInt) (mCons (mV (m2 wAdd (mV (m2 wMul (mV (mDGet (mS 0) (mV (M.pure (.str [115, 101, 101, 100]))))) (mV (M.pure (.int 48271))))) (mV (m2 wMul (mV (mDGet (mS 0) (mV (M.pure (.str [115, 97, 108, 116]))))) (mV (M.pure (.int 69621))))))) mNil))) (mV (M.pure (.int 2147483647)))))
  (mSeq (mSet 3 (m2 wMod (mV (mCall (f1 wInt) (mCons (mV (m2 wAdd (mV (m2 wAdd (mV (m2 wMul (mS 3) (mS 3))) (mV (m2 wMul (mV (mDGet (mS 0) (mV (M.pure (.str [115, 97, 108, 116]))))) (mV (M.pure (.int 40692))))))) (mV (M.pure (.int 12345))))) mNil))) (mV (M.pure (.int 2147483399)))))
  (mRet (m2 wMod (mV (mCall (f1 wInt) (mCons (mS 3) mNil))) (mS 1))))))))
section
variable {cells : List Nat} {at_ left seed salt : Nat}
theorem tp_left : wDGet (tp cells at_ left seed salt) (.str [108, 101, 102, 116]) = some (.int (left : Int)) := rfl
theorem tp_at : wDGet (tp cells at_ left seed salt) (.str [97, 116]) = some (.int (at_ : Int)) := rfl
theorem tp_seed : wDGet (tp cells at_ left seed salt) (.str [115, 101, 101, 100]) = some (.int (seed : Int)) := rfl
theorem tp_salt : wDGet (tp cells at_ left seed salt) (.str [115, 97, 108, 116]) = some (.int (salt : Int)) := rfl
theorem tp_cells : wDGet (tp cells at_ left seed salt) (.str [99, 101, 108, 108, 115]) = some (.lst (cells.map fun c : Nat => W.int (c : Int))) := rfl
theorem tp_putl {v : Nat} : wDPut (tp cells at_ left seed salt) (.str [108, 101, 102, 116]) (.int (v : Int)) = some (tp cells at_ v seed salt) := rfl
theorem tp_puta {v : Nat} : wDPut (tp cells at_ left seed salt) (.str [97, 116]) (.int (v : Int)) = some (tp cells v left seed salt) := rfl
theorem tp_puts {v : Nat} : wDPut (tp cells at_ left seed salt) (.str [115, 97, 108, 116]) (.int (v : Int)) = some (tp cells at_ left seed v) := rfl
theorem tp_deref {ρ : Sl} {G : List W} {E : Nat → List W → Prop} {Q : W → Sl → List W → Prop} : Wp (Mp.deref (tp cells at_ left seed salt)) ρ G Q E = Q (tp cells at_ left seed salt) ρ G := by unfold Wp; rfl
end
/-- a draw -/
theorem take_ok {w : W} (hw : IsTape w) {many : Nat} (hm : 0 < many) (hb : many ≤ 2 ^ 64) : ∃ (v : Nat) (w' : W), v < many ∧ IsTape w' ∧ runF 4 takeM [.obj 0, .int (many : Int)] [w] = .ok (.int (v : Int)) [] [w'] := by
  obtain ⟨cells, at_, left, seed, salt, rfl⟩ := hw
  have key : Wp takeM [some (.obj 0), some (.int (many : Int)), none, none] [tp cells at_ left seed salt] (fun fl _ G1 => ∃ w, fl = .rt w ∧ ∃ (v : Nat) (w' : W), v < many ∧ IsTape w' ∧ w = .int (v : Int) ∧ G1 = [w']) (fun _ _ => False) := by
    have tail : ∀ (at_ left : Nat), Wp (mSeq (mIf (mB (m2 wGt (mV (mDGet (mS 0) (mV (M.pure (.str [108, 101, 102, 116]))))) (mV (M.pure (.int 0)))))
  (mSeq (mSet 2 (m2 wMod (mV (mCall (f1 wInt) (mCons (mV (mDGet (mS 0) (mV (M.pure (.str [108, 101, 102, 116]))))) mNil))) (mS 1)))
  (mSeq (mOPut 0 (mV (M.pure (.str [108, 101, 102, 116]))) (m2 wDiv (mV (mDGet (mS 0) (mV (M.pure (.str [108, 101, 102, 116]))))) (mS 1)))
  (mRet (getS 2))))
  mSkip)
  (mSeq (mOPut 0 (mV (M.pure (.str [115, 97, 108, 116]))) (m2 wAdd (mV (mDGet (mS 0) (mV (M.pure (.str [115, 97, 108, 116]))))) (mV (M.pure (.int 1)))))
  (mSeq (mSet 3 (m2 wMod (mV (mCall (f1 wInt) (mCons (mV (m2 wAdd (mV (m2 wMul (mV (mDGet (mS 0) (mV (M.pure (.str [115, 101, 101, 100]))))) (mV (M.pure (.int 48271))))) (mV (m2 wMul (mV (mDGet (mS 0) (mV (M.pure (.str [115, 97, 108, 116]))))) (mV (M.pure (.int 69621))))))) mNil))) (mV (M.pure (.int 2147483647)))))
  (mSeq (mSet 3 (m2 wMod (mV (mCall (f1 wInt) (mCons (mV (m2 wAdd (mV (m2 wAdd (mV (m2 wMul (mS 3) (mS 3))) (mV (m2 wMul (mV (mDGet (mS 0) (mV (M.pure (.str [115, 97, 108, 116]))))) (mV (M.pure (.int 40692))))))) (mV (M.pure (.int 12345))))) mNil))) (mV (M.pure (.int 2147483399)))))
  (mRet (m2 wMod (mV (mCall (f1 wInt) (mCons (mS 3) mNil))) (mS 1))))))) [some (.obj 0), some (.int (many : Int)), none, none] [tp cells at_ left seed salt] (fun fl _ G1 => ∃ w, fl = .rt w ∧ ∃ (v : Nat) (w' : W), v < many ∧ IsTape w' ∧ w = .int (v : Int) ∧ G1 = [w']) (fun _ _ => False) := by
      intro at_ left
      simp only [Wp.pure, Wp.bind, Wp.of, Wp.getS, Wp.gets, Wp.getv, Wp.mS, Wp.moveS, Wp.setU, Wp.setM, Wp.raise, Wp.mV, Wp.m2, Wp.m1, Wp.mB, Wp.mT, Wp.mNot, Wp.ite, Wp.mAnd, Wp.mOr, Wp.mIf, Wp.mNotV, Wp.mAndV, Wp.mOrV, Wp.mCh, Wp.mNil, Wp.mCons, Wp.getAll0, Wp.getAllC, Wp.mCall, Wp.mTup, Wp.mLst, Wp.mCallF, Wp.mNo, Wp.mSome, Wp.mCut, Wp.mM1, Wp.mMethR, Wp.mMeth, Wp.mSeq, Wp.mSkip, Wp.mSet, Wp.mRet, Wp.mDrop, Wp.mAug, Wp.mPar, Wp.mParF, Wp.mAsg, Wp.tgNil, Wp.tgCons, Wp.mSeqI, Wp.mI1, Wp.mI2, List.getElem?_cons_zero, List.getElem?_cons_succ, Option.some.injEq, exists_eq_left', exists_eq_left, W.lst.injEq, List.set_cons_zero, List.set_cons_succ, q_le, q_lt, q_gt, q_ge, q_sub, q_neg, q_eq_int, q_ne_int, q_eq_str, q_ne_str, q_eq_b, q_ne_b, q_b, q_i, q_s, q_l, q_seqS, q_seqL, q_seqT, q_seqN, q_f1, q_f2, q_count_str, q_abs, q_intI, q_isN, q_notN, q_tb, q_ti, q_lenL, q_lenT, q_tuple, if_true, Option.bind_some, Wp.mDGet, Wp.derefN, tp_left, tp_at, tp_seed, tp_salt, tp_cells]
      by_cases hl : 0 < left
      · rw [if_pos (decide_eq_true (by omega))]
        refine ⟨_, q_mod_n hm, Wp.mOPut (n := 0) rfl ?_⟩
        simp only [Wp.pure, Wp.bind, Wp.of, Wp.getS, Wp.gets, Wp.getv, Wp.mS, Wp.moveS, Wp.setU, Wp.setM, Wp.raise, Wp.mV, Wp.m2, Wp.m1, Wp.mB, Wp.mT, Wp.mNot, Wp.ite, Wp.mAnd, Wp.mOr, Wp.mIf, Wp.mNotV, Wp.mAndV, Wp.mOrV, Wp.mCh, Wp.mNil, Wp.mCons, Wp.getAll0, Wp.getAllC, Wp.mCall, Wp.mTup, Wp.mLst, Wp.mCallF, Wp.mNo, Wp.mSome, Wp.mCut, Wp.mM1, Wp.mMethR, Wp.mMeth, Wp.mSeq, Wp.mSkip, Wp.mSet, Wp.mRet, Wp.mDrop, Wp.mAug, Wp.mPar, Wp.mParF, Wp.mAsg, Wp.tgNil, Wp.tgCons, Wp.mSeqI, Wp.mI1, Wp.mI2, List.getElem?_cons_zero, List.getElem?_cons_succ, Option.some.injEq, exists_eq_left', exists_eq_left, W.lst.injEq, List.set_cons_zero, List.set_cons_succ, q_le, q_lt, q_gt, q_ge, q_sub, q_neg, q_eq_int, q_ne_int, q_eq_str, q_ne_str, q_eq_b, q_ne_b, q_b, q_i, q_s, q_l, q_seqS, q_seqL, q_seqT, q_seqN, q_f1, q_f2, q_count_str, q_abs, q_intI, q_isN, q_notN, q_tb, q_ti, q_lenL, q_lenT, q_tuple, if_true, Option.bind_some, Wp.mDGet, Wp.derefN, tp_left, q_div_n hm hb, tp_putl, true_and]
        exact ⟨_, rfl, _, _, Nat.mod_lt _ hm, ⟨_, _, _, _, _, rfl⟩, rfl, rfl⟩
      · rw [if_neg (fun q => hl (by have := of_decide_eq_true q; omega))]
        refine Wp.mOPut (n := 0) rfl ?_
        simp only [Wp.pure, Wp.bind, Wp.of, Wp.getS, Wp.gets, Wp.getv, Wp.mS, Wp.moveS, Wp.setU, Wp.setM, Wp.raise, Wp.mV, Wp.m2, Wp.m1, Wp.mB, Wp.mT, Wp.mNot, Wp.ite, Wp.mAnd, Wp.mOr, Wp.mIf, Wp.mNotV, Wp.mAndV, Wp.mOrV, Wp.mCh, Wp.mNil, Wp.mCons, Wp.getAll0, Wp.getAllC, Wp.mCall, Wp.mTup, Wp.mLst, Wp.mCallF, Wp.mNo, Wp.mSome, Wp.mCut, Wp.mM1, Wp.mMethR, Wp.mMeth, Wp.mSeq, Wp.mSkip, Wp.mSet, Wp.mRet, Wp.mDrop, Wp.mAug, Wp.mPar, Wp.mParF, Wp.mAsg, Wp.tgNil, Wp.tgCons, Wp.mSeqI, Wp.mI1, Wp.mI2, List.getElem?_cons_zero, List.getElem?_cons_succ, Option.some.injEq, exists_eq_left', exists_eq_left, W.lst.injEq, List.set_cons_zero, List.set_cons_succ, q_le, q_lt, q_gt, q_ge, q_sub, q_neg, q_eq_int, q_ne_int, q_eq_str, q_ne_str, q_eq_b, q_ne_b, q_b, q_i, q_s, q_l, q_seqS, q_seqL, q_seqT, q_seqN, q_f1, q_f2, q_count_str, q_abs, q_intI, q_isN, q_notN, q_tb, q_ti, q_lenL, q_lenT, q_tuple, if_true, Option.bind_some, Wp.mDGet, Wp.derefN, tp_salt, true_and]
        refine ⟨_, q_add_n (b := 1), ?_⟩
        simp only [Wp.pure, Wp.bind, Wp.of, Wp.getS, Wp.gets, Wp.getv, Wp.mS, Wp.moveS, Wp.setU, Wp.setM, Wp.raise, Wp.mV, Wp.m2, Wp.m1, Wp.mB, Wp.mT, Wp.mNot, Wp.ite, Wp.mAnd, Wp.mOr, Wp.mIf, Wp.mNotV, Wp.mAndV, Wp.mOrV, Wp.mCh, Wp.mNil, Wp.mCons, Wp.getAll0, Wp.getAllC, Wp.mCall, Wp.mTup, Wp.mLst, Wp.mCallF, Wp.mNo, Wp.mSome, Wp.mCut, Wp.mM1, Wp.mMethR, Wp.mMeth, Wp.mSeq, Wp.mSkip, Wp.mSet, Wp.mRet, Wp.mDrop, Wp.mAug, Wp.mPar, Wp.mParF, Wp.mAsg, Wp.tgNil, Wp.tgCons, Wp.mSeqI, Wp.mI1, Wp.mI2, List.getElem?_cons_zero, List.getElem?_cons_succ, Option.some.injEq, exists_eq_left', exists_eq_left, W.lst.injEq, List.set_cons_zero, List.set_cons_succ, q_le, q_lt, q_gt, q_ge, q_sub, q_neg, q_eq_int, q_ne_int, q_eq_str, q_ne_str, q_eq_b, q_ne_b, q_b, q_i, q_s, q_l, q_seqS, q_seqL, q_seqT, q_seqN, q_f1, q_f2, q_count_str, q_abs, q_intI, q_isN, q_notN, q_tb, q_ti, q_lenL, q_lenT, q_tuple, if_true, Option.bind_some, Wp.mDGet, Wp.derefN, tp_salt, tp_seed, tp_puts, true_and]
        refine ⟨_, q_mul_r (b := 48271) (by decide), _, q_mul_r (b := 69621) (by decide), _, q_add_n, _, rfl, _, q_mod_n (b := 2147483647) (by decide), ?_⟩
        have hx : (seed * 48271 + (salt + 1) * 69621) % 2147483647 < 18446744073709551616 := Nat.lt_trans (Nat.mod_lt _ (by decide)) (by decide)
        refine ⟨_, q_mul_n hx, _, q_mul_r (b := 40692) (by decide), _, q_add_n, _, q_add_n (b := 12345), _, rfl, _, q_mod_n (b := 2147483399) (by decide), _, rfl, _, q_mod_n hm, ?_⟩
        exact ⟨_, rfl, _, _, Nat.mod_lt _ hm, ⟨_, _, _, _, _, rfl⟩, rfl, rfl⟩
    unfold takeM
    rw [Wp.mSeq, Wp.mIf, Wp.mAnd]
    simp only [Wp.mB, Wp.m2, Wp.mV, Wp.mDGet, Wp.derefN, Wp.pure, Wp.mS, Wp.gets, Wp.getv, Wp.mCall, Wp.mCons, Wp.mNil, Wp.getAllC, Wp.getAll0, List.getElem?_cons_zero, List.getElem?_cons_succ, Option.some.injEq, exists_eq_left', tp_left, tp_at, tp_cells, q_le, q_lt, q_gt, q_ge, q_sub, q_neg, q_eq_int, q_ne_int, q_eq_str, q_ne_str, q_eq_b, q_ne_b, q_b, q_i, q_s, q_l, q_seqS, q_seqL, q_seqT, q_seqN, q_f1, q_f2, q_count_str, q_abs, q_intI, q_isN, q_notN, q_tb, q_ti, q_lenL, q_lenT, q_tuple, if_true, Option.bind_some]
    have skip : ∀ {ρ : Sl} {G : List W} {Q : Fl → Sl → List W → Prop} {E : Nat → List W → Prop}, Q .nx ρ G → Wp mSkip ρ G Q E := fun h => by rw [Wp.mSkip]; exact h
    by_cases hl : left = 0
    · subst hl
      rw [if_pos (by decide)]
      by_cases ha : at_ < cells.length
      · rw [if_pos (decide_eq_true (by rw [List.length_map]; omega))]
        have hget : (cells.map fun c : Nat => W.int (c : Int))[at_]? = some (.int ((cells[at_] : Nat) : Int)) := by rw [List.getElem?_map, List.getElem?_eq_getElem ha]; rfl
        rw [Wp.mSeq]
        refine Wp.mOPut (n := 0) rfl ?_
        simp only [Wp.mV, Wp.m2, Wp.pure, Wp.getv, Wp.mS, Wp.gets, Wp.mDGet, Wp.derefN, List.getElem?_cons_zero, List.getElem?_cons_succ, Option.some.injEq, exists_eq_left', List.set_cons_zero, true_and, tp_cells, tp_at]
        refine ⟨_, q_ix_lst hget, ?_⟩
        simp only [Wp.mV, Wp.m2, Wp.pure, Wp.getv, Wp.mS, Wp.gets, Wp.mDGet, Wp.derefN, List.getElem?_cons_zero, List.getElem?_cons_succ, Option.some.injEq, exists_eq_left', List.set_cons_zero, true_and, tp_putl]
        refine Wp.mOPut (n := 0) rfl ?_
        simp only [Wp.mV, Wp.m2, Wp.pure, Wp.getv, Wp.mS, Wp.gets, Wp.mDGet, Wp.derefN, List.getElem?_cons_zero, List.getElem?_cons_succ, Option.some.injEq, exists_eq_left', List.set_cons_zero, true_and, tp_at]
        refine ⟨_, q_add_n (b := 1), ?_⟩
        simp only [Wp.mV, Wp.m2, Wp.pure, Wp.getv, Wp.mS, Wp.gets, Wp.mDGet, Wp.derefN, List.getElem?_cons_zero, List.getElem?_cons_succ, Option.some.injEq, exists_eq_left', List.set_cons_zero, true_and, tp_puta]
        exact tail _ _
      · rw [if_neg fun q => ha (by have := of_decide_eq_true q; rw [List.length_map] at this; omega)]
        exact skip (tail _ _)
    · rw [if_neg (by simp; omega), if_neg (by decide)]
      exact skip (tail _ _)
  obtain ⟨w, G1, ⟨v, w', h1, h2, rfl, rfl⟩, e⟩ := runF_ex (n := 4) (m := takeM) (ws := [.obj 0, .int (many : Int)]) key
  exact ⟨v, w', h1, h2, e⟩
end Mp
set_option Elab.async false
set_option linter.all false
set_option maxRecDepth 100000
set_option maxHeartbeats 4000000
set_option exponentiation.threshold 9000
namespace K56
open PySem PySem.Spec L2 Mp
open PyProof.Rows hiding St
/-- names of digits -/
structure OkN (ns : List Nat) : Prop where
  len : ns.length = 4
  dg : ∀ c ∈ ns, dg c
def nm (ns : List Nat) (c : Nat) : Nat := if c = 46 then 46 else ns.getD (c - 48) 0
theorem nm_dg {ns : List Nat} (h : OkN ns) {c : Nat} (hc : dg c) : ns[c - 48]? = some (nm ns c) ∧ dg (nm ns c) := by
  have hl := h.len
  have h1 : c - 48 < ns.length := by
    have : c - 48 < 4 := by rcases hc with rfl | rfl | rfl | rfl <;> decide
    omega
  have h2 : c ≠ 46 := by rcases hc with rfl | rfl | rfl | rfl <;> decide
  have e : ns[c - 48]? = some (nm ns c) := by
    unfold nm
    rw [if_neg h2, List.getD_eq_getElem?_getD, List.getElem?_eq_getElem h1]; rfl
  exact ⟨e, h.dg _ (List.mem_of_getElem? e)⟩
theorem int_dg {c : Nat} (hc : dg c) : wInt (.str [c]) = some (.int ((c - 48 : Nat) : Int)) := by
  rcases hc with rfl | rfl | rfl | rfl <;> rfl
theorem named_ok {ns w : List Nat} (h : OkN ns) (hw : ∀ c ∈ w, dg c ∨ c = 46) (hl : w.length ≤ 100000) (G : List W) : fn__law_named [.str w, .str ns] G = .ok (.str (w.map (nm ns))) [] G := by
  unfold fn__law_named
  refine runF_of ?_
  unfold m__law_named
  have hn := h.len
  simp only [List.map_cons, List.map_nil, List.length_cons, List.length_nil, List.replicate, List.cons_append, List.nil_append]
  simp only [Wp.pure, Wp.bind, Wp.of, Wp.getS, Wp.gets, Wp.getv, Wp.mS, Wp.moveS, Wp.setU, Wp.setM, Wp.raise, Wp.mV, Wp.m2, Wp.m1, Wp.mB, Wp.mT, Wp.mNot, Wp.ite, Wp.mAnd, Wp.mOr, Wp.mIf, Wp.mNotV, Wp.mAndV, Wp.mOrV, Wp.mCh, Wp.mNil, Wp.mCons, Wp.getAll0, Wp.getAllC, Wp.mCall, Wp.mTup, Wp.mLst, Wp.mCallF, Wp.mNo, Wp.mSome, Wp.mCut, Wp.mM1, Wp.mMethR, Wp.mMeth, Wp.mSeq, Wp.mSkip, Wp.mSet, Wp.mRet, Wp.mDrop, Wp.mAug, Wp.mPar, Wp.mParF, Wp.mAsg, Wp.tgNil, Wp.tgCons, Wp.mSeqI, Wp.mI1, Wp.mI2, List.getElem?_cons_zero, List.getElem?_cons_succ, Option.some.injEq, exists_eq_left', exists_eq_left, W.lst.injEq, List.set_cons_zero, List.set_cons_succ, q_le, q_lt, q_gt, q_ge, q_sub, q_neg, q_eq_int, q_ne_int, q_eq_str, q_ne_str, q_eq_b, q_ne_b, q_b, q_i, q_s, q_l, q_seqS, q_seqL, q_seqT, q_seqN, q_f1, q_f2, q_count_str, q_abs, q_intI, q_isN, q_notN, q_tb, q_ti, q_lenL, q_lenT, q_tuple, if_true, Option.bind_some]
  refine Wp.comp (fun w => match w with | .str [c] => some (.str [nm ns c]) | _ => none) (w.map fun c => .str [c]) (szOk_of (by rw [List.length_map]; omega)) (by simp only [Wp.pure, Wp.bind, Wp.of, Wp.getS, Wp.gets, Wp.getv, Wp.mS, Wp.moveS, Wp.setU, Wp.setM, Wp.raise, Wp.mV, Wp.m2, Wp.m1, Wp.mB, Wp.mT, Wp.mNot, Wp.ite, Wp.mAnd, Wp.mOr, Wp.mIf, Wp.mNotV, Wp.mAndV, Wp.mOrV, Wp.mCh, Wp.mNil, Wp.mCons, Wp.getAll0, Wp.getAllC, Wp.mCall, Wp.mTup, Wp.mLst, Wp.mCallF, Wp.mNo, Wp.mSome, Wp.mCut, Wp.mM1, Wp.mMethR, Wp.mMeth, Wp.mSeq, Wp.mSkip, Wp.mSet, Wp.mRet, Wp.mDrop, Wp.mAug, Wp.mPar, Wp.mParF, Wp.mAsg, Wp.tgNil, Wp.tgCons, Wp.mSeqI, Wp.mI1, Wp.mI2, List.getElem?_cons_zero, List.getElem?_cons_succ, Option.some.injEq, exists_eq_left', exists_eq_left, W.lst.injEq, List.set_cons_zero, List.set_cons_succ, q_le, q_lt, q_gt, q_ge, q_sub, q_neg, q_eq_int, q_ne_int, q_eq_str, q_ne_str, q_eq_b, q_ne_b, q_b, q_i, q_s, q_l, q_seqS, q_seqL, q_seqT, q_seqN, q_f1, q_f2, q_count_str, q_abs, q_intI, q_isN, q_notN, q_tb, q_ti, q_lenL, q_lenT, q_tuple, if_true, Option.bind_some]; first | done | exact ⟨rfl, trivial, trivial⟩ | exact ⟨rfl, rfl, rfl⟩ | exact ⟨trivial, trivial, trivial⟩ | trivial) (fun x hx => ?_) ?_
  · obtain ⟨c, hc, rfl⟩ := List.mem_map.mp hx
    simp only [wipeR, mTrue, Wp.pure, Wp.bind, Wp.of, Wp.getS, Wp.gets, Wp.getv, Wp.mS, Wp.moveS, Wp.setU, Wp.setM, Wp.raise, Wp.mV, Wp.m2, Wp.m1, Wp.mB, Wp.mT, Wp.mNot, Wp.ite, Wp.mAnd, Wp.mOr, Wp.mIf, Wp.mNotV, Wp.mAndV, Wp.mOrV, Wp.mCh, Wp.mNil, Wp.mCons, Wp.getAll0, Wp.getAllC, Wp.mCall, Wp.mTup, Wp.mLst, Wp.mCallF, Wp.mNo, Wp.mSome, Wp.mCut, Wp.mM1, Wp.mMethR, Wp.mMeth, Wp.mSeq, Wp.mSkip, Wp.mSet, Wp.mRet, Wp.mDrop, Wp.mAug, Wp.mPar, Wp.mParF, Wp.mAsg, Wp.tgNil, Wp.tgCons, Wp.mSeqI, Wp.mI1, Wp.mI2, List.getElem?_cons_zero, List.getElem?_cons_succ, Option.some.injEq, exists_eq_left', exists_eq_left, W.lst.injEq, List.set_cons_zero, List.set_cons_succ, q_le, q_lt, q_gt, q_ge, q_sub, q_neg, q_eq_int, q_ne_int, q_eq_str, q_ne_str, q_eq_b, q_ne_b, q_b, q_i, q_s, q_l, q_seqS, q_seqL, q_seqT, q_seqN, q_f1, q_f2, q_count_str, q_abs, q_intI, q_isN, q_notN, q_tb, q_ti, q_lenL, q_lenT, q_tuple, if_true, Option.bind_some]
    by_cases h46 : c = 46
    · subst h46
      rw [if_pos (by decide)]
      exact ⟨rfl, trivial, trivial⟩
    · have hd := (hw c hc).resolve_right h46
      rw [if_neg (by simpa using h46)]
      refine ⟨_, int_dg hd, _, q_ix_str (nm_dg h hd).1 (by omega), rfl, trivial, trivial⟩
  · have e : ((w.map fun c => W.str [c]).filterMap fun w => match w with | .str [c] => some (W.str [nm ns c]) | _ => none) = (w.map (nm ns)).map fun c => W.str [c] := by
      clear hw hl
      induction w with
      | nil => rfl
      | cons c w ih => rw [List.map_cons, List.filterMap_cons, ih]; rfl
    rw [e, q_join_signs (by rw [List.length_map]; omega)]
    exact ⟨_, rfl, .inl rfl, rfl⟩
/-! ### the same pattern told otherwise -/
theorem OkP.twice {p : List Nat} (h : OkP p) (h5 : p.length ≤ 5) : OkP (p ++ p) :=
  ⟨by have := h.lo; simp; omega, by simp; omega, fun c hc => h.sg c ((List.mem_append.mp hc).elim id id), by rw [List.getElem?_append_left h.pos]; exact h.hd, List.mem_append_left _ h.hole⟩
theorem nm46 {ns : List Nat} (h : OkN ns) {c : Nat} (hc : dg c ∨ c = 46) : nm ns c = 46 ↔ c = 46 := by
  constructor
  · intro e
    rcases hc with hc | hc
    · have := (nm_dg h hc).2
      rw [e] at this
      rcases this with q | q | q | q <;> cases q
    · exact hc
  · intro e; subst e; rfl
theorem OkP.named {p ns : List Nat} (h : OkP p) (hn : OkN ns) : OkP (p.map (nm ns)) :=
  ⟨by rw [List.length_map]; exact h.lo, by rw [List.length_map]; exact h.hi, fun c hc => by
    obtain ⟨d, hd, rfl⟩ := List.mem_map.mp hc
    rcases h.sg d hd with q | q
    · exact .inl (nm_dg hn q).2
    · exact .inr ((nm46 hn (.inr q)).mpr q), by
    rw [List.getElem?_map]
    intro e
    cases e2 : p[0]? with
    | none => rw [e2] at e; cases e
    | some c =>
      rw [e2] at e
      have e3 : nm ns c = 46 := Option.some.inj e
      have := (nm46 hn (h.sg c (List.mem_of_getElem? e2))).mp e3
      subst this
      exact h.hd e2, List.mem_map.mpr ⟨46, h.hole, rfl⟩⟩
theorem named_fq {p ns : List Nat} (h : OkP p) (hn : OkN ns) (k : Nat) : fq (sgp (p.map (nm ns))) k = nm ns (fq (sgp p) k) ∧ dq (sgp (p.map (nm ns))) k = dq (sgp p) k :=
  fq_name (nm ns) h.h0 (fun k => by rw [sgp_map h.pos]; exact nm46 hn (h.sgs k)) (fun k _ => sgp_map h.pos _ k) k
/-! ### the holes -/
def hl (s : Nat → Nat) (n : Nat) : List W := ((List.range n).filter fun k => s k == 46).map fun k : Nat => W.int (k : Int)
theorem hl_succ (s : Nat → Nat) (n : Nat) : hl s (n + 1) = hl s n ++ if s n = 46 then [W.int (n : Int)] else [] := by
  unfold hl
  rw [List.range_succ, List.filter_append, List.map_append]
  congr 1
  by_cases h : s n = 46
  · rw [if_pos h]; simp [h]
  · rw [if_neg h]; simp [h]
theorem hl_len (s : Nat → Nat) : ∀ n, (hl s n).length = Dq s n
  | 0 => rfl
  | n + 1 => by
    rw [hl_succ, List.length_append, hl_len s n, Dq_succ]
    split <;> rfl
theorem idx_app {y : W} : ∀ {l1 l2 : List W}, idxW y (l1 ++ l2) = match idxW y l1 with | some j => some j | none => (idxW y l2).map (· + l1.length)
  | [], l2 => by simp [idxW]
  | x :: l1, l2 => by
    rw [List.cons_append]
    show (if eqW x y = true then some 0 else (idxW y (l1 ++ l2)).map (· + 1)) = match (if eqW x y = true then some 0 else (idxW y l1).map (· + 1)) with | some j => some j | none => (idxW y l2).map (· + (l1.length + 1))
    rw [idx_app (l1 := l1)]
    split
    · rfl
    · cases idxW y l1 with
      | some j => rfl
      | none => cases idxW y l2 <;> rfl
theorem hl_idx (s : Nat → Nat) : ∀ n : Nat, (∀ r : Nat, n ≤ r → idxW (.int (r : Int)) (hl s n) = none) ∧ ∀ r : Nat, r < n → s r = 46 → idxW (.int (r : Int)) (hl s n) = some (Dq s r)
  | 0 => ⟨fun _ _ => rfl, fun _ h => absurd h (Nat.not_lt_zero _)⟩
  | n + 1 => by
    obtain ⟨h1, h2⟩ := hl_idx s n
    have one : ∀ r : Nat, idxW (.int (r : Int)) (if s n = 46 then [W.int (n : Int)] else []) = if s n = 46 ∧ n = r then some 0 else none := fun r => by
      by_cases h : s n = 46
      · rw [if_pos h]
        show (if eqW (.int (n : Int)) (.int (r : Int)) then some 0 else none) = _
        have : eqW (.int (n : Int)) (.int (r : Int)) = decide (n = r) := by
          show ((n : Int) == (r : Int)) = _
          rw [Bool.eq_iff_iff]; simp; omega
        rw [this]
        by_cases e : n = r
        · rw [if_pos (by simpa using e), if_pos ⟨h, e⟩]
        · rw [if_neg (by simpa using e), if_neg fun q => e q.2]
      · rw [if_neg h, if_neg fun q => h q.1]; rfl
    refine ⟨fun r hr => ?_, fun r hr hs => ?_⟩
    · rw [hl_succ, idx_app, h1 r (by omega), one, if_neg (by omega)]; rfl
    · rw [hl_succ, idx_app]
      by_cases hlt : r < n
      · rw [h2 r hlt hs]
      · have : r = n := by omega
        subst this
        rw [h1 r (Nat.le_refl _), one, if_pos ⟨hs, rfl⟩, hl_len]
        simp
theorem hl_flat (s : Nat → Nat) (n : Nat) : (hl s n).all flatW = true := by
  rw [List.all_eq_true]
  intro w hw
  unfold hl at hw
  obtain ⟨k, _, rfl⟩ := List.mem_map.mp hw
  rfl
theorem hl_index {s : Nat → Nat} {n r : Nat} (hr : r < n) (h : s r = 46) : wIndex (.lst (hl s n)) [.int (r : Int)] = some (.int (Dq s r : Nat)) := by
  show (if flatW (.int (r : Int)) && (hl s n).all flatW then (idxW (.int (r : Int)) (hl s n)).map fun j => W.int (j : Nat) else none) = _
  rw [hl_flat, (hl_idx s n).2 r hr h]
  rfl
theorem Wp.told {Mu : Nat → Bool} {ρ : Sl} {G : List W} {k : Nat} {m : M W} {Q : W → Sl → List W → Prop} {E : Nat → List W → Prop} (h : Wp m (hideR Mu ρ) G (fun w _ G' => Q w ρ G') (fun n G' => n = k ∧ Q .non ρ G')) : Wp (mTold Mu k m) ρ G Q E := by
  unfold Wp at h
  unfold Wp mTold
  cases e : m (hideR Mu ρ) G with
  | bad => rw [e] at h; exact h
  | ok w ρ' G' => rw [e] at h; exact h
  | exc n G' =>
    rw [e] at h
    obtain ⟨h1, h2⟩ := h
    dsimp only
    rw [if_pos h1]
    exact h2
end K56
set_option Elab.async false
set_option linter.all false
set_option maxRecDepth 100000
set_option maxHeartbeats 4000000
set_option exponentiation.threshold 9000
namespace K56
open PySem PySem.Spec L2 Mp
open PyProof.Rows hiding St
theorem takeE {w : W} (hw : IsTape w) {many : Nat} (hm : 0 < many) (hb : many ≤ 2 ^ 64) : ∃ (v : Nat) (w' : W), v < many ∧ IsTape w' ∧ fn__law_take [.obj 0, .int (many : Int)] [w] = .ok (.int (v : Int)) [] [w'] := take_ok hw hm hb
theorem q_addS {a b : List Nat} (h : a.length + b.length ≤ 16777216) : wAdd (.str a) (.str b) = some (.str (a ++ b)) := by
  show (if szOk (a.length + b.length) then some (W.str (a ++ b)) else none) = _
  rw [if_pos (szOk_of h)]
theorem bneT {a : List Nat} : (!(a == a)) = false := by simp
theorem bneI {i : Int} : (!(i == i)) = false := by simp
theorem rng14 : rng2 (.int 1) (.int 4) = some [.int ((1 : Nat) : Int), .int ((2 : Nat) : Int), .int ((3 : Nat) : Int)] := rfl
theorem nonI {i : Int} : isNon (.int i) = false := rfl
theorem nonN : isNon .non = true := rfl
theorem bneF : (!(false == false)) = false := rfl
theorem bneF2 : (!(true == true)) = false := rfl
theorem fq_round {p : List Nat} (h : OkP p) (v k : Nat) : fq (sgp p) (v + k * (LP p (dq (sgp p) v)).1) = fq (sgp p) v := by
  have e := ((LP_per h.pos h.h0 (dq (sgp p) v)).mul k v).2
  have g1 : gq (sgp p) (dq (sgp p) v + 1) v = fq (sgp p) v := by unfold gq; rw [if_pos (by omega)]
  rw [g1] at e
  have n46 := fq_ne h.h0 v
  rw [← e] at n46
  have : ¬ (dq (sgp p) v + 1 ≤ dq (sgp p) (v + k * (LP p (dq (sgp p) v)).1)) := fun q => n46 ((gq_dot h.h0).mpr q)
  rw [← e]
  unfold gq
  rw [if_pos (by omega)]
theorem hide_none {ρ : Sl} : hideR (fun _ => false) ρ = ρ := by
  unfold hideR
  apply List.ext_getElem?
  intro i
  rw [List.getElem?_mapIdx]
  cases ρ[i]? <;> rfl
theorem places_ok {p ns : List Nat} (h : OkP p) (h5 : p.length ≤ 5) (hn : OkN ns) {w : W} (hw : IsTape w) :
    ∃ w', IsTape w' ∧ fn__law_places_right [.obj 0, .str p, .str ns, .lst (hl (sgp p) p.length)] [w] = .ok (.bl true) [] [w'] := by
  have key := runF_ex (n := 14) (m := m__law_places_right) (ws := [.obj 0, .str p, .str ns, .lst (hl (sgp p) p.length)]) (G := [w]) (P := fun r G1 => r = .bl true ∧ ∃ w', IsTape w' ∧ G1 = [w']) (by
    simp only [List.map_cons, List.map_nil, List.length_cons, List.length_nil, List.replicate, List.cons_append, List.nil_append]
    unfold m__law_places_right
    simp only [Wp.pure, Wp.bind, Wp.of, Wp.getS, Wp.gets, Wp.getv, Wp.mS, Wp.moveS, Wp.setU, Wp.setM, Wp.raise, Wp.mV, Wp.m2, Wp.m1, Wp.mB, Wp.mT, Wp.mNot, Wp.ite, Wp.mAnd, Wp.mOr, Wp.mIf, Wp.mNotV, Wp.mAndV, Wp.mOrV, Wp.mCh, Wp.mNil, Wp.mCons, Wp.getAll0, Wp.getAllC, Wp.mCall, Wp.mTup, Wp.mLst, Wp.mCallF, Wp.mNo, Wp.mSome, Wp.mCut, Wp.mM1, Wp.mMethR, Wp.mMeth, Wp.mSeq, Wp.mSkip, Wp.mSet, Wp.mRet, Wp.mDrop, Wp.mAug, Wp.mPar, Wp.mParF, Wp.mAsg, Wp.tgNil, Wp.tgCons, Wp.mSeqI, Wp.mI1, Wp.mI2, List.getElem?_cons_zero, List.getElem?_cons_succ, Option.some.injEq, exists_eq_left', exists_eq_left, W.lst.injEq, List.set_cons_zero, List.set_cons_succ, q_le, q_lt, q_gt, q_ge, q_sub, q_neg, q_eq_int, q_ne_int, q_eq_str, q_ne_str, q_eq_b, q_ne_b, q_b, q_i, q_s, q_l, q_seqS, q_seqL, q_seqT, q_seqN, q_f1, q_f2, q_count_str, q_abs, q_intI, q_isN, q_notN, q_tb, q_ti, q_lenL, q_lenT, q_tuple, if_true, Option.bind_some, q_len_str h.sz]
    refine ⟨_, q_rng1_n (n := 4) (by decide), ?_⟩
    refine Wp.mFor (fun i ρ G1 => (∃ w', IsTape w' ∧ G1 = [w']) ∧ ∃ x5 x6 x7 x8 x9 x10 x11 x12 x13, ρ = [some (.obj 0), some (.str p), some (.str ns), some (.lst (hl (sgp p) p.length)), some (.int (p.length : Int)), x5, x6, x7, x8, x9, x10, x11, x12, x13]) 0 ⟨⟨w, hw, rfl⟩, _, _, _, _, _, _, _, _, _, rfl⟩ (fun i w ρ G1 e hI => ?_) (fun ρ G1 hI => ?_)
    · obtain ⟨⟨w1, hw1, rfl⟩, x5, x6, x7, x8, x9, x10, x11, x12, x13, rfl⟩ := hI
      obtain ⟨v, w2, hv, hw2, et⟩ := takeE hw1 (many := 1000000) (by decide) (by decide)
      have hv' : v ≤ 1000000000 := by omega
      have et : fn__law_take [.obj 0, .int 1000000] [w1] = .ok (.int (v : Int)) [] [w2] := et
      have hlen : p.length ≤ 2 ^ 64 := Nat.le_trans h5 (by decide)
      simp only [Wp.pure, Wp.bind, Wp.of, Wp.getS, Wp.gets, Wp.getv, Wp.mS, Wp.moveS, Wp.setU, Wp.setM, Wp.raise, Wp.mV, Wp.m2, Wp.m1, Wp.mB, Wp.mT, Wp.mNot, Wp.ite, Wp.mAnd, Wp.mOr, Wp.mIf, Wp.mNotV, Wp.mAndV, Wp.mOrV, Wp.mCh, Wp.mNil, Wp.mCons, Wp.getAll0, Wp.getAllC, Wp.mCall, Wp.mTup, Wp.mLst, Wp.mCallF, Wp.mNo, Wp.mSome, Wp.mCut, Wp.mM1, Wp.mMethR, Wp.mMeth, Wp.mSeq, Wp.mSkip, Wp.mSet, Wp.mRet, Wp.mDrop, Wp.mAug, Wp.mPar, Wp.mParF, Wp.mAsg, Wp.tgNil, Wp.tgCons, Wp.mSeqI, Wp.mI1, Wp.mI2, List.getElem?_cons_zero, List.getElem?_cons_succ, Option.some.injEq, exists_eq_left', exists_eq_left, W.lst.injEq, List.set_cons_zero, List.set_cons_succ, Wp.callF et, Wp.callF (sign_ok h hv' _), Wp.callF (depth_ok h hv' _), Wp.tgTup (n := 2) (ws := [_, _]) rfl, q_le, q_lt, q_gt, q_ge, q_sub, q_neg, q_eq_int, q_ne_int, q_eq_str, q_ne_str, q_eq_b, q_ne_b, q_b, q_i, q_s, q_l, q_seqS, q_seqL, q_seqT, q_seqN, q_f1, q_f2, q_count_str, q_abs, q_intI, q_isN, q_notN, q_tb, q_ti, q_lenL, q_lenT, q_tuple, if_true, Option.bind_some, q_mod_n h.pos, q_div_n h.pos hlen, q_ix_str (sgp_get h.pos v) h.sz]
      refine ⟨rfl, ?_⟩
      have hp1 : p.length ≤ 100000 := by omega
      have hnsz : ns.length ≤ 16777216 := by rw [hn.len]; decide
      have hpp : p.length + p.length ≤ 16777216 := by omega
      by_cases hd : sgp p v = 46
      · rw [show (!([sgp p v] == [46])) = false by rw [hd]; rfl, if_neg (by decide)]
        have hr := Nat.mod_lt v h.pos
        have sr : sgp p (v % p.length) = 46 := by
          have e1 := sgp_get h.pos (v % p.length)
          have e2 := sgp_get h.pos v
          rw [Nat.mod_mod, e2] at e1
          rw [← Option.some.inj e1]; exact hd
        have ei : wIndex (.lst (hl (sgp p) p.length)) [.int ((v % p.length : Nat) : Int)] = some (.int ((p.take (v % p.length)).count 46 : Nat)) := by
          rw [hl_index hr sr, sgp_take (by omega)]
        have hu := dot_lt h.h0 hd
        have hu' : Dq (sgp p) v ≤ 1000000000 := by omega
        refine ⟨_, q_mul_n (small hv'), _, ei, _, q_add_n, ?_⟩
        rw [hl_len, sgp_dots, sgp_inner h.pos]
        have qa : wAdd (.int ((dq (sgp p) (Dq (sgp p) v) : Nat) : Int)) (.int 1) = some (.int (dq (sgp p) v : Nat)) := by
          rw [dq_dot h.h0 hd]; exact q_add_n (b := 1)
        simp only [Wp.pure, Wp.bind, Wp.of, Wp.getS, Wp.gets, Wp.getv, Wp.mS, Wp.moveS, Wp.setU, Wp.setM, Wp.raise, Wp.mV, Wp.m2, Wp.m1, Wp.mB, Wp.mT, Wp.mNot, Wp.ite, Wp.mAnd, Wp.mOr, Wp.mIf, Wp.mNotV, Wp.mAndV, Wp.mOrV, Wp.mCh, Wp.mNil, Wp.mCons, Wp.getAll0, Wp.getAllC, Wp.mCall, Wp.mTup, Wp.mLst, Wp.mCallF, Wp.mNo, Wp.mSome, Wp.mCut, Wp.mM1, Wp.mMethR, Wp.mMeth, Wp.mSeq, Wp.mSkip, Wp.mSet, Wp.mRet, Wp.mDrop, Wp.mAug, Wp.mPar, Wp.mParF, Wp.mAsg, Wp.tgNil, Wp.tgCons, Wp.mSeqI, Wp.mI1, Wp.mI2, List.getElem?_cons_zero, List.getElem?_cons_succ, Option.some.injEq, exists_eq_left', exists_eq_left, W.lst.injEq, List.set_cons_zero, List.set_cons_succ, q_le, q_lt, q_gt, q_ge, q_sub, q_neg, q_eq_int, q_ne_int, q_eq_str, q_ne_str, q_eq_b, q_ne_b, q_b, q_i, q_s, q_l, q_seqS, q_seqL, q_seqT, q_seqN, q_f1, q_f2, q_count_str, q_abs, q_intI, q_isN, q_notN, q_tb, q_ti, q_lenL, q_lenT, q_tuple, if_true, Option.bind_some, Wp.callF (sign_ok h hu' _), Wp.callF (depth_ok h hu' _), ← fq_dot h.h0 hd, qa, Wp.callF (named_ok hn h.sg hp1 _), Wp.callF (sign_ok (h.named hn) hv' _), Wp.callF (depth_ok (h.named hn) hv' _), (named_fq h hn v).1, (named_fq h hn v).2, int_dg (h.fdg v), q_ix_str (nm_dg hn (h.fdg v)).1 hnsz, q_addS hpp, Wp.callF (sign_ok (h.twice h5) hv' _), Wp.callF (depth_ok (h.twice h5) hv' _), sgp_twice p h.pos, bneT, bneI, Bool.false_eq_true, if_false]
        refine Wp.told ?_
        show Wp _ (hideR (fun _ => false) _) _ _ _
        rw [hide_none]
        by_cases h3 : dq (sgp p) v ≤ 3
        · simp only [Wp.pure, Wp.bind, Wp.of, Wp.getS, Wp.gets, Wp.getv, Wp.mS, Wp.moveS, Wp.setU, Wp.setM, Wp.raise, Wp.mV, Wp.m2, Wp.m1, Wp.mB, Wp.mT, Wp.mNot, Wp.ite, Wp.mAnd, Wp.mOr, Wp.mIf, Wp.mNotV, Wp.mAndV, Wp.mOrV, Wp.mCh, Wp.mNil, Wp.mCons, Wp.getAll0, Wp.getAllC, Wp.mCall, Wp.mTup, Wp.mLst, Wp.mCallF, Wp.mNo, Wp.mSome, Wp.mCut, Wp.mM1, Wp.mMethR, Wp.mMeth, Wp.mSeq, Wp.mSkip, Wp.mSet, Wp.mRet, Wp.mDrop, Wp.mAug, Wp.mPar, Wp.mParF, Wp.mAsg, Wp.tgNil, Wp.tgCons, Wp.mSeqI, Wp.mI1, Wp.mI2, List.getElem?_cons_zero, List.getElem?_cons_succ, Option.some.injEq, exists_eq_left', exists_eq_left, W.lst.injEq, List.set_cons_zero, List.set_cons_succ, q_le, q_lt, q_gt, q_ge, q_sub, q_neg, q_eq_int, q_ne_int, q_eq_str, q_ne_str, q_eq_b, q_ne_b, q_b, q_i, q_s, q_l, q_seqS, q_seqL, q_seqT, q_seqN, q_f1, q_f2, q_count_str, q_abs, q_intI, q_isN, q_notN, q_tb, q_ti, q_lenL, q_lenT, q_tuple, if_true, Option.bind_some, Wp.callF (round_ok h h5 h3 _), nonI, decide_eq_false (show ¬ ((3 : Int) < ((dq (sgp p) v : Nat) : Int)) by omega), bneF, Bool.false_eq_true, if_false, Bool.not_false, if_true]
          have l1 := LP_625 (p := p) h5 h3
          refine Wp.comp (fun w => match w with | .int _ => some (.bl false) | _ => none) [.int ((1 : Nat) : Int), .int ((2 : Nat) : Int), .int ((3 : Nat) : Int)] rfl (by simp only [Wp.pure, Wp.bind, Wp.of, Wp.getS, Wp.gets, Wp.getv, Wp.mS, Wp.moveS, Wp.setU, Wp.setM, Wp.raise, Wp.mV, Wp.m2, Wp.m1, Wp.mB, Wp.mT, Wp.mNot, Wp.ite, Wp.mAnd, Wp.mOr, Wp.mIf, Wp.mNotV, Wp.mAndV, Wp.mOrV, Wp.mCh, Wp.mNil, Wp.mCons, Wp.getAll0, Wp.getAllC, Wp.mCall, Wp.mTup, Wp.mLst, Wp.mCallF, Wp.mNo, Wp.mSome, Wp.mCut, Wp.mM1, Wp.mMethR, Wp.mMeth, Wp.mSeq, Wp.mSkip, Wp.mSet, Wp.mRet, Wp.mDrop, Wp.mAug, Wp.mPar, Wp.mParF, Wp.mAsg, Wp.tgNil, Wp.tgCons, Wp.mSeqI, Wp.mI1, Wp.mI2, List.getElem?_cons_zero, List.getElem?_cons_succ, Option.some.injEq, exists_eq_left', exists_eq_left, W.lst.injEq, List.set_cons_zero, List.set_cons_succ, rng14]; first | done | exact ⟨rfl, trivial, trivial⟩ | exact ⟨rfl, rfl, rfl⟩ | exact ⟨trivial, trivial, trivial⟩ | trivial) (fun x hx => ?_) ?_
          · have hx' : ∃ k : Nat, k ≤ 3 ∧ x = .int (k : Int) := by
              simp only [List.mem_cons, List.not_mem_nil, or_false] at hx
              rcases hx with rfl | rfl | rfl
              · exact ⟨1, by decide, rfl⟩
              · exact ⟨2, by decide, rfl⟩
              · exact ⟨3, by decide, rfl⟩
            obtain ⟨k, hk, rfl⟩ := hx'
            have hb : v + k * (LP p (dq (sgp p) v)).1 ≤ 1000000000 := by
              have := Nat.mul_le_mul hk l1
              omega
            simp only [wipeR, mTrue, Wp.pure, Wp.bind, Wp.of, Wp.getS, Wp.gets, Wp.getv, Wp.mS, Wp.moveS, Wp.setU, Wp.setM, Wp.raise, Wp.mV, Wp.m2, Wp.m1, Wp.mB, Wp.mT, Wp.mNot, Wp.ite, Wp.mAnd, Wp.mOr, Wp.mIf, Wp.mNotV, Wp.mAndV, Wp.mOrV, Wp.mCh, Wp.mNil, Wp.mCons, Wp.getAll0, Wp.getAllC, Wp.mCall, Wp.mTup, Wp.mLst, Wp.mCallF, Wp.mNo, Wp.mSome, Wp.mCut, Wp.mM1, Wp.mMethR, Wp.mMeth, Wp.mSeq, Wp.mSkip, Wp.mSet, Wp.mRet, Wp.mDrop, Wp.mAug, Wp.mPar, Wp.mParF, Wp.mAsg, Wp.tgNil, Wp.tgCons, Wp.mSeqI, Wp.mI1, Wp.mI2, List.getElem?_cons_zero, List.getElem?_cons_succ, Option.some.injEq, exists_eq_left', exists_eq_left, W.lst.injEq, List.set_cons_zero, List.set_cons_succ, q_le, q_lt, q_gt, q_ge, q_sub, q_neg, q_eq_int, q_ne_int, q_eq_str, q_ne_str, q_eq_b, q_ne_b, q_b, q_i, q_s, q_l, q_seqS, q_seqL, q_seqT, q_seqN, q_f1, q_f2, q_count_str, q_abs, q_intI, q_isN, q_notN, q_tb, q_ti, q_lenL, q_lenT, q_tuple, if_true, Option.bind_some, q_mul_n (show k < 18446744073709551616 by omega), q_add_n, Wp.callF (sign_ok h hb _), fq_round h v k, bneT]
            first | done | exact ⟨rfl, trivial, trivial⟩ | exact ⟨rfl, rfl, rfl⟩ | exact ⟨trivial, trivial, trivial⟩ | trivial
          · refine ⟨_, any_false (fun x hx => ?_), ?_⟩
            · obtain ⟨y, hy, e⟩ := List.mem_filterMap.mp hx
              simp only [List.mem_cons, List.not_mem_nil, or_false] at hy
              rcases hy with rfl | rfl | rfl <;> (cases e; rfl)
            · simp only [Wp.pure, Wp.bind, Wp.of, Wp.getS, Wp.gets, Wp.getv, Wp.mS, Wp.moveS, Wp.setU, Wp.setM, Wp.raise, Wp.mV, Wp.m2, Wp.m1, Wp.mB, Wp.mT, Wp.mNot, Wp.ite, Wp.mAnd, Wp.mOr, Wp.mIf, Wp.mNotV, Wp.mAndV, Wp.mOrV, Wp.mCh, Wp.mNil, Wp.mCons, Wp.getAll0, Wp.getAllC, Wp.mCall, Wp.mTup, Wp.mLst, Wp.mCallF, Wp.mNo, Wp.mSome, Wp.mCut, Wp.mM1, Wp.mMethR, Wp.mMeth, Wp.mSeq, Wp.mSkip, Wp.mSet, Wp.mRet, Wp.mDrop, Wp.mAug, Wp.mPar, Wp.mParF, Wp.mAsg, Wp.tgNil, Wp.tgCons, Wp.mSeqI, Wp.mI1, Wp.mI2, List.getElem?_cons_zero, List.getElem?_cons_succ, Option.some.injEq, exists_eq_left', exists_eq_left, W.lst.injEq, List.set_cons_zero, List.set_cons_succ, q_le, q_lt, q_gt, q_ge, q_sub, q_neg, q_eq_int, q_ne_int, q_eq_str, q_ne_str, q_eq_b, q_ne_b, q_b, q_i, q_s, q_l, q_seqS, q_seqL, q_seqT, q_seqN, q_f1, q_f2, q_count_str, q_abs, q_intI, q_isN, q_notN, q_tb, q_ti, q_lenL, q_lenT, q_tuple, if_true, Option.bind_some, Bool.false_eq_true, if_false]
              exact ⟨⟨w2, hw2, rfl⟩, _, _, _, _, _, _, _, _, _, rfl⟩
        · simp only [Wp.pure, Wp.bind, Wp.of, Wp.getS, Wp.gets, Wp.getv, Wp.mS, Wp.moveS, Wp.setU, Wp.setM, Wp.raise, Wp.mV, Wp.m2, Wp.m1, Wp.mB, Wp.mT, Wp.mNot, Wp.ite, Wp.mAnd, Wp.mOr, Wp.mIf, Wp.mNotV, Wp.mAndV, Wp.mOrV, Wp.mCh, Wp.mNil, Wp.mCons, Wp.getAll0, Wp.getAllC, Wp.mCall, Wp.mTup, Wp.mLst, Wp.mCallF, Wp.mNo, Wp.mSome, Wp.mCut, Wp.mM1, Wp.mMethR, Wp.mMeth, Wp.mSeq, Wp.mSkip, Wp.mSet, Wp.mRet, Wp.mDrop, Wp.mAug, Wp.mPar, Wp.mParF, Wp.mAsg, Wp.tgNil, Wp.tgCons, Wp.mSeqI, Wp.mI1, Wp.mI2, List.getElem?_cons_zero, List.getElem?_cons_succ, Option.some.injEq, exists_eq_left', exists_eq_left, W.lst.injEq, List.set_cons_zero, List.set_cons_succ, q_le, q_lt, q_gt, q_ge, q_sub, q_neg, q_eq_int, q_ne_int, q_eq_str, q_ne_str, q_eq_b, q_ne_b, q_b, q_i, q_s, q_l, q_seqS, q_seqL, q_seqT, q_seqN, q_f1, q_f2, q_count_str, q_abs, q_intI, q_isN, q_notN, q_tb, q_ti, q_lenL, q_lenT, q_tuple, if_true, Option.bind_some, Wp.callX (round_exc h h5 (show 3 < dq (sgp p) v by omega) _), nonN, decide_eq_true (show ((3 : Int) < ((dq (sgp p) v : Nat) : Int)) by omega), bneF2, Bool.false_eq_true, if_false, Bool.not_true, if_true]
          exact ⟨trivial, ⟨w2, hw2, rfl⟩, _, _, _, _, _, _, _, _, _, rfl⟩
      · rw [show (!([sgp p v] == [46])) = true by simpa using hd, if_pos rfl]
        have fe := fq_sign hd
        have de := dq_sign hd
        rw [show (!([fq (sgp p) v] == [sgp p v])) = false by rw [fe]; simp, if_neg (by decide), show (!(((dq (sgp p) v : Nat) : Int) == 0)) = false by rw [de]; rfl, if_neg (by decide)]
        simp only [Wp.pure, Wp.bind, Wp.of, Wp.getS, Wp.gets, Wp.getv, Wp.mS, Wp.moveS, Wp.setU, Wp.setM, Wp.raise, Wp.mV, Wp.m2, Wp.m1, Wp.mB, Wp.mT, Wp.mNot, Wp.ite, Wp.mAnd, Wp.mOr, Wp.mIf, Wp.mNotV, Wp.mAndV, Wp.mOrV, Wp.mCh, Wp.mNil, Wp.mCons, Wp.getAll0, Wp.getAllC, Wp.mCall, Wp.mTup, Wp.mLst, Wp.mCallF, Wp.mNo, Wp.mSome, Wp.mCut, Wp.mM1, Wp.mMethR, Wp.mMeth, Wp.mSeq, Wp.mSkip, Wp.mSet, Wp.mRet, Wp.mDrop, Wp.mAug, Wp.mPar, Wp.mParF, Wp.mAsg, Wp.tgNil, Wp.tgCons, Wp.mSeqI, Wp.mI1, Wp.mI2, List.getElem?_cons_zero, List.getElem?_cons_succ, Option.some.injEq, exists_eq_left', exists_eq_left, W.lst.injEq, List.set_cons_zero, List.set_cons_succ, q_le, q_lt, q_gt, q_ge, q_sub, q_neg, q_eq_int, q_ne_int, q_eq_str, q_ne_str, q_eq_b, q_ne_b, q_b, q_i, q_s, q_l, q_seqS, q_seqL, q_seqT, q_seqN, q_f1, q_f2, q_count_str, q_abs, q_intI, q_isN, q_notN, q_tb, q_ti, q_lenL, q_lenT, q_tuple, if_true, Option.bind_some, Wp.callF (named_ok hn h.sg hp1 _), Wp.callF (sign_ok (h.named hn) hv' _), Wp.callF (depth_ok (h.named hn) hv' _), (named_fq h hn v).1, (named_fq h hn v).2, int_dg (h.fdg v), q_ix_str (nm_dg hn (h.fdg v)).1 hnsz, q_addS hpp, Wp.callF (sign_ok (h.twice h5) hv' _), Wp.callF (depth_ok (h.twice h5) hv' _), sgp_twice p h.pos, bneT, bneI, Bool.false_eq_true, if_false]
        refine Wp.told ?_
        show Wp _ (hideR (fun _ => false) _) _ _ _
        rw [hide_none]
        by_cases h3 : dq (sgp p) v ≤ 3
        · simp only [Wp.pure, Wp.bind, Wp.of, Wp.getS, Wp.gets, Wp.getv, Wp.mS, Wp.moveS, Wp.setU, Wp.setM, Wp.raise, Wp.mV, Wp.m2, Wp.m1, Wp.mB, Wp.mT, Wp.mNot, Wp.ite, Wp.mAnd, Wp.mOr, Wp.mIf, Wp.mNotV, Wp.mAndV, Wp.mOrV, Wp.mCh, Wp.mNil, Wp.mCons, Wp.getAll0, Wp.getAllC, Wp.mCall, Wp.mTup, Wp.mLst, Wp.mCallF, Wp.mNo, Wp.mSome, Wp.mCut, Wp.mM1, Wp.mMethR, Wp.mMeth, Wp.mSeq, Wp.mSkip, Wp.mSet, Wp.mRet, Wp.mDrop, Wp.mAug, Wp.mPar, Wp.mParF, Wp.mAsg, Wp.tgNil, Wp.tgCons, Wp.mSeqI, Wp.mI1, Wp.mI2, List.getElem?_cons_zero, List.getElem?_cons_succ, Option.some.injEq, exists_eq_left', exists_eq_left, W.lst.injEq, List.set_cons_zero, List.set_cons_succ, q_le, q_lt, q_gt, q_ge, q_sub, q_neg, q_eq_int, q_ne_int, q_eq_str, q_ne_str, q_eq_b, q_ne_b, q_b, q_i, q_s, q_l, q_seqS, q_seqL, q_seqT, q_seqN, q_f1, q_f2, q_count_str, q_abs, q_intI, q_isN, q_notN, q_tb, q_ti, q_lenL, q_lenT, q_tuple, if_true, Option.bind_some, Wp.callF (round_ok h h5 h3 _), nonI, decide_eq_false (show ¬ ((3 : Int) < ((dq (sgp p) v : Nat) : Int)) by omega), bneF, Bool.false_eq_true, if_false, Bool.not_false, if_true]
          have l1 := LP_625 (p := p) h5 h3
          refine Wp.comp (fun w => match w with | .int _ => some (.bl false) | _ => none) [.int ((1 : Nat) : Int), .int ((2 : Nat) : Int), .int ((3 : Nat) : Int)] rfl (by simp only [Wp.pure, Wp.bind, Wp.of, Wp.getS, Wp.gets, Wp.getv, Wp.mS, Wp.moveS, Wp.setU, Wp.setM, Wp.raise, Wp.mV, Wp.m2, Wp.m1, Wp.mB, Wp.mT, Wp.mNot, Wp.ite, Wp.mAnd, Wp.mOr, Wp.mIf, Wp.mNotV, Wp.mAndV, Wp.mOrV, Wp.mCh, Wp.mNil, Wp.mCons, Wp.getAll0, Wp.getAllC, Wp.mCall, Wp.mTup, Wp.mLst, Wp.mCallF, Wp.mNo, Wp.mSome, Wp.mCut, Wp.mM1, Wp.mMethR, Wp.mMeth, Wp.mSeq, Wp.mSkip, Wp.mSet, Wp.mRet, Wp.mDrop, Wp.mAug, Wp.mPar, Wp.mParF, Wp.mAsg, Wp.tgNil, Wp.tgCons, Wp.mSeqI, Wp.mI1, Wp.mI2, List.getElem?_cons_zero, List.getElem?_cons_succ, Option.some.injEq, exists_eq_left', exists_eq_left, W.lst.injEq, List.set_cons_zero, List.set_cons_succ, rng14]; first | done | exact ⟨rfl, trivial, trivial⟩ | exact ⟨rfl, rfl, rfl⟩ | exact ⟨trivial, trivial, trivial⟩ | trivial) (fun x hx => ?_) ?_
          · have hx' : ∃ k : Nat, k ≤ 3 ∧ x = .int (k : Int) := by
              simp only [List.mem_cons, List.not_mem_nil, or_false] at hx
              rcases hx with rfl | rfl | rfl
              · exact ⟨1, by decide, rfl⟩
              · exact ⟨2, by decide, rfl⟩
              · exact ⟨3, by decide, rfl⟩
            obtain ⟨k, hk, rfl⟩ := hx'
            have hb : v + k * (LP p (dq (sgp p) v)).1 ≤ 1000000000 := by
              have := Nat.mul_le_mul hk l1
              omega
            simp only [wipeR, mTrue, Wp.pure, Wp.bind, Wp.of, Wp.getS, Wp.gets, Wp.getv, Wp.mS, Wp.moveS, Wp.setU, Wp.setM, Wp.raise, Wp.mV, Wp.m2, Wp.m1, Wp.mB, Wp.mT, Wp.mNot, Wp.ite, Wp.mAnd, Wp.mOr, Wp.mIf, Wp.mNotV, Wp.mAndV, Wp.mOrV, Wp.mCh, Wp.mNil, Wp.mCons, Wp.getAll0, Wp.getAllC, Wp.mCall, Wp.mTup, Wp.mLst, Wp.mCallF, Wp.mNo, Wp.mSome, Wp.mCut, Wp.mM1, Wp.mMethR, Wp.mMeth, Wp.mSeq, Wp.mSkip, Wp.mSet, Wp.mRet, Wp.mDrop, Wp.mAug, Wp.mPar, Wp.mParF, Wp.mAsg, Wp.tgNil, Wp.tgCons, Wp.mSeqI, Wp.mI1, Wp.mI2, List.getElem?_cons_zero, List.getElem?_cons_succ, Option.some.injEq, exists_eq_left', exists_eq_left, W.lst.injEq, List.set_cons_zero, List.set_cons_succ, q_le, q_lt, q_gt, q_ge, q_sub, q_neg, q_eq_int, q_ne_int, q_eq_str, q_ne_str, q_eq_b, q_ne_b, q_b, q_i, q_s, q_l, q_seqS, q_seqL, q_seqT, q_seqN, q_f1, q_f2, q_count_str, q_abs, q_intI, q_isN, q_notN, q_tb, q_ti, q_lenL, q_lenT, q_tuple, if_true, Option.bind_some, q_mul_n (show k < 18446744073709551616 by omega), q_add_n, Wp.callF (sign_ok h hb _), fq_round h v k, bneT]
            first | done | exact ⟨rfl, trivial, trivial⟩ | exact ⟨rfl, rfl, rfl⟩ | exact ⟨trivial, trivial, trivial⟩ | trivial
          · refine ⟨_, any_false (fun x hx => ?_), ?_⟩
            · obtain ⟨y, hy, e⟩ := List.mem_filterMap.mp hx
              simp only [List.mem_cons, List.not_mem_nil, or_false] at hy
              rcases hy with rfl | rfl | rfl <;> (cases e; rfl)
            · simp only [Wp.pure, Wp.bind, Wp.of, Wp.getS, Wp.gets, Wp.getv, Wp.mS, Wp.moveS, Wp.setU, Wp.setM, Wp.raise, Wp.mV, Wp.m2, Wp.m1, Wp.mB, Wp.mT, Wp.mNot, Wp.ite, Wp.mAnd, Wp.mOr, Wp.mIf, Wp.mNotV, Wp.mAndV, Wp.mOrV, Wp.mCh, Wp.mNil, Wp.mCons, Wp.getAll0, Wp.getAllC, Wp.mCall, Wp.mTup, Wp.mLst, Wp.mCallF, Wp.mNo, Wp.mSome, Wp.mCut, Wp.mM1, Wp.mMethR, Wp.mMeth, Wp.mSeq, Wp.mSkip, Wp.mSet, Wp.mRet, Wp.mDrop, Wp.mAug, Wp.mPar, Wp.mParF, Wp.mAsg, Wp.tgNil, Wp.tgCons, Wp.mSeqI, Wp.mI1, Wp.mI2, List.getElem?_cons_zero, List.getElem?_cons_succ, Option.some.injEq, exists_eq_left', exists_eq_left, W.lst.injEq, List.set_cons_zero, List.set_cons_succ, q_le, q_lt, q_gt, q_ge, q_sub, q_neg, q_eq_int, q_ne_int, q_eq_str, q_ne_str, q_eq_b, q_ne_b, q_b, q_i, q_s, q_l, q_seqS, q_seqL, q_seqT, q_seqN, q_f1, q_f2, q_count_str, q_abs, q_intI, q_isN, q_notN, q_tb, q_ti, q_lenL, q_lenT, q_tuple, if_true, Option.bind_some, Bool.false_eq_true, if_false]
              exact ⟨⟨w2, hw2, rfl⟩, _, _, _, _, _, _, _, _, _, rfl⟩
        · simp only [Wp.pure, Wp.bind, Wp.of, Wp.getS, Wp.gets, Wp.getv, Wp.mS, Wp.moveS, Wp.setU, Wp.setM, Wp.raise, Wp.mV, Wp.m2, Wp.m1, Wp.mB, Wp.mT, Wp.mNot, Wp.ite, Wp.mAnd, Wp.mOr, Wp.mIf, Wp.mNotV, Wp.mAndV, Wp.mOrV, Wp.mCh, Wp.mNil, Wp.mCons, Wp.getAll0, Wp.getAllC, Wp.mCall, Wp.mTup, Wp.mLst, Wp.mCallF, Wp.mNo, Wp.mSome, Wp.mCut, Wp.mM1, Wp.mMethR, Wp.mMeth, Wp.mSeq, Wp.mSkip, Wp.mSet, Wp.mRet, Wp.mDrop, Wp.mAug, Wp.mPar, Wp.mParF, Wp.mAsg, Wp.tgNil, Wp.tgCons, Wp.mSeqI, Wp.mI1, Wp.mI2, List.getElem?_cons_zero, List.getElem?_cons_succ, Option.some.injEq, exists_eq_left', exists_eq_left, W.lst.injEq, List.set_cons_zero, List.set_cons_succ, q_le, q_lt, q_gt, q_ge, q_sub, q_neg, q_eq_int, q_ne_int, q_eq_str, q_ne_str, q_eq_b, q_ne_b, q_b, q_i, q_s, q_l, q_seqS, q_seqL, q_seqT, q_seqN, q_f1, q_f2, q_count_str, q_abs, q_intI, q_isN, q_notN, q_tb, q_ti, q_lenL, q_lenT, q_tuple, if_true, Option.bind_some, Wp.callX (round_exc h h5 (show 3 < dq (sgp p) v by omega) _), nonN, decide_eq_true (show ((3 : Int) < ((dq (sgp p) v : Nat) : Int)) by omega), bneF2, Bool.false_eq_true, if_false, Bool.not_true, if_true]
          exact ⟨trivial, ⟨w2, hw2, rfl⟩, _, _, _, _, _, _, _, _, _, rfl⟩
    · obtain ⟨⟨w1, hw1, rfl⟩, x5, x6, x7, x8, x9, x10, x11, x12, x13, rfl⟩ := hI
      simp only [Wp.pure, Wp.bind, Wp.of, Wp.getS, Wp.gets, Wp.getv, Wp.mS, Wp.moveS, Wp.setU, Wp.setM, Wp.raise, Wp.mV, Wp.m2, Wp.m1, Wp.mB, Wp.mT, Wp.mNot, Wp.ite, Wp.mAnd, Wp.mOr, Wp.mIf, Wp.mNotV, Wp.mAndV, Wp.mOrV, Wp.mCh, Wp.mNil, Wp.mCons, Wp.getAll0, Wp.getAllC, Wp.mCall, Wp.mTup, Wp.mLst, Wp.mCallF, Wp.mNo, Wp.mSome, Wp.mCut, Wp.mM1, Wp.mMethR, Wp.mMeth, Wp.mSeq, Wp.mSkip, Wp.mSet, Wp.mRet, Wp.mDrop, Wp.mAug, Wp.mPar, Wp.mParF, Wp.mAsg, Wp.tgNil, Wp.tgCons, Wp.mSeqI, Wp.mI1, Wp.mI2, List.getElem?_cons_zero, List.getElem?_cons_succ, Option.some.injEq, exists_eq_left', exists_eq_left, W.lst.injEq, List.set_cons_zero, List.set_cons_succ]
      exact ⟨_, rfl, rfl, w1, hw1, rfl⟩)
  obtain ⟨r, G1, ⟨rfl, w', hw', rfl⟩, e⟩ := key
  exact ⟨w', hw', e⟩
end K56
set_option Elab.async false
set_option linter.all false
set_option maxRecDepth 100000
set_option maxHeartbeats 4000000
set_option exponentiation.threshold 9000
namespace K56
open PySem PySem.Spec L2 Mp
open PyProof.Rows hiding St
theorem in3 {i : Nat} {w : W} (e : ([.int 1, .int 2, .int 3] : List W)[i]? = some w) : i ≤ 2 ∧ w = .int ((i + 1 : Nat) : Int) := by
  match i, e with
  | 0, e => cases e; exact ⟨by omega, rfl⟩
  | 1, e => cases e; exact ⟨by omega, rfl⟩
  | 2, e => cases e; exact ⟨by omega, rfl⟩
  | i + 3, e => simp at e
theorem q_min2 {i j : Int} : wMin2 (.int i) (.int j) = some (.int (if j < i then j else i)) := rfl
theorem min_n {a b : Nat} : (if (a : Int) < (b : Int) then (a : Int) else (b : Int)) = ((min b a : Nat) : Int) := by split <;> omega
theorem layers_right {p : List Nat} (h : OkP p) (h5 : p.length ≤ 5) (G : List W) :
    fn__law_layers_right [.str p, .str (fl p 400), .lst (hl (sgp p) p.length)] G = .ok (.bl true) [] G := by
  unfold fn__law_layers_right
  refine runF_of ?_
  unfold m__law_layers_right
  simp only [List.map_cons, List.map_nil, List.length_cons, List.length_nil, List.replicate, List.cons_append, List.nil_append]
  simp only [Wp.pure, Wp.bind, Wp.of, Wp.getS, Wp.gets, Wp.getv, Wp.mS, Wp.moveS, Wp.setU, Wp.setM, Wp.raise, Wp.mV, Wp.m2, Wp.m1, Wp.mB, Wp.mT, Wp.mNot, Wp.ite, Wp.mAnd, Wp.mOr, Wp.mIf, Wp.mNotV, Wp.mAndV, Wp.mOrV, Wp.mCh, Wp.mNil, Wp.mCons, Wp.getAll0, Wp.getAllC, Wp.mCall, Wp.mTup, Wp.mLst, Wp.mCallF, Wp.mNo, Wp.mSome, Wp.mCut, Wp.mM1, Wp.mMethR, Wp.mMeth, Wp.mSeq, Wp.mSkip, Wp.mSet, Wp.mRet, Wp.mDrop, Wp.mAug, Wp.mPar, Wp.mParF, Wp.mAsg, Wp.tgNil, Wp.tgCons, Wp.mSeqI, Wp.mI1, Wp.mI2, List.getElem?_cons_zero, List.getElem?_cons_succ, Option.some.injEq, exists_eq_left', exists_eq_left, W.lst.injEq, List.set_cons_zero, List.set_cons_succ, q_le, q_lt, q_gt, q_ge, q_sub, q_neg, q_eq_int, q_ne_int, q_eq_str, q_ne_str, q_eq_b, q_ne_b, q_b, q_i, q_s, q_l, q_seqS, q_seqL, q_seqT, q_seqN, q_f1, q_f2, q_count_str, q_abs, q_intI, q_isN, q_notN, q_tb, q_ti, q_lenL, q_lenT, q_tuple, if_true, Option.bind_some, q_len_str h.sz, List.length_cons, List.length_nil]
  refine ⟨rfl, ?_⟩
  refine Wp.mFor (fun i ρ G1 => G1 = G ∧ ∃ x4 x5 x6 x7 x8, ρ = [some (.str p), some (.str (fl p 400)), some (.lst (hl (sgp p) p.length)), some (.int (p.length : Int)), x4, x5, x6, x7, x8]) 0 ⟨rfl, _, _, _, _, _, rfl⟩ (fun i w ρ G1 e hI => ?_) (fun ρ G1 hI => ?_)
  · obtain ⟨rfl, x4, x5, x6, x7, x8, rfl⟩ := hI
    obtain ⟨hi2, rfl⟩ := in3 e
    clear e
    have l1 := LP_625 (p := p) h5 (show i ≤ 3 by omega)
    have lp := (LP_per h.pos h.h0 i).pos
    have hsz : (lay p i).length ≤ 16777216 := by rw [lay_len]; omega
    have hfz : (fl p 400).length ≤ 16777216 := by rw [fl_len]; decide
    have hh : p.count 46 ≤ 5 := Nat.le_trans List.count_le_length h5
    have pw : ∀ {b k : Nat}, b ≤ 5 → k ≤ 3 → b ^ k < 18446744073709551616 := fun {b k} hb hk => Nat.lt_of_le_of_lt (Nat.le_trans (Nat.pow_le_pow_left hb k) (Nat.pow_le_pow_right (by decide) hk)) (by decide)
    simp only [Wp.pure, Wp.bind, Wp.of, Wp.getS, Wp.gets, Wp.getv, Wp.mS, Wp.moveS, Wp.setU, Wp.setM, Wp.raise, Wp.mV, Wp.m2, Wp.m1, Wp.mB, Wp.mT, Wp.mNot, Wp.ite, Wp.mAnd, Wp.mOr, Wp.mIf, Wp.mNotV, Wp.mAndV, Wp.mOrV, Wp.mCh, Wp.mNil, Wp.mCons, Wp.getAll0, Wp.getAllC, Wp.mCall, Wp.mTup, Wp.mLst, Wp.mCallF, Wp.mNo, Wp.mSome, Wp.mCut, Wp.mM1, Wp.mMethR, Wp.mMeth, Wp.mSeq, Wp.mSkip, Wp.mSet, Wp.mRet, Wp.mDrop, Wp.mAug, Wp.mPar, Wp.mParF, Wp.mAsg, Wp.tgNil, Wp.tgCons, Wp.mSeqI, Wp.mI1, Wp.mI2, List.getElem?_cons_zero, List.getElem?_cons_succ, Option.some.injEq, exists_eq_left', exists_eq_left, W.lst.injEq, List.set_cons_zero, List.set_cons_succ]
    refine Wp.told ?_
    show Wp _ (hideR (fun _ => false) _) _ _ _
    rw [hide_none]
    simp only [Wp.pure, Wp.bind, Wp.of, Wp.getS, Wp.gets, Wp.getv, Wp.mS, Wp.moveS, Wp.setU, Wp.setM, Wp.raise, Wp.mV, Wp.m2, Wp.m1, Wp.mB, Wp.mT, Wp.mNot, Wp.ite, Wp.mAnd, Wp.mOr, Wp.mIf, Wp.mNotV, Wp.mAndV, Wp.mOrV, Wp.mCh, Wp.mNil, Wp.mCons, Wp.getAll0, Wp.getAllC, Wp.mCall, Wp.mTup, Wp.mLst, Wp.mCallF, Wp.mNo, Wp.mSome, Wp.mCut, Wp.mM1, Wp.mMethR, Wp.mMeth, Wp.mSeq, Wp.mSkip, Wp.mSet, Wp.mRet, Wp.mDrop, Wp.mAug, Wp.mPar, Wp.mParF, Wp.mAsg, Wp.tgNil, Wp.tgCons, Wp.mSeqI, Wp.mI1, Wp.mI2, List.getElem?_cons_zero, List.getElem?_cons_succ, Option.some.injEq, exists_eq_left', exists_eq_left, W.lst.injEq, List.set_cons_zero, List.set_cons_succ, q_le, q_lt, q_gt, q_ge, q_sub, q_neg, q_eq_int, q_ne_int, q_eq_str, q_ne_str, q_eq_b, q_ne_b, q_b, q_i, q_s, q_l, q_seqS, q_seqL, q_seqT, q_seqN, q_f1, q_f2, q_count_str, q_abs, q_intI, q_isN, q_notN, q_tb, q_ti, q_lenL, q_lenT, q_tuple, if_true, Option.bind_some, Wp.callF (layers_ok h h5 (show i ≤ 3 by omega) _), show isNon (.str (lay p i)) = false from rfl, Bool.not_false, if_true, Wp.callF (oshare_ok h h5 (show i ≤ 3 by omega) _), List.length_cons, List.length_nil]
    refine ⟨rfl, _, q_rng1_n (n := i + 1) (by omega), ?_⟩
    refine Wp.mFor (fun t ρ G2 => G2 = G1 ∧ t ≤ i + 1 ∧ ∃ x8, ρ = [some (.str p), some (.str (fl p 400)), some (.lst (hl (sgp p) p.length)), some (.int (p.length : Int)), some (.int ((i + 1 : Nat) : Int)), some (.str (lay p i)), some (.tup [.int ((LP p i).2 / Nat.gcd (LP p i).2 (LP p i).1 : Nat), .int ((LP p i).1 / Nat.gcd (LP p i).2 (LP p i).1 : Nat)]), some (.lst [.int ((p.count 46 ^ t : Nat) : Int), .int ((p.length ^ t : Nat) : Int)]), x8]) 0 ⟨rfl, Nat.zero_le _, x8, rfl⟩ (fun t w2 ρ G2 e2 hI2 => ?_) (fun ρ G2 hI2 => ?_)
    · obtain ⟨rfl, ht, x8, rfl⟩ := hI2
      rw [Nat.zero_add] at *
      have ht' : t < i + 1 := by
        have := (List.getElem?_eq_some_iff.mp e2).1
        simpa using this
      simp only [Wp.pure, Wp.bind, Wp.of, Wp.getS, Wp.gets, Wp.getv, Wp.mS, Wp.moveS, Wp.setU, Wp.setM, Wp.raise, Wp.mV, Wp.m2, Wp.m1, Wp.mB, Wp.mT, Wp.mNot, Wp.ite, Wp.mAnd, Wp.mOr, Wp.mIf, Wp.mNotV, Wp.mAndV, Wp.mOrV, Wp.mCh, Wp.mNil, Wp.mCons, Wp.getAll0, Wp.getAllC, Wp.mCall, Wp.mTup, Wp.mLst, Wp.mCallF, Wp.mNo, Wp.mSome, Wp.mCut, Wp.mM1, Wp.mMethR, Wp.mMeth, Wp.mSeq, Wp.mSkip, Wp.mSet, Wp.mRet, Wp.mDrop, Wp.mAug, Wp.mPar, Wp.mParF, Wp.mAsg, Wp.tgNil, Wp.tgCons, Wp.mSeqI, Wp.mI1, Wp.mI2, List.getElem?_cons_zero, List.getElem?_cons_succ, Option.some.injEq, exists_eq_left', exists_eq_left, W.lst.injEq, List.set_cons_zero, List.set_cons_succ, q_le, q_lt, q_gt, q_ge, q_sub, q_neg, q_eq_int, q_ne_int, q_eq_str, q_ne_str, q_eq_b, q_ne_b, q_b, q_i, q_s, q_l, q_seqS, q_seqL, q_seqT, q_seqN, q_f1, q_f2, q_count_str, q_abs, q_intI, q_isN, q_notN, q_tb, q_ti, q_lenL, q_lenT, q_tuple, if_true, Option.bind_some]
      have ix0 : wIx (.lst [.int ((p.count 46 ^ t : Nat) : Int), .int ((p.length ^ t : Nat) : Int)]) (.int 0) = some (.int ((p.count 46 ^ t : Nat) : Int)) := rfl
      have ix1 : wIx (.lst [.int ((p.count 46 ^ t : Nat) : Int), .int ((p.length ^ t : Nat) : Int)]) (.int 1) = some (.int ((p.length ^ t : Nat) : Int)) := rfl
      refine ⟨_, ix0, _, q_mul_n (b := (hl (sgp p) p.length).length) (pw hh (by omega)), _, ix1, _, q_mul_n (pw h5 (by omega)), rfl, rfl, ht', some w2, ?_⟩
      rw [hl_len, sgp_dots, Nat.pow_succ, Nat.pow_succ]
    · obtain ⟨rfl, _, x8, rfl⟩ := hI2
      rw [Nat.zero_add, List.length_map, List.length_range]
      have iy0 : ∀ a b : W, wIx (.tup [a, b]) (.int 0) = some a := fun _ _ => rfl
      have iy1 : ∀ a b : W, wIx (.tup [a, b]) (.int 1) = some b := fun _ _ => rfl
      have iz0 : ∀ a b : W, wIx (.lst [a, b]) (.int 0) = some a := fun _ _ => rfl
      have iz1 : ∀ a b : W, wIx (.lst [a, b]) (.int 1) = some b := fun _ _ => rfl
      have gp : 0 < Nat.gcd (LP p i).2 (LP p i).1 := Nat.gcd_pos_of_pos_right _ lp
      have dn : (LP p i).2 / Nat.gcd (LP p i).2 (LP p i).1 * p.length ^ (i + 1) = p.count 46 ^ (i + 1) * ((LP p i).1 / Nat.gcd (LP p i).2 (LP p i).1) := by
        have g1 : (LP p i).2 / Nat.gcd (LP p i).2 (LP p i).1 * Nat.gcd (LP p i).2 (LP p i).1 = (LP p i).2 := Nat.div_mul_cancel (Nat.gcd_dvd_left _ _)
        have g2 : (LP p i).1 / Nat.gcd (LP p i).2 (LP p i).1 * Nat.gcd (LP p i).2 (LP p i).1 = (LP p i).1 := Nat.div_mul_cancel (Nat.gcd_dvd_right _ _)
        have d := LP_dens p i
        refine Nat.eq_of_mul_eq_mul_right gp ?_
        rw [Nat.mul_right_comm, g1, Nat.mul_assoc, g2]
        exact d
      have hs0 : (LP p i).2 / Nat.gcd (LP p i).2 (LP p i).1 < 18446744073709551616 := by
        have c1 := lay_count h.pos h.h0 i
        have c2 : (lay p i).count 46 ≤ (lay p i).length := List.count_le_length
        rw [lay_len, c1] at c2
        exact Nat.lt_of_le_of_lt (Nat.div_le_self _ _) (by omega)
      simp only [Wp.pure, Wp.bind, Wp.of, Wp.getS, Wp.gets, Wp.getv, Wp.mS, Wp.moveS, Wp.setU, Wp.setM, Wp.raise, Wp.mV, Wp.m2, Wp.m1, Wp.mB, Wp.mT, Wp.mNot, Wp.ite, Wp.mAnd, Wp.mOr, Wp.mIf, Wp.mNotV, Wp.mAndV, Wp.mOrV, Wp.mCh, Wp.mNil, Wp.mCons, Wp.getAll0, Wp.getAllC, Wp.mCall, Wp.mTup, Wp.mLst, Wp.mCallF, Wp.mNo, Wp.mSome, Wp.mCut, Wp.mM1, Wp.mMethR, Wp.mMeth, Wp.mSeq, Wp.mSkip, Wp.mSet, Wp.mRet, Wp.mDrop, Wp.mAug, Wp.mPar, Wp.mParF, Wp.mAsg, Wp.tgNil, Wp.tgCons, Wp.mSeqI, Wp.mI1, Wp.mI2, List.getElem?_cons_zero, List.getElem?_cons_succ, Option.some.injEq, exists_eq_left', exists_eq_left, W.lst.injEq, List.set_cons_zero, List.set_cons_succ, q_le, q_lt, q_gt, q_ge, q_sub, q_neg, q_eq_int, q_ne_int, q_eq_str, q_ne_str, q_eq_b, q_ne_b, q_b, q_i, q_s, q_l, q_seqS, q_seqL, q_seqT, q_seqN, q_f1, q_f2, q_count_str, q_abs, q_intI, q_isN, q_notN, q_tb, q_ti, q_lenL, q_lenT, q_tuple, if_true, Option.bind_some, iy0, iy1, iz0, iz1, q_mul_n hs0, q_mul_n (pw hh (show i + 1 ≤ 3 by omega)), dn, bneI, Bool.false_eq_true, if_false]
      refine Wp.comp (fun w => match w with | .int _ => some (.bl false) | _ => none) ((List.range (min 400 (LP p i).1)).map fun k : Nat => W.int (k : Int)) (szOk_of (by rw [List.length_map, List.length_range]; omega)) ?_ (fun x hx => ?_) ?_
      · have em : (if (((LP p i).1 : Nat) : Int) < 400 then (((LP p i).1 : Nat) : Int) else 400) = ((min 400 (LP p i).1 : Nat) : Int) := by split <;> omega
        simp only [Wp.pure, Wp.bind, Wp.of, Wp.getS, Wp.gets, Wp.getv, Wp.mS, Wp.moveS, Wp.setU, Wp.setM, Wp.raise, Wp.mV, Wp.m2, Wp.m1, Wp.mB, Wp.mT, Wp.mNot, Wp.ite, Wp.mAnd, Wp.mOr, Wp.mIf, Wp.mNotV, Wp.mAndV, Wp.mOrV, Wp.mCh, Wp.mNil, Wp.mCons, Wp.getAll0, Wp.getAllC, Wp.mCall, Wp.mTup, Wp.mLst, Wp.mCallF, Wp.mNo, Wp.mSome, Wp.mCut, Wp.mM1, Wp.mMethR, Wp.mMeth, Wp.mSeq, Wp.mSkip, Wp.mSet, Wp.mRet, Wp.mDrop, Wp.mAug, Wp.mPar, Wp.mParF, Wp.mAsg, Wp.tgNil, Wp.tgCons, Wp.mSeqI, Wp.mI1, Wp.mI2, List.getElem?_cons_zero, List.getElem?_cons_succ, Option.some.injEq, exists_eq_left', exists_eq_left, W.lst.injEq, List.set_cons_zero, List.set_cons_succ, q_le, q_lt, q_gt, q_ge, q_sub, q_neg, q_eq_int, q_ne_int, q_eq_str, q_ne_str, q_eq_b, q_ne_b, q_b, q_i, q_s, q_l, q_seqS, q_seqL, q_seqT, q_seqN, q_f1, q_f2, q_count_str, q_abs, q_intI, q_isN, q_notN, q_tb, q_ti, q_lenL, q_lenT, q_tuple, if_true, Option.bind_some, q_len_str hsz, lay_len, q_min2, em]
        exact ⟨_, q_rng1_n (by omega), rfl, trivial, trivial⟩
      · obtain ⟨k, hk, rfl⟩ := List.mem_map.mp hx
        rw [List.mem_range] at hk
        have hg1 : (lay p i)[k]? = some (gq (sgp p) (i + 1) k) := lay_get (by omega)
        have hg2 : (fl p 400)[k]? = some (fq (sgp p) k) := fl_get (by omega)
        simp only [wipeR, mTrue, Wp.pure, Wp.bind, Wp.of, Wp.getS, Wp.gets, Wp.getv, Wp.mS, Wp.moveS, Wp.setU, Wp.setM, Wp.raise, Wp.mV, Wp.m2, Wp.m1, Wp.mB, Wp.mT, Wp.mNot, Wp.ite, Wp.mAnd, Wp.mOr, Wp.mIf, Wp.mNotV, Wp.mAndV, Wp.mOrV, Wp.mCh, Wp.mNil, Wp.mCons, Wp.getAll0, Wp.getAllC, Wp.mCall, Wp.mTup, Wp.mLst, Wp.mCallF, Wp.mNo, Wp.mSome, Wp.mCut, Wp.mM1, Wp.mMethR, Wp.mMeth, Wp.mSeq, Wp.mSkip, Wp.mSet, Wp.mRet, Wp.mDrop, Wp.mAug, Wp.mPar, Wp.mParF, Wp.mAsg, Wp.tgNil, Wp.tgCons, Wp.mSeqI, Wp.mI1, Wp.mI2, List.getElem?_cons_zero, List.getElem?_cons_succ, Option.some.injEq, exists_eq_left', exists_eq_left, W.lst.injEq, List.set_cons_zero, List.set_cons_succ, q_le, q_lt, q_gt, q_ge, q_sub, q_neg, q_eq_int, q_ne_int, q_eq_str, q_ne_str, q_eq_b, q_ne_b, q_b, q_i, q_s, q_l, q_seqS, q_seqL, q_seqT, q_seqN, q_f1, q_f2, q_count_str, q_abs, q_intI, q_isN, q_notN, q_tb, q_ti, q_lenL, q_lenT, q_tuple, if_true, Option.bind_some, q_ix_str hg1 hsz, q_ix_str hg2 hfz]
        by_cases hd : gq (sgp p) (i + 1) k = 46
        · rw [hd, if_neg (by decide)]
          exact ⟨by first | rfl | trivial, by first | rfl | trivial, by first | rfl | trivial⟩
        · have hlt : ¬ (i + 1 ≤ dq (sgp p) k) := fun q => hd ((gq_dot h.h0).mpr q)
          have he : gq (sgp p) (i + 1) k = fq (sgp p) k := by unfold gq; rw [if_pos (by omega)]
          rw [if_pos (by simpa using hd), he, bneT]
          exact ⟨by first | rfl | trivial, by first | rfl | trivial, by first | rfl | trivial⟩
      · refine ⟨_, any_false (fun x hx => ?_), ?_⟩
        · obtain ⟨y, hy, e⟩ := List.mem_filterMap.mp hx
          obtain ⟨k, _, rfl⟩ := List.mem_map.mp hy
          cases e; rfl
        · simp only [Wp.pure, Wp.bind, Wp.of, Wp.getS, Wp.gets, Wp.getv, Wp.mS, Wp.moveS, Wp.setU, Wp.setM, Wp.raise, Wp.mV, Wp.m2, Wp.m1, Wp.mB, Wp.mT, Wp.mNot, Wp.ite, Wp.mAnd, Wp.mOr, Wp.mIf, Wp.mNotV, Wp.mAndV, Wp.mOrV, Wp.mCh, Wp.mNil, Wp.mCons, Wp.getAll0, Wp.getAllC, Wp.mCall, Wp.mTup, Wp.mLst, Wp.mCallF, Wp.mNo, Wp.mSome, Wp.mCut, Wp.mM1, Wp.mMethR, Wp.mMeth, Wp.mSeq, Wp.mSkip, Wp.mSet, Wp.mRet, Wp.mDrop, Wp.mAug, Wp.mPar, Wp.mParF, Wp.mAsg, Wp.tgNil, Wp.tgCons, Wp.mSeqI, Wp.mI1, Wp.mI2, List.getElem?_cons_zero, List.getElem?_cons_succ, Option.some.injEq, exists_eq_left', exists_eq_left, W.lst.injEq, List.set_cons_zero, List.set_cons_succ, q_le, q_lt, q_gt, q_ge, q_sub, q_neg, q_eq_int, q_ne_int, q_eq_str, q_ne_str, q_eq_b, q_ne_b, q_b, q_i, q_s, q_l, q_seqS, q_seqL, q_seqT, q_seqN, q_f1, q_f2, q_count_str, q_abs, q_intI, q_isN, q_notN, q_tb, q_ti, q_lenL, q_lenT, q_tuple, if_true, Option.bind_some, Bool.false_eq_true, if_false]
          refine Wp.comp (fun w => match w with | .int _ => some (.bl false) | _ => none) ((List.range (min 200 (LP p i).1)).map fun k : Nat => W.int (k : Int)) (szOk_of (by rw [List.length_map, List.length_range]; omega)) ?_ (fun x hx => ?_) ?_
          · have em : (if (((LP p i).1 : Nat) : Int) < 200 then (((LP p i).1 : Nat) : Int) else 200) = ((min 200 (LP p i).1 : Nat) : Int) := by split <;> omega
            simp only [Wp.pure, Wp.bind, Wp.of, Wp.getS, Wp.gets, Wp.getv, Wp.mS, Wp.moveS, Wp.setU, Wp.setM, Wp.raise, Wp.mV, Wp.m2, Wp.m1, Wp.mB, Wp.mT, Wp.mNot, Wp.ite, Wp.mAnd, Wp.mOr, Wp.mIf, Wp.mNotV, Wp.mAndV, Wp.mOrV, Wp.mCh, Wp.mNil, Wp.mCons, Wp.getAll0, Wp.getAllC, Wp.mCall, Wp.mTup, Wp.mLst, Wp.mCallF, Wp.mNo, Wp.mSome, Wp.mCut, Wp.mM1, Wp.mMethR, Wp.mMeth, Wp.mSeq, Wp.mSkip, Wp.mSet, Wp.mRet, Wp.mDrop, Wp.mAug, Wp.mPar, Wp.mParF, Wp.mAsg, Wp.tgNil, Wp.tgCons, Wp.mSeqI, Wp.mI1, Wp.mI2, List.getElem?_cons_zero, List.getElem?_cons_succ, Option.some.injEq, exists_eq_left', exists_eq_left, W.lst.injEq, List.set_cons_zero, List.set_cons_succ, q_le, q_lt, q_gt, q_ge, q_sub, q_neg, q_eq_int, q_ne_int, q_eq_str, q_ne_str, q_eq_b, q_ne_b, q_b, q_i, q_s, q_l, q_seqS, q_seqL, q_seqT, q_seqN, q_f1, q_f2, q_count_str, q_abs, q_intI, q_isN, q_notN, q_tb, q_ti, q_lenL, q_lenT, q_tuple, if_true, Option.bind_some, q_len_str hsz, lay_len, q_min2, em]
            exact ⟨_, q_rng1_n (by omega), rfl, trivial, trivial⟩
          · obtain ⟨k, hk, rfl⟩ := List.mem_map.mp hx
            rw [List.mem_range] at hk
            have hg1 : (lay p i)[k]? = some (gq (sgp p) (i + 1) k) := lay_get (by omega)
            have same : ([gq (sgp p) (i + 1) k] == [46]) = decide (((i + 1 : Nat) : Int) ≤ ((dq (sgp p) k : Nat) : Int)) := by
              rw [Bool.eq_iff_iff, decide_eq_true_eq, beq_iff_eq]
              have := gq_dot h.h0 (m := i + 1) (k := k)
              constructor
              · intro q
                have := this.mp (List.cons.inj q).1
                omega
              · intro q
                rw [this.mpr (by omega)]
            simp only [wipeR, mTrue, Wp.pure, Wp.bind, Wp.of, Wp.getS, Wp.gets, Wp.getv, Wp.mS, Wp.moveS, Wp.setU, Wp.setM, Wp.raise, Wp.mV, Wp.m2, Wp.m1, Wp.mB, Wp.mT, Wp.mNot, Wp.ite, Wp.mAnd, Wp.mOr, Wp.mIf, Wp.mNotV, Wp.mAndV, Wp.mOrV, Wp.mCh, Wp.mNil, Wp.mCons, Wp.getAll0, Wp.getAllC, Wp.mCall, Wp.mTup, Wp.mLst, Wp.mCallF, Wp.mNo, Wp.mSome, Wp.mCut, Wp.mM1, Wp.mMethR, Wp.mMeth, Wp.mSeq, Wp.mSkip, Wp.mSet, Wp.mRet, Wp.mDrop, Wp.mAug, Wp.mPar, Wp.mParF, Wp.mAsg, Wp.tgNil, Wp.tgCons, Wp.mSeqI, Wp.mI1, Wp.mI2, List.getElem?_cons_zero, List.getElem?_cons_succ, Option.some.injEq, exists_eq_left', exists_eq_left, W.lst.injEq, List.set_cons_zero, List.set_cons_succ, q_le, q_lt, q_gt, q_ge, q_sub, q_neg, q_eq_int, q_ne_int, q_eq_str, q_ne_str, q_eq_b, q_ne_b, q_b, q_i, q_s, q_l, q_seqS, q_seqL, q_seqT, q_seqN, q_f1, q_f2, q_count_str, q_abs, q_intI, q_isN, q_notN, q_tb, q_ti, q_lenL, q_lenT, q_tuple, if_true, Option.bind_some, q_ix_str hg1 hsz, Wp.callF (depth_ok h (show k ≤ 1000000000 by omega) _), same]
            rw [show (!(decide (((i + 1 : Nat) : Int) ≤ ((dq (sgp p) k : Nat) : Int)) == decide (((i + 1 : Nat) : Int) ≤ ((dq (sgp p) k : Nat) : Int)))) = false by simp]
            exact ⟨by first | rfl | trivial, by first | rfl | trivial, by first | rfl | trivial⟩
          · refine ⟨_, any_false (fun x hx => ?_), ?_⟩
            · obtain ⟨y, hy, e⟩ := List.mem_filterMap.mp hx
              obtain ⟨k, _, rfl⟩ := List.mem_map.mp hy
              cases e; rfl
            · simp only [Wp.pure, Wp.bind, Wp.of, Wp.getS, Wp.gets, Wp.getv, Wp.mS, Wp.moveS, Wp.setU, Wp.setM, Wp.raise, Wp.mV, Wp.m2, Wp.m1, Wp.mB, Wp.mT, Wp.mNot, Wp.ite, Wp.mAnd, Wp.mOr, Wp.mIf, Wp.mNotV, Wp.mAndV, Wp.mOrV, Wp.mCh, Wp.mNil, Wp.mCons, Wp.getAll0, Wp.getAllC, Wp.mCall, Wp.mTup, Wp.mLst, Wp.mCallF, Wp.mNo, Wp.mSome, Wp.mCut, Wp.mM1, Wp.mMethR, Wp.mMeth, Wp.mSeq, Wp.mSkip, Wp.mSet, Wp.mRet, Wp.mDrop, Wp.mAug, Wp.mPar, Wp.mParF, Wp.mAsg, Wp.tgNil, Wp.tgCons, Wp.mSeqI, Wp.mI1, Wp.mI2, List.getElem?_cons_zero, List.getElem?_cons_succ, Option.some.injEq, exists_eq_left', exists_eq_left, W.lst.injEq, List.set_cons_zero, List.set_cons_succ, q_le, q_lt, q_gt, q_ge, q_sub, q_neg, q_eq_int, q_ne_int, q_eq_str, q_ne_str, q_eq_b, q_ne_b, q_b, q_i, q_s, q_l, q_seqS, q_seqL, q_seqT, q_seqN, q_f1, q_f2, q_count_str, q_abs, q_intI, q_isN, q_notN, q_tb, q_ti, q_lenL, q_lenT, q_tuple, if_true, Option.bind_some, Bool.false_eq_true, if_false]
              exact ⟨rfl, _, _, _, _, _, rfl⟩
  · obtain ⟨rfl, x4, x5, x6, x7, x8, rfl⟩ := hI
    simp only [Wp.pure, Wp.bind, Wp.of, Wp.getS, Wp.gets, Wp.getv, Wp.mS, Wp.moveS, Wp.setU, Wp.setM, Wp.raise, Wp.mV, Wp.m2, Wp.m1, Wp.mB, Wp.mT, Wp.mNot, Wp.ite, Wp.mAnd, Wp.mOr, Wp.mIf, Wp.mNotV, Wp.mAndV, Wp.mOrV, Wp.mCh, Wp.mNil, Wp.mCons, Wp.getAll0, Wp.getAllC, Wp.mCall, Wp.mTup, Wp.mLst, Wp.mCallF, Wp.mNo, Wp.mSome, Wp.mCut, Wp.mM1, Wp.mMethR, Wp.mMeth, Wp.mSeq, Wp.mSkip, Wp.mSet, Wp.mRet, Wp.mDrop, Wp.mAug, Wp.mPar, Wp.mParF, Wp.mAsg, Wp.tgNil, Wp.tgCons, Wp.mSeqI, Wp.mI1, Wp.mI2, List.getElem?_cons_zero, List.getElem?_cons_succ, Option.some.injEq, exists_eq_left', exists_eq_left, W.lst.injEq, List.set_cons_zero, List.set_cons_succ]
    exact ⟨.inl trivial, trivial⟩
end K56
set_option Elab.async false
set_option linter.all false
set_option maxRecDepth 100000
set_option maxHeartbeats 4000000
set_option exponentiation.threshold 9000
namespace K56
open PySem PySem.Spec L2 Mp
open PyProof.Rows hiding St
theorem tapeE {ns : List Int} (h : ns.length ≤ 63) : ∃ w, IsTape w ∧ fn__law_tape [.scr ns] [] = .ok (.obj 0) [] [w] := tape_ok h
theorem d5 : ∀ v, v < 5 → ∃ c, ([48, 49, 50, 51, 46] : List Nat)[v]? = some c ∧ (dg c ∨ c = 46) := fun v hv => by
  match v, hv with
  | 0, _ => exact ⟨48, rfl, .inl (.inl rfl)⟩
  | 1, _ => exact ⟨49, rfl, .inl (.inr (.inl rfl))⟩
  | 2, _ => exact ⟨50, rfl, .inl (.inr (.inr (.inl rfl)))⟩
  | 3, _ => exact ⟨51, rfl, .inl (.inr (.inr (.inr rfl)))⟩
  | 4, _ => exact ⟨46, rfl, .inr rfl⟩
theorem d4 : ∀ v, v < 4 → ∃ c, ([48, 49, 50, 51] : List Nat)[v]? = some c ∧ dg c := fun v hv => by
  match v, hv with
  | 0, _ => exact ⟨48, rfl, .inl rfl⟩
  | 1, _ => exact ⟨49, rfl, .inr (.inl rfl)⟩
  | 2, _ => exact ⟨50, rfl, .inr (.inr (.inl rfl))⟩
  | 3, _ => exact ⟨51, rfl, .inr (.inr (.inr rfl))⟩
theorem set_n {l : List W} {k : Nat} {v : W} (h : k < l.length) : wSetL (.lst l) (.int (k : Int)) v = some (.lst (l.set k v)) := by
  have e : ixN l.length (k : Int) = some k := by
    unfold ixN
    rw [if_pos (by omega), if_pos (by omega)]
    simp
  show (ixN l.length (k : Int)).map (fun j => W.lst (l.set j v)) = _
  rw [e]; rfl
theorem Wp.mLPut {ρ : Sl} {G : List W} {E : Nat → List W → Prop} {i : Nat} {mk : M Opd} {mv : M W} {Q : Fl → Sl → List W → Prop} : Wp (Mp.mLPut i mk mv) ρ G Q E = Wp mv ρ G (fun v ρ G => ∃ w0, ρ[i]? = some (some w0) ∧ Wp mk ρ G (fun ok ρ G => ∃ x, ρ[i]? = some (some x) ∧ Wp ok.get ρ G (fun y ρ G => ∃ w, wSetL x y v = some w ∧ ∃ w1, ρ[i]? = some (some w1) ∧ Q .nx (ρ.set i (some w)) G) E) E) E := by
  unfold Mp.mLPut; simp only [Wp.bind, Wp.of, Wp.mS, Wp.gets, Wp.setM, Wp.pure]
theorem sets_map (l : List Nat) (k c : Nat) : (l.map fun c => W.str [c]).set k (.str [c]) = (l.set k c).map fun c => W.str [c] := by
  rw [List.map_set]
theorem Wp.seq {ρ : Sl} {G : List W} {E : Nat → List W → Prop} {a b : M Fl} {Q : Fl → Sl → List W → Prop} (R : Sl → List W → Prop) (h1 : Wp a ρ G (fun f ρ G => f = .nx ∧ R ρ G) E) (h2 : ∀ ρ G, R ρ G → Wp b ρ G Q E) : Wp (Mp.mSeq a b) ρ G Q E := by
  rw [Wp.mSeq]
  exact h1.imp (fun f ρ G ⟨e, h⟩ => by subst e; exact h2 ρ G h) fun _ _ h => h
/-- the holes as the law lists them -/
theorem holes_fm {p : List Nat} : ∀ n, n ≤ p.length → ((List.range n).map fun k : Nat => W.int (k : Int)).filterMap (fun w => match w with | .int i => if sgp p i.toNat = 46 then some (W.int i) else none | _ => none) = hl (sgp p) n
  | 0, _ => rfl
  | n + 1, h => by
    rw [List.range_succ, List.map_append, List.filterMap_append, holes_fm n (by omega), hl_succ]
    congr 1
    simp only [List.map_cons, List.map_nil, List.filterMap_cons, List.filterMap_nil, Int.toNat_natCast]
    split <;> simp_all
def m_rest : M Fl :=
  (mSeq (mSet 4 (mM1 wJoin (M.pure (.str [])) (mS 3)))
  (mSeq (mSet 5 (mLc Mu_law [9] (mI1 rng1 (mCons (mS 2) mNil)) (setU 9) (mB (m2 wEq (mV (m2 wIx (mS 4) (mS 9))) (mV (M.pure (.str [46]))))) (getS 9)))
  (mSeq (mSet 6 (mCallF fn_filled (mCons (getS 4) (mCons (M.pure (.int 400)) mNil))))
  (mSeq (mParF 7 8 (mCall (f1 wListS) (mCons (mV (M.pure (.str [48, 49, 50, 51]))) mNil)) (M.pure (.str [])))
  (mSeq (M.bind (mI1 rng1 (mCons (mV (M.pure (.int 4))) mNil)) fun ws => mFor (setU 9)
  (mSet 8 (m2 wAdd (mS 8) (mV (mMeth fPopAt 7 (mCons (mCallF fn__law_take (mCons (getS 1) (mCons (mCall (f1 wLen) (mCons (mS 7) mNil)) mNil))) mNil))))) ws)
  (mSeq (mIf (mOr (mB (m2 wNe (mV (mCallF fn_filled (mCons (mCallF fn__law_named (mCons (getS 4) (mCons (getS 8) mNil))) (mCons (M.pure (.int 400)) mNil)))) (mV (mCallF fn__law_named (mCons (getS 6) (mCons (getS 8) mNil)))))) (mB (m2 wNe (mV (mCallF fn_filled (mCons (m2 wAdd (mS 4) (mS 4)) (mCons (M.pure (.int 400)) mNil)))) (mS 6))))
  (mRet (M.pure (.bl false)))
  mSkip)
  (mSeq (mSet 10 (mCallF fn__law_take (mCons (getS 1) (mCons (M.pure (.int 401)) mNil))))
  (mSeq (mIf (mOr (mB (m2 wNe (mV (mCallF fn_filled (mCons (getS 4) (mCons (getS 10) mNil)))) (mV (mCut wCut (mS 6) mNo (mSome (mS 10)))))) (mB (m2 wNe (mV (mCallF fn_filled (mCons (getS 4) (mCons (M.pure (.int 0)) mNil)))) (mV (M.pure (.str []))))))
  (mRet (M.pure (.bl false)))
  mSkip)
  (mSeq (mSet 11 (mM1 wJoin (M.pure (.str [])) (mV (mLc Mu_law [9] (mI1 rng1 (mCons (mV (M.pure (.int 400))) mNil)) (setU 9) (mB (m2 wIn (mV (m2 wMod (mV (mCall (f1 wInt) (mCons (mS 9) mNil))) (mS 2))) (mS 5))) (m2 wIx (mS 6) (mS 9))))))
  (mSeq (mIf (mOr (mB (m2 wNe (mS 11) (mV (mCut wCut (mS 6) mNo (mSome (mV (mCall (f1 wLen) (mCons (mS 11) mNil)))))))) (mT (mV (mCall (f1 wAny) (mCons (mV (mLc Mu_law [9] (mI1 rng1 (mCons (mV (M.pure (.int 400))) mNil)) (setU 9) mTrue (mAndV (m2 wNe (mV (m2 wIx (mS 4) (mV (m2 wMod (mV (mCall (f1 wInt) (mCons (mS 9) mNil))) (mS 2))))) (mV (M.pure (.str [46])))) (m2 wNe (mV (m2 wIx (mS 6) (mS 9))) (mV (m2 wIx (mS 4) (mV (m2 wMod (mV (mCall (f1 wInt) (mCons (mS 9) mNil))) (mS 2))))))))) mNil)))))
  (mRet (M.pure (.bl false)))
  mSkip)
  (mSeq (mSet 12 (mCallF fn_sums_at (mCons (getS 4) (mCons (getS 10) mNil))))
  (mSeq (mIf (mOr (mB (m2 wNe (mV (mCall (f1 wSumA) (mCons (mS 12) mNil))) (mS 10))) (mB (m2 wNe (mS 12) (mV (mCall (f1 wTuple) (mCons (mV (mLc Mu_law [17] (mSeqI (M.pure (.str [48, 49, 50, 51]))) (setU 17) mTrue (mCall (f1 wLen) (mCons (mV (mLc (MuB Mu_law [17]) [18] (mSeqI (mCut wCut (mS 6) mNo (mSome (mS 10)))) (setU 18) (mB (m2 wEq (mS 18) (mS 17))) (getS 18))) mNil)))) mNil))))))
  (mRet (M.pure (.bl false)))
  mSkip)
  (mSeq (mIf (mT (mV (mCall (f1 wAny) (mCons (mV (mLc Mu_law [19, 20] (mSeqI (mCall (f2 wListZip) (mCons (mS 12) (mCons (mV (mCallF fn_sums_at (mCons (getS 4) (mCons (M.pure (.int 400)) mNil)))) mNil)))) (tgTup 2 (tgCons (setU 19) (tgCons (setU 20) tgNil))) mTrue (m2 wGt (mS 19) (mS 20)))) mNil))))
  (mRet (M.pure (.bl false)))
  mSkip)
  (mSeq (mIf (mOr (mNot (mT (mV (mCallF fn__law_places_right (mCons (getS 1) (mCons (getS 4) (mCons (getS 8) (mCons (getS 5) mNil)))))))) (mNot (mT (mV (mCallF fn__law_layers_right (mCons (getS 4) (mCons (getS 6) (mCons (getS 5) mNil))))))))
  (mRet (M.pure (.bl false)))
  mSkip)
  (mSeq (mIf (mB (m2 wNe (mV (mCallF fn_sign_at (mCons (getS 4) (mCons (getS 10) mNil)))) (mV (m2 wIx (mV (mCallF fn_filled (mCons (getS 4) (mCons (m2 wAdd (mS 10) (mV (M.pure (.int 1)))) mNil)))) (mS 10)))))
  (mRet (M.pure (.bl false)))
  mSkip)
  (mSeq (mSet 13 (m2 wAdd (mV (mM1 wJoin (M.pure (.str [])) (mV (mLc Mu_law [9] (mI1 rng1 (mCons (mV (m2 wSub (mS 2) (mV (M.pure (.int 1))))) mNil)) (setU 9) mTrue (m2 wIx (mV (M.pure (.str [48, 49, 50, 51]))) (mV (m2 wMod (mV (mCall (f1 wInt) (mCons (mS 9) mNil))) (mV (M.pure (.int 4)))))))))) (mV (M.pure (.str [46])))))
  (mSeq (mSet 14 (mCallF fn__law_take (mCons (getS 1) (mCons (M.pure (.int 1000000)) mNil))))
  (mSeq (mPar 15 16 (mCons (getS 14) (mCons (M.pure (.int 0)) mNil)))
  (mSeq (M.bind (mI1 rng1 (mCons (mV (M.pure (.int 40))) mNil)) fun ws => mFor (setU 9)
  (mSeq (mIf (mB (m2 wNe (mV (m2 wMod (mV (mCall (f1 wInt) (mCons (mS 15) mNil))) (mS 2))) (mV (m2 wSub (mS 2) (mV (M.pure (.int 1)))))))
  (M.pure .bk)
  mSkip)
  (mPar 15 16 (mCons (m2 wDiv (mS 15) (mS 2)) (mCons (m2 wAdd (mS 16) (mV (M.pure (.int 1)))) mNil)))) ws)
  (mRet (mAndV (m2 wEq (mV (mCallF fn_sign_at (mCons (getS 13) (mCons (getS 14) mNil)))) (mV (m2 wIx (mV (M.pure (.str [48, 49, 50, 51]))) (mV (m2 wMod (mV (mCall (f1 wInt) (mCons (mV (m2 wMod (mV (mCall (f1 wInt) (mCons (mS 15) mNil))) (mS 2))) mNil))) (mV (M.pure (.int 4)))))))) (m2 wEq (mV (mCallF fn_depth_at (mCons (getS 13) (mCons (getS 14) mNil)))) (mS 16)))))))))))))))))))))))
--def B7 = .scr zs; .obj 0; .int (p.length : Int); .lst (p.map fun c => W.str [c]); .str p; .lst (hl (sgp p) p.length); .str (fl p 400)
--def B13 = .scr zs; .obj 0; .int (p.length : Int); .lst (p.map fun c => W.str [c]); .str p; .lst (hl (sgp p) p.length); .str (fl p 400); .lst []; .str ns; !x9; .int (few : Int); .str (fl p (Dq (sgp p) 400)); .tup [.int ((fl p few).count 48 : Nat), .int ((fl p few).count 49 : Nat), .int ((fl p few).count 50 : Nat), .int ((fl p few).count 51 : Nat)]
--def B9 = .scr zs; .obj 0; .int (p.length : Int); .lst (p.map fun c => W.str [c]); .str p; .lst (hl (sgp p) p.length); .str (fl p 400); .lst []; .str ns; !x9
theorem erase_map {α β : Type} (f : α → β) : ∀ (l : List α) (k : Nat), (l.map f).eraseIdx k = (l.eraseIdx k).map f
  | [], _ => rfl
  | _ :: _, 0 => rfl
  | a :: l, k + 1 => by
    show f a :: (l.map f).eraseIdx k = _
    rw [erase_map f l k]; rfl
theorem popAt_ok {l : List Nat} {v c : Nat} (h : l[v]? = some c) (hl : l.length ≤ 4) : fPopAt (l.map fun c => W.str [c]) [.int (v : Int)] = some (.str [c], (l.eraseIdx v).map fun c => W.str [c]) := by
  have hv := (List.getElem?_eq_some_iff.mp h).1
  have e : seqIndex? (v : Int) (l.map fun c => W.str [c]).length = some v := by
    unfold seqIndex?
    rw [List.length_map]
    have h1 : ¬ ((v : Int) < 0) := by omega
    simp only [h1, if_false]
    rw [if_pos (by simp; omega), Int.toNat_natCast]
  have d1 : decide (-(2 ^ 63) ≤ (v : Int)) = true := decide_eq_true (by omega)
  have d2 : decide ((v : Int) < 2 ^ 63) = true := decide_eq_true (by omega)
  unfold fPopAt
  simp only [d1, d2, e, Bool.and_self, if_true, Option.bind_some, List.getElem?_map, h, Option.map_some, erase_map]
theorem hl_any (s : Nat → Nat) (r : Nat) : ∀ n : Nat, (hl s n).any (fun y => eqW y (.int (r : Int))) = (decide (r < n) && decide (s r = 46))
  | 0 => by simp [hl]
  | n + 1 => by
    rw [hl_succ, List.any_append, hl_any s r n]
    by_cases hs : s n = 46
    · rw [if_pos hs, List.any_cons, List.any_nil, Bool.or_false]
      have : eqW (.int (n : Int)) (.int (r : Int)) = decide (n = r) := by
        show ((n : Int) == (r : Int)) = _
        rw [Bool.eq_iff_iff]; simp; omega
      rw [this]
      by_cases e : n = r
      · subst e; simp [hs]
      · rw [decide_eq_false e, Bool.or_false, Bool.eq_iff_iff]
        simp only [Bool.and_eq_true, decide_eq_true_eq]
        constructor
        · rintro ⟨a, b⟩; exact ⟨by omega, b⟩
        · rintro ⟨a, b⟩; exact ⟨by omega, b⟩
    · rw [if_neg hs, List.any_nil, Bool.or_false, Bool.eq_iff_iff]
      simp only [Bool.and_eq_true, decide_eq_true_eq]
      constructor
      · rintro ⟨a, b⟩; exact ⟨by omega, b⟩
      · rintro ⟨a, b⟩
        have : r ≠ n := fun q => hs (q ▸ b)
        exact ⟨by omega, b⟩
theorem hl_in {s : Nat → Nat} {n r : Nat} (hr : r < n) : wIn (.int (r : Int)) (.lst (hl s n)) = some (.bl (decide (s r = 46))) := by
  show (if flatW (.int (r : Int)) && (hl s n).all flatW then some ((hl s n).any fun y => eqW y (.int (r : Int))) else none).map W.bl = _
  rw [hl_flat, hl_any, decide_eq_true hr]
  rfl
theorem sgp_mod {p : List Nat} (hp : 0 < p.length) (v : Nat) : sgp p (v % p.length) = sgp p v := by
  have e1 := sgp_get hp (v % p.length)
  have e2 := sgp_get hp v
  rw [Nat.mod_mod, e2] at e1
  exact (Option.some.inj e1).symm
theorem fl_take {p : List Nat} {k L : Nat} (h : k ≤ L) : (fl p L).take k = fl p k := by
  unfold fl
  rw [← List.map_take, List.take_range, Nat.min_eq_left h]
theorem fl_named {p ns : List Nat} (h : OkP p) (hn : OkN ns) (L : Nat) : fl (p.map (nm ns)) L = (fl p L).map (nm ns) := by
  unfold fl
  rw [List.map_map]
  exact List.map_congr_left fun k _ => (named_fq h hn k).1
theorem fl_twice {p : List Nat} (h : OkP p) (L : Nat) : fl (p ++ p) L = fl p L := by
  unfold fl; rw [sgp_twice p h.pos]
theorem fl_dg {p : List Nat} (h : OkP p) (L : Nat) : ∀ c ∈ fl p L, dg c ∨ c = 46 := fun c hc => by
  obtain ⟨k, _, rfl⟩ := List.mem_map.mp hc
  exact .inl (h.fdg k)
theorem filled400 {p : List Nat} (h : OkP p) (G : List W) : fn_filled [.str p, .int 400] G = .ok (.str (fl p 400)) [] G := filled_ok h (L := 400) (by decide) G
theorem filled0 {p : List Nat} (h : OkP p) (G : List W) : fn_filled [.str p, .int 0] G = .ok (.str []) [] G := filled_ok h (L := 0) (by decide) G
/-- the signs at holes are the row itself -/
theorem dots_fm {p : List Nat} (h : OkP p) : ∀ n, ((List.range n).map fun k : Nat => W.int (k : Int)).filterMap (fun w => match w with | .int i => if sgp p i.toNat = 46 then some (W.str [fq (sgp p) i.toNat]) else none | _ => none) = (fl p (Dq (sgp p) n)).map fun c => W.str [c]
  | 0 => rfl
  | n + 1 => by
    rw [List.range_succ, List.map_append, List.filterMap_append, dots_fm h n, Dq_succ]
    simp only [List.map_cons, List.map_nil, List.filterMap_cons, List.filterMap_nil, Int.toNat_natCast]
    by_cases hs : sgp p n = 46
    · rw [if_pos hs, if_pos hs, fl_succ, List.map_append, fq_dot h.h0 hs]; rfl
    · rw [if_neg hs, if_neg hs]; simp
theorem cnt_all : ∀ l : List Nat, (∀ c ∈ l, dg c) → l.count 48 + (l.count 49 + (l.count 50 + l.count 51)) = l.length
  | [], _ => rfl
  | c :: l, h => by
    have ih := cnt_all l fun c hc => h c (List.mem_cons_of_mem _ hc)
    rw [List.length_cons]
    rcases h c List.mem_cons_self with rfl | rfl | rfl | rfl <;> simp [List.count_cons] <;> omega
theorem sum4 {a b c d : Nat} : wSumA (.tup [.int (a : Int), .int (b : Int), .int (c : Int), .int (d : Int)]) = some (.int ((a + (b + (c + d)) : Nat) : Int)) := by
  show some (W.int (List.sum [(a : Int), (b : Int), (c : Int), (d : Int)])) = _
  simp only [List.sum_cons, List.sum_nil]
  congr 2
theorem cnt_fm (c : Nat) : ∀ l : List Nat, ((l.map fun d => W.str [d]).filterMap fun w => match w with | .str [d] => if d = c then some (W.str [d]) else none | _ => none).length = l.count c
  | [] => rfl
  | d :: l => by
    have ih := cnt_fm c l
    rw [List.map_cons, List.count_cons]
    by_cases e : d = c
    · rw [List.filterMap_cons_some (b := W.str [d]) (by dsimp only; rw [if_pos e]), List.length_cons, ih]; simp [e]
    · rw [List.filterMap_cons_none (by dsimp only; rw [if_neg e]), ih]; simp [e]
theorem fl_cnt {p : List Nat} {k L c : Nat} (h : k ≤ L) : (fl p k).count c ≤ (fl p L).count c := by
  rw [← fl_take h]
  exact (List.take_sublist _ _).count_le c
/-! ### one dot alone -/
def sgl (n : Nat) : List Nat := (List.range n).map (fun k => 48 + k % 4) ++ [46]
theorem sgl_len (n : Nat) : (sgl n).length = n + 1 := by unfold sgl; simp
theorem sgl_get {n k : Nat} (h : k < n) : (sgl n)[k]? = some (48 + k % 4) := by
  unfold sgl
  rw [List.getElem?_append_left (by simpa using h)]
  simp [h]
theorem sgl_last (n : Nat) : (sgl n)[n]? = some 46 := by
  unfold sgl
  rw [List.getElem?_append_right (by simp)]
  simp
theorem dg4 (k : Nat) : dg (48 + k % 4) := by
  have : k % 4 < 4 := Nat.mod_lt _ (by decide)
  unfold dg; omega
theorem sgl_ok {n : Nat} (h1 : 1 ≤ n) (h2 : n ≤ 4) : OkP (sgl n) :=
  ⟨by rw [sgl_len]; omega, by rw [sgl_len]; omega, fun c hc => by
    unfold sgl at hc
    rcases List.mem_append.mp hc with hc | hc
    · obtain ⟨k, _, rfl⟩ := List.mem_map.mp hc
      exact .inl (dg4 k)
    · exact .inr (List.mem_singleton.mp hc), (by rw [sgl_get (by omega)]; intro q; cases q), (by unfold sgl; simp)⟩
theorem sgl_at {n : Nat} (k : Nat) : sgp (sgl n) k = if k % (n + 1) = n then 46 else 48 + k % (n + 1) % 4 := by
  have e := sgp_get (p := sgl n) (by rw [sgl_len]; omega) k
  rw [sgl_len] at e
  by_cases h : k % (n + 1) = n
  · rw [if_pos h]
    rw [h, sgl_last] at e
    exact (Option.some.inj e).symm
  · rw [if_neg h]
    have : k % (n + 1) < n + 1 := Nat.mod_lt _ (by omega)
    rw [sgl_get (by omega)] at e
    exact (Option.some.inj e).symm
theorem sgl_D (n : Nat) : ∀ k, Dq (sgp (sgl n)) k = k / (n + 1)
  | 0 => by simp [Dq]
  | k + 1 => by
    rw [Dq_succ, sgl_D n k, sgl_at, Nat.succ_div]
    have e : (n + 1 ∣ k + 1) ↔ k % (n + 1) = n := by
      rw [Nat.dvd_iff_mod_eq_zero]
      have h1 : k % (n + 1) < n + 1 := Nat.mod_lt _ (by omega)
      have h2 : (k + 1) % (n + 1) = if k % (n + 1) = n then 0 else k % (n + 1) + 1 := by
        by_cases h0 : n = 0
        · subst h0; show (k + 1) % 1 = if k % 1 = 0 then 0 else _; rw [Nat.mod_one, Nat.mod_one, if_pos rfl]
        rw [Nat.add_mod, Nat.mod_eq_of_lt (show 1 < n + 1 by omega)]
        split
        · rename_i q; rw [q]; simp
        · rw [Nat.mod_eq_of_lt (by omega)]
      rw [h2]; split
      · simp [*]
      · simp; assumption
    by_cases h : k % (n + 1) = n
    · rw [if_pos h, if_pos rfl, if_pos (e.mpr h)]
    · rw [if_neg h, if_neg (fun q => h (e.mp q))]
      rw [if_neg]
      intro q
      have := dg4 (k % (n + 1))
      rw [q] at this
      rcases this with q | q | q | q <;> cases q
theorem dg_lt {c : Nat} (h : dg c) : c < 46 ∨ 46 < c := by unfold dg at h; omega
theorem law_rest {zs : List Int} {p : List Nat} (h : OkP p) (h5 : p.length ≤ 5) {w : W} (t : IsTape w) : Wp m_rest [some (.scr zs), some (.obj 0), some (.int (p.length : Int)), some (.lst (p.map fun c => W.str [c])), none, none, none, none, none, none, none, none, none, none, none, none, none, none, none, none, none] [w] (fun fl _ G1 => ∃ r, fl = .rt r ∧ r = .bl true) (fun _ _ => False) := by
  unfold m_rest
  have hlo := h.lo
  have hfz : (fl p 400).length ≤ 16777216 := by rw [fl_len]; decide
  have hpp : p.length + p.length ≤ 16777216 := by omega
  refine Wp.seq (fun ρ G => G = [w] ∧ ρ = [some (.scr zs), some (.obj 0), some (.int (p.length : Int)), some (.lst (p.map fun c => W.str [c])), some (.str p), none, none, none, none, none, none, none, none, none, none, none, none, none, none, none, none]) ?_ ?_
  · simp only [Wp.pure, Wp.bind, Wp.of, Wp.getS, Wp.gets, Wp.getv, Wp.mS, Wp.moveS, Wp.setU, Wp.setM, Wp.raise, Wp.mV, Wp.m2, Wp.m1, Wp.mB, Wp.mT, Wp.mNot, Wp.ite, Wp.mAnd, Wp.mOr, Wp.mIf, Wp.mNotV, Wp.mAndV, Wp.mOrV, Wp.mCh, Wp.mNil, Wp.mCons, Wp.getAll0, Wp.getAllC, Wp.mCall, Wp.mTup, Wp.mLst, Wp.mCallF, Wp.mNo, Wp.mSome, Wp.mCut, Wp.mM1, Wp.mMethR, Wp.mMeth, Wp.mSkip, Wp.mSet, Wp.mRet, Wp.mDrop, Wp.mAug, Wp.mPar, Wp.mParF, Wp.mAsg, Wp.tgNil, Wp.tgCons, Wp.mSeqI, Wp.mI1, Wp.mI2, List.getElem?_cons_zero, List.getElem?_cons_succ, Option.some.injEq, exists_eq_left', exists_eq_left, W.lst.injEq, List.set_cons_zero, List.set_cons_succ, q_le, q_lt, q_gt, q_ge, q_sub, q_neg, q_eq_int, q_ne_int, q_eq_str, q_ne_str, q_eq_b, q_ne_b, q_b, q_i, q_s, q_l, q_seqS, q_seqL, q_seqT, q_seqN, q_f1, q_f2, q_count_str, q_abs, q_intI, q_isN, q_notN, q_tb, q_ti, q_lenL, q_lenT, q_tuple, if_true, Option.bind_some, q_join_signs h.sz]
    exact ⟨by first | rfl | trivial, by first | rfl | trivial, by first | rfl | trivial⟩
  rintro _ _ ⟨rfl, rfl⟩
  refine Wp.seq (fun ρ G => G = [w] ∧ ρ = [some (.scr zs), some (.obj 0), some (.int (p.length : Int)), some (.lst (p.map fun c => W.str [c])), some (.str p), some (.lst (hl (sgp p) p.length)), none, none, none, none, none, none, none, none, none, none, none, none, none, none, none]) ?_ ?_
  · rw [Wp.mSet]
    refine Wp.comp (fun w => match w with | .int i => if sgp p i.toNat = 46 then some (W.int i) else none | _ => none) ((List.range p.length).map fun k : Nat => W.int (k : Int)) (szOk_of (by rw [List.length_map, List.length_range]; exact h.sz)) (by simp only [Wp.pure, Wp.bind, Wp.of, Wp.getS, Wp.gets, Wp.getv, Wp.mS, Wp.moveS, Wp.setU, Wp.setM, Wp.raise, Wp.mV, Wp.m2, Wp.m1, Wp.mB, Wp.mT, Wp.mNot, Wp.ite, Wp.mAnd, Wp.mOr, Wp.mIf, Wp.mNotV, Wp.mAndV, Wp.mOrV, Wp.mCh, Wp.mNil, Wp.mCons, Wp.getAll0, Wp.getAllC, Wp.mCall, Wp.mTup, Wp.mLst, Wp.mCallF, Wp.mNo, Wp.mSome, Wp.mCut, Wp.mM1, Wp.mMethR, Wp.mMeth, Wp.mSkip, Wp.mSet, Wp.mRet, Wp.mDrop, Wp.mAug, Wp.mPar, Wp.mParF, Wp.mAsg, Wp.tgNil, Wp.tgCons, Wp.mSeqI, Wp.mI1, Wp.mI2, List.getElem?_cons_zero, List.getElem?_cons_succ, Option.some.injEq, exists_eq_left', exists_eq_left, W.lst.injEq, List.set_cons_zero, List.set_cons_succ]; exact ⟨_, q_rng1_n (by omega), rfl, trivial, trivial⟩) (fun x hx => ?_) ?_
    · obtain ⟨k, hk, rfl⟩ := List.mem_map.mp hx
      rw [List.mem_range] at hk
      have e := sgp_get h.pos k
      rw [Nat.mod_eq_of_lt hk] at e
      simp only [wipeR, mTrue, Wp.pure, Wp.bind, Wp.of, Wp.getS, Wp.gets, Wp.getv, Wp.mS, Wp.moveS, Wp.setU, Wp.setM, Wp.raise, Wp.mV, Wp.m2, Wp.m1, Wp.mB, Wp.mT, Wp.mNot, Wp.ite, Wp.mAnd, Wp.mOr, Wp.mIf, Wp.mNotV, Wp.mAndV, Wp.mOrV, Wp.mCh, Wp.mNil, Wp.mCons, Wp.getAll0, Wp.getAllC, Wp.mCall, Wp.mTup, Wp.mLst, Wp.mCallF, Wp.mNo, Wp.mSome, Wp.mCut, Wp.mM1, Wp.mMethR, Wp.mMeth, Wp.mSeq, Wp.mSkip, Wp.mSet, Wp.mRet, Wp.mDrop, Wp.mAug, Wp.mPar, Wp.mParF, Wp.mAsg, Wp.tgNil, Wp.tgCons, Wp.mSeqI, Wp.mI1, Wp.mI2, List.getElem?_cons_zero, List.getElem?_cons_succ, Option.some.injEq, exists_eq_left', exists_eq_left, W.lst.injEq, List.set_cons_zero, List.set_cons_succ, q_le, q_lt, q_gt, q_ge, q_sub, q_neg, q_eq_int, q_ne_int, q_eq_str, q_ne_str, q_eq_b, q_ne_b, q_b, q_i, q_s, q_l, q_seqS, q_seqL, q_seqT, q_seqN, q_f1, q_f2, q_count_str, q_abs, q_intI, q_isN, q_notN, q_tb, q_ti, q_lenL, q_lenT, q_tuple, if_true, Option.bind_some, q_ix_str e h.sz, Int.toNat_natCast]
      by_cases hs : sgp p k = 46
      · rw [if_pos (by rw [hs]; rfl), if_pos hs]
        exact ⟨by first | rfl | trivial, by first | rfl | trivial, by first | rfl | trivial⟩
      · rw [if_neg (by simpa using hs), if_neg hs]
        exact ⟨by first | rfl | trivial, by first | rfl | trivial, by first | rfl | trivial⟩
    · rw [holes_fm _ (Nat.le_refl _)]
      exact ⟨rfl, rfl, rfl⟩
  rintro _ _ ⟨rfl, rfl⟩
  refine Wp.seq (fun ρ G => G = [w] ∧ ρ = [some (.scr zs), some (.obj 0), some (.int (p.length : Int)), some (.lst (p.map fun c => W.str [c])), some (.str p), some (.lst (hl (sgp p) p.length)), some (.str (fl p 400)), none, none, none, none, none, none, none, none, none, none, none, none, none, none]) ?_ ?_
  · simp only [Wp.pure, Wp.bind, Wp.of, Wp.getS, Wp.gets, Wp.getv, Wp.mS, Wp.moveS, Wp.setU, Wp.setM, Wp.raise, Wp.mV, Wp.m2, Wp.m1, Wp.mB, Wp.mT, Wp.mNot, Wp.ite, Wp.mAnd, Wp.mOr, Wp.mIf, Wp.mNotV, Wp.mAndV, Wp.mOrV, Wp.mCh, Wp.mNil, Wp.mCons, Wp.getAll0, Wp.getAllC, Wp.mCall, Wp.mTup, Wp.mLst, Wp.mCallF, Wp.mNo, Wp.mSome, Wp.mCut, Wp.mM1, Wp.mMethR, Wp.mMeth, Wp.mSkip, Wp.mSet, Wp.mRet, Wp.mDrop, Wp.mAug, Wp.mPar, Wp.mParF, Wp.mAsg, Wp.tgNil, Wp.tgCons, Wp.mSeqI, Wp.mI1, Wp.mI2, List.getElem?_cons_zero, List.getElem?_cons_succ, Option.some.injEq, exists_eq_left', exists_eq_left, W.lst.injEq, List.set_cons_zero, List.set_cons_succ, q_le, q_lt, q_gt, q_ge, q_sub, q_neg, q_eq_int, q_ne_int, q_eq_str, q_ne_str, q_eq_b, q_ne_b, q_b, q_i, q_s, q_l, q_seqS, q_seqL, q_seqT, q_seqN, q_f1, q_f2, q_count_str, q_abs, q_intI, q_isN, q_notN, q_tb, q_ti, q_lenL, q_lenT, q_tuple, if_true, Option.bind_some, Wp.callF (filled400 h _)]
    exact ⟨by first | rfl | trivial, by first | rfl | trivial, by first | rfl | trivial⟩
  rintro _ _ ⟨rfl, rfl⟩
  refine Wp.seq (fun ρ G => G = [w] ∧ ρ = [some (.scr zs), some (.obj 0), some (.int (p.length : Int)), some (.lst (p.map fun c => W.str [c])), some (.str p), some (.lst (hl (sgp p) p.length)), some (.str (fl p 400)), some (.lst (([48, 49, 50, 51] : List Nat).map fun c => W.str [c])), some (.str []), none, none, none, none, none, none, none, none, none, none, none, none]) ?_ ?_
  · simp only [Wp.pure, Wp.bind, Wp.of, Wp.getS, Wp.gets, Wp.getv, Wp.mS, Wp.moveS, Wp.setU, Wp.setM, Wp.raise, Wp.mV, Wp.m2, Wp.m1, Wp.mB, Wp.mT, Wp.mNot, Wp.ite, Wp.mAnd, Wp.mOr, Wp.mIf, Wp.mNotV, Wp.mAndV, Wp.mOrV, Wp.mCh, Wp.mNil, Wp.mCons, Wp.getAll0, Wp.getAllC, Wp.mCall, Wp.mTup, Wp.mLst, Wp.mCallF, Wp.mNo, Wp.mSome, Wp.mCut, Wp.mM1, Wp.mMethR, Wp.mMeth, Wp.mSkip, Wp.mSet, Wp.mRet, Wp.mDrop, Wp.mAug, Wp.mPar, Wp.mParF, Wp.mAsg, Wp.tgNil, Wp.tgCons, Wp.mSeqI, Wp.mI1, Wp.mI2, List.getElem?_cons_zero, List.getElem?_cons_succ, Option.some.injEq, exists_eq_left', exists_eq_left, W.lst.injEq, List.set_cons_zero, List.set_cons_succ, q_le, q_lt, q_gt, q_ge, q_sub, q_neg, q_eq_int, q_ne_int, q_eq_str, q_ne_str, q_eq_b, q_ne_b, q_b, q_i, q_s, q_l, q_seqS, q_seqL, q_seqT, q_seqN, q_f1, q_f2, q_count_str, q_abs, q_intI, q_isN, q_notN, q_tb, q_ti, q_lenL, q_lenT, q_tuple, if_true, Option.bind_some, show wListS (.str [48, 49, 50, 51]) = some (.lst (([48, 49, 50, 51] : List Nat).map fun c => W.str [c])) from rfl]
    exact ⟨by first | rfl | trivial, by first | rfl | trivial, by first | rfl | trivial⟩
  rintro _ _ ⟨rfl, rfl⟩
  refine Wp.seq (fun ρ G => ∃ w ns x9, IsTape w ∧ OkN ns ∧ G = [w] ∧ ρ = [some (.scr zs), some (.obj 0), some (.int (p.length : Int)), some (.lst (p.map fun c => W.str [c])), some (.str p), some (.lst (hl (sgp p) p.length)), some (.str (fl p 400)), some (.lst []), some (.str ns), x9, none, none, none, none, none, none, none, none, none, none, none]) ?_ ?_
  · simp only [Wp.pure, Wp.bind, Wp.of, Wp.getS, Wp.gets, Wp.getv, Wp.mS, Wp.moveS, Wp.setU, Wp.setM, Wp.raise, Wp.mV, Wp.m2, Wp.m1, Wp.mB, Wp.mT, Wp.mNot, Wp.ite, Wp.mAnd, Wp.mOr, Wp.mIf, Wp.mNotV, Wp.mAndV, Wp.mOrV, Wp.mCh, Wp.mNil, Wp.mCons, Wp.getAll0, Wp.getAllC, Wp.mCall, Wp.mTup, Wp.mLst, Wp.mCallF, Wp.mNo, Wp.mSome, Wp.mCut, Wp.mM1, Wp.mMethR, Wp.mMeth, Wp.mSkip, Wp.mSet, Wp.mRet, Wp.mDrop, Wp.mAug, Wp.mPar, Wp.mParF, Wp.mAsg, Wp.tgNil, Wp.tgCons, Wp.mSeqI, Wp.mI1, Wp.mI2, List.getElem?_cons_zero, List.getElem?_cons_succ, Option.some.injEq, exists_eq_left', exists_eq_left, W.lst.injEq, List.set_cons_zero, List.set_cons_succ]
    refine ⟨_, q_rng1_n (n := 4) (by decide), ?_⟩
    refine Wp.mFor (fun i ρ G1 => ∃ w l nm x9, IsTape w ∧ l.length + i = 4 ∧ nm.length = i ∧ (∀ c ∈ l, dg c) ∧ (∀ c ∈ nm, dg c) ∧ G1 = [w] ∧ ρ = [some (.scr zs), some (.obj 0), some (.int (p.length : Int)), some (.lst (p.map fun c => W.str [c])), some (.str p), some (.lst (hl (sgp p) p.length)), some (.str (fl p 400)), some (.lst ((l : List Nat).map fun c => W.str [c])), some (.str nm), x9, none, none, none, none, none, none, none, none, none, none, none]) 0 ⟨w, [48, 49, 50, 51], [], none, t, rfl, rfl, (fun c hc => by simpa [dg] using hc), (fun _ h => nomatch h), rfl, rfl⟩ (fun i w ρ G1 e hI => ?_) (fun ρ G1 hI => ?_)
    · obtain ⟨w1, l, nm, x9, t1, hl1, hl2, hd1, hd2, rfl, rfl⟩ := hI
      have hi : i < 4 := by
        have := (List.getElem?_eq_some_iff.mp e).1
        simpa using this
      obtain ⟨v, w2, hv, t2, e2⟩ := takeE t1 (many := l.length) (by omega) (by omega)
      obtain ⟨c, hc⟩ : ∃ c, l[v]? = some c := ⟨_, List.getElem?_eq_getElem hv⟩
      have hcd := hd1 c (List.mem_of_getElem? hc)
      simp only [Wp.pure, Wp.bind, Wp.of, Wp.getS, Wp.gets, Wp.getv, Wp.mS, Wp.moveS, Wp.setU, Wp.setM, Wp.raise, Wp.mV, Wp.m2, Wp.m1, Wp.mB, Wp.mT, Wp.mNot, Wp.ite, Wp.mAnd, Wp.mOr, Wp.mIf, Wp.mNotV, Wp.mAndV, Wp.mOrV, Wp.mCh, Wp.mNil, Wp.mCons, Wp.getAll0, Wp.getAllC, Wp.mCall, Wp.mTup, Wp.mLst, Wp.mCallF, Wp.mNo, Wp.mSome, Wp.mCut, Wp.mM1, Wp.mMethR, Wp.mMeth, Wp.mSkip, Wp.mSet, Wp.mRet, Wp.mDrop, Wp.mAug, Wp.mPar, Wp.mParF, Wp.mAsg, Wp.tgNil, Wp.tgCons, Wp.mSeqI, Wp.mI1, Wp.mI2, List.getElem?_cons_zero, List.getElem?_cons_succ, Option.some.injEq, exists_eq_left', exists_eq_left, W.lst.injEq, List.set_cons_zero, List.set_cons_succ, q_le, q_lt, q_gt, q_ge, q_sub, q_neg, q_eq_int, q_ne_int, q_eq_str, q_ne_str, q_eq_b, q_ne_b, q_b, q_i, q_s, q_l, q_seqS, q_seqL, q_seqT, q_seqN, q_f1, q_f2, q_count_str, q_abs, q_intI, q_isN, q_notN, q_tb, q_ti, q_lenL, q_lenT, q_tuple, if_true, Option.bind_some, List.length_map, Wp.callF e2, popAt_ok hc (by omega), q_addS (show nm.length + [c].length ≤ 16777216 by simp; omega)]
      refine ⟨w2, l.eraseIdx v, nm ++ [c], _, t2, ?_, by simp; omega, fun x hx => hd1 x (List.mem_of_mem_eraseIdx hx), fun x hx => ?_, rfl, rfl⟩
      · rw [List.length_eraseIdx_of_lt hv]; omega
      · rcases List.mem_append.mp hx with hx | hx
        · exact hd2 x hx
        · obtain rfl := List.mem_singleton.mp hx; exact hcd
    · obtain ⟨w1, l, nm, x9, t1, hl1, hl2, hd1, hd2, rfl, rfl⟩ := hI
      rw [List.length_map, List.length_range, Nat.zero_add] at hl1 hl2
      have : l = [] := List.eq_nil_of_length_eq_zero (by omega)
      subst this
      exact ⟨by first | rfl | trivial, w1, nm, x9, t1, ⟨hl2, hd2⟩, rfl, rfl⟩
  clear t w
  rintro _ _ ⟨w, ns, x9, t, hn, rfl, rfl⟩
  have hp1 : p.length ≤ 100000 := by omega
  have hf1 : (fl p 400).length ≤ 100000 := by rw [fl_len]; decide
  refine Wp.seq (fun ρ G => G = [w] ∧ ρ = [some (.scr zs), some (.obj 0), some (.int (p.length : Int)), some (.lst (p.map fun c => W.str [c])), some (.str p), some (.lst (hl (sgp p) p.length)), some (.str (fl p 400)), some (.lst []), some (.str ns), x9, none, none, none, none, none, none, none, none, none, none, none]) ?_ ?_
  · simp only [Wp.pure, Wp.bind, Wp.of, Wp.getS, Wp.gets, Wp.getv, Wp.mS, Wp.moveS, Wp.setU, Wp.setM, Wp.raise, Wp.mV, Wp.m2, Wp.m1, Wp.mB, Wp.mT, Wp.mNot, Wp.ite, Wp.mAnd, Wp.mOr, Wp.mIf, Wp.mNotV, Wp.mAndV, Wp.mOrV, Wp.mCh, Wp.mNil, Wp.mCons, Wp.getAll0, Wp.getAllC, Wp.mCall, Wp.mTup, Wp.mLst, Wp.mCallF, Wp.mNo, Wp.mSome, Wp.mCut, Wp.mM1, Wp.mMethR, Wp.mMeth, Wp.mSkip, Wp.mSet, Wp.mRet, Wp.mDrop, Wp.mAug, Wp.mPar, Wp.mParF, Wp.mAsg, Wp.tgNil, Wp.tgCons, Wp.mSeqI, Wp.mI1, Wp.mI2, List.getElem?_cons_zero, List.getElem?_cons_succ, Option.some.injEq, exists_eq_left', exists_eq_left, W.lst.injEq, List.set_cons_zero, List.set_cons_succ, q_le, q_lt, q_gt, q_ge, q_sub, q_neg, q_eq_int, q_ne_int, q_eq_str, q_ne_str, q_eq_b, q_ne_b, q_b, q_i, q_s, q_l, q_seqS, q_seqL, q_seqT, q_seqN, q_f1, q_f2, q_count_str, q_abs, q_intI, q_isN, q_notN, q_tb, q_ti, q_lenL, q_lenT, q_tuple, if_true, Option.bind_some, Wp.callF (named_ok hn h.sg hp1 _), Wp.callF (named_ok hn (fl_dg h 400) hf1 _), Wp.callF (filled400 (h.named hn) _), fl_named h hn, bneT, q_addS hpp, Wp.callF (filled400 (h.twice h5) _), fl_twice h, Bool.false_eq_true, if_false]
    exact ⟨by first | rfl | trivial, by first | rfl | trivial, by first | rfl | trivial⟩
  rintro _ _ ⟨rfl, rfl⟩
  obtain ⟨few, w1, hfew, t1, e1⟩ := takeE t (many := 401) (by decide) (by decide)
  have e1 : fn__law_take [.obj 0, .int 401] [w] = .ok (.int (few : Int)) [] [w1] := e1
  clear t
  have hfew : few ≤ 400 := by omega
  refine Wp.seq (fun ρ G => G = [w1] ∧ ρ = [some (.scr zs), some (.obj 0), some (.int (p.length : Int)), some (.lst (p.map fun c => W.str [c])), some (.str p), some (.lst (hl (sgp p) p.length)), some (.str (fl p 400)), some (.lst []), some (.str ns), x9, some (.int (few : Int)), none, none, none, none, none, none, none, none, none, none]) ?_ ?_
  · simp only [Wp.pure, Wp.bind, Wp.of, Wp.getS, Wp.gets, Wp.getv, Wp.mS, Wp.moveS, Wp.setU, Wp.setM, Wp.raise, Wp.mV, Wp.m2, Wp.m1, Wp.mB, Wp.mT, Wp.mNot, Wp.ite, Wp.mAnd, Wp.mOr, Wp.mIf, Wp.mNotV, Wp.mAndV, Wp.mOrV, Wp.mCh, Wp.mNil, Wp.mCons, Wp.getAll0, Wp.getAllC, Wp.mCall, Wp.mTup, Wp.mLst, Wp.mCallF, Wp.mNo, Wp.mSome, Wp.mCut, Wp.mM1, Wp.mMethR, Wp.mMeth, Wp.mSkip, Wp.mSet, Wp.mRet, Wp.mDrop, Wp.mAug, Wp.mPar, Wp.mParF, Wp.mAsg, Wp.tgNil, Wp.tgCons, Wp.mSeqI, Wp.mI1, Wp.mI2, List.getElem?_cons_zero, List.getElem?_cons_succ, Option.some.injEq, exists_eq_left', exists_eq_left, W.lst.injEq, List.set_cons_zero, List.set_cons_succ, q_le, q_lt, q_gt, q_ge, q_sub, q_neg, q_eq_int, q_ne_int, q_eq_str, q_ne_str, q_eq_b, q_ne_b, q_b, q_i, q_s, q_l, q_seqS, q_seqL, q_seqT, q_seqN, q_f1, q_f2, q_count_str, q_abs, q_intI, q_isN, q_notN, q_tb, q_ti, q_lenL, q_lenT, q_tuple, if_true, Option.bind_some, Wp.callF e1]
    exact ⟨by first | rfl | trivial, by first | rfl | trivial, by first | rfl | trivial⟩
  rintro _ _ ⟨rfl, rfl⟩
  clear e1
  refine Wp.seq (fun ρ G => G = [w1] ∧ ρ = [some (.scr zs), some (.obj 0), some (.int (p.length : Int)), some (.lst (p.map fun c => W.str [c])), some (.str p), some (.lst (hl (sgp p) p.length)), some (.str (fl p 400)), some (.lst []), some (.str ns), x9, some (.int (few : Int)), none, none, none, none, none, none, none, none, none, none]) ?_ ?_
  · simp only [Wp.pure, Wp.bind, Wp.of, Wp.getS, Wp.gets, Wp.getv, Wp.mS, Wp.moveS, Wp.setU, Wp.setM, Wp.raise, Wp.mV, Wp.m2, Wp.m1, Wp.mB, Wp.mT, Wp.mNot, Wp.ite, Wp.mAnd, Wp.mOr, Wp.mIf, Wp.mNotV, Wp.mAndV, Wp.mOrV, Wp.mCh, Wp.mNil, Wp.mCons, Wp.getAll0, Wp.getAllC, Wp.mCall, Wp.mTup, Wp.mLst, Wp.mCallF, Wp.mNo, Wp.mSome, Wp.mCut, Wp.mM1, Wp.mMethR, Wp.mMeth, Wp.mSkip, Wp.mSet, Wp.mRet, Wp.mDrop, Wp.mAug, Wp.mPar, Wp.mParF, Wp.mAsg, Wp.tgNil, Wp.tgCons, Wp.mSeqI, Wp.mI1, Wp.mI2, List.getElem?_cons_zero, List.getElem?_cons_succ, Option.some.injEq, exists_eq_left', exists_eq_left, W.lst.injEq, List.set_cons_zero, List.set_cons_succ, q_le, q_lt, q_gt, q_ge, q_sub, q_neg, q_eq_int, q_ne_int, q_eq_str, q_ne_str, q_eq_b, q_ne_b, q_b, q_i, q_s, q_l, q_seqS, q_seqL, q_seqT, q_seqN, q_f1, q_f2, q_count_str, q_abs, q_intI, q_isN, q_notN, q_tb, q_ti, q_lenL, q_lenT, q_tuple, if_true, Option.bind_some, Wp.callF (filled_ok h (show few ≤ 4000 by omega) _), q_cut_to (s := fl p 400) (k := few) hfz, fl_take hfew, bneT, Wp.callF (filled0 h _), Bool.false_eq_true, if_false]
    exact ⟨by first | rfl | trivial, by first | rfl | trivial, by first | rfl | trivial⟩
  rintro _ _ ⟨rfl, rfl⟩
  have hD : Dq (sgp p) 400 ≤ 400 := Dq_le _ _
  refine Wp.seq (fun ρ G => G = [w1] ∧ ρ = [some (.scr zs), some (.obj 0), some (.int (p.length : Int)), some (.lst (p.map fun c => W.str [c])), some (.str p), some (.lst (hl (sgp p) p.length)), some (.str (fl p 400)), some (.lst []), some (.str ns), x9, some (.int (few : Int)), some (.str (fl p (Dq (sgp p) 400))), none, none, none, none, none, none, none, none, none]) ?_ ?_
  · simp only [Wp.mSet, Wp.mM1, Wp.pure, q_s, Option.some.injEq, exists_eq_left', Wp.mV]
    refine Wp.comp (fun w => match w with | .int i => if sgp p i.toNat = 46 then some (W.str [fq (sgp p) i.toNat]) else none | _ => none) ((List.range 400).map fun k : Nat => W.int (k : Int)) (szOk_of (by rw [List.length_map, List.length_range]; decide)) (by simp only [Wp.pure, Wp.bind, Wp.of, Wp.getS, Wp.gets, Wp.getv, Wp.mS, Wp.moveS, Wp.setU, Wp.setM, Wp.raise, Wp.mV, Wp.m2, Wp.m1, Wp.mB, Wp.mT, Wp.mNot, Wp.ite, Wp.mAnd, Wp.mOr, Wp.mIf, Wp.mNotV, Wp.mAndV, Wp.mOrV, Wp.mCh, Wp.mNil, Wp.mCons, Wp.getAll0, Wp.getAllC, Wp.mCall, Wp.mTup, Wp.mLst, Wp.mCallF, Wp.mNo, Wp.mSome, Wp.mCut, Wp.mM1, Wp.mMethR, Wp.mMeth, Wp.mSkip, Wp.mSet, Wp.mRet, Wp.mDrop, Wp.mAug, Wp.mPar, Wp.mParF, Wp.mAsg, Wp.tgNil, Wp.tgCons, Wp.mSeqI, Wp.mI1, Wp.mI2, List.getElem?_cons_zero, List.getElem?_cons_succ, Option.some.injEq, exists_eq_left', exists_eq_left, W.lst.injEq, List.set_cons_zero, List.set_cons_succ]; exact ⟨_, q_rng1_n (n := 400) (by decide), rfl, trivial, trivial⟩) (fun x hx => ?_) ?_
    · obtain ⟨k, hk, rfl⟩ := List.mem_map.mp hx
      rw [List.mem_range] at hk
      simp only [wipeR, mTrue, Wp.pure, Wp.bind, Wp.of, Wp.getS, Wp.gets, Wp.getv, Wp.mS, Wp.moveS, Wp.setU, Wp.setM, Wp.raise, Wp.mV, Wp.m2, Wp.m1, Wp.mB, Wp.mT, Wp.mNot, Wp.ite, Wp.mAnd, Wp.mOr, Wp.mIf, Wp.mNotV, Wp.mAndV, Wp.mOrV, Wp.mCh, Wp.mNil, Wp.mCons, Wp.getAll0, Wp.getAllC, Wp.mCall, Wp.mTup, Wp.mLst, Wp.mCallF, Wp.mNo, Wp.mSome, Wp.mCut, Wp.mM1, Wp.mMethR, Wp.mMeth, Wp.mSeq, Wp.mSkip, Wp.mSet, Wp.mRet, Wp.mDrop, Wp.mAug, Wp.mPar, Wp.mParF, Wp.mAsg, Wp.tgNil, Wp.tgCons, Wp.mSeqI, Wp.mI1, Wp.mI2, List.getElem?_cons_zero, List.getElem?_cons_succ, Option.some.injEq, exists_eq_left', exists_eq_left, W.lst.injEq, List.set_cons_zero, List.set_cons_succ, q_le, q_lt, q_gt, q_ge, q_sub, q_neg, q_eq_int, q_ne_int, q_eq_str, q_ne_str, q_eq_b, q_ne_b, q_b, q_i, q_s, q_l, q_seqS, q_seqL, q_seqT, q_seqN, q_f1, q_f2, q_count_str, q_abs, q_intI, q_isN, q_notN, q_tb, q_ti, q_lenL, q_lenT, q_tuple, if_true, Option.bind_some, q_mod_n h.pos, hl_in (Nat.mod_lt k h.pos), sgp_mod h.pos, q_ix_str (fl_get (p := p) hk) hfz, Int.toNat_natCast]
      by_cases hs : sgp p k = 46
      · rw [if_pos (decide_eq_true hs), if_pos hs]
        exact ⟨by first | rfl | trivial, by first | rfl | trivial, by first | rfl | trivial⟩
      · rw [if_neg (by simpa using hs), if_neg hs]
        exact ⟨by first | rfl | trivial, by first | rfl | trivial, by first | rfl | trivial⟩
    · rw [dots_fm h]
      simp only [Wp.pure, Wp.bind, Wp.of, Wp.getS, Wp.gets, Wp.getv, Wp.mS, Wp.moveS, Wp.setU, Wp.setM, Wp.raise, Wp.mV, Wp.m2, Wp.m1, Wp.mB, Wp.mT, Wp.mNot, Wp.ite, Wp.mAnd, Wp.mOr, Wp.mIf, Wp.mNotV, Wp.mAndV, Wp.mOrV, Wp.mCh, Wp.mNil, Wp.mCons, Wp.getAll0, Wp.getAllC, Wp.mCall, Wp.mTup, Wp.mLst, Wp.mCallF, Wp.mNo, Wp.mSome, Wp.mCut, Wp.mM1, Wp.mMethR, Wp.mMeth, Wp.mSkip, Wp.mSet, Wp.mRet, Wp.mDrop, Wp.mAug, Wp.mPar, Wp.mParF, Wp.mAsg, Wp.tgNil, Wp.tgCons, Wp.mSeqI, Wp.mI1, Wp.mI2, List.getElem?_cons_zero, List.getElem?_cons_succ, Option.some.injEq, exists_eq_left', exists_eq_left, W.lst.injEq, List.set_cons_zero, List.set_cons_succ, q_le, q_lt, q_gt, q_ge, q_sub, q_neg, q_eq_int, q_ne_int, q_eq_str, q_ne_str, q_eq_b, q_ne_b, q_b, q_i, q_s, q_l, q_seqS, q_seqL, q_seqT, q_seqN, q_f1, q_f2, q_count_str, q_abs, q_intI, q_isN, q_notN, q_tb, q_ti, q_lenL, q_lenT, q_tuple, if_true, Option.bind_some, q_join_signs (show (fl p (Dq (sgp p) 400)).length ≤ 16777216 by rw [fl_len]; omega)]
      exact ⟨by first | rfl | trivial, by first | rfl | trivial, by first | rfl | trivial⟩
  rintro _ _ ⟨rfl, rfl⟩
  refine Wp.seq (fun ρ G => G = [w1] ∧ ρ = [some (.scr zs), some (.obj 0), some (.int (p.length : Int)), some (.lst (p.map fun c => W.str [c])), some (.str p), some (.lst (hl (sgp p) p.length)), some (.str (fl p 400)), some (.lst []), some (.str ns), x9, some (.int (few : Int)), some (.str (fl p (Dq (sgp p) 400))), none, none, none, none, none, none, none, none, none]) ?_ ?_
  · simp only [Wp.pure, Wp.bind, Wp.of, Wp.getS, Wp.gets, Wp.getv, Wp.mS, Wp.moveS, Wp.setU, Wp.setM, Wp.raise, Wp.mV, Wp.m2, Wp.m1, Wp.mB, Wp.mT, Wp.mNot, Wp.ite, Wp.mAnd, Wp.mOr, Wp.mIf, Wp.mNotV, Wp.mAndV, Wp.mOrV, Wp.mCh, Wp.mNil, Wp.mCons, Wp.getAll0, Wp.getAllC, Wp.mCall, Wp.mTup, Wp.mLst, Wp.mCallF, Wp.mNo, Wp.mSome, Wp.mCut, Wp.mM1, Wp.mMethR, Wp.mMeth, Wp.mSkip, Wp.mSet, Wp.mRet, Wp.mDrop, Wp.mAug, Wp.mPar, Wp.mParF, Wp.mAsg, Wp.tgNil, Wp.tgCons, Wp.mSeqI, Wp.mI1, Wp.mI2, List.getElem?_cons_zero, List.getElem?_cons_succ, Option.some.injEq, exists_eq_left', exists_eq_left, W.lst.injEq, List.set_cons_zero, List.set_cons_succ, q_le, q_lt, q_gt, q_ge, q_sub, q_neg, q_eq_int, q_ne_int, q_eq_str, q_ne_str, q_eq_b, q_ne_b, q_b, q_i, q_s, q_l, q_seqS, q_seqL, q_seqT, q_seqN, q_f1, q_f2, q_count_str, q_abs, q_intI, q_isN, q_notN, q_tb, q_ti, q_lenL, q_lenT, q_tuple, if_true, Option.bind_some, q_len_str (show (fl p (Dq (sgp p) 400)).length ≤ 16777216 by rw [fl_len]; omega), fl_len, q_cut_to (s := fl p 400) (k := Dq (sgp p) 400) hfz, fl_take hD, bneT, Bool.false_eq_true, if_false]
    refine Wp.comp (fun _ => some (.bl false)) ((List.range 400).map fun k : Nat => W.int (k : Int)) (szOk_of (by rw [List.length_map, List.length_range]; decide)) (by simp only [Wp.pure, Wp.bind, Wp.of, Wp.getS, Wp.gets, Wp.getv, Wp.mS, Wp.moveS, Wp.setU, Wp.setM, Wp.raise, Wp.mV, Wp.m2, Wp.m1, Wp.mB, Wp.mT, Wp.mNot, Wp.ite, Wp.mAnd, Wp.mOr, Wp.mIf, Wp.mNotV, Wp.mAndV, Wp.mOrV, Wp.mCh, Wp.mNil, Wp.mCons, Wp.getAll0, Wp.getAllC, Wp.mCall, Wp.mTup, Wp.mLst, Wp.mCallF, Wp.mNo, Wp.mSome, Wp.mCut, Wp.mM1, Wp.mMethR, Wp.mMeth, Wp.mSkip, Wp.mSet, Wp.mRet, Wp.mDrop, Wp.mAug, Wp.mPar, Wp.mParF, Wp.mAsg, Wp.tgNil, Wp.tgCons, Wp.mSeqI, Wp.mI1, Wp.mI2, List.getElem?_cons_zero, List.getElem?_cons_succ, Option.some.injEq, exists_eq_left', exists_eq_left, W.lst.injEq, List.set_cons_zero, List.set_cons_succ]; exact ⟨_, q_rng1_n (n := 400) (by decide), rfl, trivial, trivial⟩) (fun x hx => ?_) ?_
    · obtain ⟨k, hk, rfl⟩ := List.mem_map.mp hx
      rw [List.mem_range] at hk
      simp only [wipeR, mTrue, Wp.pure, Wp.bind, Wp.of, Wp.getS, Wp.gets, Wp.getv, Wp.mS, Wp.moveS, Wp.setU, Wp.setM, Wp.raise, Wp.mV, Wp.m2, Wp.m1, Wp.mB, Wp.mT, Wp.mNot, Wp.ite, Wp.mAnd, Wp.mOr, Wp.mIf, Wp.mNotV, Wp.mAndV, Wp.mOrV, Wp.mCh, Wp.mNil, Wp.mCons, Wp.getAll0, Wp.getAllC, Wp.mCall, Wp.mTup, Wp.mLst, Wp.mCallF, Wp.mNo, Wp.mSome, Wp.mCut, Wp.mM1, Wp.mMethR, Wp.mMeth, Wp.mSeq, Wp.mSkip, Wp.mSet, Wp.mRet, Wp.mDrop, Wp.mAug, Wp.mPar, Wp.mParF, Wp.mAsg, Wp.tgNil, Wp.tgCons, Wp.mSeqI, Wp.mI1, Wp.mI2, List.getElem?_cons_zero, List.getElem?_cons_succ, Option.some.injEq, exists_eq_left', exists_eq_left, W.lst.injEq, List.set_cons_zero, List.set_cons_succ, q_le, q_lt, q_gt, q_ge, q_sub, q_neg, q_eq_int, q_ne_int, q_eq_str, q_ne_str, q_eq_b, q_ne_b, q_b, q_i, q_s, q_l, q_seqS, q_seqL, q_seqT, q_seqN, q_f1, q_f2, q_count_str, q_abs, q_intI, q_isN, q_notN, q_tb, q_ti, q_lenL, q_lenT, q_tuple, if_true, Option.bind_some, q_mod_n h.pos, q_ix_str (sgp_get h.pos k) h.sz, q_ix_str (fl_get (p := p) hk) hfz]
      by_cases hs : sgp p k = 46
      · rw [hs, if_neg (by decide)]
        exact ⟨by first | rfl | trivial, by first | rfl | trivial, by first | rfl | trivial⟩
      · rw [if_pos (by simpa using hs), fq_sign hs, bneT]
        exact ⟨by first | rfl | trivial, by first | rfl | trivial, by first | rfl | trivial⟩
    · refine ⟨_, any_false (fun x hx => ?_), ?_⟩
      · obtain ⟨y, hy, e⟩ := List.mem_filterMap.mp hx
        cases e; rfl
      · simp only [Wp.pure, Wp.bind, Wp.of, Wp.getS, Wp.gets, Wp.getv, Wp.mS, Wp.moveS, Wp.setU, Wp.setM, Wp.raise, Wp.mV, Wp.m2, Wp.m1, Wp.mB, Wp.mT, Wp.mNot, Wp.ite, Wp.mAnd, Wp.mOr, Wp.mIf, Wp.mNotV, Wp.mAndV, Wp.mOrV, Wp.mCh, Wp.mNil, Wp.mCons, Wp.getAll0, Wp.getAllC, Wp.mCall, Wp.mTup, Wp.mLst, Wp.mCallF, Wp.mNo, Wp.mSome, Wp.mCut, Wp.mM1, Wp.mMethR, Wp.mMeth, Wp.mSkip, Wp.mSet, Wp.mRet, Wp.mDrop, Wp.mAug, Wp.mPar, Wp.mParF, Wp.mAsg, Wp.tgNil, Wp.tgCons, Wp.mSeqI, Wp.mI1, Wp.mI2, List.getElem?_cons_zero, List.getElem?_cons_succ, Option.some.injEq, exists_eq_left', exists_eq_left, W.lst.injEq, List.set_cons_zero, List.set_cons_succ, q_le, q_lt, q_gt, q_ge, q_sub, q_neg, q_eq_int, q_ne_int, q_eq_str, q_ne_str, q_eq_b, q_ne_b, q_b, q_i, q_s, q_l, q_seqS, q_seqL, q_seqT, q_seqN, q_f1, q_f2, q_count_str, q_abs, q_intI, q_isN, q_notN, q_tb, q_ti, q_lenL, q_lenT, q_tuple, if_true, Option.bind_some, Bool.false_eq_true, if_false]
        exact ⟨by first | rfl | trivial, by first | rfl | trivial, by first | rfl | trivial⟩
  rintro _ _ ⟨rfl, rfl⟩
  have es : (sums p few).map (fun c : Nat => W.int (c : Int)) = [.int ((fl p few).count 48 : Nat), .int ((fl p few).count 49 : Nat), .int ((fl p few).count 50 : Nat), .int ((fl p few).count 51 : Nat)] := rfl
  refine Wp.seq (fun ρ G => G = [w1] ∧ ρ = [some (.scr zs), some (.obj 0), some (.int (p.length : Int)), some (.lst (p.map fun c => W.str [c])), some (.str p), some (.lst (hl (sgp p) p.length)), some (.str (fl p 400)), some (.lst []), some (.str ns), x9, some (.int (few : Int)), some (.str (fl p (Dq (sgp p) 400))), some (.tup [.int ((fl p few).count 48 : Nat), .int ((fl p few).count 49 : Nat), .int ((fl p few).count 50 : Nat), .int ((fl p few).count 51 : Nat)]), none, none, none, none, none, none, none, none]) ?_ ?_
  · simp only [Wp.pure, Wp.bind, Wp.of, Wp.getS, Wp.gets, Wp.getv, Wp.mS, Wp.moveS, Wp.setU, Wp.setM, Wp.raise, Wp.mV, Wp.m2, Wp.m1, Wp.mB, Wp.mT, Wp.mNot, Wp.ite, Wp.mAnd, Wp.mOr, Wp.mIf, Wp.mNotV, Wp.mAndV, Wp.mOrV, Wp.mCh, Wp.mNil, Wp.mCons, Wp.getAll0, Wp.getAllC, Wp.mCall, Wp.mTup, Wp.mLst, Wp.mCallF, Wp.mNo, Wp.mSome, Wp.mCut, Wp.mM1, Wp.mMethR, Wp.mMeth, Wp.mSkip, Wp.mSet, Wp.mRet, Wp.mDrop, Wp.mAug, Wp.mPar, Wp.mParF, Wp.mAsg, Wp.tgNil, Wp.tgCons, Wp.mSeqI, Wp.mI1, Wp.mI2, List.getElem?_cons_zero, List.getElem?_cons_succ, Option.some.injEq, exists_eq_left', exists_eq_left, W.lst.injEq, List.set_cons_zero, List.set_cons_succ, q_le, q_lt, q_gt, q_ge, q_sub, q_neg, q_eq_int, q_ne_int, q_eq_str, q_ne_str, q_eq_b, q_ne_b, q_b, q_i, q_s, q_l, q_seqS, q_seqL, q_seqT, q_seqN, q_f1, q_f2, q_count_str, q_abs, q_intI, q_isN, q_notN, q_tb, q_ti, q_lenL, q_lenT, q_tuple, if_true, Option.bind_some, Wp.callF (sums_ok h (show few ≤ 4000 by omega) _), es]
    exact ⟨by first | rfl | trivial, by first | rfl | trivial, by first | rfl | trivial⟩
  rintro _ _ ⟨rfl, rfl⟩
  have hall : ∀ c ∈ fl p few, dg c := fun c hc => by
    obtain ⟨k, _, rfl⟩ := List.mem_map.mp hc
    exact h.fdg k
  have hsum := cnt_all _ hall
  rw [fl_len] at hsum
  refine Wp.seq (fun ρ G => G = [w1] ∧ ρ = [some (.scr zs), some (.obj 0), some (.int (p.length : Int)), some (.lst (p.map fun c => W.str [c])), some (.str p), some (.lst (hl (sgp p) p.length)), some (.str (fl p 400)), some (.lst []), some (.str ns), x9, some (.int (few : Int)), some (.str (fl p (Dq (sgp p) 400))), some (.tup [.int ((fl p few).count 48 : Nat), .int ((fl p few).count 49 : Nat), .int ((fl p few).count 50 : Nat), .int ((fl p few).count 51 : Nat)]), none, none, none, none, none, none, none, none]) ?_ ?_
  · simp only [Wp.pure, Wp.bind, Wp.of, Wp.getS, Wp.gets, Wp.getv, Wp.mS, Wp.moveS, Wp.setU, Wp.setM, Wp.raise, Wp.mV, Wp.m2, Wp.m1, Wp.mB, Wp.mT, Wp.mNot, Wp.ite, Wp.mAnd, Wp.mOr, Wp.mIf, Wp.mNotV, Wp.mAndV, Wp.mOrV, Wp.mCh, Wp.mNil, Wp.mCons, Wp.getAll0, Wp.getAllC, Wp.mCall, Wp.mTup, Wp.mLst, Wp.mCallF, Wp.mNo, Wp.mSome, Wp.mCut, Wp.mM1, Wp.mMethR, Wp.mMeth, Wp.mSkip, Wp.mSet, Wp.mRet, Wp.mDrop, Wp.mAug, Wp.mPar, Wp.mParF, Wp.mAsg, Wp.tgNil, Wp.tgCons, Wp.mSeqI, Wp.mI1, Wp.mI2, List.getElem?_cons_zero, List.getElem?_cons_succ, Option.some.injEq, exists_eq_left', exists_eq_left, W.lst.injEq, List.set_cons_zero, List.set_cons_succ, q_le, q_lt, q_gt, q_ge, q_sub, q_neg, q_eq_int, q_ne_int, q_eq_str, q_ne_str, q_eq_b, q_ne_b, q_b, q_i, q_s, q_l, q_seqS, q_seqL, q_seqT, q_seqN, q_f1, q_f2, q_count_str, q_abs, q_intI, q_isN, q_notN, q_tb, q_ti, q_lenL, q_lenT, q_tuple, if_true, Option.bind_some, sum4, hsum, bneI, Bool.false_eq_true, if_false]
    refine Wp.comp (fun w => match w with | .str [c] => some (W.int ((fl p few).count c : Nat)) | _ => none) [.str [48], .str [49], .str [50], .str [51]] rfl (by simp only [Wp.pure, Wp.bind, Wp.of, Wp.getS, Wp.gets, Wp.getv, Wp.mS, Wp.moveS, Wp.setU, Wp.setM, Wp.raise, Wp.mV, Wp.m2, Wp.m1, Wp.mB, Wp.mT, Wp.mNot, Wp.ite, Wp.mAnd, Wp.mOr, Wp.mIf, Wp.mNotV, Wp.mAndV, Wp.mOrV, Wp.mCh, Wp.mNil, Wp.mCons, Wp.getAll0, Wp.getAllC, Wp.mCall, Wp.mTup, Wp.mLst, Wp.mCallF, Wp.mNo, Wp.mSome, Wp.mCut, Wp.mM1, Wp.mMethR, Wp.mMeth, Wp.mSkip, Wp.mSet, Wp.mRet, Wp.mDrop, Wp.mAug, Wp.mPar, Wp.mParF, Wp.mAsg, Wp.tgNil, Wp.tgCons, Wp.mSeqI, Wp.mI1, Wp.mI2, List.getElem?_cons_zero, List.getElem?_cons_succ, Option.some.injEq, exists_eq_left', exists_eq_left, W.lst.injEq, List.set_cons_zero, List.set_cons_succ, q_le, q_lt, q_gt, q_ge, q_sub, q_neg, q_eq_int, q_ne_int, q_eq_str, q_ne_str, q_eq_b, q_ne_b, q_b, q_i, q_s, q_l, q_seqS, q_seqL, q_seqT, q_seqN, q_f1, q_f2, q_count_str, q_abs, q_intI, q_isN, q_notN, q_tb, q_ti, q_lenL, q_lenT, q_tuple, if_true, Option.bind_some]; exact ⟨rfl, trivial, trivial⟩) (fun x hx => ?_) ?_
    · have hx' : ∃ c, x = .str [c] := by
        simp only [List.mem_cons, List.not_mem_nil, or_false] at hx
        rcases hx with rfl | rfl | rfl | rfl <;> exact ⟨_, rfl⟩
      obtain ⟨c, rfl⟩ := hx'
      simp only [wipeR, mTrue, Wp.pure, Wp.bind, Wp.of, Wp.getS, Wp.gets, Wp.getv, Wp.mS, Wp.moveS, Wp.setU, Wp.setM, Wp.raise, Wp.mV, Wp.m2, Wp.m1, Wp.mB, Wp.mT, Wp.mNot, Wp.ite, Wp.mAnd, Wp.mOr, Wp.mIf, Wp.mNotV, Wp.mAndV, Wp.mOrV, Wp.mCh, Wp.mNil, Wp.mCons, Wp.getAll0, Wp.getAllC, Wp.mCall, Wp.mTup, Wp.mLst, Wp.mCallF, Wp.mNo, Wp.mSome, Wp.mCut, Wp.mM1, Wp.mMethR, Wp.mMeth, Wp.mSeq, Wp.mSkip, Wp.mSet, Wp.mRet, Wp.mDrop, Wp.mAug, Wp.mPar, Wp.mParF, Wp.mAsg, Wp.tgNil, Wp.tgCons, Wp.mSeqI, Wp.mI1, Wp.mI2, List.getElem?_cons_zero, List.getElem?_cons_succ, Option.some.injEq, exists_eq_left', exists_eq_left, W.lst.injEq, List.set_cons_zero, List.set_cons_succ, q_le, q_lt, q_gt, q_ge, q_sub, q_neg, q_eq_int, q_ne_int, q_eq_str, q_ne_str, q_eq_b, q_ne_b, q_b, q_i, q_s, q_l, q_seqS, q_seqL, q_seqT, q_seqN, q_f1, q_f2, q_count_str, q_abs, q_intI, q_isN, q_notN, q_tb, q_ti, q_lenL, q_lenT, q_tuple, if_true, Option.bind_some]
      refine Wp.comp (fun w => match w with | .str [d] => if d = c then some (W.str [d]) else none | _ => none) ((fl p few).map fun d => W.str [d]) (szOk_of (by rw [List.length_map, fl_len]; omega)) (by simp only [Wp.pure, Wp.bind, Wp.of, Wp.getS, Wp.gets, Wp.getv, Wp.mS, Wp.moveS, Wp.setU, Wp.setM, Wp.raise, Wp.mV, Wp.m2, Wp.m1, Wp.mB, Wp.mT, Wp.mNot, Wp.ite, Wp.mAnd, Wp.mOr, Wp.mIf, Wp.mNotV, Wp.mAndV, Wp.mOrV, Wp.mCh, Wp.mNil, Wp.mCons, Wp.getAll0, Wp.getAllC, Wp.mCall, Wp.mTup, Wp.mLst, Wp.mCallF, Wp.mNo, Wp.mSome, Wp.mCut, Wp.mM1, Wp.mMethR, Wp.mMeth, Wp.mSkip, Wp.mSet, Wp.mRet, Wp.mDrop, Wp.mAug, Wp.mPar, Wp.mParF, Wp.mAsg, Wp.tgNil, Wp.tgCons, Wp.mSeqI, Wp.mI1, Wp.mI2, List.getElem?_cons_zero, List.getElem?_cons_succ, Option.some.injEq, exists_eq_left', exists_eq_left, W.lst.injEq, List.set_cons_zero, List.set_cons_succ, q_le, q_lt, q_gt, q_ge, q_sub, q_neg, q_eq_int, q_ne_int, q_eq_str, q_ne_str, q_eq_b, q_ne_b, q_b, q_i, q_s, q_l, q_seqS, q_seqL, q_seqT, q_seqN, q_f1, q_f2, q_count_str, q_abs, q_intI, q_isN, q_notN, q_tb, q_ti, q_lenL, q_lenT, q_tuple, if_true, Option.bind_some, q_cut_to (s := fl p 400) (k := few) hfz, fl_take hfew]; exact ⟨trivial, trivial, trivial⟩) (fun x hx => ?_) ?_
      · obtain ⟨d, hd, rfl⟩ := List.mem_map.mp hx
        simp only [wipeR, mTrue, Wp.pure, Wp.bind, Wp.of, Wp.getS, Wp.gets, Wp.getv, Wp.mS, Wp.moveS, Wp.setU, Wp.setM, Wp.raise, Wp.mV, Wp.m2, Wp.m1, Wp.mB, Wp.mT, Wp.mNot, Wp.ite, Wp.mAnd, Wp.mOr, Wp.mIf, Wp.mNotV, Wp.mAndV, Wp.mOrV, Wp.mCh, Wp.mNil, Wp.mCons, Wp.getAll0, Wp.getAllC, Wp.mCall, Wp.mTup, Wp.mLst, Wp.mCallF, Wp.mNo, Wp.mSome, Wp.mCut, Wp.mM1, Wp.mMethR, Wp.mMeth, Wp.mSeq, Wp.mSkip, Wp.mSet, Wp.mRet, Wp.mDrop, Wp.mAug, Wp.mPar, Wp.mParF, Wp.mAsg, Wp.tgNil, Wp.tgCons, Wp.mSeqI, Wp.mI1, Wp.mI2, List.getElem?_cons_zero, List.getElem?_cons_succ, Option.some.injEq, exists_eq_left', exists_eq_left, W.lst.injEq, List.set_cons_zero, List.set_cons_succ, q_le, q_lt, q_gt, q_ge, q_sub, q_neg, q_eq_int, q_ne_int, q_eq_str, q_ne_str, q_eq_b, q_ne_b, q_b, q_i, q_s, q_l, q_seqS, q_seqL, q_seqT, q_seqN, q_f1, q_f2, q_count_str, q_abs, q_intI, q_isN, q_notN, q_tb, q_ti, q_lenL, q_lenT, q_tuple, if_true, Option.bind_some]
        by_cases e : d = c
        · subst e
          rw [if_pos (by simp), if_pos rfl]
          exact ⟨by first | rfl | trivial, by first | rfl | trivial, by first | rfl | trivial⟩
        · rw [if_neg (by simpa using e), if_neg e]
          exact ⟨by first | rfl | trivial, by first | rfl | trivial, by first | rfl | trivial⟩
      · simp only [Wp.pure, Wp.bind, Wp.of, Wp.getS, Wp.gets, Wp.getv, Wp.mS, Wp.moveS, Wp.setU, Wp.setM, Wp.raise, Wp.mV, Wp.m2, Wp.m1, Wp.mB, Wp.mT, Wp.mNot, Wp.ite, Wp.mAnd, Wp.mOr, Wp.mIf, Wp.mNotV, Wp.mAndV, Wp.mOrV, Wp.mCh, Wp.mNil, Wp.mCons, Wp.getAll0, Wp.getAllC, Wp.mCall, Wp.mTup, Wp.mLst, Wp.mCallF, Wp.mNo, Wp.mSome, Wp.mCut, Wp.mM1, Wp.mMethR, Wp.mMeth, Wp.mSeq, Wp.mSkip, Wp.mSet, Wp.mRet, Wp.mDrop, Wp.mAug, Wp.mPar, Wp.mParF, Wp.mAsg, Wp.tgNil, Wp.tgCons, Wp.mSeqI, Wp.mI1, Wp.mI2, List.getElem?_cons_zero, List.getElem?_cons_succ, Option.some.injEq, exists_eq_left', exists_eq_left, W.lst.injEq, List.set_cons_zero, List.set_cons_succ, q_le, q_lt, q_gt, q_ge, q_sub, q_neg, q_eq_int, q_ne_int, q_eq_str, q_ne_str, q_eq_b, q_ne_b, q_b, q_i, q_s, q_l, q_seqS, q_seqL, q_seqT, q_seqN, q_f1, q_f2, q_count_str, q_abs, q_intI, q_isN, q_notN, q_tb, q_ti, q_lenL, q_lenT, q_tuple, if_true, Option.bind_some, cnt_fm]
        exact ⟨by first | rfl | trivial, by first | rfl | trivial, by first | rfl | trivial⟩
    · simp only [Wp.pure, Wp.bind, Wp.of, Wp.getS, Wp.gets, Wp.getv, Wp.mS, Wp.moveS, Wp.setU, Wp.setM, Wp.raise, Wp.mV, Wp.m2, Wp.m1, Wp.mB, Wp.mT, Wp.mNot, Wp.ite, Wp.mAnd, Wp.mOr, Wp.mIf, Wp.mNotV, Wp.mAndV, Wp.mOrV, Wp.mCh, Wp.mNil, Wp.mCons, Wp.getAll0, Wp.getAllC, Wp.mCall, Wp.mTup, Wp.mLst, Wp.mCallF, Wp.mNo, Wp.mSome, Wp.mCut, Wp.mM1, Wp.mMethR, Wp.mMeth, Wp.mSkip, Wp.mSet, Wp.mRet, Wp.mDrop, Wp.mAug, Wp.mPar, Wp.mParF, Wp.mAsg, Wp.tgNil, Wp.tgCons, Wp.mSeqI, Wp.mI1, Wp.mI2, List.getElem?_cons_zero, List.getElem?_cons_succ, Option.some.injEq, exists_eq_left', exists_eq_left, W.lst.injEq, List.set_cons_zero, List.set_cons_succ, q_le, q_lt, q_gt, q_ge, q_sub, q_neg, q_eq_int, q_ne_int, q_eq_str, q_ne_str, q_eq_b, q_ne_b, q_b, q_i, q_s, q_l, q_seqS, q_seqL, q_seqT, q_seqN, q_f1, q_f2, q_count_str, q_abs, q_intI, q_isN, q_notN, q_tb, q_ti, q_lenL, q_lenT, q_tuple, if_true, Option.bind_some, List.filterMap_cons, List.filterMap_nil]
      refine ⟨_, rfl, ?_⟩
      simp only [eqW, eqWs, beq_self_eq_true, Bool.and_true, Bool.not_true, Wp.pure, Wp.bind, Wp.of, Wp.getS, Wp.gets, Wp.getv, Wp.mS, Wp.moveS, Wp.setU, Wp.setM, Wp.raise, Wp.mV, Wp.m2, Wp.m1, Wp.mB, Wp.mT, Wp.mNot, Wp.ite, Wp.mAnd, Wp.mOr, Wp.mIf, Wp.mNotV, Wp.mAndV, Wp.mOrV, Wp.mCh, Wp.mNil, Wp.mCons, Wp.getAll0, Wp.getAllC, Wp.mCall, Wp.mTup, Wp.mLst, Wp.mCallF, Wp.mNo, Wp.mSome, Wp.mCut, Wp.mM1, Wp.mMethR, Wp.mMeth, Wp.mSkip, Wp.mSet, Wp.mRet, Wp.mDrop, Wp.mAug, Wp.mPar, Wp.mParF, Wp.mAsg, Wp.tgNil, Wp.tgCons, Wp.mSeqI, Wp.mI1, Wp.mI2, List.getElem?_cons_zero, List.getElem?_cons_succ, Option.some.injEq, exists_eq_left', exists_eq_left, W.lst.injEq, List.set_cons_zero, List.set_cons_succ, q_le, q_lt, q_gt, q_ge, q_sub, q_neg, q_eq_int, q_ne_int, q_eq_str, q_ne_str, q_eq_b, q_ne_b, q_b, q_i, q_s, q_l, q_seqS, q_seqL, q_seqT, q_seqN, q_f1, q_f2, q_count_str, q_abs, q_intI, q_isN, q_notN, q_tb, q_ti, q_lenL, q_lenT, q_tuple, if_true, Option.bind_some, Bool.false_eq_true, if_false]
      exact ⟨by first | rfl | trivial, by first | rfl | trivial, by first | rfl | trivial⟩
  rintro _ _ ⟨rfl, rfl⟩
  refine Wp.seq (fun ρ G => G = [w1] ∧ ρ = [some (.scr zs), some (.obj 0), some (.int (p.length : Int)), some (.lst (p.map fun c => W.str [c])), some (.str p), some (.lst (hl (sgp p) p.length)), some (.str (fl p 400)), some (.lst []), some (.str ns), x9, some (.int (few : Int)), some (.str (fl p (Dq (sgp p) 400))), some (.tup [.int ((fl p few).count 48 : Nat), .int ((fl p few).count 49 : Nat), .int ((fl p few).count 50 : Nat), .int ((fl p few).count 51 : Nat)]), none, none, none, none, none, none, none, none]) ?_ ?_
  · have es4 : (sums p 400).map (fun c : Nat => W.int (c : Int)) = [.int ((fl p 400).count 48 : Nat), .int ((fl p 400).count 49 : Nat), .int ((fl p 400).count 50 : Nat), .int ((fl p 400).count 51 : Nat)] := rfl
    have e400 : fn_sums_at [.str p, .int 400] [w1] = .ok (.tup [.int ((fl p 400).count 48 : Nat), .int ((fl p 400).count 49 : Nat), .int ((fl p 400).count 50 : Nat), .int ((fl p 400).count 51 : Nat)]) [] [w1] := sums_ok h (L := 400) (by decide) _
    have zz : ∀ a b c d a' b' c' d' : W, wListZip (.tup [a, b, c, d]) (.tup [a', b', c', d']) = some (.lst [.tup [a, a'], .tup [b, b'], .tup [c, c'], .tup [d, d']]) := fun _ _ _ _ _ _ _ _ => rfl
    simp only [Wp.pure, Wp.bind, Wp.of, Wp.getS, Wp.gets, Wp.getv, Wp.mS, Wp.moveS, Wp.setU, Wp.setM, Wp.raise, Wp.mV, Wp.m2, Wp.m1, Wp.mB, Wp.mT, Wp.mNot, Wp.ite, Wp.mAnd, Wp.mOr, Wp.mIf, Wp.mNotV, Wp.mAndV, Wp.mOrV, Wp.mCh, Wp.mNil, Wp.mCons, Wp.getAll0, Wp.getAllC, Wp.mCall, Wp.mTup, Wp.mLst, Wp.mCallF, Wp.mNo, Wp.mSome, Wp.mCut, Wp.mM1, Wp.mMethR, Wp.mMeth, Wp.mSkip, Wp.mSet, Wp.mRet, Wp.mDrop, Wp.mAug, Wp.mPar, Wp.mParF, Wp.mAsg, Wp.tgNil, Wp.tgCons, Wp.mSeqI, Wp.mI1, Wp.mI2, List.getElem?_cons_zero, List.getElem?_cons_succ, Option.some.injEq, exists_eq_left', exists_eq_left, W.lst.injEq, List.set_cons_zero, List.set_cons_succ, q_le, q_lt, q_gt, q_ge, q_sub, q_neg, q_eq_int, q_ne_int, q_eq_str, q_ne_str, q_eq_b, q_ne_b, q_b, q_i, q_s, q_l, q_seqS, q_seqL, q_seqT, q_seqN, q_f1, q_f2, q_count_str, q_abs, q_intI, q_isN, q_notN, q_tb, q_ti, q_lenL, q_lenT, q_tuple, if_true, Option.bind_some]
    refine Wp.comp (fun _ => some (.bl false)) [.tup [.int ((fl p few).count 48 : Nat), .int ((fl p 400).count 48 : Nat)], .tup [.int ((fl p few).count 49 : Nat), .int ((fl p 400).count 49 : Nat)], .tup [.int ((fl p few).count 50 : Nat), .int ((fl p 400).count 50 : Nat)], .tup [.int ((fl p few).count 51 : Nat), .int ((fl p 400).count 51 : Nat)]] rfl (by simp only [Wp.pure, Wp.bind, Wp.of, Wp.getS, Wp.gets, Wp.getv, Wp.mS, Wp.moveS, Wp.setU, Wp.setM, Wp.raise, Wp.mV, Wp.m2, Wp.m1, Wp.mB, Wp.mT, Wp.mNot, Wp.ite, Wp.mAnd, Wp.mOr, Wp.mIf, Wp.mNotV, Wp.mAndV, Wp.mOrV, Wp.mCh, Wp.mNil, Wp.mCons, Wp.getAll0, Wp.getAllC, Wp.mCall, Wp.mTup, Wp.mLst, Wp.mCallF, Wp.mNo, Wp.mSome, Wp.mCut, Wp.mM1, Wp.mMethR, Wp.mMeth, Wp.mSkip, Wp.mSet, Wp.mRet, Wp.mDrop, Wp.mAug, Wp.mPar, Wp.mParF, Wp.mAsg, Wp.tgNil, Wp.tgCons, Wp.mSeqI, Wp.mI1, Wp.mI2, List.getElem?_cons_zero, List.getElem?_cons_succ, Option.some.injEq, exists_eq_left', exists_eq_left, W.lst.injEq, List.set_cons_zero, List.set_cons_succ, q_le, q_lt, q_gt, q_ge, q_sub, q_neg, q_eq_int, q_ne_int, q_eq_str, q_ne_str, q_eq_b, q_ne_b, q_b, q_i, q_s, q_l, q_seqS, q_seqL, q_seqT, q_seqN, q_f1, q_f2, q_count_str, q_abs, q_intI, q_isN, q_notN, q_tb, q_ti, q_lenL, q_lenT, q_tuple, if_true, Option.bind_some, Wp.callF e400, zz]; exact ⟨trivial, trivial, trivial⟩) (fun x hx => ?_) ?_
    · have hx' : ∃ c, x = .tup [.int ((fl p few).count c : Nat), .int ((fl p 400).count c : Nat)] := by
        simp only [List.mem_cons, List.not_mem_nil, or_false] at hx
        rcases hx with rfl | rfl | rfl | rfl <;> exact ⟨_, rfl⟩
      obtain ⟨c, rfl⟩ := hx'
      have hc := fl_cnt (p := p) (c := c) hfew
      simp only [wipeR, mTrue, Wp.pure, Wp.bind, Wp.of, Wp.getS, Wp.gets, Wp.getv, Wp.mS, Wp.moveS, Wp.setU, Wp.setM, Wp.raise, Wp.mV, Wp.m2, Wp.m1, Wp.mB, Wp.mT, Wp.mNot, Wp.ite, Wp.mAnd, Wp.mOr, Wp.mIf, Wp.mNotV, Wp.mAndV, Wp.mOrV, Wp.mCh, Wp.mNil, Wp.mCons, Wp.getAll0, Wp.getAllC, Wp.mCall, Wp.mTup, Wp.mLst, Wp.mCallF, Wp.mNo, Wp.mSome, Wp.mCut, Wp.mM1, Wp.mMethR, Wp.mMeth, Wp.mSeq, Wp.mSkip, Wp.mSet, Wp.mRet, Wp.mDrop, Wp.mAug, Wp.mPar, Wp.mParF, Wp.mAsg, Wp.tgNil, Wp.tgCons, Wp.mSeqI, Wp.mI1, Wp.mI2, List.getElem?_cons_zero, List.getElem?_cons_succ, Option.some.injEq, exists_eq_left', exists_eq_left, W.lst.injEq, List.set_cons_zero, List.set_cons_succ, Wp.tgTup (n := 2) (ws := [_, _]) rfl, q_le, q_lt, q_gt, q_ge, q_sub, q_neg, q_eq_int, q_ne_int, q_eq_str, q_ne_str, q_eq_b, q_ne_b, q_b, q_i, q_s, q_l, q_seqS, q_seqL, q_seqT, q_seqN, q_f1, q_f2, q_count_str, q_abs, q_intI, q_isN, q_notN, q_tb, q_ti, q_lenL, q_lenT, q_tuple, if_true, Option.bind_some, decide_eq_false (show ¬ (((fl p 400).count c : Nat) : Int) < (((fl p few).count c : Nat) : Int) by omega)]
      exact ⟨by first | rfl | trivial, by first | rfl | trivial, by first | rfl | trivial⟩
    · refine ⟨_, any_false (fun x hx => ?_), ?_⟩
      · obtain ⟨y, hy, e⟩ := List.mem_filterMap.mp hx
        cases e; rfl
      · simp only [Wp.pure, Wp.bind, Wp.of, Wp.getS, Wp.gets, Wp.getv, Wp.mS, Wp.moveS, Wp.setU, Wp.setM, Wp.raise, Wp.mV, Wp.m2, Wp.m1, Wp.mB, Wp.mT, Wp.mNot, Wp.ite, Wp.mAnd, Wp.mOr, Wp.mIf, Wp.mNotV, Wp.mAndV, Wp.mOrV, Wp.mCh, Wp.mNil, Wp.mCons, Wp.getAll0, Wp.getAllC, Wp.mCall, Wp.mTup, Wp.mLst, Wp.mCallF, Wp.mNo, Wp.mSome, Wp.mCut, Wp.mM1, Wp.mMethR, Wp.mMeth, Wp.mSkip, Wp.mSet, Wp.mRet, Wp.mDrop, Wp.mAug, Wp.mPar, Wp.mParF, Wp.mAsg, Wp.tgNil, Wp.tgCons, Wp.mSeqI, Wp.mI1, Wp.mI2, List.getElem?_cons_zero, List.getElem?_cons_succ, Option.some.injEq, exists_eq_left', exists_eq_left, W.lst.injEq, List.set_cons_zero, List.set_cons_succ, q_le, q_lt, q_gt, q_ge, q_sub, q_neg, q_eq_int, q_ne_int, q_eq_str, q_ne_str, q_eq_b, q_ne_b, q_b, q_i, q_s, q_l, q_seqS, q_seqL, q_seqT, q_seqN, q_f1, q_f2, q_count_str, q_abs, q_intI, q_isN, q_notN, q_tb, q_ti, q_lenL, q_lenT, q_tuple, if_true, Option.bind_some, Bool.false_eq_true, if_false]
        exact ⟨by first | rfl | trivial, by first | rfl | trivial, by first | rfl | trivial⟩
  rintro _ _ ⟨rfl, rfl⟩
  obtain ⟨w2, t2, e2⟩ := places_ok h h5 hn t1
  clear t1
  refine Wp.seq (fun ρ G => G = [w2] ∧ ρ = [some (.scr zs), some (.obj 0), some (.int (p.length : Int)), some (.lst (p.map fun c => W.str [c])), some (.str p), some (.lst (hl (sgp p) p.length)), some (.str (fl p 400)), some (.lst []), some (.str ns), x9, some (.int (few : Int)), some (.str (fl p (Dq (sgp p) 400))), some (.tup [.int ((fl p few).count 48 : Nat), .int ((fl p few).count 49 : Nat), .int ((fl p few).count 50 : Nat), .int ((fl p few).count 51 : Nat)]), none, none, none, none, none, none, none, none]) ?_ ?_
  · simp only [Wp.pure, Wp.bind, Wp.of, Wp.getS, Wp.gets, Wp.getv, Wp.mS, Wp.moveS, Wp.setU, Wp.setM, Wp.raise, Wp.mV, Wp.m2, Wp.m1, Wp.mB, Wp.mT, Wp.mNot, Wp.ite, Wp.mAnd, Wp.mOr, Wp.mIf, Wp.mNotV, Wp.mAndV, Wp.mOrV, Wp.mCh, Wp.mNil, Wp.mCons, Wp.getAll0, Wp.getAllC, Wp.mCall, Wp.mTup, Wp.mLst, Wp.mCallF, Wp.mNo, Wp.mSome, Wp.mCut, Wp.mM1, Wp.mMethR, Wp.mMeth, Wp.mSkip, Wp.mSet, Wp.mRet, Wp.mDrop, Wp.mAug, Wp.mPar, Wp.mParF, Wp.mAsg, Wp.tgNil, Wp.tgCons, Wp.mSeqI, Wp.mI1, Wp.mI2, List.getElem?_cons_zero, List.getElem?_cons_succ, Option.some.injEq, exists_eq_left', exists_eq_left, W.lst.injEq, List.set_cons_zero, List.set_cons_succ, q_le, q_lt, q_gt, q_ge, q_sub, q_neg, q_eq_int, q_ne_int, q_eq_str, q_ne_str, q_eq_b, q_ne_b, q_b, q_i, q_s, q_l, q_seqS, q_seqL, q_seqT, q_seqN, q_f1, q_f2, q_count_str, q_abs, q_intI, q_isN, q_notN, q_tb, q_ti, q_lenL, q_lenT, q_tuple, if_true, Option.bind_some, Wp.callF e2, Wp.callF (layers_right h h5 _), Bool.not_true, Bool.false_eq_true, if_false]
    exact ⟨by first | rfl | trivial, by first | rfl | trivial, by first | rfl | trivial⟩
  rintro _ _ ⟨rfl, rfl⟩
  clear e2
  refine Wp.seq (fun ρ G => G = [w2] ∧ ρ = [some (.scr zs), some (.obj 0), some (.int (p.length : Int)), some (.lst (p.map fun c => W.str [c])), some (.str p), some (.lst (hl (sgp p) p.length)), some (.str (fl p 400)), some (.lst []), some (.str ns), x9, some (.int (few : Int)), some (.str (fl p (Dq (sgp p) 400))), some (.tup [.int ((fl p few).count 48 : Nat), .int ((fl p few).count 49 : Nat), .int ((fl p few).count 50 : Nat), .int ((fl p few).count 51 : Nat)]), none, none, none, none, none, none, none, none]) ?_ ?_
  · have ea : wAdd (.int (few : Int)) (.int 1) = some (.int ((few + 1 : Nat) : Int)) := q_add_n (b := 1)
    simp only [Wp.pure, Wp.bind, Wp.of, Wp.getS, Wp.gets, Wp.getv, Wp.mS, Wp.moveS, Wp.setU, Wp.setM, Wp.raise, Wp.mV, Wp.m2, Wp.m1, Wp.mB, Wp.mT, Wp.mNot, Wp.ite, Wp.mAnd, Wp.mOr, Wp.mIf, Wp.mNotV, Wp.mAndV, Wp.mOrV, Wp.mCh, Wp.mNil, Wp.mCons, Wp.getAll0, Wp.getAllC, Wp.mCall, Wp.mTup, Wp.mLst, Wp.mCallF, Wp.mNo, Wp.mSome, Wp.mCut, Wp.mM1, Wp.mMethR, Wp.mMeth, Wp.mSkip, Wp.mSet, Wp.mRet, Wp.mDrop, Wp.mAug, Wp.mPar, Wp.mParF, Wp.mAsg, Wp.tgNil, Wp.tgCons, Wp.mSeqI, Wp.mI1, Wp.mI2, List.getElem?_cons_zero, List.getElem?_cons_succ, Option.some.injEq, exists_eq_left', exists_eq_left, W.lst.injEq, List.set_cons_zero, List.set_cons_succ, q_le, q_lt, q_gt, q_ge, q_sub, q_neg, q_eq_int, q_ne_int, q_eq_str, q_ne_str, q_eq_b, q_ne_b, q_b, q_i, q_s, q_l, q_seqS, q_seqL, q_seqT, q_seqN, q_f1, q_f2, q_count_str, q_abs, q_intI, q_isN, q_notN, q_tb, q_ti, q_lenL, q_lenT, q_tuple, if_true, Option.bind_some, ea, Wp.callF (sign_ok h (show few ≤ 1000000000 by omega) _), Wp.callF (filled_ok h (show few + 1 ≤ 4000 by omega) _), q_ix_str (fl_get (p := p) (Nat.lt_succ_self few)) (show (fl p (few + 1)).length ≤ 16777216 by rw [fl_len]; omega), bneT, Bool.false_eq_true, if_false]
    exact ⟨by first | rfl | trivial, by first | rfl | trivial, by first | rfl | trivial⟩
  rintro _ _ ⟨rfl, rfl⟩
  obtain ⟨n, hpn⟩ : ∃ n, p.length = n + 1 := ⟨p.length - 1, by omega⟩
  have hs := sgl_ok (n := n) (by omega) (by omega)
  refine Wp.seq (fun ρ G => G = [w2] ∧ ρ = [some (.scr zs), some (.obj 0), some (.int (p.length : Int)), some (.lst (p.map fun c => W.str [c])), some (.str p), some (.lst (hl (sgp p) p.length)), some (.str (fl p 400)), some (.lst []), some (.str ns), x9, some (.int (few : Int)), some (.str (fl p (Dq (sgp p) 400))), some (.tup [.int ((fl p few).count 48 : Nat), .int ((fl p few).count 49 : Nat), .int ((fl p few).count 50 : Nat), .int ((fl p few).count 51 : Nat)]), some (.str (sgl n)), none, none, none, none, none, none, none]) ?_ ?_
  · simp only [Wp.mSet, Wp.m2, Wp.mM1, Wp.pure, q_s, Option.some.injEq, exists_eq_left', Wp.mV]
    refine Wp.comp (fun w => match w with | .int i => some (.str [48 + i.toNat % 4]) | _ => none) ((List.range n).map fun k : Nat => W.int (k : Int)) (szOk_of (by rw [List.length_map, List.length_range]; omega)) (by simp only [Wp.pure, Wp.bind, Wp.of, Wp.getS, Wp.gets, Wp.getv, Wp.mS, Wp.moveS, Wp.setU, Wp.setM, Wp.raise, Wp.mV, Wp.m2, Wp.m1, Wp.mB, Wp.mT, Wp.mNot, Wp.ite, Wp.mAnd, Wp.mOr, Wp.mIf, Wp.mNotV, Wp.mAndV, Wp.mOrV, Wp.mCh, Wp.mNil, Wp.mCons, Wp.getAll0, Wp.getAllC, Wp.mCall, Wp.mTup, Wp.mLst, Wp.mCallF, Wp.mNo, Wp.mSome, Wp.mCut, Wp.mM1, Wp.mMethR, Wp.mMeth, Wp.mSkip, Wp.mSet, Wp.mRet, Wp.mDrop, Wp.mAug, Wp.mPar, Wp.mParF, Wp.mAsg, Wp.tgNil, Wp.tgCons, Wp.mSeqI, Wp.mI1, Wp.mI2, List.getElem?_cons_zero, List.getElem?_cons_succ, Option.some.injEq, exists_eq_left', exists_eq_left, W.lst.injEq, List.set_cons_zero, List.set_cons_succ, q_le, q_lt, q_gt, q_ge, q_sub, q_neg, q_eq_int, q_ne_int, q_eq_str, q_ne_str, q_eq_b, q_ne_b, q_b, q_i, q_s, q_l, q_seqS, q_seqL, q_seqT, q_seqN, q_f1, q_f2, q_count_str, q_abs, q_intI, q_isN, q_notN, q_tb, q_ti, q_lenL, q_lenT, q_tuple, if_true, Option.bind_some, show ((p.length : Int) - 1) = ((n : Nat) : Int) by omega]; exact ⟨_, q_rng1_n (by omega), rfl, trivial, trivial⟩) (fun x hx => ?_) ?_
    · obtain ⟨k, hk, rfl⟩ := List.mem_map.mp hx
      have em : wMod (.int (k : Int)) (.int 4) = some (.int ((k % 4 : Nat) : Int)) := q_mod_n (b := 4) (by decide)
      have hk4 : k % 4 < 4 := Nat.mod_lt _ (by decide)
      have ei : ([48, 49, 50, 51] : List Nat)[k % 4]? = some (48 + k % 4) := by
        generalize k % 4 = j at hk4
        match j, hk4 with
        | 0, _ => rfl
        | 1, _ => rfl
        | 2, _ => rfl
        | 3, _ => rfl
      simp only [wipeR, mTrue, Wp.pure, Wp.bind, Wp.of, Wp.getS, Wp.gets, Wp.getv, Wp.mS, Wp.moveS, Wp.setU, Wp.setM, Wp.raise, Wp.mV, Wp.m2, Wp.m1, Wp.mB, Wp.mT, Wp.mNot, Wp.ite, Wp.mAnd, Wp.mOr, Wp.mIf, Wp.mNotV, Wp.mAndV, Wp.mOrV, Wp.mCh, Wp.mNil, Wp.mCons, Wp.getAll0, Wp.getAllC, Wp.mCall, Wp.mTup, Wp.mLst, Wp.mCallF, Wp.mNo, Wp.mSome, Wp.mCut, Wp.mM1, Wp.mMethR, Wp.mMeth, Wp.mSeq, Wp.mSkip, Wp.mSet, Wp.mRet, Wp.mDrop, Wp.mAug, Wp.mPar, Wp.mParF, Wp.mAsg, Wp.tgNil, Wp.tgCons, Wp.mSeqI, Wp.mI1, Wp.mI2, List.getElem?_cons_zero, List.getElem?_cons_succ, Option.some.injEq, exists_eq_left', exists_eq_left, W.lst.injEq, List.set_cons_zero, List.set_cons_succ, q_le, q_lt, q_gt, q_ge, q_sub, q_neg, q_eq_int, q_ne_int, q_eq_str, q_ne_str, q_eq_b, q_ne_b, q_b, q_i, q_s, q_l, q_seqS, q_seqL, q_seqT, q_seqN, q_f1, q_f2, q_count_str, q_abs, q_intI, q_isN, q_notN, q_tb, q_ti, q_lenL, q_lenT, q_tuple, if_true, Option.bind_some, em, q_ix_str ei (by decide), Int.toNat_natCast]
      exact ⟨by first | rfl | trivial, by first | rfl | trivial, by first | rfl | trivial⟩
    · have e : (((List.range n).map fun k : Nat => W.int (k : Int)).filterMap fun w => match w with | .int i => some (W.str [48 + i.toNat % 4]) | _ => none) = ((List.range n).map fun k => 48 + k % 4).map fun c => W.str [c] := by
        rw [List.filterMap_map, List.map_map, ← List.filterMap_eq_map]; rfl
      rw [e]
      simp only [Wp.pure, Wp.bind, Wp.of, Wp.getS, Wp.gets, Wp.getv, Wp.mS, Wp.moveS, Wp.setU, Wp.setM, Wp.raise, Wp.mV, Wp.m2, Wp.m1, Wp.mB, Wp.mT, Wp.mNot, Wp.ite, Wp.mAnd, Wp.mOr, Wp.mIf, Wp.mNotV, Wp.mAndV, Wp.mOrV, Wp.mCh, Wp.mNil, Wp.mCons, Wp.getAll0, Wp.getAllC, Wp.mCall, Wp.mTup, Wp.mLst, Wp.mCallF, Wp.mNo, Wp.mSome, Wp.mCut, Wp.mM1, Wp.mMethR, Wp.mMeth, Wp.mSkip, Wp.mSet, Wp.mRet, Wp.mDrop, Wp.mAug, Wp.mPar, Wp.mParF, Wp.mAsg, Wp.tgNil, Wp.tgCons, Wp.mSeqI, Wp.mI1, Wp.mI2, List.getElem?_cons_zero, List.getElem?_cons_succ, Option.some.injEq, exists_eq_left', exists_eq_left, W.lst.injEq, List.set_cons_zero, List.set_cons_succ, q_le, q_lt, q_gt, q_ge, q_sub, q_neg, q_eq_int, q_ne_int, q_eq_str, q_ne_str, q_eq_b, q_ne_b, q_b, q_i, q_s, q_l, q_seqS, q_seqL, q_seqT, q_seqN, q_f1, q_f2, q_count_str, q_abs, q_intI, q_isN, q_notN, q_tb, q_ti, q_lenL, q_lenT, q_tuple, if_true, Option.bind_some, q_join_signs (show ((List.range n).map fun k => 48 + k % 4).length ≤ 16777216 by rw [List.length_map, List.length_range]; omega), q_addS (show ((List.range n).map fun k => 48 + k % 4).length + [46].length ≤ 16777216 by rw [List.length_map, List.length_range]; simp; omega)]
      exact ⟨by first | rfl | trivial, by first | rfl | trivial, by first | rfl | trivial⟩
  rintro _ _ ⟨rfl, rfl⟩
  obtain ⟨place, w3, hpl, t3, e3⟩ := takeE t2 (many := 1000000) (by decide) (by decide)
  have e3 : fn__law_take [.obj 0, .int 1000000] [w2] = .ok (.int (place : Int)) [] [w3] := e3
  refine Wp.seq (fun ρ G => G = [w3] ∧ ρ = [some (.scr zs), some (.obj 0), some (.int (p.length : Int)), some (.lst (p.map fun c => W.str [c])), some (.str p), some (.lst (hl (sgp p) p.length)), some (.str (fl p 400)), some (.lst []), some (.str ns), x9, some (.int (few : Int)), some (.str (fl p (Dq (sgp p) 400))), some (.tup [.int ((fl p few).count 48 : Nat), .int ((fl p few).count 49 : Nat), .int ((fl p few).count 50 : Nat), .int ((fl p few).count 51 : Nat)]), some (.str (sgl n)), some (.int (place : Int)), none, none, none, none, none, none]) ?_ ?_
  · simp only [Wp.pure, Wp.bind, Wp.of, Wp.getS, Wp.gets, Wp.getv, Wp.mS, Wp.moveS, Wp.setU, Wp.setM, Wp.raise, Wp.mV, Wp.m2, Wp.m1, Wp.mB, Wp.mT, Wp.mNot, Wp.ite, Wp.mAnd, Wp.mOr, Wp.mIf, Wp.mNotV, Wp.mAndV, Wp.mOrV, Wp.mCh, Wp.mNil, Wp.mCons, Wp.getAll0, Wp.getAllC, Wp.mCall, Wp.mTup, Wp.mLst, Wp.mCallF, Wp.mNo, Wp.mSome, Wp.mCut, Wp.mM1, Wp.mMethR, Wp.mMeth, Wp.mSkip, Wp.mSet, Wp.mRet, Wp.mDrop, Wp.mAug, Wp.mPar, Wp.mParF, Wp.mAsg, Wp.tgNil, Wp.tgCons, Wp.mSeqI, Wp.mI1, Wp.mI2, List.getElem?_cons_zero, List.getElem?_cons_succ, Option.some.injEq, exists_eq_left', exists_eq_left, W.lst.injEq, List.set_cons_zero, List.set_cons_succ, q_le, q_lt, q_gt, q_ge, q_sub, q_neg, q_eq_int, q_ne_int, q_eq_str, q_ne_str, q_eq_b, q_ne_b, q_b, q_i, q_s, q_l, q_seqS, q_seqL, q_seqT, q_seqN, q_f1, q_f2, q_count_str, q_abs, q_intI, q_isN, q_notN, q_tb, q_ti, q_lenL, q_lenT, q_tuple, if_true, Option.bind_some, Wp.callF e3]
    exact ⟨by first | rfl | trivial, by first | rfl | trivial, by first | rfl | trivial⟩
  rintro _ _ ⟨rfl, rfl⟩
  clear e3 t2 t3
  refine Wp.seq (fun ρ G => G = [w3] ∧ ρ = [some (.scr zs), some (.obj 0), some (.int (p.length : Int)), some (.lst (p.map fun c => W.str [c])), some (.str p), some (.lst (hl (sgp p) p.length)), some (.str (fl p 400)), some (.lst []), some (.str ns), x9, some (.int (few : Int)), some (.str (fl p (Dq (sgp p) 400))), some (.tup [.int ((fl p few).count 48 : Nat), .int ((fl p few).count 49 : Nat), .int ((fl p few).count 50 : Nat), .int ((fl p few).count 51 : Nat)]), some (.str (sgl n)), some (.int (place : Int)), some (.int (place : Int)), some (.int ((0 : Nat) : Int)), none, none, none, none]) ?_ ?_
  · simp only [Wp.pure, Wp.bind, Wp.of, Wp.getS, Wp.gets, Wp.getv, Wp.mS, Wp.moveS, Wp.setU, Wp.setM, Wp.raise, Wp.mV, Wp.m2, Wp.m1, Wp.mB, Wp.mT, Wp.mNot, Wp.ite, Wp.mAnd, Wp.mOr, Wp.mIf, Wp.mNotV, Wp.mAndV, Wp.mOrV, Wp.mCh, Wp.mNil, Wp.mCons, Wp.getAll0, Wp.getAllC, Wp.mCall, Wp.mTup, Wp.mLst, Wp.mCallF, Wp.mNo, Wp.mSome, Wp.mCut, Wp.mM1, Wp.mMethR, Wp.mMeth, Wp.mSkip, Wp.mSet, Wp.mRet, Wp.mDrop, Wp.mAug, Wp.mPar, Wp.mParF, Wp.mAsg, Wp.tgNil, Wp.tgCons, Wp.mSeqI, Wp.mI1, Wp.mI2, List.getElem?_cons_zero, List.getElem?_cons_succ, Option.some.injEq, exists_eq_left', exists_eq_left, W.lst.injEq, List.set_cons_zero, List.set_cons_succ, q_le, q_lt, q_gt, q_ge, q_sub, q_neg, q_eq_int, q_ne_int, q_eq_str, q_ne_str, q_eq_b, q_ne_b, q_b, q_i, q_s, q_l, q_seqS, q_seqL, q_seqT, q_seqN, q_f1, q_f2, q_count_str, q_abs, q_intI, q_isN, q_notN, q_tb, q_ti, q_lenL, q_lenT, q_tuple, if_true, Option.bind_some]
    exact ⟨by first | rfl | trivial, by first | rfl | trivial, by first | rfl | trivial⟩
  rintro _ _ ⟨rfl, rfl⟩
  refine Wp.seq (fun ρ G => ∃ (told deep : Nat) (x9 : Option W), told % (n + 1) ≠ n ∧ fq (sgp (sgl n)) place = fq (sgp (sgl n)) told ∧ dq (sgp (sgl n)) place = deep ∧ G = [w3] ∧ ρ = [some (.scr zs), some (.obj 0), some (.int (p.length : Int)), some (.lst (p.map fun c => W.str [c])), some (.str p), some (.lst (hl (sgp p) p.length)), some (.str (fl p 400)), some (.lst []), some (.str ns), x9, some (.int (few : Int)), some (.str (fl p (Dq (sgp p) 400))), some (.tup [.int ((fl p few).count 48 : Nat), .int ((fl p few).count 49 : Nat), .int ((fl p few).count 50 : Nat), .int ((fl p few).count 51 : Nat)]), some (.str (sgl n)), some (.int (place : Int)), some (.int (told : Int)), some (.int (deep : Int)), none, none, none, none]) ?_ ?_
  · simp only [Wp.pure, Wp.bind, Wp.of, Wp.getS, Wp.gets, Wp.getv, Wp.mS, Wp.moveS, Wp.setU, Wp.setM, Wp.raise, Wp.mV, Wp.m2, Wp.m1, Wp.mB, Wp.mT, Wp.mNot, Wp.ite, Wp.mAnd, Wp.mOr, Wp.mIf, Wp.mNotV, Wp.mAndV, Wp.mOrV, Wp.mCh, Wp.mNil, Wp.mCons, Wp.getAll0, Wp.getAllC, Wp.mCall, Wp.mTup, Wp.mLst, Wp.mCallF, Wp.mNo, Wp.mSome, Wp.mCut, Wp.mM1, Wp.mMethR, Wp.mMeth, Wp.mSkip, Wp.mSet, Wp.mRet, Wp.mDrop, Wp.mAug, Wp.mPar, Wp.mParF, Wp.mAsg, Wp.tgNil, Wp.tgCons, Wp.mSeqI, Wp.mI1, Wp.mI2, List.getElem?_cons_zero, List.getElem?_cons_succ, Option.some.injEq, exists_eq_left', exists_eq_left, W.lst.injEq, List.set_cons_zero, List.set_cons_succ]
    refine ⟨_, q_rng1_n (n := 40) (by decide), ?_⟩
    refine Wp.mFor (fun i ρ G1 => ∃ (told deep : Nat) (x9 : Option W), told * 2 ^ i ≤ place ∧ fq (sgp (sgl n)) place = fq (sgp (sgl n)) told ∧ dq (sgp (sgl n)) place = dq (sgp (sgl n)) told + deep ∧ G1 = [w3] ∧ ρ = [some (.scr zs), some (.obj 0), some (.int (p.length : Int)), some (.lst (p.map fun c => W.str [c])), some (.str p), some (.lst (hl (sgp p) p.length)), some (.str (fl p 400)), some (.lst []), some (.str ns), x9, some (.int (few : Int)), some (.str (fl p (Dq (sgp p) 400))), some (.tup [.int ((fl p few).count 48 : Nat), .int ((fl p few).count 49 : Nat), .int ((fl p few).count 50 : Nat), .int ((fl p few).count 51 : Nat)]), some (.str (sgl n)), some (.int (place : Int)), some (.int (told : Int)), some (.int (deep : Int)), none, none, none, none]) 0 ⟨place, 0, x9, by simp, rfl, rfl, rfl, rfl⟩ (fun i w ρ G1 e hI => ?_) (fun ρ G1 hI => ?_)
    · obtain ⟨told, deep, y9, h1, h2, h3, rfl, rfl⟩ := hI
      rw [Nat.zero_add] at h1 ⊢
      have hm := q_mod_n (a := told) (b := p.length) h.pos
      have hne : (!(((told % p.length : Nat) : Int) == (p.length : Int) - 1)) = !decide (told % (n + 1) = n) := by
        rw [hpn]
        congr 1
        rw [Bool.eq_iff_iff, beq_iff_eq, decide_eq_true_eq]
        generalize told % (n + 1) = r
        omega
      simp only [Wp.pure, Wp.bind, Wp.of, Wp.getS, Wp.gets, Wp.getv, Wp.mS, Wp.moveS, Wp.setU, Wp.setM, Wp.raise, Wp.mV, Wp.m2, Wp.m1, Wp.mB, Wp.mT, Wp.mNot, Wp.ite, Wp.mAnd, Wp.mOr, Wp.mIf, Wp.mNotV, Wp.mAndV, Wp.mOrV, Wp.mCh, Wp.mNil, Wp.mCons, Wp.getAll0, Wp.getAllC, Wp.mCall, Wp.mTup, Wp.mLst, Wp.mCallF, Wp.mNo, Wp.mSome, Wp.mCut, Wp.mM1, Wp.mMethR, Wp.mMeth, Wp.mSeq, Wp.mSkip, Wp.mSet, Wp.mRet, Wp.mDrop, Wp.mAug, Wp.mPar, Wp.mParF, Wp.mAsg, Wp.tgNil, Wp.tgCons, Wp.mSeqI, Wp.mI1, Wp.mI2, List.getElem?_cons_zero, List.getElem?_cons_succ, Option.some.injEq, exists_eq_left', exists_eq_left, W.lst.injEq, List.set_cons_zero, List.set_cons_succ, q_le, q_lt, q_gt, q_ge, q_sub, q_neg, q_eq_int, q_ne_int, q_eq_str, q_ne_str, q_eq_b, q_ne_b, q_b, q_i, q_s, q_l, q_seqS, q_seqL, q_seqT, q_seqN, q_f1, q_f2, q_count_str, q_abs, q_intI, q_isN, q_notN, q_tb, q_ti, q_lenL, q_lenT, q_tuple, if_true, Option.bind_some, hm, hne]
      by_cases hd : told % (n + 1) = n
      · rw [decide_eq_true hd]
        have hs46 : sgp (sgl n) told = 46 := by rw [sgl_at, if_pos hd]
        have hpos : 0 < told := by
          rcases Nat.eq_zero_or_pos told with q | q
          · subst q; rw [Nat.zero_mod] at hd; omega
          · exact q
        simp only [Wp.pure, Wp.bind, Wp.of, Wp.getS, Wp.gets, Wp.getv, Wp.mS, Wp.moveS, Wp.setU, Wp.setM, Wp.raise, Wp.mV, Wp.m2, Wp.m1, Wp.mB, Wp.mT, Wp.mNot, Wp.ite, Wp.mAnd, Wp.mOr, Wp.mIf, Wp.mNotV, Wp.mAndV, Wp.mOrV, Wp.mCh, Wp.mNil, Wp.mCons, Wp.getAll0, Wp.getAllC, Wp.mCall, Wp.mTup, Wp.mLst, Wp.mCallF, Wp.mNo, Wp.mSome, Wp.mCut, Wp.mM1, Wp.mMethR, Wp.mMeth, Wp.mSkip, Wp.mSet, Wp.mRet, Wp.mDrop, Wp.mAug, Wp.mPar, Wp.mParF, Wp.mAsg, Wp.tgNil, Wp.tgCons, Wp.mSeqI, Wp.mI1, Wp.mI2, List.getElem?_cons_zero, List.getElem?_cons_succ, Option.some.injEq, exists_eq_left', exists_eq_left, W.lst.injEq, List.set_cons_zero, List.set_cons_succ, q_le, q_lt, q_gt, q_ge, q_sub, q_neg, q_eq_int, q_ne_int, q_eq_str, q_ne_str, q_eq_b, q_ne_b, q_b, q_i, q_s, q_l, q_seqS, q_seqL, q_seqT, q_seqN, q_f1, q_f2, q_count_str, q_abs, q_intI, q_isN, q_notN, q_tb, q_ti, q_lenL, q_lenT, q_tuple, if_true, Option.bind_some, Bool.not_true, Bool.false_eq_true, if_false, q_div_n (a := told) h.pos (show p.length ≤ 2 ^ 64 from Nat.le_trans h5 (by decide)), show wAdd (.int (deep : Int)) (.int 1) = some (.int ((deep + 1 : Nat) : Int)) from q_add_n (b := 1)]
        refine ⟨told / p.length, deep + 1, some w, ?_, ?_, ?_, rfl, rfl⟩
        · have q2 : told / p.length * 2 ≤ told := Nat.le_trans (Nat.mul_le_mul_left _ hlo) (Nat.div_mul_le_self _ _)
          rw [Nat.pow_succ, Nat.mul_comm (2 ^ i) 2, ← Nat.mul_assoc]
          exact Nat.le_trans (Nat.mul_le_mul_right _ q2) h1
        · rw [h2, fq_dot hs.h0 hs46, sgl_D, hpn]
        · rw [h3, dq_dot hs.h0 hs46, sgl_D, hpn]; omega
      · rw [decide_eq_false hd]
        simp only [Wp.pure, Wp.bind, Wp.of, Wp.getS, Wp.gets, Wp.getv, Wp.mS, Wp.moveS, Wp.setU, Wp.setM, Wp.raise, Wp.mV, Wp.m2, Wp.m1, Wp.mB, Wp.mT, Wp.mNot, Wp.ite, Wp.mAnd, Wp.mOr, Wp.mIf, Wp.mNotV, Wp.mAndV, Wp.mOrV, Wp.mCh, Wp.mNil, Wp.mCons, Wp.getAll0, Wp.getAllC, Wp.mCall, Wp.mTup, Wp.mLst, Wp.mCallF, Wp.mNo, Wp.mSome, Wp.mCut, Wp.mM1, Wp.mMethR, Wp.mMeth, Wp.mSkip, Wp.mSet, Wp.mRet, Wp.mDrop, Wp.mAug, Wp.mPar, Wp.mParF, Wp.mAsg, Wp.tgNil, Wp.tgCons, Wp.mSeqI, Wp.mI1, Wp.mI2, List.getElem?_cons_zero, List.getElem?_cons_succ, Option.some.injEq, exists_eq_left', exists_eq_left, W.lst.injEq, List.set_cons_zero, List.set_cons_succ, q_le, q_lt, q_gt, q_ge, q_sub, q_neg, q_eq_int, q_ne_int, q_eq_str, q_ne_str, q_eq_b, q_ne_b, q_b, q_i, q_s, q_l, q_seqS, q_seqL, q_seqT, q_seqN, q_f1, q_f2, q_count_str, q_abs, q_intI, q_isN, q_notN, q_tb, q_ti, q_lenL, q_lenT, q_tuple, if_true, Option.bind_some, Bool.not_false, if_true, turnQ]
        have hs46 : sgp (sgl n) told ≠ 46 := by
          rw [sgl_at, if_neg hd]
          intro q
          have := dg4 (told % (n + 1))
          rw [q] at this
          rcases this with q | q | q | q <;> cases q
        rw [dq_sign hs46, Nat.zero_add] at h3
        exact ⟨by first | rfl | trivial, told, deep, some w, hd, h2, h3, by first | rfl | trivial, by first | rfl | trivial⟩
    · obtain ⟨told, deep, y9, h1, h2, h3, rfl, rfl⟩ := hI
      rw [List.length_map, List.length_range, Nat.zero_add] at h1
      have h0 : told = 0 := by
        rcases Nat.eq_zero_or_pos told with q | q
        · exact q
        · have := Nat.le_trans (Nat.mul_le_mul_right (2 ^ 40) q) h1
          omega
      subst h0
      have hs46 : sgp (sgl n) 0 ≠ 46 := hs.h0
      rw [dq_sign hs46, Nat.zero_add] at h3
      exact ⟨by first | rfl | trivial, 0, deep, y9, by rw [Nat.zero_mod]; omega, h2, h3, rfl, rfl⟩
  rintro _ _ ⟨told, deep, y9, hd, h2, h3, rfl, rfl⟩
  have hs46 : sgp (sgl n) told ≠ 46 := by
    rw [sgl_at, if_neg hd]
    intro q
    have := dg4 (told % (n + 1))
    rw [q] at this
    rcases this with q | q | q | q <;> cases q
  have hk4 : told % (n + 1) % 4 < 4 := Nat.mod_lt _ (by decide)
  have ei : ([48, 49, 50, 51] : List Nat)[told % (n + 1) % 4]? = some (fq (sgp (sgl n)) told) := by
    rw [fq_sign hs46, sgl_at, if_neg hd]
    generalize told % (n + 1) % 4 = j at hk4
    match j, hk4 with
    | 0, _ => rfl
    | 1, _ => rfl
    | 2, _ => rfl
    | 3, _ => rfl
  have hm := q_mod_n (a := told) (b := p.length) h.pos
  rw [hpn] at hm
  have em : wMod (.int ((told % (n + 1) : Nat) : Int)) (.int 4) = some (.int ((told % (n + 1) % 4 : Nat) : Int)) := q_mod_n (b := 4) (by decide)
  have hm : wMod (.int (told : Int)) (.int (p.length : Int)) = some (.int ((told % (n + 1) : Nat) : Int)) := by rw [hpn]; exact hm
  simp only [Wp.pure, Wp.bind, Wp.of, Wp.getS, Wp.gets, Wp.getv, Wp.mS, Wp.moveS, Wp.setU, Wp.setM, Wp.raise, Wp.mV, Wp.m2, Wp.m1, Wp.mB, Wp.mT, Wp.mNot, Wp.ite, Wp.mAnd, Wp.mOr, Wp.mIf, Wp.mNotV, Wp.mAndV, Wp.mOrV, Wp.mCh, Wp.mNil, Wp.mCons, Wp.getAll0, Wp.getAllC, Wp.mCall, Wp.mTup, Wp.mLst, Wp.mCallF, Wp.mNo, Wp.mSome, Wp.mCut, Wp.mM1, Wp.mMethR, Wp.mMeth, Wp.mSkip, Wp.mSet, Wp.mRet, Wp.mDrop, Wp.mAug, Wp.mPar, Wp.mParF, Wp.mAsg, Wp.tgNil, Wp.tgCons, Wp.mSeqI, Wp.mI1, Wp.mI2, List.getElem?_cons_zero, List.getElem?_cons_succ, Option.some.injEq, exists_eq_left', exists_eq_left, W.lst.injEq, List.set_cons_zero, List.set_cons_succ, q_le, q_lt, q_gt, q_ge, q_sub, q_neg, q_eq_int, q_ne_int, q_eq_str, q_ne_str, q_eq_b, q_ne_b, q_b, q_i, q_s, q_l, q_seqS, q_seqL, q_seqT, q_seqN, q_f1, q_f2, q_count_str, q_abs, q_intI, q_isN, q_notN, q_tb, q_ti, q_lenL, q_lenT, q_tuple, if_true, Option.bind_some, Wp.callF (sign_ok hs (show place ≤ 1000000000 by omega) _), Wp.callF (depth_ok hs (show place ≤ 1000000000 by omega) _), hm, em, q_ix_str ei (by decide), h2, h3, beq_self_eq_true]
  exact ⟨_, by first | rfl | trivial, by first | rfl | trivial⟩
end K56
set_option Elab.async false
set_option linter.all false
set_option maxHeartbeats 4000000
set_option exponentiation.threshold 9000
namespace K56
open PySem PySem.Spec L2 Mp
open PyProof.Rows hiding St
def RS (ns : List Int) (n : Nat) (l : List (Option W)) : Sl := [some (.scr ns), some (.obj 0), some (.int (n : Int))] ++ l
theorem law_true (ns : List Int) (hn : ns.length ≤ 63) (hb : ∀ z ∈ ns, Builtin.Int.intBits z ≤ 1048576) : ∃ G', fn_law [.scr ns] [] = .ok (.bl true) [] G' := by
  have key := runF_ex (n := 21) (m := m_law) (ws := [.scr ns]) (G := []) (P := fun r G1 => r = .bl true) (by
    clear hb
    obtain ⟨w0, t0, e0⟩ := tapeE hn
    obtain ⟨v1, w1, hv1, t1, e1⟩ := takeE t0 (many := 4) (by decide) (by decide)
    have e1 : fn__law_take [.obj 0, .int 4] [w0] = .ok (.int (v1 : Int)) [] [w1] := e1
    have ea : wAdd (.int 2) (.int (v1 : Int)) = some (.int ((2 + v1 : Nat) : Int)) := q_add_n (a := 2)
    obtain ⟨n, hsz⟩ : ∃ n, 2 + v1 = n := ⟨_, rfl⟩
    rw [hsz] at ea
    have hn2 : 2 ≤ n := by omega
    have hn5 : n ≤ 5 := by omega
    unfold m_law
    refine Wp.seq (fun ρ G => G = [w0] ∧ ρ = [some (.scr ns), some (.obj 0), none, none, none, none, none, none, none, none, none, none, none, none, none, none, none, none, none, none, none]) ?_ ?_
    · simp only [List.map_cons, List.map_nil, List.length_cons, List.length_nil, List.replicate, List.cons_append, List.nil_append, Wp.pure, Wp.bind, Wp.of, Wp.getS, Wp.gets, Wp.getv, Wp.mS, Wp.moveS, Wp.setU, Wp.setM, Wp.raise, Wp.mV, Wp.m2, Wp.m1, Wp.mB, Wp.mT, Wp.mNot, Wp.ite, Wp.mAnd, Wp.mOr, Wp.mIf, Wp.mNotV, Wp.mAndV, Wp.mOrV, Wp.mCh, Wp.mNil, Wp.mCons, Wp.getAll0, Wp.getAllC, Wp.mCall, Wp.mTup, Wp.mLst, Wp.mCallF, Wp.mNo, Wp.mSome, Wp.mCut, Wp.mM1, Wp.mMethR, Wp.mMeth, Wp.mSkip, Wp.mSet, Wp.mRet, Wp.mDrop, Wp.mAug, Wp.mPar, Wp.mParF, Wp.mAsg, Wp.tgNil, Wp.tgCons, Wp.mSeqI, Wp.mI1, Wp.mI2, List.getElem?_cons_zero, List.getElem?_cons_succ, Option.some.injEq, exists_eq_left', exists_eq_left, W.lst.injEq, List.set_cons_zero, List.set_cons_succ, Wp.callF e0]
      exact ⟨by first | rfl | trivial, by first | rfl | trivial, by first | rfl | trivial⟩
    rintro _ _ ⟨rfl, rfl⟩
    refine Wp.seq (fun ρ G => G = [w1] ∧ ρ = [some (.scr ns), some (.obj 0), some (.int (n : Int)), none, none, none, none, none, none, none, none, none, none, none, none, none, none, none, none, none, none]) ?_ ?_
    · simp only [Wp.pure, Wp.bind, Wp.of, Wp.getS, Wp.gets, Wp.getv, Wp.mS, Wp.moveS, Wp.setU, Wp.setM, Wp.raise, Wp.mV, Wp.m2, Wp.m1, Wp.mB, Wp.mT, Wp.mNot, Wp.ite, Wp.mAnd, Wp.mOr, Wp.mIf, Wp.mNotV, Wp.mAndV, Wp.mOrV, Wp.mCh, Wp.mNil, Wp.mCons, Wp.getAll0, Wp.getAllC, Wp.mCall, Wp.mTup, Wp.mLst, Wp.mCallF, Wp.mNo, Wp.mSome, Wp.mCut, Wp.mM1, Wp.mMethR, Wp.mMeth, Wp.mSkip, Wp.mSet, Wp.mRet, Wp.mDrop, Wp.mAug, Wp.mPar, Wp.mParF, Wp.mAsg, Wp.tgNil, Wp.tgCons, Wp.mSeqI, Wp.mI1, Wp.mI2, List.getElem?_cons_zero, List.getElem?_cons_succ, Option.some.injEq, exists_eq_left', exists_eq_left, W.lst.injEq, List.set_cons_zero, List.set_cons_succ, Wp.callF e1, ea]
      exact ⟨by first | rfl | trivial, by first | rfl | trivial, by first | rfl | trivial⟩
    rintro _ _ ⟨rfl, rfl⟩
    refine Wp.seq (fun ρ G => ∃ l : List Nat, l.length = n ∧ (∀ c ∈ l, dg c ∨ c = 46) ∧ ∃ w, IsTape w ∧ G = [w] ∧ ρ = [some (.scr ns), some (.obj 0), some (.int (n : Int)), some (.lst (l.map fun c => W.str [c])), none, none, none, none, none, none, none, none, none, none, none, none, none, none, none, none, none]) ?_ ?_
    · rw [Wp.mSet]
      refine Wp.compS (fun i acc G => ∃ l : List Nat, acc = l.map (fun c => W.str [c]) ∧ l.length = i ∧ (∀ c ∈ l, dg c ∨ c = 46) ∧ ∃ w, IsTape w ∧ G = [w]) ((List.range n).map fun k : Nat => W.int (k : Int)) (szOk_of (by rw [List.length_map, List.length_range]; omega)) (by simp only [Wp.pure, Wp.bind, Wp.of, Wp.getS, Wp.gets, Wp.getv, Wp.mS, Wp.moveS, Wp.setU, Wp.setM, Wp.raise, Wp.mV, Wp.m2, Wp.m1, Wp.mB, Wp.mT, Wp.mNot, Wp.ite, Wp.mAnd, Wp.mOr, Wp.mIf, Wp.mNotV, Wp.mAndV, Wp.mOrV, Wp.mCh, Wp.mNil, Wp.mCons, Wp.getAll0, Wp.getAllC, Wp.mCall, Wp.mTup, Wp.mLst, Wp.mCallF, Wp.mNo, Wp.mSome, Wp.mCut, Wp.mM1, Wp.mMethR, Wp.mMeth, Wp.mSkip, Wp.mSet, Wp.mRet, Wp.mDrop, Wp.mAug, Wp.mPar, Wp.mParF, Wp.mAsg, Wp.tgNil, Wp.tgCons, Wp.mSeqI, Wp.mI1, Wp.mI2, List.getElem?_cons_zero, List.getElem?_cons_succ, Option.some.injEq, exists_eq_left', exists_eq_left, W.lst.injEq, List.set_cons_zero, List.set_cons_succ]; exact ⟨_, q_rng1_n (by omega), rfl, trivial, trivial⟩) ⟨[], rfl, rfl, (fun _ h => nomatch h), w1, t1, rfl⟩ (fun i w acc G e hI => ?_) (fun acc G' hI => ?_)
      · obtain ⟨l, rfl, hl, hd, w2, t2, rfl⟩ := hI
        obtain ⟨v3, w3, hv3, t3, e3⟩ := takeE t2 (many := 5) (by decide) (by decide)
        have e3 : fn__law_take [.obj 0, .int 5] [w2] = .ok (.int (v3 : Int)) [] [w3] := e3
        obtain ⟨c, hc, hcd⟩ := d5 v3 hv3
        simp only [wipeR, mTrue, Wp.pure, Wp.bind, Wp.of, Wp.getS, Wp.gets, Wp.getv, Wp.mS, Wp.moveS, Wp.setU, Wp.setM, Wp.raise, Wp.mV, Wp.m2, Wp.m1, Wp.mB, Wp.mT, Wp.mNot, Wp.ite, Wp.mAnd, Wp.mOr, Wp.mIf, Wp.mNotV, Wp.mAndV, Wp.mOrV, Wp.mCh, Wp.mNil, Wp.mCons, Wp.getAll0, Wp.getAllC, Wp.mCall, Wp.mTup, Wp.mLst, Wp.mCallF, Wp.mNo, Wp.mSome, Wp.mCut, Wp.mM1, Wp.mMethR, Wp.mMeth, Wp.mSeq, Wp.mSkip, Wp.mSet, Wp.mRet, Wp.mDrop, Wp.mAug, Wp.mPar, Wp.mParF, Wp.mAsg, Wp.tgNil, Wp.tgCons, Wp.mSeqI, Wp.mI1, Wp.mI2, List.getElem?_cons_zero, List.getElem?_cons_succ, Option.some.injEq, exists_eq_left', exists_eq_left, W.lst.injEq, List.set_cons_zero, List.set_cons_succ, Wp.callF e3, q_ix_str hc (by decide), if_true]
        refine ⟨⟨l ++ [c], by rw [List.map_append]; rfl, by rw [List.length_append, hl]; rfl, fun x hx => ?_, w3, t3, by first | rfl | trivial⟩, by first | rfl | trivial⟩
        rcases List.mem_append.mp hx with hx | hx
        · exact hd x hx
        · obtain rfl := List.mem_singleton.mp hx; exact hcd
      · obtain ⟨l, rfl, hl, hd, w2, t2, rfl⟩ := hI
        rw [List.length_map, List.length_range] at hl
        exact ⟨rfl, l, hl, hd, w2, t2, rfl, rfl⟩
    rintro _ _ ⟨l, hl, hd, w2, t2, rfl, rfl⟩
    obtain ⟨v3, w3, hv3, t3, e3⟩ := takeE t2 (many := 4) (by decide) (by decide)
    have e3 : fn__law_take [.obj 0, .int 4] [w2] = .ok (.int (v3 : Int)) [] [w3] := e3
    obtain ⟨c, hc, hcd⟩ := d4 v3 hv3
    refine Wp.seq (fun ρ G => G = [w3] ∧ ρ = [some (.scr ns), some (.obj 0), some (.int (n : Int)), some (.lst ((l.set 0 c).map fun c => W.str [c])), none, none, none, none, none, none, none, none, none, none, none, none, none, none, none, none, none]) ?_ ?_
    · rw [Wp.mLPut]
      simp only [Wp.pure, Wp.bind, Wp.of, Wp.getS, Wp.gets, Wp.getv, Wp.mS, Wp.moveS, Wp.setU, Wp.setM, Wp.raise, Wp.mV, Wp.m2, Wp.m1, Wp.mB, Wp.mT, Wp.mNot, Wp.ite, Wp.mAnd, Wp.mOr, Wp.mIf, Wp.mNotV, Wp.mAndV, Wp.mOrV, Wp.mCh, Wp.mNil, Wp.mCons, Wp.getAll0, Wp.getAllC, Wp.mCall, Wp.mTup, Wp.mLst, Wp.mCallF, Wp.mNo, Wp.mSome, Wp.mCut, Wp.mM1, Wp.mMethR, Wp.mMeth, Wp.mSkip, Wp.mSet, Wp.mRet, Wp.mDrop, Wp.mAug, Wp.mPar, Wp.mParF, Wp.mAsg, Wp.tgNil, Wp.tgCons, Wp.mSeqI, Wp.mI1, Wp.mI2, List.getElem?_cons_zero, List.getElem?_cons_succ, Option.some.injEq, exists_eq_left', exists_eq_left, W.lst.injEq, List.set_cons_zero, List.set_cons_succ, Wp.callF e3, q_ix_str hc (by decide), set_n (k := 0) (v := W.str [c]) (l := l.map fun c => W.str [c]) (by rw [List.length_map]; omega), show ∀ v, wSetL (.lst (l.map fun c => W.str [c])) (.int 0) v = some (.lst ((l.map fun c => W.str [c]).set 0 v)) from fun v => set_n (k := 0) (by rw [List.length_map]; omega), sets_map]
      exact ⟨by first | rfl | trivial, by first | rfl | trivial, by first | rfl | trivial⟩
    rintro _ _ ⟨rfl, rfl⟩
    obtain ⟨v4, w4, hv4, t4, e4⟩ := takeE t3 (many := n - 1) (by omega) (by omega)
    have e4 : fn__law_take [.obj 0, .int ((n : Int) - 1)] [w3] = .ok (.int (v4 : Int)) [] [w4] := by
      rw [show ((n : Int) - 1) = ((n - 1 : Nat) : Int) by omega]; exact e4
    have eb : wAdd (.int 1) (.int (v4 : Int)) = some (.int ((1 + v4 : Nat) : Int)) := q_add_n (a := 1)
    obtain ⟨p, hp⟩ : ∃ p, (l.set 0 c).set (1 + v4) 46 = p := ⟨_, rfl⟩
    refine Wp.seq (fun ρ G => G = [w4] ∧ ρ = [some (.scr ns), some (.obj 0), some (.int (n : Int)), some (.lst (p.map fun c => W.str [c])), none, none, none, none, none, none, none, none, none, none, none, none, none, none, none, none, none]) ?_ ?_
    · rw [Wp.mLPut]
      simp only [Wp.pure, Wp.bind, Wp.of, Wp.getS, Wp.gets, Wp.getv, Wp.mS, Wp.moveS, Wp.setU, Wp.setM, Wp.raise, Wp.mV, Wp.m2, Wp.m1, Wp.mB, Wp.mT, Wp.mNot, Wp.ite, Wp.mAnd, Wp.mOr, Wp.mIf, Wp.mNotV, Wp.mAndV, Wp.mOrV, Wp.mCh, Wp.mNil, Wp.mCons, Wp.getAll0, Wp.getAllC, Wp.mCall, Wp.mTup, Wp.mLst, Wp.mCallF, Wp.mNo, Wp.mSome, Wp.mCut, Wp.mM1, Wp.mMethR, Wp.mMeth, Wp.mSkip, Wp.mSet, Wp.mRet, Wp.mDrop, Wp.mAug, Wp.mPar, Wp.mParF, Wp.mAsg, Wp.tgNil, Wp.tgCons, Wp.mSeqI, Wp.mI1, Wp.mI2, List.getElem?_cons_zero, List.getElem?_cons_succ, Option.some.injEq, exists_eq_left', exists_eq_left, W.lst.injEq, List.set_cons_zero, List.set_cons_succ, q_le, q_lt, q_gt, q_ge, q_sub, q_neg, q_eq_int, q_ne_int, q_eq_str, q_ne_str, q_eq_b, q_ne_b, q_b, q_i, q_s, q_l, q_seqS, q_seqL, q_seqT, q_seqN, q_f1, q_f2, q_count_str, q_abs, q_intI, q_isN, q_notN, q_tb, q_ti, q_lenL, q_lenT, q_tuple, if_true, Option.bind_some, Wp.callF e4, eb, set_n (k := 1 + v4) (l := (l.set 0 c).map fun c => W.str [c]) (by rw [List.length_map, List.length_set]; omega), sets_map, hp]
      exact ⟨by first | rfl | trivial, by first | rfl | trivial, by first | rfl | trivial⟩
    rintro _ _ ⟨rfl, rfl⟩
    have hpl : p.length = n := by rw [← hp, List.length_set, List.length_set, hl]
    have h : OkP p := by
      refine ⟨by omega, by omega, fun x hx => ?_, ?_, ?_⟩
      · rw [← hp] at hx
        rcases List.mem_or_eq_of_mem_set hx with hx | rfl
        · rcases List.mem_or_eq_of_mem_set hx with hx | rfl
          · exact hd x hx
          · exact .inl hcd
        · exact .inr rfl
      · rw [← hp, List.getElem?_set_ne (by omega), List.getElem?_set_self (by omega)]
        intro q
        have q := Option.some.inj q
        subst q
        rcases hcd with q | q | q | q <;> cases q
      · rw [← hp]
        exact List.mem_iff_getElem?.mpr ⟨1 + v4, List.getElem?_set_self (by rw [List.length_set]; omega)⟩
    clear hp hd hl hsz ea eb e0 e1 e3 e4 hc hcd
    subst hpl
    have h5 : p.length ≤ 5 := hn5
    exact law_rest h h5 t4)
  obtain ⟨r, G1, rfl, e⟩ := key
  exact ⟨_, e⟩
end K56
set_option Elab.async false
set_option linter.all false
set_option maxRecDepth 100000
set_option maxHeartbeats 4000000
namespace K56
open PySem PySem.Spec L2 Mp
open PyProof.Rows hiding St
def topS (i : Nat) : Stmt := PySem.Challenge.pw_shiftsandcells_k56_whole_patterns_told_o.main.body.getD i (.Pass ⟨0, 0, 0, 0⟩)
abbrev s_share : Stmt := topS 6
theorem sc_share : FnScope N_share ["n", "d"] (defScope s_share) := ⟨rfl, rfl, rfl, by decide +kernel, rfl, by decide +kernel, by decide +kernel⟩
abbrev s_check_pattern : Stmt := topS 8
theorem sc_check_pattern : FnScope N_check_pattern ["pattern"] (defScope s_check_pattern) := ⟨rfl, rfl, rfl, by decide +kernel, rfl, by decide +kernel, by decide +kernel⟩
abbrev s_filled : Stmt := topS 9
theorem sc_filled : FnScope N_filled ["pattern", "length"] (defScope s_filled) := ⟨rfl, rfl, rfl, by decide +kernel, rfl, by decide +kernel, by decide +kernel⟩
abbrev s_sign_at : Stmt := topS 10
theorem sc_sign_at : FnScope N_sign_at ["pattern", "place"] (defScope s_sign_at) := ⟨rfl, rfl, rfl, by decide +kernel, rfl, by decide +kernel, by decide +kernel⟩
abbrev s_depth_at : Stmt := topS 11
theorem sc_depth_at : FnScope N_depth_at ["pattern", "place"] (defScope s_depth_at) := ⟨rfl, rfl, rfl, by decide +kernel, rfl, by decide +kernel, by decide +kernel⟩
abbrev s_layers : Stmt := topS 12
theorem sc_layers : FnScope N_layers ["pattern", "many"] (defScope s_layers) := ⟨rfl, rfl, rfl, by decide +kernel, rfl, by decide +kernel, by decide +kernel⟩
abbrev s_common : Stmt := topS 13
theorem sc_common : FnScope N_common ["a", "b"] (defScope s_common) := ⟨rfl, rfl, rfl, by decide +kernel, rfl, by decide +kernel, by decide +kernel⟩
abbrev s_open_share : Stmt := topS 14
theorem sc_open_share : FnScope N_open_share ["pattern", "many"] (defScope s_open_share) := ⟨rfl, rfl, rfl, by decide +kernel, rfl, by decide +kernel, by decide +kernel⟩
abbrev s_round_at : Stmt := topS 15
theorem sc_round_at : FnScope N_round_at ["pattern", "place"] (defScope s_round_at) := ⟨rfl, rfl, rfl, by decide +kernel, rfl, by decide +kernel, by decide +kernel⟩
abbrev s_sums_at : Stmt := topS 16
theorem sc_sums_at : FnScope N_sums_at ["pattern", "length"] (defScope s_sums_at) := ⟨rfl, rfl, rfl, by decide +kernel, rfl, by decide +kernel, by decide +kernel⟩
abbrev s__law_tape : Stmt := topS 18
theorem sc__law_tape : FnScope N__law_tape ["script"] (defScope s__law_tape) := ⟨rfl, rfl, rfl, by decide +kernel, rfl, by decide +kernel, by decide +kernel⟩
abbrev s__law_take : Stmt := topS 19
theorem sc__law_take : FnScope N__law_take ["tape", "many"] (defScope s__law_take) := ⟨rfl, rfl, rfl, by decide +kernel, rfl, by decide +kernel, by decide +kernel⟩
abbrev s__law_told : Stmt := topS 20
abbrev N__law_told : List Str := ["call"]
theorem sc__law_told : FnScope N__law_told ["call"] (defScope s__law_told) := ⟨rfl, rfl, rfl, by decide +kernel, rfl, by decide +kernel, by decide +kernel⟩
abbrev s__law_named : Stmt := topS 21
theorem sc__law_named : FnScope N__law_named ["word", "names"] (defScope s__law_named) := ⟨rfl, rfl, rfl, by decide +kernel, rfl, by decide +kernel, by decide +kernel⟩
abbrev s__law_places_right : Stmt := topS 22
theorem sc__law_places_right : FnScope N__law_places_right ["tape", "pattern", "names", "holes"] (defScope s__law_places_right) := ⟨rfl, rfl, rfl, by decide +kernel, rfl, by decide +kernel, by decide +kernel⟩
abbrev s__law_layers_right : Stmt := topS 23
theorem sc__law_layers_right : FnScope N__law_layers_right ["pattern", "long", "holes"] (defScope s__law_layers_right) := ⟨rfl, rfl, rfl, by decide +kernel, rfl, by decide +kernel, by decide +kernel⟩
abbrev s_law : Stmt := topS 24
theorem sc_law : FnScope N_law ["script"] (defScope s_law) := ⟨rfl, rfl, rfl, by decide +kernel, rfl, by decide +kernel, by decide +kernel⟩
/-- what the top has written -/
structure Txt (K : PySem.W.Frag) (mg : Str → Option Value) (ec : Nat → Addr) (tb : List (Addr × Str)) (a_share a_check_pattern a_filled a_sign_at a_depth_at a_layers a_common a_open_share a_round_at a_sums_at a__law_tape a__law_take a__law_told a__law_named a__law_places_right a__law_layers_right a_law : Addr) (d_share d_check_pattern d_filled d_sign_at d_depth_at d_layers d_common d_open_share d_round_at d_sums_at d__law_tape d__law_take d__law_told d__law_named d__law_places_right d__law_layers_right d_law : FuncData) (k_DIGITS : Tok) (c__law_layers_right p__law_layers_right c__law_places_right p__law_places_right : Addr) : Prop where
  n_abs : mg "abs" = none
  n_all : mg "all" = none
  n_any : mg "any" = none
  n_int : mg "int" = none
  n_len : mg "len" = none
  n_list : mg "list" = none
  n_min : mg "min" = none
  n_range : mg "range" = none
  n_sum : mg "sum" = none
  n_tuple : mg "tuple" = none
  n_zip : mg "zip" = none
  c_DIGITS : mg "DIGITS" = some (.str (PySem.Str.ofString "0123") k_DIGITS)
  x_InvalidPattern : mg "InvalidPattern" = some (.ref (ec 2))
  q_InvalidPattern : PySem.W.excIn K (ec 2) [.type "ValueError", .type "Exception", .type "BaseException", .type "object"] "ValueError.__new__" = true
  k_InvalidPattern : PySem.W.keepIn K (.ref (ec 2)) = true
  e_InvalidPattern : PySem.W.subIn K (.ref (ec 2)) (.type "BaseException") = some true
  y_InvalidPattern : PySem.W.typeIn K (.ref (ec 2)) = some (.type "type")
  r_InvalidPattern : PySem.W.exmOne K (.ref (ec 2)) (.ref (ec 2)) = some true
  x_InvalidShare : mg "InvalidShare" = some (.ref (ec 1))
  q_InvalidShare : PySem.W.excIn K (ec 1) [.type "ValueError", .type "Exception", .type "BaseException", .type "object"] "ValueError.__new__" = true
  k_InvalidShare : PySem.W.keepIn K (.ref (ec 1)) = true
  e_InvalidShare : PySem.W.subIn K (.ref (ec 1)) (.type "BaseException") = some true
  y_InvalidShare : PySem.W.typeIn K (.ref (ec 1)) = some (.type "type")
  g_share : mg "share" = some (.ref a_share)
  F_share : Fun K "share" "share" s_share a_share d_share
  b_share : Binds K d_share ["n", "d"] []
  g_check_pattern : mg "check_pattern" = some (.ref a_check_pattern)
  F_check_pattern : Fun K "check_pattern" "check_pattern" s_check_pattern a_check_pattern d_check_pattern
  b_check_pattern : Binds K d_check_pattern ["pattern"] []
  g_filled : mg "filled" = some (.ref a_filled)
  F_filled : Fun K "filled" "filled" s_filled a_filled d_filled
  b_filled : Binds K d_filled ["pattern", "length"] []
  g_sign_at : mg "sign_at" = some (.ref a_sign_at)
  F_sign_at : Fun K "sign_at" "sign_at" s_sign_at a_sign_at d_sign_at
  b_sign_at : Binds K d_sign_at ["pattern", "place"] []
  g_depth_at : mg "depth_at" = some (.ref a_depth_at)
  F_depth_at : Fun K "depth_at" "depth_at" s_depth_at a_depth_at d_depth_at
  b_depth_at : Binds K d_depth_at ["pattern", "place"] []
  g_layers : mg "layers" = some (.ref a_layers)
  F_layers : Fun K "layers" "layers" s_layers a_layers d_layers
  b_layers : Binds K d_layers ["pattern", "many"] []
  g_common : mg "common" = some (.ref a_common)
  F_common : Fun K "common" "common" s_common a_common d_common
  b_common : Binds K d_common ["a", "b"] []
  g_open_share : mg "open_share" = some (.ref a_open_share)
  F_open_share : Fun K "open_share" "open_share" s_open_share a_open_share d_open_share
  b_open_share : Binds K d_open_share ["pattern", "many"] []
  g_round_at : mg "round_at" = some (.ref a_round_at)
  F_round_at : Fun K "round_at" "round_at" s_round_at a_round_at d_round_at
  b_round_at : Binds K d_round_at ["pattern", "place"] []
  g_sums_at : mg "sums_at" = some (.ref a_sums_at)
  F_sums_at : Fun K "sums_at" "sums_at" s_sums_at a_sums_at d_sums_at
  b_sums_at : Binds K d_sums_at ["pattern", "length"] []
  g__law_tape : mg "_law_tape" = some (.ref a__law_tape)
  F__law_tape : Fun K "_law_tape" "_law_tape" s__law_tape a__law_tape d__law_tape
  b__law_tape : Binds K d__law_tape ["script"] []
  g__law_take : mg "_law_take" = some (.ref a__law_take)
  F__law_take : Fun K "_law_take" "_law_take" s__law_take a__law_take d__law_take
  b__law_take : Binds K d__law_take ["tape", "many"] []
  g__law_told : mg "_law_told" = some (.ref a__law_told)
  F__law_told : Fun K "_law_told" "_law_told" s__law_told a__law_told d__law_told
  b__law_told : Binds K d__law_told ["call"] []
  g__law_named : mg "_law_named" = some (.ref a__law_named)
  F__law_named : Fun K "_law_named" "_law_named" s__law_named a__law_named d__law_named
  b__law_named : Binds K d__law_named ["word", "names"] []
  g__law_places_right : mg "_law_places_right" = some (.ref a__law_places_right)
  F__law_places_right : Fun K "_law_places_right" "_law_places_right" s__law_places_right a__law_places_right d__law_places_right
  b__law_places_right : Binds K d__law_places_right ["tape", "pattern", "names", "holes"] []
  g__law_layers_right : mg "_law_layers_right" = some (.ref a__law_layers_right)
  F__law_layers_right : Fun K "_law_layers_right" "_law_layers_right" s__law_layers_right a__law_layers_right d__law_layers_right
  b__law_layers_right : Binds K d__law_layers_right ["pattern", "long", "holes"] []
  g_law : mg "law" = some (.ref a_law)
  F_law : Fun K "law" "law" s_law a_law d_law
  b_law : Binds K d_law ["script"] []
  t__law_layers_right : (p__law_layers_right, ("_law_layers_right" : Str) ++ ".<locals>." ++ "<lambda>") ∈ tb
  u__law_layers_right : ∀ p ∈ tb, p.1 = p__law_layers_right → p.2 = ("_law_layers_right" : Str) ++ ".<locals>." ++ "<lambda>"
  FC__law_layers_right : FunC K "_law_layers_right" "_law_layers_right" s__law_layers_right a__law_layers_right d__law_layers_right (.ref c__law_layers_right)
  t__law_places_right : (p__law_places_right, ("_law_places_right" : Str) ++ ".<locals>." ++ "<lambda>") ∈ tb
  u__law_places_right : ∀ p ∈ tb, p.1 = p__law_places_right → p.2 = ("_law_places_right" : Str) ++ ".<locals>." ++ "<lambda>"
  FC__law_places_right : FunC K "_law_places_right" "_law_places_right" s__law_places_right a__law_places_right d__law_places_right (.ref c__law_places_right)
section
variable {P : Program} {w : World} {K : PySem.W.Frag} {mg : Str → Option Value} {base : Heap} {ec : Nat → Addr} {tb : List (Addr × Str)} {a_share a_check_pattern a_filled a_sign_at a_depth_at a_layers a_common a_open_share a_round_at a_sums_at a__law_tape a__law_take a__law_told a__law_named a__law_places_right a__law_layers_right a_law : Addr} {d_share d_check_pattern d_filled d_sign_at d_depth_at d_layers d_common d_open_share d_round_at d_sums_at d__law_tape d__law_take d__law_told d__law_named d__law_places_right d__law_layers_right d_law : FuncData} {k_DIGITS : Tok} {c__law_layers_right p__law_layers_right c__law_places_right p__law_places_right : Addr}
theorem ok_share (T : Txt K mg ec tb a_share a_check_pattern a_filled a_sign_at a_depth_at a_layers a_common a_open_share a_round_at a_sums_at a__law_tape a__law_take a__law_told a__law_named a__law_places_right a__law_layers_right a_law d_share d_check_pattern d_filled d_sign_at d_depth_at d_layers d_common d_open_share d_round_at d_sums_at d__law_tape d__law_take d__law_told d__law_named d__law_places_right d__law_layers_right d_law k_DIGITS c__law_layers_right p__law_layers_right c__law_places_right p__law_places_right) : FnOk P w K mg base (L2.CX P w) 1 a_share d_share ["n", "d"] (spF ⟨K, ec, tb⟩ fn_share 2) :=
  fnF (c := ⟨K, ec, tb⟩) (N := N_share) Mu_share (m := m_share) T.F_share sc_share (by decide) fun cdv A outer s H E hr tk po => by
    have px := passes_call tk (fun _ _ _ _ h => h)
    exact (bCons (sIf (tCmp (op_eqD hr.units) (sEq rfl) (slotO (pv 1)) (opd eInt) rfl)
    (bOne (sRaise rfl tk PySem.F.excBase_ValueError T.q_InvalidShare T.x_InvalidShare T.k_InvalidShare (raises_own T.e_InvalidShare T.y_InvalidShare) rfl rfl))
    bNil)
    (bCons (sIf (tCmp op_ltIS sLt (slotO (pv 1)) (opd eInt) rfl)
    (bOne (sPar rfl rfl rfl sc_share.nd rfl rfl (by decide) rfl rfl (aCons (eUn un_neg sNeg (slotO (pv 0))) (aCons (eUn un_neg sNeg (slotO (pv 1))) aNil)) rfl))
    bNil)
    (bCons (sPar rfl rfl rfl sc_share.nd rfl rfl (by decide) rfl rfl (aCons (eB call_abs sAbs rfl T.n_abs bt_abs (oCons (slotO (pv 0)) oNil)) (aCons (slotV rfl (pv 1)) aNil)) rfl)
    (bCons (sWhile 1000000000000 po (tCmp op_gt sGt (slotO (pv 3)) (opd eInt) rfl)
    (bOne (sPar rfl rfl rfl sc_share.nd rfl rfl (by decide) rfl rfl (aCons (slotV rfl (pv 3)) (aCons (eBin op_mod sMod (slotO (pv 2)) (slotO (pv 3))) aNil)) rfl)))
    (bOne (sRet (eTup (aCons (eBin op_fdivW sDiv (slotO (pv 0)) (slotO (pv 2))) (aCons (eBin op_fdivW sDiv (slotO (pv 1)) (slotO (pv 2))) aNil)))))))))
theorem ok_check_pattern (T : Txt K mg ec tb a_share a_check_pattern a_filled a_sign_at a_depth_at a_layers a_common a_open_share a_round_at a_sums_at a__law_tape a__law_take a__law_told a__law_named a__law_places_right a__law_layers_right a_law d_share d_check_pattern d_filled d_sign_at d_depth_at d_layers d_common d_open_share d_round_at d_sums_at d__law_tape d__law_take d__law_told d__law_named d__law_places_right d__law_layers_right d_law k_DIGITS c__law_layers_right p__law_layers_right c__law_places_right p__law_places_right) : FnOk P w K mg base (L2.CX P w) 1 a_check_pattern d_check_pattern ["pattern"] (spF ⟨K, ec, tb⟩ fn_check_pattern 1) :=
  fnF (c := ⟨K, ec, tb⟩) (N := N_check_pattern) Mu_check_pattern (m := m_check_pattern) T.F_check_pattern sc_check_pattern (by decide) fun cdv A outer s H E hr tk po => by
    have px := passes_call tk (fun _ _ _ _ h => h)
    exact (bCons (sIf (PW.pt (wOr2 (tNot' (tChain' op_le sLe op_le sLe (opd eInt) (opd (eB call_lenA (sLen rfl) rfl T.n_len bt_len (oCons (slotO (pv 0)) oNil))) (opd eInt))) (wOr1 (tNot' (tTru (opd (eB (cr_all rfl) (sAll rfl) rfl T.n_all bt_all (oCons (opd (frz (eLc [1] rfl rfl sc_check_pattern.nd (iSeq (slotV rfl (pv 0))) (blkOk_by (own := [("sign", 1)]) (N := N_check_pattern) (sc := defScope s_check_pattern) (by decide +kernel)) (fun _ _ _ _ _ => (gNm (by decide) rfl sc_check_pattern.nd rfl (by first | exact Or.inl rfl | exact Or.inr rfl))) (fun _ _ _ _ _ => xNil) (fun _ _ _ _ _ => (eCmp op_inA (sIn rfl) (slotO (pv 1)) (opd (eBin op_plus (sAdd rfl) (opd (eGStr [48, 49, 50, 51] rfl T.c_DIGITS)) (opd (eStr [46])))) rfl))))) oNil))))))))
    (bOne (sRaise rfl tk PySem.F.excBase_ValueError T.q_InvalidPattern T.x_InvalidPattern T.k_InvalidPattern (raises_own T.e_InvalidPattern T.y_InvalidPattern) rfl rfl))
    bNil)
    (bOne (sIf (PW.pt (wOr2 (tCmp (op_eqD hr.units) (sEq rfl) (opd (eIx (by intro _ _; rfl) (slotO (pv 0)) (opd eInt))) (opd (eStr [46])) rfl) (wOr1 (tCmp op_notInA (sNotIn rfl) (opd (eStr [46])) (slotO (pv 0)) rfl))))
    (bOne (sRaise rfl tk PySem.F.excBase_ValueError T.q_InvalidPattern T.x_InvalidPattern T.k_InvalidPattern (raises_own T.e_InvalidPattern T.y_InvalidPattern) rfl rfl))
    bNil)))
theorem ok_filled (T : Txt K mg ec tb a_share a_check_pattern a_filled a_sign_at a_depth_at a_layers a_common a_open_share a_round_at a_sums_at a__law_tape a__law_take a__law_told a__law_named a__law_places_right a__law_layers_right a_law d_share d_check_pattern d_filled d_sign_at d_depth_at d_layers d_common d_open_share d_round_at d_sums_at d__law_tape d__law_take d__law_told d__law_named d__law_places_right d__law_layers_right d_law k_DIGITS c__law_layers_right p__law_layers_right c__law_places_right p__law_places_right) : FnOk P w K mg base (L2.CX P w) 2 a_filled d_filled ["pattern", "length"] (spF ⟨K, ec, tb⟩ fn_filled 2) :=
  fnF (c := ⟨K, ec, tb⟩) (N := N_filled) Mu_filled (m := m_filled) T.F_filled sc_filled (by decide) fun cdv A outer s H E hr tk po => by
    have px := passes_call tk (fun _ _ _ _ h => h)
    exact (bCons (sExpr (eCall (ok_check_pattern T) (hr.mono (by decide)) rfl T.g_check_pattern T.F_check_pattern.kp T.b_check_pattern px (aCons (slotV rfl (pv 0)) aNil) (lenS len0)))
    (bCons (sIf (tNot' (tChain' op_le sLe op_le sLe (opd eInt) (slotO (pv 1)) (opd eInt)))
    (bOne (sRaise rfl tk PySem.F.excBase_ValueError T.q_InvalidPattern T.x_InvalidPattern T.k_InvalidPattern (raises_own T.e_InvalidPattern T.y_InvalidPattern) rfl rfl))
    bNil)
    (bCons (sSetF rfl sc_filled.nd rfl (by first | exact Or.inl rfl | exact Or.inr rfl) (eLst aNil))
    (bCons (sSet rfl sc_filled.nd rfl (by first | exact Or.inl rfl | exact Or.inr rfl) eInt)
    (bCons (sFor (vs := [4]) (calmU 4) po rfl (iRange1 rfl T.n_range (oCons (slotO (pv 1)) oNil)) (gNm (by decide) rfl sc_filled.nd rfl (by first | exact Or.inl rfl | exact Or.inr rfl))
    (bCons (sSet rfl sc_filled.nd rfl (by first | exact Or.inl rfl | exact Or.inr rfl) (eIx (by intro _ _; rfl) (slotO (pv 0)) (opd (eBin op_mod sMod (slotO (pv 4)) (opd (eB call_lenA (sLen rfl) rfl T.n_len bt_len (oCons (slotO (pv 0)) oNil)))))))
    (bCons (sIf (tCmp (op_eqD hr.units) (sEq rfl) (slotO (pv 5)) (opd (eStr [46])) rfl)
    (bCons (sSet rfl sc_filled.nd rfl (by first | exact Or.inl rfl | exact Or.inr rfl) (eIx (by intro _ _; rfl) (slotO (pv 2)) (slotO (pv 3))))
    (bOne (sAug rfl iop_add sAddI sc_filled.nd rfl (by first | exact Or.inl rfl | exact Or.inr rfl) (opd eInt))))
    bNil)
    (bOne (sExpr (eMeth rfl sApp (pe_bm PySem.F.plainAttrs_list PySem.F.slot_list_append PySem.F.type_list_append mt_append (pv 2) (aCons (slotV rfl (pv 5)) aNil))))))))
    (bOne (sRet (eM1 PySem.F.slot_str_join PySem.F.type_str_join mt_join (sJoin rfl) (eStr []) (slotO (pv 2))))))))))
theorem ok_sign_at (T : Txt K mg ec tb a_share a_check_pattern a_filled a_sign_at a_depth_at a_layers a_common a_open_share a_round_at a_sums_at a__law_tape a__law_take a__law_told a__law_named a__law_places_right a__law_layers_right a_law d_share d_check_pattern d_filled d_sign_at d_depth_at d_layers d_common d_open_share d_round_at d_sums_at d__law_tape d__law_take d__law_told d__law_named d__law_places_right d__law_layers_right d_law k_DIGITS c__law_layers_right p__law_layers_right c__law_places_right p__law_places_right) : FnOk P w K mg base (L2.CX P w) 2 a_sign_at d_sign_at ["pattern", "place"] (spF ⟨K, ec, tb⟩ fn_sign_at 2) :=
  fnF (c := ⟨K, ec, tb⟩) (N := N_sign_at) Mu_sign_at (m := m_sign_at) T.F_sign_at sc_sign_at (by decide) fun cdv A outer s H E hr tk po => by
    have px := passes_call tk (fun _ _ _ _ h => h)
    exact (bCons (sExpr (eCall (ok_check_pattern T) (hr.mono (by decide)) rfl T.g_check_pattern T.F_check_pattern.kp T.b_check_pattern px (aCons (slotV rfl (pv 0)) aNil) (lenS len0)))
    (bCons (sIf (tNot' (tChain' op_le sLe op_le sLe (opd eInt) (slotO (pv 1)) (opd eInt)))
    (bOne (sRaise rfl tk PySem.F.excBase_ValueError T.q_InvalidPattern T.x_InvalidPattern T.k_InvalidPattern (raises_own T.e_InvalidPattern T.y_InvalidPattern) rfl rfl))
    bNil)
    (bCons (sSet rfl sc_sign_at.nd rfl (by first | exact Or.inl rfl | exact Or.inr rfl) (eM1 PySem.F.slot_str_count PySem.F.type_str_count mt_count sCount (slotV rfl (pv 0)) (opd (eStr [46]))))
    (bOne (sWhile 1000000000000 po (tVal eBl)
    (bCons (sPar rfl rfl rfl sc_sign_at.nd rfl rfl (by decide) rfl rfl (aCons (eBin op_fdivW sDiv (slotO (pv 1)) (opd (eB call_lenA (sLen rfl) rfl T.n_len bt_len (oCons (slotO (pv 0)) oNil)))) (aCons (eBin op_mod sMod (slotO (pv 1)) (opd (eB call_lenA (sLen rfl) rfl T.n_len bt_len (oCons (slotO (pv 0)) oNil)))) aNil)) rfl)
    (bCons (sIf (tCmp (op_neD hr.units) (sNe rfl) (opd (eIx (by intro _ _; rfl) (slotO (pv 0)) (slotO (pv 4)))) (opd (eStr [46])) rfl)
    (bOne (sRet (eIx (by intro _ _; rfl) (slotO (pv 0)) (slotO (pv 4)))))
    bNil)
    (bOne (sSet rfl sc_sign_at.nd rfl (by first | exact Or.inl rfl | exact Or.inr rfl) (eBin op_plus (sAdd rfl) (opd (eBin op_times sMul (slotO (pv 3)) (slotO (pv 2)))) (opd (eM1 PySem.F.slot_str_count PySem.F.type_str_count mt_count sCount (eSl sl_st (sCut rfl) (slotO (pv 0)) oNo (oSome (slotO (pv 4)))) (opd (eStr [46]))))))))))))))
theorem ok_depth_at (T : Txt K mg ec tb a_share a_check_pattern a_filled a_sign_at a_depth_at a_layers a_common a_open_share a_round_at a_sums_at a__law_tape a__law_take a__law_told a__law_named a__law_places_right a__law_layers_right a_law d_share d_check_pattern d_filled d_sign_at d_depth_at d_layers d_common d_open_share d_round_at d_sums_at d__law_tape d__law_take d__law_told d__law_named d__law_places_right d__law_layers_right d_law k_DIGITS c__law_layers_right p__law_layers_right c__law_places_right p__law_places_right) : FnOk P w K mg base (L2.CX P w) 2 a_depth_at d_depth_at ["pattern", "place"] (spF ⟨K, ec, tb⟩ fn_depth_at 2) :=
  fnF (c := ⟨K, ec, tb⟩) (N := N_depth_at) Mu_depth_at (m := m_depth_at) T.F_depth_at sc_depth_at (by decide) fun cdv A outer s H E hr tk po => by
    have px := passes_call tk (fun _ _ _ _ h => h)
    exact (bCons (sExpr (eCall (ok_check_pattern T) (hr.mono (by decide)) rfl T.g_check_pattern T.F_check_pattern.kp T.b_check_pattern px (aCons (slotV rfl (pv 0)) aNil) (lenS len0)))
    (bCons (sIf (tNot' (tChain' op_le sLe op_le sLe (opd eInt) (slotO (pv 1)) (opd eInt)))
    (bOne (sRaise rfl tk PySem.F.excBase_ValueError T.q_InvalidPattern T.x_InvalidPattern T.k_InvalidPattern (raises_own T.e_InvalidPattern T.y_InvalidPattern) rfl rfl))
    bNil)
    (bCons (sSet rfl sc_depth_at.nd rfl (by first | exact Or.inl rfl | exact Or.inr rfl) (eM1 PySem.F.slot_str_count PySem.F.type_str_count mt_count sCount (slotV rfl (pv 0)) (opd (eStr [46]))))
    (bCons (sSet rfl sc_depth_at.nd rfl (by first | exact Or.inl rfl | exact Or.inr rfl) eInt)
    (bCons (sWhile 1000000000000 po (tCmp (op_eqD hr.units) (sEq rfl) (opd (eIx (by intro _ _; rfl) (slotO (pv 0)) (opd (eBin op_mod sMod (slotO (pv 1)) (opd (eB call_lenA (sLen rfl) rfl T.n_len bt_len (oCons (slotO (pv 0)) oNil))))))) (opd (eStr [46])) rfl)
    (bCons (sSet rfl sc_depth_at.nd rfl (by first | exact Or.inl rfl | exact Or.inr rfl) (eBin op_plus (sAdd rfl) (opd (eBin op_times sMul (opd (eBin op_fdivW sDiv (slotO (pv 1)) (opd (eB call_lenA (sLen rfl) rfl T.n_len bt_len (oCons (slotO (pv 0)) oNil))))) (slotO (pv 2)))) (opd (eM1 PySem.F.slot_str_count PySem.F.type_str_count mt_count sCount (eSl sl_st (sCut rfl) (slotO (pv 0)) oNo (oSome (opd (eBin op_mod sMod (slotO (pv 1)) (opd (eB call_lenA (sLen rfl) rfl T.n_len bt_len (oCons (slotO (pv 0)) oNil))))))) (opd (eStr [46]))))))
    (bOne (sAug rfl iop_add sAddI sc_depth_at.nd rfl (by first | exact Or.inl rfl | exact Or.inr rfl) (opd eInt)))))
    (bOne (sRet (slotV rfl (pv 3)))))))))
theorem ok_common (T : Txt K mg ec tb a_share a_check_pattern a_filled a_sign_at a_depth_at a_layers a_common a_open_share a_round_at a_sums_at a__law_tape a__law_take a__law_told a__law_named a__law_places_right a__law_layers_right a_law d_share d_check_pattern d_filled d_sign_at d_depth_at d_layers d_common d_open_share d_round_at d_sums_at d__law_tape d__law_take d__law_told d__law_named d__law_places_right d__law_layers_right d_law k_DIGITS c__law_layers_right p__law_layers_right c__law_places_right p__law_places_right) : FnOk P w K mg base (L2.CX P w) 1 a_common d_common ["a", "b"] (spF ⟨K, ec, tb⟩ fn_common 2) :=
  fnF (c := ⟨K, ec, tb⟩) (N := N_common) Mu_common (m := m_common) T.F_common sc_common (by decide) fun cdv A outer s H E hr tk po => by
    have px := passes_call tk (fun _ _ _ _ h => h)
    exact (bCons (sWhile 1000000000000 po (tTru (slotO (pv 1)))
    (bOne (sPar rfl rfl rfl sc_common.nd rfl rfl (by decide) rfl rfl (aCons (slotV rfl (pv 1)) (aCons (eBin op_mod sMod (slotO (pv 0)) (slotO (pv 1))) aNil)) rfl)))
    (bOne (sRet (slotV rfl (pv 0)))))
theorem ok_layers (T : Txt K mg ec tb a_share a_check_pattern a_filled a_sign_at a_depth_at a_layers a_common a_open_share a_round_at a_sums_at a__law_tape a__law_take a__law_told a__law_named a__law_places_right a__law_layers_right a_law d_share d_check_pattern d_filled d_sign_at d_depth_at d_layers d_common d_open_share d_round_at d_sums_at d__law_tape d__law_take d__law_told d__law_named d__law_places_right d__law_layers_right d_law k_DIGITS c__law_layers_right p__law_layers_right c__law_places_right p__law_places_right) : FnOk P w K mg base (L2.CX P w) 2 a_layers d_layers ["pattern", "many"] (spF ⟨K, ec, tb⟩ fn_layers 2) :=
  fnF (c := ⟨K, ec, tb⟩) (N := N_layers) Mu_layers (m := m_layers) T.F_layers sc_layers (by decide) fun cdv A outer s H E hr tk po => by
    have px := passes_call tk (fun _ _ _ _ h => h)
    exact (bCons (sExpr (eCall (ok_check_pattern T) (hr.mono (by decide)) rfl T.g_check_pattern T.F_check_pattern.kp T.b_check_pattern px (aCons (slotV rfl (pv 0)) aNil) (lenS len0)))
    (bCons (sIf (tNot' (tChain' op_le sLe op_le sLe (opd eInt) (slotO (pv 1)) (opd eInt)))
    (bOne (sRaise rfl tk PySem.F.excBase_ValueError T.q_InvalidPattern T.x_InvalidPattern T.k_InvalidPattern (raises_own T.e_InvalidPattern T.y_InvalidPattern) rfl rfl))
    bNil)
    (bCons (sSet rfl sc_layers.nd rfl (by first | exact Or.inl rfl | exact Or.inr rfl) (slotV rfl (pv 0)))
    (bCons (sFor (vs := [3]) (calmU 3) po rfl (iRange1 rfl T.n_range (oCons (opd (eBin op_sub sSub (slotO (pv 1)) (opd eInt))) oNil)) (gNm (by decide) rfl sc_layers.nd rfl (by first | exact Or.inl rfl | exact Or.inr rfl))
    (bCons (sSet rfl sc_layers.nd rfl (by first | exact Or.inl rfl | exact Or.inr rfl) (eM1 PySem.F.slot_str_count PySem.F.type_str_count mt_count sCount (slotV rfl (pv 2)) (opd (eStr [46]))))
    (bCons (sSet rfl sc_layers.nd rfl (by first | exact Or.inl rfl | exact Or.inr rfl) (eBin op_times sMul (opd (eBin op_fdivW sDiv (opd (eB call_lenA (sLen rfl) rfl T.n_len bt_len (oCons (slotO (pv 0)) oNil))) (opd (eCall (ok_common T) (hr.mono (by decide)) rfl T.g_common T.F_common.kp T.b_common px (aCons (slotV rfl (pv 4)) (aCons (eB call_lenA (sLen rfl) rfl T.n_len bt_len (oCons (slotO (pv 0)) oNil)) aNil)) (lenS (lenS len0)))))) (opd (eB call_lenA (sLen rfl) rfl T.n_len bt_len (oCons (slotO (pv 2)) oNil)))))
    (bCons (sIf (tCmp op_gt sGt (slotO (pv 5)) (opd eInt) rfl)
    (bOne (sRaise rfl tk PySem.F.excBase_ValueError T.q_InvalidPattern T.x_InvalidPattern T.k_InvalidPattern (raises_own T.e_InvalidPattern T.y_InvalidPattern) rfl rfl))
    bNil)
    (bCons (sSet rfl sc_layers.nd rfl (by first | exact Or.inl rfl | exact Or.inr rfl) (eBin op_times sMul (slotO (pv 2)) (opd (eBin op_fdivW sDiv (slotO (pv 5)) (opd (eB call_lenA (sLen rfl) rfl T.n_len bt_len (oCons (slotO (pv 2)) oNil)))))))
    (bCons (sSetF rfl sc_layers.nd rfl (by first | exact Or.inl rfl | exact Or.inr rfl) (eLst aNil))
    (bCons (sSet rfl sc_layers.nd rfl (by first | exact Or.inl rfl | exact Or.inr rfl) eInt)
    (bCons (sFor (vs := [9]) (calmU 9) po rfl (iSeq (slotV rfl (pv 6))) (gNm (by decide) rfl sc_layers.nd rfl (by first | exact Or.inl rfl | exact Or.inr rfl))
    (bOne (sIf (tCmp (op_eqD hr.units) (sEq rfl) (slotO (pv 9)) (opd (eStr [46])) rfl)
    (bCons (sExpr (eMeth rfl sApp (pe_bm PySem.F.plainAttrs_list PySem.F.slot_list_append PySem.F.type_list_append mt_append (pv 7) (aCons (eIx (by intro _ _; rfl) (slotO (pv 0)) (opd (eBin op_mod sMod (slotO (pv 8)) (opd (eB call_lenA (sLen rfl) rfl T.n_len bt_len (oCons (slotO (pv 0)) oNil)))))) aNil))))
    (bOne (sAug rfl iop_add sAddI sc_layers.nd rfl (by first | exact Or.inl rfl | exact Or.inr rfl) (opd eInt))))
    (bOne (sExpr (eMeth rfl sApp (pe_bm PySem.F.plainAttrs_list PySem.F.slot_list_append PySem.F.type_list_append mt_append (pv 7) (aCons (slotV rfl (pv 9)) aNil))))))))
    (bOne (sSet rfl sc_layers.nd rfl (by first | exact Or.inl rfl | exact Or.inr rfl) (eM1 PySem.F.slot_str_join PySem.F.type_str_join mt_join (sJoin rfl) (eStr []) (slotO (pv 7)))))))))))))
    (bOne (sRet (slotV rfl (pv 2))))))))
theorem ok_open_share (T : Txt K mg ec tb a_share a_check_pattern a_filled a_sign_at a_depth_at a_layers a_common a_open_share a_round_at a_sums_at a__law_tape a__law_take a__law_told a__law_named a__law_places_right a__law_layers_right a_law d_share d_check_pattern d_filled d_sign_at d_depth_at d_layers d_common d_open_share d_round_at d_sums_at d__law_tape d__law_take d__law_told d__law_named d__law_places_right d__law_layers_right d_law k_DIGITS c__law_layers_right p__law_layers_right c__law_places_right p__law_places_right) : FnOk P w K mg base (L2.CX P w) 3 a_open_share d_open_share ["pattern", "many"] (spF ⟨K, ec, tb⟩ fn_open_share 2) :=
  fnF (c := ⟨K, ec, tb⟩) (N := N_open_share) Mu_open_share (m := m_open_share) T.F_open_share sc_open_share (by decide) fun cdv A outer s H E hr tk po => by
    have px := passes_call tk (fun _ _ _ _ h => h)
    exact (bCons (sSet rfl sc_open_share.nd rfl (by first | exact Or.inl rfl | exact Or.inr rfl) (eCall (ok_layers T) (hr.mono (by decide)) rfl T.g_layers T.F_layers.kp T.b_layers px (aCons (slotV rfl (pv 0)) (aCons (slotV rfl (pv 1)) aNil)) (lenS (lenS len0))))
    (bOne (sRet (eCall (ok_share T) (hr.mono (by decide)) rfl T.g_share T.F_share.kp T.b_share px (aCons (eM1 PySem.F.slot_str_count PySem.F.type_str_count mt_count sCount (slotV rfl (pv 2)) (opd (eStr [46]))) (aCons (eB call_lenA (sLen rfl) rfl T.n_len bt_len (oCons (slotO (pv 2)) oNil)) aNil)) (lenS (lenS len0))))))
theorem ok_round_at (T : Txt K mg ec tb a_share a_check_pattern a_filled a_sign_at a_depth_at a_layers a_common a_open_share a_round_at a_sums_at a__law_tape a__law_take a__law_told a__law_named a__law_places_right a__law_layers_right a_law d_share d_check_pattern d_filled d_sign_at d_depth_at d_layers d_common d_open_share d_round_at d_sums_at d__law_tape d__law_take d__law_told d__law_named d__law_places_right d__law_layers_right d_law k_DIGITS c__law_layers_right p__law_layers_right c__law_places_right p__law_places_right) : FnOk P w K mg base (L2.CX P w) 3 a_round_at d_round_at ["pattern", "place"] (spF ⟨K, ec, tb⟩ fn_round_at 2) :=
  fnF (c := ⟨K, ec, tb⟩) (N := N_round_at) Mu_round_at (m := m_round_at) T.F_round_at sc_round_at (by decide) fun cdv A outer s H E hr tk po => by
    have px := passes_call tk (fun _ _ _ _ h => h)
    exact (bCons (sExpr (eCall (ok_check_pattern T) (hr.mono (by decide)) rfl T.g_check_pattern T.F_check_pattern.kp T.b_check_pattern px (aCons (slotV rfl (pv 0)) aNil) (lenS len0)))
    (bCons (sFor (vs := [2]) (calmU 2) po rfl (iRange2 rfl T.n_range (oCons (opd eInt) (oCons (opd eInt) oNil))) (gNm (by decide) rfl sc_round_at.nd rfl (by first | exact Or.inl rfl | exact Or.inr rfl))
    (bCons (sSet rfl sc_round_at.nd rfl (by first | exact Or.inl rfl | exact Or.inr rfl) (eCall (ok_layers T) (hr.mono (by decide)) rfl T.g_layers T.F_layers.kp T.b_layers px (aCons (slotV rfl (pv 0)) (aCons (slotV rfl (pv 2)) aNil)) (lenS (lenS len0))))
    (bOne (sIf (tCmp (op_neD hr.units) (sNe rfl) (opd (eIx (by intro _ _; rfl) (slotO (pv 3)) (opd (eBin op_mod sMod (slotO (pv 1)) (opd (eB call_lenA (sLen rfl) rfl T.n_len bt_len (oCons (slotO (pv 3)) oNil))))))) (opd (eStr [46])) rfl)
    (bOne (sRet (eB call_lenA (sLen rfl) rfl T.n_len bt_len (oCons (slotO (pv 3)) oNil))))
    bNil))))
    (bOne (sRaise rfl tk PySem.F.excBase_ValueError T.q_InvalidPattern T.x_InvalidPattern T.k_InvalidPattern (raises_own T.e_InvalidPattern T.y_InvalidPattern) rfl rfl))))
theorem ok_sums_at (T : Txt K mg ec tb a_share a_check_pattern a_filled a_sign_at a_depth_at a_layers a_common a_open_share a_round_at a_sums_at a__law_tape a__law_take a__law_told a__law_named a__law_places_right a__law_layers_right a_law d_share d_check_pattern d_filled d_sign_at d_depth_at d_layers d_common d_open_share d_round_at d_sums_at d__law_tape d__law_take d__law_told d__law_named d__law_places_right d__law_layers_right d_law k_DIGITS c__law_layers_right p__law_layers_right c__law_places_right p__law_places_right) : FnOk P w K mg base (L2.CX P w) 3 a_sums_at d_sums_at ["pattern", "length"] (spF ⟨K, ec, tb⟩ fn_sums_at 2) :=
  fnF (c := ⟨K, ec, tb⟩) (N := N_sums_at) Mu_sums_at (m := m_sums_at) T.F_sums_at sc_sums_at (by decide) fun cdv A outer s H E hr tk po => by
    have px := passes_call tk (fun _ _ _ _ h => h)
    exact (bCons (sSet rfl sc_sums_at.nd rfl (by first | exact Or.inl rfl | exact Or.inr rfl) (eCall (ok_filled T) (hr.mono (by decide)) rfl T.g_filled T.F_filled.kp T.b_filled px (aCons (slotV rfl (pv 0)) (aCons (slotV rfl (pv 1)) aNil)) (lenS (lenS len0))))
    (bOne (sRet (eTy call_tuple_of (sTuple rfl) rfl T.n_tuple bt_tuple (oCons (opd (frz (eLc [3] rfl rfl sc_sums_at.nd (iSeq (eGStr [48, 49, 50, 51] rfl T.c_DIGITS)) (blkOk_by (own := [("sign", 3)]) (N := N_sums_at) (sc := defScope s_sums_at) (by decide +kernel)) (fun _ _ _ _ _ => (gNm (by decide) rfl sc_sums_at.nd rfl (by first | exact Or.inl rfl | exact Or.inr rfl))) (fun _ _ _ _ _ => xNil) (fun _ _ _ _ _ => (eM1 PySem.F.slot_str_count PySem.F.type_str_count mt_count sCount (slotV rfl (pv 2)) (slotO (pv 3))))))) oNil)))))
theorem ok__law_tape (T : Txt K mg ec tb a_share a_check_pattern a_filled a_sign_at a_depth_at a_layers a_common a_open_share a_round_at a_sums_at a__law_tape a__law_take a__law_told a__law_named a__law_places_right a__law_layers_right a_law d_share d_check_pattern d_filled d_sign_at d_depth_at d_layers d_common d_open_share d_round_at d_sums_at d__law_tape d__law_take d__law_told d__law_named d__law_places_right d__law_layers_right d_law k_DIGITS c__law_layers_right p__law_layers_right c__law_places_right p__law_places_right) : FnOk P w K mg base (L2.CX P w) 1 a__law_tape d__law_tape ["script"] (spF ⟨K, ec, tb⟩ fn__law_tape 1) :=
  fnF (c := ⟨K, ec, tb⟩) (N := N__law_tape) Mu__law_tape (m := m__law_tape) T.F__law_tape sc__law_tape (by decide) fun cdv A outer s H E hr tk po => by
    have px := passes_call tk (fun _ _ _ _ h => h)
    exact (bCons (sSetLc [3] rfl rfl rfl sc__law_tape.nd rfl rfl (sw_true rfl rfl rfl (by decide +kernel)) (iSeq (slotV rfl (pv 0))) (blkOk_by (own := [("cell", 3)]) (N := N__law_tape) (sc := defScope s__law_tape) (by decide +kernel)) (fun _ _ _ _ _ => (gNm (by decide) rfl sc__law_tape.nd rfl (by first | exact Or.inl rfl | exact Or.inr rfl))) (fun _ _ _ _ _ => xNil) (fun _ _ _ _ _ => (eB call_abs sAbs rfl T.n_abs bt_abs (oCons (opd (eTy call_intA sInt rfl T.n_int bt_int (oCons (slotO (pv 3)) oNil))) oNil))))
    (bCons (sSet rfl sc__law_tape.nd rfl (by first | exact Or.inl rfl | exact Or.inr rfl) eInt)
    (bCons (sFor (vs := [3]) (calmU 3) po rfl (iSeq (slotV rfl (pv 1))) (gNm (by decide) rfl sc__law_tape.nd rfl (by first | exact Or.inl rfl | exact Or.inr rfl))
    (bOne (sSet rfl sc__law_tape.nd rfl (by first | exact Or.inl rfl | exact Or.inr rfl) (eBin op_mod sMod (opd (eTy call_intA sInt rfl T.n_int bt_int (oCons (opd (eBin op_plus (sAdd rfl) (opd (eBin op_times sMul (slotO (pv 2)) (opd eInt))) (slotO (pv 3)))) oNil))) (opd eInt)))))
    (bOne (sRet (eNewObj [[99, 101, 108, 108, 115], [97, 116], [108, 101, 102, 116], [115, 101, 101, 100], [115, 97, 108, 116]] (by decide +kernel) (by decide +kernel) (by decide) (pps_cons pe_str (slotV rfl (pv 1)) (pps_cons pe_str eInt (pps_cons pe_str eInt (pps_cons pe_str (slotV rfl (pv 2)) (pps_cons pe_str eInt pps_nil))))) (dpCons (dpCons (dpCons (dpCons (dpCons dpNil))))) rfl rfl (List.cons_ne_nil _ _) (by decide)))))))
theorem ok__law_take (T : Txt K mg ec tb a_share a_check_pattern a_filled a_sign_at a_depth_at a_layers a_common a_open_share a_round_at a_sums_at a__law_tape a__law_take a__law_told a__law_named a__law_places_right a__law_layers_right a_law d_share d_check_pattern d_filled d_sign_at d_depth_at d_layers d_common d_open_share d_round_at d_sums_at d__law_tape d__law_take d__law_told d__law_named d__law_places_right d__law_layers_right d_law k_DIGITS c__law_layers_right p__law_layers_right c__law_places_right p__law_places_right) : FnOk P w K mg base (L2.CX P w) 1 a__law_take d__law_take ["tape", "many"] (spF ⟨K, ec, tb⟩ fn__law_take 2) :=
  fnF (c := ⟨K, ec, tb⟩) (N := N__law_take) Mu__law_take (m := m__law_take) T.F__law_take sc__law_take (by decide) fun cdv A outer s H E hr tk po => by
    have px := passes_call tk (fun _ _ _ _ h => h)
    exact (bCons (sIf (PW.pt (wAnd2 (tCmp (op_eqD hr.units) (sEq rfl) (opd (eDGet (hu_of hr) (slotO (pv 0)) (opd (eStr [108, 101, 102, 116])) (by intro _ _; rfl))) (opd eInt) rfl) (wAnd1 (tCmp op_ltIS sLt (opd (eDGet (hu_of hr) (slotO (pv 0)) (opd (eStr [97, 116])) (by intro _ _; rfl))) (opd (eB call_lenA (sLen rfl) rfl T.n_len bt_len (oCons (opd (eDGet (hu_of hr) (slotO (pv 0)) (opd (eStr [99, 101, 108, 108, 115])) (by intro _ _; rfl))) oNil))) rfl))))
    (bCons (sOPut rfl (hu_of hr) (pv 0) (opd (eStr [108, 101, 102, 116])) (eIx (by intro _ _; rfl) (opd (eDGet (hu_of hr) (slotO (pv 0)) (opd (eStr [99, 101, 108, 108, 115])) (by intro _ _; rfl))) (opd (eDGet (hu_of hr) (slotO (pv 0)) (opd (eStr [97, 116])) (by intro _ _; rfl)))))
    (bOne (sOPut rfl (hu_of hr) (pv 0) (opd (eStr [97, 116])) (eBin op_plus (sAdd rfl) (opd (eDGet (hu_of hr) (slotO (pv 0)) (opd (eStr [97, 116])) (by intro _ _; rfl))) (opd eInt)))))
    bNil)
    (bCons (sIf (tCmp op_gt sGt (opd (eDGet (hu_of hr) (slotO (pv 0)) (opd (eStr [108, 101, 102, 116])) (by intro _ _; rfl))) (opd eInt) rfl)
    (bCons (sSet rfl sc__law_take.nd rfl (by first | exact Or.inl rfl | exact Or.inr rfl) (eBin op_mod sMod (opd (eTy call_intA sInt rfl T.n_int bt_int (oCons (opd (eDGet (hu_of hr) (slotO (pv 0)) (opd (eStr [108, 101, 102, 116])) (by intro _ _; rfl))) oNil))) (slotO (pv 1))))
    (bCons (sOPut rfl (hu_of hr) (pv 0) (opd (eStr [108, 101, 102, 116])) (eBin op_fdivW sDiv (opd (eDGet (hu_of hr) (slotO (pv 0)) (opd (eStr [108, 101, 102, 116])) (by intro _ _; rfl))) (slotO (pv 1))))
    (bOne (sRet (slotV rfl (pv 2))))))
    bNil)
    (bCons (sOPut rfl (hu_of hr) (pv 0) (opd (eStr [115, 97, 108, 116])) (eBin op_plus (sAdd rfl) (opd (eDGet (hu_of hr) (slotO (pv 0)) (opd (eStr [115, 97, 108, 116])) (by intro _ _; rfl))) (opd eInt)))
    (bCons (sSet rfl sc__law_take.nd rfl (by first | exact Or.inl rfl | exact Or.inr rfl) (eBin op_mod sMod (opd (eTy call_intA sInt rfl T.n_int bt_int (oCons (opd (eBin op_plus (sAdd rfl) (opd (eBin op_times sMul (opd (eDGet (hu_of hr) (slotO (pv 0)) (opd (eStr [115, 101, 101, 100])) (by intro _ _; rfl))) (opd eInt))) (opd (eBin op_times sMul (opd (eDGet (hu_of hr) (slotO (pv 0)) (opd (eStr [115, 97, 108, 116])) (by intro _ _; rfl))) (opd eInt))))) oNil))) (opd eInt)))
    (bCons (sSet rfl sc__law_take.nd rfl (by first | exact Or.inl rfl | exact Or.inr rfl) (eBin op_mod sMod (opd (eTy call_intA sInt rfl T.n_int bt_int (oCons (opd (eBin op_plus (sAdd rfl) (opd (eBin op_plus (sAdd rfl) (opd (eBin op_times sMul (slotO (pv 3)) (slotO (pv 3)))) (opd (eBin op_times sMul (opd (eDGet (hu_of hr) (slotO (pv 0)) (opd (eStr [115, 97, 108, 116])) (by intro _ _; rfl))) (opd eInt))))) (opd eInt))) oNil))) (opd eInt)))
    (bOne (sRet (eBin op_mod sMod (opd (eTy call_intA sInt rfl T.n_int bt_int (oCons (slotO (pv 3)) oNil))) (slotO (pv 1))))))))))
theorem ok__law_named (T : Txt K mg ec tb a_share a_check_pattern a_filled a_sign_at a_depth_at a_layers a_common a_open_share a_round_at a_sums_at a__law_tape a__law_take a__law_told a__law_named a__law_places_right a__law_layers_right a_law d_share d_check_pattern d_filled d_sign_at d_depth_at d_layers d_common d_open_share d_round_at d_sums_at d__law_tape d__law_take d__law_told d__law_named d__law_places_right d__law_layers_right d_law k_DIGITS c__law_layers_right p__law_layers_right c__law_places_right p__law_places_right) : FnOk P w K mg base (L2.CX P w) 1 a__law_named d__law_named ["word", "names"] (spF ⟨K, ec, tb⟩ fn__law_named 2) :=
  fnF (c := ⟨K, ec, tb⟩) (N := N__law_named) Mu__law_named (m := m__law_named) T.F__law_named sc__law_named (by decide) fun cdv A outer s H E hr tk po => by
    have px := passes_call tk (fun _ _ _ _ h => h)
    exact (bOne (sRet (eM1 PySem.F.slot_str_join PySem.F.type_str_join mt_join (sJoin rfl) (eStr []) (opd (frz (eLc [2] rfl rfl sc__law_named.nd (iSeq (slotV rfl (pv 0))) (blkOk_by (own := [("sign", 2)]) (N := N__law_named) (sc := defScope s__law_named) (by decide +kernel)) (fun _ _ _ _ _ => (gNm (by decide) rfl sc__law_named.nd rfl (by first | exact Or.inl rfl | exact Or.inr rfl))) (fun _ _ _ _ _ => xNil) (fun _ _ _ _ _ => (eIf (tCmp (op_eqD hr.units) (sEq rfl) (slotO (pv 2)) (opd (eStr [46])) rfl) (slotV rfl (pv 2)) (eIx (by intro _ _; rfl) (slotO (pv 1)) (opd (eTy call_intA sInt rfl T.n_int bt_int (oCons (slotO (pv 2)) oNil))))))))))))
theorem ok__law_places_right (T : Txt K mg ec tb a_share a_check_pattern a_filled a_sign_at a_depth_at a_layers a_common a_open_share a_round_at a_sums_at a__law_tape a__law_take a__law_told a__law_named a__law_places_right a__law_layers_right a_law d_share d_check_pattern d_filled d_sign_at d_depth_at d_layers d_common d_open_share d_round_at d_sums_at d__law_tape d__law_take d__law_told d__law_named d__law_places_right d__law_layers_right d_law k_DIGITS c__law_layers_right p__law_layers_right c__law_places_right p__law_places_right) (TB__law_places_right : LamX.TabB base mg c__law_places_right p__law_places_right) : FnOk P w K mg base (L2.CX P w) 6 a__law_places_right d__law_places_right ["tape", "pattern", "names", "holes"] (spF ⟨K, ec, tb⟩ fn__law_places_right 4) :=
  fnFC (c := ⟨K, ec, tb⟩) (N := N__law_places_right) Mu__law_places_right (m := m__law_places_right) T.FC__law_places_right sc__law_places_right (by decide) fun A outer s H E hr tk po => by
    have px := passes_call tk (fun _ _ _ _ h => h)
    exact (bCons (sSet rfl sc__law_places_right.nd rfl (by first | exact Or.inl rfl | exact Or.inr rfl) (eB call_lenA (sLen rfl) rfl T.n_len bt_len (oCons (slotO (pv 1)) oNil)))
    (bCons (sFor (vs := [5]) (calmU 5) po rfl (iRange1 rfl T.n_range (oCons (opd eInt) oNil)) (gNm (by decide) rfl sc__law_places_right.nd rfl (by first | exact Or.inl rfl | exact Or.inr rfl))
    (bCons (sSet rfl sc__law_places_right.nd rfl (by first | exact Or.inl rfl | exact Or.inr rfl) (eCall (ok__law_take T) (hr.mono (by decide)) rfl T.g__law_take T.F__law_take.kp T.b__law_take px (aCons (slotV rfl (pv 0)) (aCons eInt aNil)) (lenS (lenS len0))))
    (bCons (sAsg (vs := [7, 8]) (calmTup (calmCons (calmU 7) (calmCons (calmU 8) calmNil))) (eTup (aCons (eCall (ok_sign_at T) (hr.mono (by decide)) rfl T.g_sign_at T.F_sign_at.kp T.b_sign_at px (aCons (slotV rfl (pv 1)) (aCons (slotV rfl (pv 6)) aNil)) (lenS (lenS len0))) (aCons (eCall (ok_depth_at T) (hr.mono (by decide)) rfl T.g_depth_at T.F_depth_at.kp T.b_depth_at px (aCons (slotV rfl (pv 1)) (aCons (slotV rfl (pv 6)) aNil)) (lenS (lenS len0))) aNil))) (gTup rfl (gsCons (gNm (by decide) rfl sc__law_places_right.nd rfl (by first | exact Or.inl rfl | exact Or.inr rfl)) (gsCons (gNm (by decide) rfl sc__law_places_right.nd rfl (by first | exact Or.inl rfl | exact Or.inr rfl)) gsNil))))
    (bCons (sPar rfl rfl rfl sc__law_places_right.nd rfl rfl (by decide) rfl rfl (aCons (eBin op_mod sMod (opd (eTy call_intA sInt rfl T.n_int bt_int (oCons (slotO (pv 6)) oNil))) (slotO (pv 4))) (aCons (eBin op_fdivW sDiv (slotO (pv 6)) (slotO (pv 4))) aNil)) rfl)
    (bCons (sIf (tCmp (op_neD hr.units) (sNe rfl) (opd (eIx (by intro _ _; rfl) (slotO (pv 1)) (slotO (pv 9)))) (opd (eStr [46])) rfl)
    (bOne (sIf (PW.pt (wOr2 (tCmp (op_neD hr.units) (sNe rfl) (slotO (pv 7)) (opd (eIx (by intro _ _; rfl) (slotO (pv 1)) (slotO (pv 9)))) rfl) (wOr1 (tCmp (op_neD hr.units) (sNe rfl) (slotO (pv 8)) (opd eInt) rfl))))
    (bOne (sRet eBl))
    bNil))
    (bCons (sSet rfl sc__law_places_right.nd rfl (by first | exact Or.inl rfl | exact Or.inr rfl) (eBin op_plus (sAdd rfl) (opd (eBin op_times sMul (slotO (pv 10)) (opd (eB call_lenA (sLen rfl) rfl T.n_len bt_len (oCons (slotO (pv 3)) oNil))))) (opd (eMethR sIndex (pe_bm PySem.F.plainAttrs_list PySem.F.slot_list_index PySem.F.type_list_index mt_index (slotO (pv 3)) (oCons (slotO (pv 9)) oNil))))))
    (bOne (sIf (PW.pt (wOr2 (tCmp (op_neD hr.units) (sNe rfl) (slotO (pv 7)) (opd (eCall (ok_sign_at T) (hr.mono (by decide)) rfl T.g_sign_at T.F_sign_at.kp T.b_sign_at px (aCons (slotV rfl (pv 1)) (aCons (slotV rfl (pv 11)) aNil)) (lenS (lenS len0)))) rfl) (wOr1 (tCmp (op_neD hr.units) (sNe rfl) (slotO (pv 8)) (opd (eBin op_plus (sAdd rfl) (opd (eCall (ok_depth_at T) (hr.mono (by decide)) rfl T.g_depth_at T.F_depth_at.kp T.b_depth_at px (aCons (slotV rfl (pv 1)) (aCons (slotV rfl (pv 11)) aNil)) (lenS (lenS len0)))) (opd eInt))) rfl))))
    (bOne (sRet eBl))
    bNil))))
    (bCons (sIf (PW.pt (wOr2 (tCmp (op_neD hr.units) (sNe rfl) (opd (eCall (ok_sign_at T) (hr.mono (by decide)) rfl T.g_sign_at T.F_sign_at.kp T.b_sign_at px (aCons (eCall (ok__law_named T) (hr.mono (by decide)) rfl T.g__law_named T.F__law_named.kp T.b__law_named px (aCons (slotV rfl (pv 1)) (aCons (slotV rfl (pv 2)) aNil)) (lenS (lenS len0))) (aCons (slotV rfl (pv 6)) aNil)) (lenS (lenS len0)))) (opd (eIx (by intro _ _; rfl) (slotO (pv 2)) (opd (eTy call_intA sInt rfl T.n_int bt_int (oCons (slotO (pv 7)) oNil))))) rfl) (wOr1 (tCmp (op_neD hr.units) (sNe rfl) (opd (eCall (ok_depth_at T) (hr.mono (by decide)) rfl T.g_depth_at T.F_depth_at.kp T.b_depth_at px (aCons (eCall (ok__law_named T) (hr.mono (by decide)) rfl T.g__law_named T.F__law_named.kp T.b__law_named px (aCons (slotV rfl (pv 1)) (aCons (slotV rfl (pv 2)) aNil)) (lenS (lenS len0))) (aCons (slotV rfl (pv 6)) aNil)) (lenS (lenS len0)))) (slotO (pv 8)) rfl))))
    (bOne (sRet eBl))
    bNil)
    (bCons (sIf (PW.pt (wOr2 (tCmp (op_neD hr.units) (sNe rfl) (opd (eCall (ok_sign_at T) (hr.mono (by decide)) rfl T.g_sign_at T.F_sign_at.kp T.b_sign_at px (aCons (eBin op_plus (sAdd rfl) (slotO (pv 1)) (slotO (pv 1))) (aCons (slotV rfl (pv 6)) aNil)) (lenS (lenS len0)))) (slotO (pv 7)) rfl) (wOr1 (tCmp (op_neD hr.units) (sNe rfl) (opd (eCall (ok_depth_at T) (hr.mono (by decide)) rfl T.g_depth_at T.F_depth_at.kp T.b_depth_at px (aCons (eBin op_plus (sAdd rfl) (slotO (pv 1)) (slotO (pv 1))) (aCons (slotV rfl (pv 6)) aNil)) (lenS (lenS len0)))) (slotO (pv 8)) rfl))))
    (bOne (sRet eBl))
    bNil)
    (bCons (sSet rfl sc__law_places_right.nd rfl (by first | exact Or.inl rfl | exact Or.inr rfl) (eTold (k := 3) T.F__law_told rfl rfl T.x_InvalidPattern (by decide) (fun _ => rfl) rfl T.r_InvalidPattern rfl T.g__law_told T.b__law_told sc__law_told rfl (Or.inl rfl) TB__law_places_right rfl T.t__law_places_right T.u__law_places_right (hr.mono (by decide)) (LamX.lamS_by (sc := defScope s__law_places_right) (by decide +kernel)) rfl (fun _ _ _ _ _ => rfl) (fun A outer s H E f c' hr2 tk2 => (eCall (ok_round_at T) (hr2.mono (by decide)) rfl T.g_round_at T.F_round_at.kp T.b_round_at (passes_call tk2 (fun _ _ _ _ h => h)) (aCons (slotV rfl (pv 1)) (aCons (slotV rfl (pv 6)) aNil)) (lenS (lenS len0))))))
    (bCons (sIf (PW.pt (wAnd2 (tCmp (op_neD hr.units) (sNe rfl) (opd (eCmp op_isN sIsN (slotO (pv 12)) (opd eNon) rfl)) (opd (eCmp op_gt sGt (slotO (pv 8)) (opd eInt) rfl)) rfl) (wAnd1 (tCmp op_ltIS sLt (slotO (pv 4)) (opd eInt) rfl))))
    (bOne (sRet eBl))
    bNil)
    (bOne (sIf (PW.pt (wAnd2 (tCmp op_notN sNotN (slotO (pv 12)) (opd eNon) rfl) (wAnd1 (tTru (opd (eB (cr_any rfl) (sAny rfl) rfl T.n_any bt_any (oCons (opd (frz (eLc [13] rfl rfl sc__law_places_right.nd (iRange2 rfl T.n_range (oCons (opd eInt) (oCons (opd eInt) oNil))) (blkOk_by (own := [("k", 13)]) (N := N__law_places_right) (sc := defScope s__law_places_right) (by decide +kernel)) (fun _ _ _ _ _ => (gNm (by decide) rfl sc__law_places_right.nd rfl (by first | exact Or.inl rfl | exact Or.inr rfl))) (fun _ _ _ _ _ => xNil) (fun _ _ _ _ _ => (eCmp (op_neD hr.units) (sNe rfl) (opd (eCall (ok_sign_at T) (hr.mono (by decide)) rfl T.g_sign_at T.F_sign_at.kp T.b_sign_at passE0 (aCons (slotV rfl (pv 1)) (aCons (eBin op_plus (sAdd rfl) (slotO (pv 6)) (opd (eBin op_times sMul (slotO (pv 13)) (slotO (pv 12))))) aNil)) (lenS (lenS len0)))) (slotO (pv 7)) rfl))))) oNil)))))))
    (bOne (sRet eBl))
    bNil)))))))))))
    (bOne (sRet eBl))))
theorem ok__law_layers_right (T : Txt K mg ec tb a_share a_check_pattern a_filled a_sign_at a_depth_at a_layers a_common a_open_share a_round_at a_sums_at a__law_tape a__law_take a__law_told a__law_named a__law_places_right a__law_layers_right a_law d_share d_check_pattern d_filled d_sign_at d_depth_at d_layers d_common d_open_share d_round_at d_sums_at d__law_tape d__law_take d__law_told d__law_named d__law_places_right d__law_layers_right d_law k_DIGITS c__law_layers_right p__law_layers_right c__law_places_right p__law_places_right) (TB__law_layers_right : LamX.TabB base mg c__law_layers_right p__law_layers_right) : FnOk P w K mg base (L2.CX P w) 6 a__law_layers_right d__law_layers_right ["pattern", "long", "holes"] (spF ⟨K, ec, tb⟩ fn__law_layers_right 3) :=
  fnFC (c := ⟨K, ec, tb⟩) (N := N__law_layers_right) Mu__law_layers_right (m := m__law_layers_right) T.FC__law_layers_right sc__law_layers_right (by decide) fun A outer s H E hr tk po => by
    have px := passes_call tk (fun _ _ _ _ h => h)
    exact (bCons (sSet rfl sc__law_layers_right.nd rfl (by first | exact Or.inl rfl | exact Or.inr rfl) (eB call_lenA (sLen rfl) rfl T.n_len bt_len (oCons (slotO (pv 0)) oNil)))
    (bCons (sFor (vs := [4]) (calmU 4) po rfl (iSeq (eTup (aCons eInt (aCons eInt (aCons eInt aNil))))) (gNm (by decide) rfl sc__law_layers_right.nd rfl (by first | exact Or.inl rfl | exact Or.inr rfl))
    (bCons (sSet rfl sc__law_layers_right.nd rfl (by first | exact Or.inl rfl | exact Or.inr rfl) (eTold (k := 3) T.F__law_told rfl rfl T.x_InvalidPattern (by decide) (fun _ => rfl) rfl T.r_InvalidPattern rfl T.g__law_told T.b__law_told sc__law_told rfl (Or.inl rfl) TB__law_layers_right rfl T.t__law_layers_right T.u__law_layers_right (hr.mono (by decide)) (LamX.lamS_by (sc := defScope s__law_layers_right) (by decide +kernel)) rfl (fun _ _ _ _ _ => rfl) (fun A outer s H E f c' hr2 tk2 => (eCall (ok_layers T) (hr2.mono (by decide)) rfl T.g_layers T.F_layers.kp T.b_layers (passes_call tk2 (fun _ _ _ _ h => h)) (aCons (slotV rfl (pv 0)) (aCons (slotV rfl (pv 4)) aNil)) (lenS (lenS len0))))))
    (bOne (sIf (tCmp op_notN sNotN (slotO (pv 5)) (opd eNon) rfl)
    (bCons (sPar rfl rfl rfl sc__law_layers_right.nd rfl rfl (by decide) rfl rfl (aCons (eCall (ok_open_share T) (hr.mono (by decide)) rfl T.g_open_share T.F_open_share.kp T.b_open_share px (aCons (slotV rfl (pv 0)) (aCons (slotV rfl (pv 4)) aNil)) (lenS (lenS len0))) (aCons (frz (eLst (aCons eInt (aCons eInt aNil)))) aNil)) rfl)
    (bCons (sFor (vs := [8]) (calmU 8) po rfl (iRange1 rfl T.n_range (oCons (slotO (pv 4)) oNil)) (gNm (by decide) rfl sc__law_layers_right.nd rfl (by first | exact Or.inl rfl | exact Or.inr rfl))
    (bOne (sSet rfl sc__law_layers_right.nd rfl (by first | exact Or.inl rfl | exact Or.inr rfl) (frz (eLst (aCons (eBin op_times sMul (opd (eIx (by intro _ _; rfl) (slotO (pv 7)) (opd eInt))) (opd (eB call_lenA (sLen rfl) rfl T.n_len bt_len (oCons (slotO (pv 2)) oNil)))) (aCons (eBin op_times sMul (opd (eIx (by intro _ _; rfl) (slotO (pv 7)) (opd eInt))) (slotO (pv 3))) aNil)))))))
    (bCons (sIf (PW.pt (wOr2 (tCmp (op_neD hr.units) (sNe rfl) (opd (eBin op_times sMul (opd (eIx (by intro _ _; rfl) (slotO (pv 6)) (opd eInt))) (opd (eIx (by intro _ _; rfl) (slotO (pv 7)) (opd eInt))))) (opd (eBin op_times sMul (opd (eIx (by intro _ _; rfl) (slotO (pv 7)) (opd eInt))) (opd (eIx (by intro _ _; rfl) (slotO (pv 6)) (opd eInt))))) rfl) (wOr1 (tTru (opd (eB (cr_any rfl) (sAny rfl) rfl T.n_any bt_any (oCons (opd (frz (eLc [8] rfl rfl sc__law_layers_right.nd (iRange1 rfl T.n_range (oCons (opd (eB (call_min2 rfl) sMin2 rfl T.n_min bt_min (oCons (opd eInt) (oCons (opd (eB call_lenA (sLen rfl) rfl T.n_len bt_len (oCons (slotO (pv 5)) oNil))) oNil)))) oNil)) (blkOk_by (own := [("k", 8)]) (N := N__law_layers_right) (sc := defScope s__law_layers_right) (by decide +kernel)) (fun _ _ _ _ _ => (gNm (by decide) rfl sc__law_layers_right.nd rfl (by first | exact Or.inl rfl | exact Or.inr rfl))) (fun _ _ _ _ _ => xNil) (fun _ _ _ _ _ => (eAnd2 (eCmp (op_neD hr.units) (sNe rfl) (opd (eIx (by intro _ _; rfl) (slotO (pv 5)) (slotO (pv 8)))) (opd (eStr [46])) rfl) (eAnd1 (eCmp (op_neD hr.units) (sNe rfl) (opd (eIx (by intro _ _; rfl) (slotO (pv 5)) (slotO (pv 8)))) (opd (eIx (by intro _ _; rfl) (slotO (pv 1)) (slotO (pv 8)))) rfl))))))) oNil)))))))
    (bOne (sRet eBl))
    bNil)
    (bOne (sIf (tTru (opd (eB (cr_any rfl) (sAny rfl) rfl T.n_any bt_any (oCons (opd (frz (eLc [8] rfl rfl sc__law_layers_right.nd (iRange1 rfl T.n_range (oCons (opd (eB (call_min2 rfl) sMin2 rfl T.n_min bt_min (oCons (opd eInt) (oCons (opd (eB call_lenA (sLen rfl) rfl T.n_len bt_len (oCons (slotO (pv 5)) oNil))) oNil)))) oNil)) (blkOk_by (own := [("k", 8)]) (N := N__law_layers_right) (sc := defScope s__law_layers_right) (by decide +kernel)) (fun _ _ _ _ _ => (gNm (by decide) rfl sc__law_layers_right.nd rfl (by first | exact Or.inl rfl | exact Or.inr rfl))) (fun _ _ _ _ _ => xNil) (fun _ _ _ _ _ => (eCmp (op_neD hr.units) (sNe rfl) (opd (eCmp (op_eqD hr.units) (sEq rfl) (opd (eIx (by intro _ _; rfl) (slotO (pv 5)) (slotO (pv 8)))) (opd (eStr [46])) rfl)) (opd (eCmp op_ge sGe (opd (eCall (ok_depth_at T) (hr.mono (by decide)) rfl T.g_depth_at T.F_depth_at.kp T.b_depth_at passE0 (aCons (slotV rfl (pv 0)) (aCons (slotV rfl (pv 8)) aNil)) (lenS (lenS len0)))) (slotO (pv 4)) rfl)) rfl))))) oNil))))
    (bOne (sRet eBl))
    bNil)))))
    bNil))))
    (bOne (sRet eBl))))
theorem ok_law (T : Txt K mg ec tb a_share a_check_pattern a_filled a_sign_at a_depth_at a_layers a_common a_open_share a_round_at a_sums_at a__law_tape a__law_take a__law_told a__law_named a__law_places_right a__law_layers_right a_law d_share d_check_pattern d_filled d_sign_at d_depth_at d_layers d_common d_open_share d_round_at d_sums_at d__law_tape d__law_take d__law_told d__law_named d__law_places_right d__law_layers_right d_law k_DIGITS c__law_layers_right p__law_layers_right c__law_places_right p__law_places_right) (TB__law_layers_right : LamX.TabB base mg c__law_layers_right p__law_layers_right) (TB__law_places_right : LamX.TabB base mg c__law_places_right p__law_places_right) : FnOk P w K mg base (L2.CX P w) 7 a_law d_law ["script"] (spF ⟨K, ec, tb⟩ fn_law 1) :=
  fnF (c := ⟨K, ec, tb⟩) (N := N_law) Mu_law (m := m_law) T.F_law sc_law (by decide) fun cdv A outer s H E hr tk po => by
    have px := passes_call tk (fun _ _ _ _ h => h)
    exact (bCons (sSet rfl sc_law.nd rfl (by first | exact Or.inl rfl | exact Or.inr rfl) (eCall (ok__law_tape T) (hr.mono (by decide)) rfl T.g__law_tape T.F__law_tape.kp T.b__law_tape px (aCons (slotV rfl (pv 0)) aNil) (lenS len0)))
    (bCons (sSet rfl sc_law.nd rfl (by first | exact Or.inl rfl | exact Or.inr rfl) (eBin op_plus (sAdd rfl) (opd eInt) (opd (eCall (ok__law_take T) (hr.mono (by decide)) rfl T.g__law_take T.F__law_take.kp T.b__law_take px (aCons (slotV rfl (pv 1)) (aCons eInt aNil)) (lenS (lenS len0))))))
    (bCons (sSetLcF [9] rfl rfl rfl sc_law.nd rfl rfl (sw_true rfl rfl rfl (by decide +kernel)) (iRange1 rfl T.n_range (oCons (slotO (pv 2)) oNil)) (blkOk_by (own := [("k", 9)]) (N := N_law) (sc := defScope s_law) (by decide +kernel)) (fun _ _ _ _ _ => (gNm (by decide) rfl sc_law.nd rfl (by first | exact Or.inl rfl | exact Or.inr rfl))) (fun _ _ _ _ _ => xNil) (fun _ _ _ _ _ => (eIx (by intro _ _; rfl) (opd (eStr [48, 49, 50, 51, 46])) (opd (eCall (ok__law_take T) (hr.mono (by decide)) rfl T.g__law_take T.F__law_take.kp T.b__law_take passE0 (aCons (slotV rfl (pv 1)) (aCons eInt aNil)) (lenS (lenS len0)))))))
    (bCons (sLPut rfl (pv 3) (opd eInt) (eIx (by intro _ _; rfl) (opd (eStr [48, 49, 50, 51])) (opd (eCall (ok__law_take T) (hr.mono (by decide)) rfl T.g__law_take T.F__law_take.kp T.b__law_take px (aCons (slotV rfl (pv 1)) (aCons eInt aNil)) (lenS (lenS len0))))))
    (bCons (sLPut rfl (pv 3) (opd (eBin op_plus (sAdd rfl) (opd eInt) (opd (eCall (ok__law_take T) (hr.mono (by decide)) rfl T.g__law_take T.F__law_take.kp T.b__law_take px (aCons (slotV rfl (pv 1)) (aCons (eBin op_sub sSub (slotO (pv 2)) (opd eInt)) aNil)) (lenS (lenS len0)))))) (eStr [46]))
    (bCons (sSet rfl sc_law.nd rfl (by first | exact Or.inl rfl | exact Or.inr rfl) (eM1 PySem.F.slot_str_join PySem.F.type_str_join mt_join (sJoin rfl) (eStr []) (slotO (pv 3))))
    (bCons (sSet rfl sc_law.nd rfl (by first | exact Or.inl rfl | exact Or.inr rfl) (frz (eLc [9] rfl rfl sc_law.nd (iRange1 rfl T.n_range (oCons (slotO (pv 2)) oNil)) (blkOk_by (own := [("k", 9)]) (N := N_law) (sc := defScope s_law) (by decide +kernel)) (fun _ _ _ _ _ => (gNm (by decide) rfl sc_law.nd rfl (by first | exact Or.inl rfl | exact Or.inr rfl))) (fun _ _ _ _ _ => (xOne (tCmp (op_eqD hr.units) (sEq rfl) (opd (eIx (by intro _ _; rfl) (slotO (pv 4)) (slotO (pv 9)))) (opd (eStr [46])) rfl))) (fun _ _ _ _ _ => (slotV rfl (pv 9))))))
    (bCons (sSet rfl sc_law.nd rfl (by first | exact Or.inl rfl | exact Or.inr rfl) (eCall (ok_filled T) (hr.mono (by decide)) rfl T.g_filled T.F_filled.kp T.b_filled px (aCons (slotV rfl (pv 4)) (aCons eInt aNil)) (lenS (lenS len0))))
    (bCons (sParF rfl rfl rfl sc_law.nd rfl rfl (by decide) rfl rfl (eTy (call_listS rfl) sListS rfl T.n_list bt_list (oCons (opd (eStr [48, 49, 50, 51])) oNil)) (eStr []) rfl)
    (bCons (sFor (vs := [9]) (calmU 9) po rfl (iRange1 rfl T.n_range (oCons (opd eInt) oNil)) (gNm (by decide) rfl sc_law.nd rfl (by first | exact Or.inl rfl | exact Or.inr rfl))
    (bOne (sSet rfl sc_law.nd rfl (by first | exact Or.inl rfl | exact Or.inr rfl) (eBin op_plus (sAdd rfl) (slotO (pv 8)) (opd (eMeth rfl sPopAt (pe_bm PySem.F.plainAttrs_list PySem.F.slot_list_pop PySem.F.type_list_pop mt_popAt (pv 7) (aCons (eCall (ok__law_take T) (hr.mono (by decide)) rfl T.g__law_take T.F__law_take.kp T.b__law_take px (aCons (slotV rfl (pv 1)) (aCons (eB call_lenA (sLen rfl) rfl T.n_len bt_len (oCons (slotO (pv 7)) oNil)) aNil)) (lenS (lenS len0))) aNil))))))))
    (bCons (sIf (PW.pt (wOr2 (tCmp (op_neD hr.units) (sNe rfl) (opd (eCall (ok_filled T) (hr.mono (by decide)) rfl T.g_filled T.F_filled.kp T.b_filled px (aCons (eCall (ok__law_named T) (hr.mono (by decide)) rfl T.g__law_named T.F__law_named.kp T.b__law_named px (aCons (slotV rfl (pv 4)) (aCons (slotV rfl (pv 8)) aNil)) (lenS (lenS len0))) (aCons eInt aNil)) (lenS (lenS len0)))) (opd (eCall (ok__law_named T) (hr.mono (by decide)) rfl T.g__law_named T.F__law_named.kp T.b__law_named px (aCons (slotV rfl (pv 6)) (aCons (slotV rfl (pv 8)) aNil)) (lenS (lenS len0)))) rfl) (wOr1 (tCmp (op_neD hr.units) (sNe rfl) (opd (eCall (ok_filled T) (hr.mono (by decide)) rfl T.g_filled T.F_filled.kp T.b_filled px (aCons (eBin op_plus (sAdd rfl) (slotO (pv 4)) (slotO (pv 4))) (aCons eInt aNil)) (lenS (lenS len0)))) (slotO (pv 6)) rfl))))
    (bOne (sRet eBl))
    bNil)
    (bCons (sSet rfl sc_law.nd rfl (by first | exact Or.inl rfl | exact Or.inr rfl) (eCall (ok__law_take T) (hr.mono (by decide)) rfl T.g__law_take T.F__law_take.kp T.b__law_take px (aCons (slotV rfl (pv 1)) (aCons eInt aNil)) (lenS (lenS len0))))
    (bCons (sIf (PW.pt (wOr2 (tCmp (op_neD hr.units) (sNe rfl) (opd (eCall (ok_filled T) (hr.mono (by decide)) rfl T.g_filled T.F_filled.kp T.b_filled px (aCons (slotV rfl (pv 4)) (aCons (slotV rfl (pv 10)) aNil)) (lenS (lenS len0)))) (opd (eSl sl_st (sCut rfl) (slotO (pv 6)) oNo (oSome (slotO (pv 10))))) rfl) (wOr1 (tCmp (op_neD hr.units) (sNe rfl) (opd (eCall (ok_filled T) (hr.mono (by decide)) rfl T.g_filled T.F_filled.kp T.b_filled px (aCons (slotV rfl (pv 4)) (aCons eInt aNil)) (lenS (lenS len0)))) (opd (eStr [])) rfl))))
    (bOne (sRet eBl))
    bNil)
    (bCons (sSet rfl sc_law.nd rfl (by first | exact Or.inl rfl | exact Or.inr rfl) (eM1 PySem.F.slot_str_join PySem.F.type_str_join mt_join (sJoin rfl) (eStr []) (opd (frz (eLc [9] rfl rfl sc_law.nd (iRange1 rfl T.n_range (oCons (opd eInt) oNil)) (blkOk_by (own := [("k", 9)]) (N := N_law) (sc := defScope s_law) (by decide +kernel)) (fun _ _ _ _ _ => (gNm (by decide) rfl sc_law.nd rfl (by first | exact Or.inl rfl | exact Or.inr rfl))) (fun _ _ _ _ _ => (xOne (tCmp op_inA (sIn rfl) (opd (eBin op_mod sMod (opd (eTy call_intA sInt rfl T.n_int bt_int (oCons (slotO (pv 9)) oNil))) (slotO (pv 2)))) (slotO (pv 5)) rfl))) (fun _ _ _ _ _ => (eIx (by intro _ _; rfl) (slotO (pv 6)) (slotO (pv 9)))))))))
    (bCons (sIf (PW.pt (wOr2 (tCmp (op_neD hr.units) (sNe rfl) (slotO (pv 11)) (opd (eSl sl_st (sCut rfl) (slotO (pv 6)) oNo (oSome (opd (eB call_lenA (sLen rfl) rfl T.n_len bt_len (oCons (slotO (pv 11)) oNil)))))) rfl) (wOr1 (tTru (opd (eB (cr_any rfl) (sAny rfl) rfl T.n_any bt_any (oCons (opd (frz (eLc [9] rfl rfl sc_law.nd (iRange1 rfl T.n_range (oCons (opd eInt) oNil)) (blkOk_by (own := [("k", 9)]) (N := N_law) (sc := defScope s_law) (by decide +kernel)) (fun _ _ _ _ _ => (gNm (by decide) rfl sc_law.nd rfl (by first | exact Or.inl rfl | exact Or.inr rfl))) (fun _ _ _ _ _ => xNil) (fun _ _ _ _ _ => (eAnd2 (eCmp (op_neD hr.units) (sNe rfl) (opd (eIx (by intro _ _; rfl) (slotO (pv 4)) (opd (eBin op_mod sMod (opd (eTy call_intA sInt rfl T.n_int bt_int (oCons (slotO (pv 9)) oNil))) (slotO (pv 2)))))) (opd (eStr [46])) rfl) (eAnd1 (eCmp (op_neD hr.units) (sNe rfl) (opd (eIx (by intro _ _; rfl) (slotO (pv 6)) (slotO (pv 9)))) (opd (eIx (by intro _ _; rfl) (slotO (pv 4)) (opd (eBin op_mod sMod (opd (eTy call_intA sInt rfl T.n_int bt_int (oCons (slotO (pv 9)) oNil))) (slotO (pv 2)))))) rfl))))))) oNil)))))))
    (bOne (sRet eBl))
    bNil)
    (bCons (sSet rfl sc_law.nd rfl (by first | exact Or.inl rfl | exact Or.inr rfl) (eCall (ok_sums_at T) (hr.mono (by decide)) rfl T.g_sums_at T.F_sums_at.kp T.b_sums_at px (aCons (slotV rfl (pv 4)) (aCons (slotV rfl (pv 10)) aNil)) (lenS (lenS len0))))
    (bCons (sIf (PW.pt (wOr2 (tCmp (op_neD hr.units) (sNe rfl) (opd (eB (cr_sumA rfl) (sSumA rfl) rfl T.n_sum bt_sum (oCons (slotO (pv 12)) oNil))) (slotO (pv 10)) rfl) (wOr1 (tCmp (op_neD hr.units) (sNe rfl) (slotO (pv 12)) (opd (eTy call_tuple_of (sTuple rfl) rfl T.n_tuple bt_tuple (oCons (opd (frz (eLc [17] rfl rfl sc_law.nd (iSeq (eStr [48, 49, 50, 51])) (blkOk_by (own := [("digit", 17)]) (N := N_law) (sc := defScope s_law) (by decide +kernel)) (fun _ _ _ _ _ => (gNm (by decide) rfl sc_law.nd rfl (by first | exact Or.inl rfl | exact Or.inr rfl))) (fun _ _ _ _ _ => xNil) (fun _ _ _ _ _ => (eB call_lenA (sLen rfl) rfl T.n_len bt_len (oCons (opd (frz (eLc [18] rfl rfl sc_law.nd (iSeq (eSl sl_st (sCut rfl) (slotO (pv 6)) oNo (oSome (slotO (pv 10))))) (blkOk_by (own := [("sign", 18)]) (by kernel_rfl)) (fun _ _ _ _ _ => (gNm (by decide) rfl sc_law.nd rfl (by first | exact Or.inl rfl | exact Or.inr rfl))) (fun _ _ _ _ _ => (xOne (tCmp (op_eqD hr.units) (sEq rfl) (slotO (pv 18)) (slotO (pv 17)) rfl))) (fun _ _ _ _ _ => (slotV rfl (pv 18)))))) oNil)))))) oNil))) rfl))))
    (bOne (sRet eBl))
    bNil)
    (bCons (sIf (tTru (opd (eB (cr_any rfl) (sAny rfl) rfl T.n_any bt_any (oCons (opd (frz (eLc [19, 20] rfl rfl sc_law.nd (iSeq (frz (eListZip rfl T.n_list rfl T.n_zip (oCons (slotO (pv 12)) (oCons (opd (eCall (ok_sums_at T) (hr.mono (by decide)) rfl T.g_sums_at T.F_sums_at.kp T.b_sums_at px (aCons (slotV rfl (pv 4)) (aCons eInt aNil)) (lenS (lenS len0)))) oNil))))) (blkOk_by (own := [("a", 19), ("b", 20)]) (N := N_law) (sc := defScope s_law) (by decide +kernel)) (fun _ _ _ _ _ => (gTup rfl (gsCons (gNm (by decide) rfl sc_law.nd rfl (by first | exact Or.inl rfl | exact Or.inr rfl)) (gsCons (gNm (by decide) rfl sc_law.nd rfl (by first | exact Or.inl rfl | exact Or.inr rfl)) gsNil)))) (fun _ _ _ _ _ => xNil) (fun _ _ _ _ _ => (eCmp op_gt sGt (slotO (pv 19)) (slotO (pv 20)) rfl))))) oNil))))
    (bOne (sRet eBl))
    bNil)
    (bCons (sIf (PW.pt (wOr2 (tNot' (tTru (opd (eCall (ok__law_places_right T TB__law_places_right) (hr.mono (by decide)) rfl T.g__law_places_right T.F__law_places_right.kp T.b__law_places_right px (aCons (slotV rfl (pv 1)) (aCons (slotV rfl (pv 4)) (aCons (slotV rfl (pv 8)) (aCons (slotV rfl (pv 5)) aNil)))) (lenS (lenS (lenS (lenS len0)))))))) (wOr1 (tNot' (tTru (opd (eCall (ok__law_layers_right T TB__law_layers_right) (hr.mono (by decide)) rfl T.g__law_layers_right T.F__law_layers_right.kp T.b__law_layers_right px (aCons (slotV rfl (pv 4)) (aCons (slotV rfl (pv 6)) (aCons (slotV rfl (pv 5)) aNil))) (lenS (lenS (lenS len0))))))))))
    (bOne (sRet eBl))
    bNil)
    (bCons (sIf (tCmp (op_neD hr.units) (sNe rfl) (opd (eCall (ok_sign_at T) (hr.mono (by decide)) rfl T.g_sign_at T.F_sign_at.kp T.b_sign_at px (aCons (slotV rfl (pv 4)) (aCons (slotV rfl (pv 10)) aNil)) (lenS (lenS len0)))) (opd (eIx (by intro _ _; rfl) (opd (eCall (ok_filled T) (hr.mono (by decide)) rfl T.g_filled T.F_filled.kp T.b_filled px (aCons (slotV rfl (pv 4)) (aCons (eBin op_plus (sAdd rfl) (slotO (pv 10)) (opd eInt)) aNil)) (lenS (lenS len0)))) (slotO (pv 10)))) rfl)
    (bOne (sRet eBl))
    bNil)
    (bCons (sSet rfl sc_law.nd rfl (by first | exact Or.inl rfl | exact Or.inr rfl) (eBin op_plus (sAdd rfl) (opd (eM1 PySem.F.slot_str_join PySem.F.type_str_join mt_join (sJoin rfl) (eStr []) (opd (frz (eLc [9] rfl rfl sc_law.nd (iRange1 rfl T.n_range (oCons (opd (eBin op_sub sSub (slotO (pv 2)) (opd eInt))) oNil)) (blkOk_by (own := [("k", 9)]) (N := N_law) (sc := defScope s_law) (by decide +kernel)) (fun _ _ _ _ _ => (gNm (by decide) rfl sc_law.nd rfl (by first | exact Or.inl rfl | exact Or.inr rfl))) (fun _ _ _ _ _ => xNil) (fun _ _ _ _ _ => (eIx (by intro _ _; rfl) (opd (eStr [48, 49, 50, 51])) (opd (eBin op_mod sMod (opd (eTy call_intA sInt rfl T.n_int bt_int (oCons (slotO (pv 9)) oNil))) (opd eInt)))))))))) (opd (eStr [46]))))
    (bCons (sSet rfl sc_law.nd rfl (by first | exact Or.inl rfl | exact Or.inr rfl) (eCall (ok__law_take T) (hr.mono (by decide)) rfl T.g__law_take T.F__law_take.kp T.b__law_take px (aCons (slotV rfl (pv 1)) (aCons eInt aNil)) (lenS (lenS len0))))
    (bCons (sPar rfl rfl rfl sc_law.nd rfl rfl (by decide) rfl rfl (aCons (slotV rfl (pv 14)) (aCons eInt aNil)) rfl)
    (bCons (sFor (vs := [9]) (calmU 9) po rfl (iRange1 rfl T.n_range (oCons (opd eInt) oNil)) (gNm (by decide) rfl sc_law.nd rfl (by first | exact Or.inl rfl | exact Or.inr rfl))
    (bCons (sIf (tCmp (op_neD hr.units) (sNe rfl) (opd (eBin op_mod sMod (opd (eTy call_intA sInt rfl T.n_int bt_int (oCons (slotO (pv 15)) oNil))) (slotO (pv 2)))) (opd (eBin op_sub sSub (slotO (pv 2)) (opd eInt))) rfl)
    (bOne sBreak)
    bNil)
    (bOne (sPar rfl rfl rfl sc_law.nd rfl rfl (by decide) rfl rfl (aCons (eBin op_fdivW sDiv (slotO (pv 15)) (slotO (pv 2))) (aCons (eBin op_plus (sAdd rfl) (slotO (pv 16)) (opd eInt)) aNil)) rfl))))
    (bOne (sRet (eAnd2 (eCmp (op_eqD hr.units) (sEq rfl) (opd (eCall (ok_sign_at T) (hr.mono (by decide)) rfl T.g_sign_at T.F_sign_at.kp T.b_sign_at px (aCons (slotV rfl (pv 13)) (aCons (slotV rfl (pv 14)) aNil)) (lenS (lenS len0)))) (opd (eIx (by intro _ _; rfl) (opd (eStr [48, 49, 50, 51])) (opd (eBin op_mod sMod (opd (eTy call_intA sInt rfl T.n_int bt_int (oCons (opd (eBin op_mod sMod (opd (eTy call_intA sInt rfl T.n_int bt_int (oCons (slotO (pv 15)) oNil))) (slotO (pv 2)))) oNil))) (opd eInt))))) rfl) (eAnd1 (eCmp (op_eqD hr.units) (sEq rfl) (opd (eCall (ok_depth_at T) (hr.mono (by decide)) rfl T.g_depth_at T.F_depth_at.kp T.b_depth_at px (aCons (slotV rfl (pv 13)) (aCons (slotV rfl (pv 14)) aNil)) (lenS (lenS len0)))) (slotO (pv 16)) rfl)))))))))))))))))))))))))))))
end
end K56
set_option Elab.async false
set_option linter.all false
set_option maxRecDepth 100000
set_option maxHeartbeats 4000000
namespace K56
open PySem PySem.Spec L2 Mp
open PyProof.Rows hiding St
theorem all_mk {l : PySem.W.OpenLaw} {w : World} {K : PySem.W.Frag} {h : Heap} {mg : Str → Option Value} {fa a_share a_check_pattern a_filled a_sign_at a_depth_at a_layers a_common a_open_share a_round_at a_sums_at a__law_tape a__law_take a__law_told a__law_named a__law_places_right a__law_layers_right a_law c__law_layers_right p__law_layers_right c__law_places_right p__law_places_right x_InvalidPattern x_InvalidShare : Addr} {k_DIGITS : Tok} (X : K.In h) (G : h.Ns mainGlobals mg) (hfa : mg "law" = some (.ref fa))
    {od_share an_share : Option Addr} {sl_share : Array (Option Value)} {oc_share kV_share dc_share pm_share ct_share cd_share : Value}
    {od_check_pattern an_check_pattern : Option Addr} {sl_check_pattern : Array (Option Value)} {oc_check_pattern kV_check_pattern dc_check_pattern pm_check_pattern ct_check_pattern cd_check_pattern : Value}
    {od_filled an_filled : Option Addr} {sl_filled : Array (Option Value)} {oc_filled kV_filled dc_filled pm_filled ct_filled cd_filled : Value}
    {od_sign_at an_sign_at : Option Addr} {sl_sign_at : Array (Option Value)} {oc_sign_at kV_sign_at dc_sign_at pm_sign_at ct_sign_at cd_sign_at : Value}
    {od_depth_at an_depth_at : Option Addr} {sl_depth_at : Array (Option Value)} {oc_depth_at kV_depth_at dc_depth_at pm_depth_at ct_depth_at cd_depth_at : Value}
    {od_layers an_layers : Option Addr} {sl_layers : Array (Option Value)} {oc_layers kV_layers dc_layers pm_layers ct_layers cd_layers : Value}
    {od_common an_common : Option Addr} {sl_common : Array (Option Value)} {oc_common kV_common dc_common pm_common ct_common cd_common : Value}
    {od_open_share an_open_share : Option Addr} {sl_open_share : Array (Option Value)} {oc_open_share kV_open_share dc_open_share pm_open_share ct_open_share cd_open_share : Value}
    {od_round_at an_round_at : Option Addr} {sl_round_at : Array (Option Value)} {oc_round_at kV_round_at dc_round_at pm_round_at ct_round_at cd_round_at : Value}
    {od_sums_at an_sums_at : Option Addr} {sl_sums_at : Array (Option Value)} {oc_sums_at kV_sums_at dc_sums_at pm_sums_at ct_sums_at cd_sums_at : Value}
    {od__law_tape an__law_tape : Option Addr} {sl__law_tape : Array (Option Value)} {oc__law_tape kV__law_tape dc__law_tape pm__law_tape ct__law_tape cd__law_tape : Value}
    {od__law_take an__law_take : Option Addr} {sl__law_take : Array (Option Value)} {oc__law_take kV__law_take dc__law_take pm__law_take ct__law_take cd__law_take : Value}
    {od__law_told an__law_told : Option Addr} {sl__law_told : Array (Option Value)} {oc__law_told kV__law_told dc__law_told pm__law_told ct__law_told cd__law_told : Value}
    {od__law_named an__law_named : Option Addr} {sl__law_named : Array (Option Value)} {oc__law_named kV__law_named dc__law_named pm__law_named ct__law_named cd__law_named : Value}
    {od__law_places_right an__law_places_right : Option Addr} {sl__law_places_right : Array (Option Value)} {oc__law_places_right kV__law_places_right dc__law_places_right pm__law_places_right ct__law_places_right : Value}
    {od__law_layers_right an__law_layers_right : Option Addr} {sl__law_layers_right : Array (Option Value)} {oc__law_layers_right kV__law_layers_right dc__law_layers_right pm__law_layers_right ct__law_layers_right : Value}
    {od_law an_law : Option Addr} {sl_law : Array (Option Value)} {oc_law kV_law dc_law pm_law ct_law cd_law : Value}
    {vs__law_layers_right : Array Value} {oq__law_layers_right : Value} {odq__law_layers_right : Option Addr} {slq__law_layers_right : Array (Option Value)}
    {vs__law_places_right : Array Value} {oq__law_places_right : Value} {odq__law_places_right : Option Addr} {slq__law_places_right : Array (Option Value)}
    (g_share : PySem.W.nsIn K mainGlobals "share" = some (some (.ref a_share)))
    (l_share : K.lookup a_share = some ⟨oc_share, od_share, .func (PySem.W.fnOf "share" "share" (defArgs s_share) (defBody s_share) (defScope s_share) .none kV_share dc_share pm_share an_share cd_share ct_share), sl_share⟩)
    (c8_share : PySem.W.codeIn K cd_share "share" = true)
    (k8_share : PySem.W.keepIn K (.ref a_share) = true)
    (g_check_pattern : PySem.W.nsIn K mainGlobals "check_pattern" = some (some (.ref a_check_pattern)))
    (l_check_pattern : K.lookup a_check_pattern = some ⟨oc_check_pattern, od_check_pattern, .func (PySem.W.fnOf "check_pattern" "check_pattern" (defArgs s_check_pattern) (defBody s_check_pattern) (defScope s_check_pattern) .none kV_check_pattern dc_check_pattern pm_check_pattern an_check_pattern cd_check_pattern ct_check_pattern), sl_check_pattern⟩)
    (c8_check_pattern : PySem.W.codeIn K cd_check_pattern "check_pattern" = true)
    (k8_check_pattern : PySem.W.keepIn K (.ref a_check_pattern) = true)
    (g_filled : PySem.W.nsIn K mainGlobals "filled" = some (some (.ref a_filled)))
    (l_filled : K.lookup a_filled = some ⟨oc_filled, od_filled, .func (PySem.W.fnOf "filled" "filled" (defArgs s_filled) (defBody s_filled) (defScope s_filled) .none kV_filled dc_filled pm_filled an_filled cd_filled ct_filled), sl_filled⟩)
    (c8_filled : PySem.W.codeIn K cd_filled "filled" = true)
    (k8_filled : PySem.W.keepIn K (.ref a_filled) = true)
    (g_sign_at : PySem.W.nsIn K mainGlobals "sign_at" = some (some (.ref a_sign_at)))
    (l_sign_at : K.lookup a_sign_at = some ⟨oc_sign_at, od_sign_at, .func (PySem.W.fnOf "sign_at" "sign_at" (defArgs s_sign_at) (defBody s_sign_at) (defScope s_sign_at) .none kV_sign_at dc_sign_at pm_sign_at an_sign_at cd_sign_at ct_sign_at), sl_sign_at⟩)
    (c8_sign_at : PySem.W.codeIn K cd_sign_at "sign_at" = true)
    (k8_sign_at : PySem.W.keepIn K (.ref a_sign_at) = true)
    (g_depth_at : PySem.W.nsIn K mainGlobals "depth_at" = some (some (.ref a_depth_at)))
    (l_depth_at : K.lookup a_depth_at = some ⟨oc_depth_at, od_depth_at, .func (PySem.W.fnOf "depth_at" "depth_at" (defArgs s_depth_at) (defBody s_depth_at) (defScope s_depth_at) .none kV_depth_at dc_depth_at pm_depth_at an_depth_at cd_depth_at ct_depth_at), sl_depth_at⟩)
    (c8_depth_at : PySem.W.codeIn K cd_depth_at "depth_at" = true)
    (k8_depth_at : PySem.W.keepIn K (.ref a_depth_at) = true)
    (g_layers : PySem.W.nsIn K mainGlobals "layers" = some (some (.ref a_layers)))
    (l_layers : K.lookup a_layers = some ⟨oc_layers, od_layers, .func (PySem.W.fnOf "layers" "layers" (defArgs s_layers) (defBody s_layers) (defScope s_layers) .none kV_layers dc_layers pm_layers an_layers cd_layers ct_layers), sl_layers⟩)
    (c8_layers : PySem.W.codeIn K cd_layers "layers" = true)
    (k8_layers : PySem.W.keepIn K (.ref a_layers) = true)
    (g_common : PySem.W.nsIn K mainGlobals "common" = some (some (.ref a_common)))
    (l_common : K.lookup a_common = some ⟨oc_common, od_common, .func (PySem.W.fnOf "common" "common" (defArgs s_common) (defBody s_common) (defScope s_common) .none kV_common dc_common pm_common an_common cd_common ct_common), sl_common⟩)
    (c8_common : PySem.W.codeIn K cd_common "common" = true)
    (k8_common : PySem.W.keepIn K (.ref a_common) = true)
    (g_open_share : PySem.W.nsIn K mainGlobals "open_share" = some (some (.ref a_open_share)))
    (l_open_share : K.lookup a_open_share = some ⟨oc_open_share, od_open_share, .func (PySem.W.fnOf "open_share" "open_share" (defArgs s_open_share) (defBody s_open_share) (defScope s_open_share) .none kV_open_share dc_open_share pm_open_share an_open_share cd_open_share ct_open_share), sl_open_share⟩)
    (c8_open_share : PySem.W.codeIn K cd_open_share "open_share" = true)
    (k8_open_share : PySem.W.keepIn K (.ref a_open_share) = true)
    (g_round_at : PySem.W.nsIn K mainGlobals "round_at" = some (some (.ref a_round_at)))
    (l_round_at : K.lookup a_round_at = some ⟨oc_round_at, od_round_at, .func (PySem.W.fnOf "round_at" "round_at" (defArgs s_round_at) (defBody s_round_at) (defScope s_round_at) .none kV_round_at dc_round_at pm_round_at an_round_at cd_round_at ct_round_at), sl_round_at⟩)
    (c8_round_at : PySem.W.codeIn K cd_round_at "round_at" = true)
    (k8_round_at : PySem.W.keepIn K (.ref a_round_at) = true)
    (g_sums_at : PySem.W.nsIn K mainGlobals "sums_at" = some (some (.ref a_sums_at)))
    (l_sums_at : K.lookup a_sums_at = some ⟨oc_sums_at, od_sums_at, .func (PySem.W.fnOf "sums_at" "sums_at" (defArgs s_sums_at) (defBody s_sums_at) (defScope s_sums_at) .none kV_sums_at dc_sums_at pm_sums_at an_sums_at cd_sums_at ct_sums_at), sl_sums_at⟩)
    (c8_sums_at : PySem.W.codeIn K cd_sums_at "sums_at" = true)
    (k8_sums_at : PySem.W.keepIn K (.ref a_sums_at) = true)
    (g__law_tape : PySem.W.nsIn K mainGlobals "_law_tape" = some (some (.ref a__law_tape)))
    (l__law_tape : K.lookup a__law_tape = some ⟨oc__law_tape, od__law_tape, .func (PySem.W.fnOf "_law_tape" "_law_tape" (defArgs s__law_tape) (defBody s__law_tape) (defScope s__law_tape) .none kV__law_tape dc__law_tape pm__law_tape an__law_tape cd__law_tape ct__law_tape), sl__law_tape⟩)
    (c8__law_tape : PySem.W.codeIn K cd__law_tape "_law_tape" = true)
    (k8__law_tape : PySem.W.keepIn K (.ref a__law_tape) = true)
    (g__law_take : PySem.W.nsIn K mainGlobals "_law_take" = some (some (.ref a__law_take)))
    (l__law_take : K.lookup a__law_take = some ⟨oc__law_take, od__law_take, .func (PySem.W.fnOf "_law_take" "_law_take" (defArgs s__law_take) (defBody s__law_take) (defScope s__law_take) .none kV__law_take dc__law_take pm__law_take an__law_take cd__law_take ct__law_take), sl__law_take⟩)
    (c8__law_take : PySem.W.codeIn K cd__law_take "_law_take" = true)
    (k8__law_take : PySem.W.keepIn K (.ref a__law_take) = true)
    (g__law_told : PySem.W.nsIn K mainGlobals "_law_told" = some (some (.ref a__law_told)))
    (l__law_told : K.lookup a__law_told = some ⟨oc__law_told, od__law_told, .func (PySem.W.fnOf "_law_told" "_law_told" (defArgs s__law_told) (defBody s__law_told) (defScope s__law_told) .none kV__law_told dc__law_told pm__law_told an__law_told cd__law_told ct__law_told), sl__law_told⟩)
    (c8__law_told : PySem.W.codeIn K cd__law_told "_law_told" = true)
    (k8__law_told : PySem.W.keepIn K (.ref a__law_told) = true)
    (g__law_named : PySem.W.nsIn K mainGlobals "_law_named" = some (some (.ref a__law_named)))
    (l__law_named : K.lookup a__law_named = some ⟨oc__law_named, od__law_named, .func (PySem.W.fnOf "_law_named" "_law_named" (defArgs s__law_named) (defBody s__law_named) (defScope s__law_named) .none kV__law_named dc__law_named pm__law_named an__law_named cd__law_named ct__law_named), sl__law_named⟩)
    (c8__law_named : PySem.W.codeIn K cd__law_named "_law_named" = true)
    (k8__law_named : PySem.W.keepIn K (.ref a__law_named) = true)
    (g__law_places_right : PySem.W.nsIn K mainGlobals "_law_places_right" = some (some (.ref a__law_places_right)))
    (l__law_places_right : K.lookup a__law_places_right = some ⟨oc__law_places_right, od__law_places_right, .func (PySem.W.fnOf "_law_places_right" "_law_places_right" (defArgs s__law_places_right) (defBody s__law_places_right) (defScope s__law_places_right) .none kV__law_places_right dc__law_places_right pm__law_places_right an__law_places_right (.ref c__law_places_right) ct__law_places_right), sl__law_places_right⟩)
    (c8__law_places_right : PySem.W.codeIn K (.ref c__law_places_right) "_law_places_right" = true)
    (k8__law_places_right : PySem.W.keepIn K (.ref a__law_places_right) = true)
    (g__law_layers_right : PySem.W.nsIn K mainGlobals "_law_layers_right" = some (some (.ref a__law_layers_right)))
    (l__law_layers_right : K.lookup a__law_layers_right = some ⟨oc__law_layers_right, od__law_layers_right, .func (PySem.W.fnOf "_law_layers_right" "_law_layers_right" (defArgs s__law_layers_right) (defBody s__law_layers_right) (defScope s__law_layers_right) .none kV__law_layers_right dc__law_layers_right pm__law_layers_right an__law_layers_right (.ref c__law_layers_right) ct__law_layers_right), sl__law_layers_right⟩)
    (c8__law_layers_right : PySem.W.codeIn K (.ref c__law_layers_right) "_law_layers_right" = true)
    (k8__law_layers_right : PySem.W.keepIn K (.ref a__law_layers_right) = true)
    (g_law : PySem.W.nsIn K mainGlobals "law" = some (some (.ref a_law)))
    (l_law : K.lookup a_law = some ⟨oc_law, od_law, .func (PySem.W.fnOf "law" "law" (defArgs s_law) (defBody s_law) (defScope s_law) .none kV_law dc_law pm_law an_law cd_law ct_law), sl_law⟩)
    (c8_law : PySem.W.codeIn K cd_law "law" = true)
    (k8_law : PySem.W.keepIn K (.ref a_law) = true)
    (n_abs : PySem.W.nsIn K mainGlobals "abs" = some none)
    (n_all : PySem.W.nsIn K mainGlobals "all" = some none)
    (n_any : PySem.W.nsIn K mainGlobals "any" = some none)
    (n_int : PySem.W.nsIn K mainGlobals "int" = some none)
    (n_len : PySem.W.nsIn K mainGlobals "len" = some none)
    (n_list : PySem.W.nsIn K mainGlobals "list" = some none)
    (n_min : PySem.W.nsIn K mainGlobals "min" = some none)
    (n_range : PySem.W.nsIn K mainGlobals "range" = some none)
    (n_sum : PySem.W.nsIn K mainGlobals "sum" = some none)
    (n_tuple : PySem.W.nsIn K mainGlobals "tuple" = some none)
    (n_zip : PySem.W.nsIn K mainGlobals "zip" = some none)
    (v_DIGITS : PySem.W.nsIn K mainGlobals "DIGITS" = some (some (.str (PySem.Str.ofString "0123") k_DIGITS)))
    (gx_InvalidPattern : PySem.W.nsIn K mainGlobals "InvalidPattern" = some (some (.ref x_InvalidPattern)))
    (qx_InvalidPattern : PySem.W.excIn K x_InvalidPattern [.type "ValueError", .type "Exception", .type "BaseException", .type "object"] "ValueError.__new__" = true)
    (kx_InvalidPattern : PySem.W.keepIn K (.ref x_InvalidPattern) = true)
    (ex_InvalidPattern : PySem.W.subIn K (.ref x_InvalidPattern) (.type "BaseException") = some true)
    (tx_InvalidPattern : PySem.W.typeIn K (.ref x_InvalidPattern) = some (.type "type"))
    (ix_InvalidPattern : PySem.W.isClsIn K x_InvalidPattern = true)
    (sx_InvalidPattern : PySem.W.subIn K (.ref x_InvalidPattern) (.ref x_InvalidPattern) = some true)
    (gx_InvalidShare : PySem.W.nsIn K mainGlobals "InvalidShare" = some (some (.ref x_InvalidShare)))
    (qx_InvalidShare : PySem.W.excIn K x_InvalidShare [.type "ValueError", .type "Exception", .type "BaseException", .type "object"] "ValueError.__new__" = true)
    (kx_InvalidShare : PySem.W.keepIn K (.ref x_InvalidShare) = true)
    (ex_InvalidShare : PySem.W.subIn K (.ref x_InvalidShare) (.type "BaseException") = some true)
    (tx_InvalidShare : PySem.W.typeIn K (.ref x_InvalidShare) = some (.type "type"))
    (lc__law_layers_right : K.lookup c__law_layers_right = some ⟨oq__law_layers_right, odq__law_layers_right, .fields vs__law_layers_right, slq__law_layers_right⟩)
    (pp__law_layers_right : vs__law_layers_right[11]? = some (.ref p__law_layers_right))
    (hh__law_layers_right : PySem.W.codeHdIn K c__law_layers_right p__law_layers_right = true)
    (nn__law_layers_right : K.lookup p__law_layers_right = none)
    (tt__law_layers_right : h.get? p__law_layers_right = some { cls := .none, data := .fields #[] })
    (lc__law_places_right : K.lookup c__law_places_right = some ⟨oq__law_places_right, odq__law_places_right, .fields vs__law_places_right, slq__law_places_right⟩)
    (pp__law_places_right : vs__law_places_right[11]? = some (.ref p__law_places_right))
    (hh__law_places_right : PySem.W.codeHdIn K c__law_places_right p__law_places_right = true)
    (nn__law_places_right : K.lookup p__law_places_right = none)
    (tt__law_places_right : h.get? p__law_places_right = some { cls := .none, data := .fields #[] })
    (ne__law_layers_right__law_places_right : p__law_layers_right ≠ p__law_places_right)
    : LamX.LawAtS l w K (L2.CX l.prog w) 7 63 "script" mg fa h := by
  have e := hfa.symm.trans (PySem.W.mg_of X G g_law)
  cases e
  have F_share := fun_mk (st := s_share) l_share c8_share k8_share
  have b_share := F_share.binds (ps := ["n", "d"]) fun _ _ _ _ _ _ us hl => match us, hl with | [_, _], _ => rfl
  have F_check_pattern := fun_mk (st := s_check_pattern) l_check_pattern c8_check_pattern k8_check_pattern
  have b_check_pattern := F_check_pattern.binds (ps := ["pattern"]) fun _ _ _ _ _ _ us hl => match us, hl with | [_], _ => rfl
  have F_filled := fun_mk (st := s_filled) l_filled c8_filled k8_filled
  have b_filled := F_filled.binds (ps := ["pattern", "length"]) fun _ _ _ _ _ _ us hl => match us, hl with | [_, _], _ => rfl
  have F_sign_at := fun_mk (st := s_sign_at) l_sign_at c8_sign_at k8_sign_at
  have b_sign_at := F_sign_at.binds (ps := ["pattern", "place"]) fun _ _ _ _ _ _ us hl => match us, hl with | [_, _], _ => rfl
  have F_depth_at := fun_mk (st := s_depth_at) l_depth_at c8_depth_at k8_depth_at
  have b_depth_at := F_depth_at.binds (ps := ["pattern", "place"]) fun _ _ _ _ _ _ us hl => match us, hl with | [_, _], _ => rfl
  have F_layers := fun_mk (st := s_layers) l_layers c8_layers k8_layers
  have b_layers := F_layers.binds (ps := ["pattern", "many"]) fun _ _ _ _ _ _ us hl => match us, hl with | [_, _], _ => rfl
  have F_common := fun_mk (st := s_common) l_common c8_common k8_common
  have b_common := F_common.binds (ps := ["a", "b"]) fun _ _ _ _ _ _ us hl => match us, hl with | [_, _], _ => rfl
  have F_open_share := fun_mk (st := s_open_share) l_open_share c8_open_share k8_open_share
  have b_open_share := F_open_share.binds (ps := ["pattern", "many"]) fun _ _ _ _ _ _ us hl => match us, hl with | [_, _], _ => rfl
  have F_round_at := fun_mk (st := s_round_at) l_round_at c8_round_at k8_round_at
  have b_round_at := F_round_at.binds (ps := ["pattern", "place"]) fun _ _ _ _ _ _ us hl => match us, hl with | [_, _], _ => rfl
  have F_sums_at := fun_mk (st := s_sums_at) l_sums_at c8_sums_at k8_sums_at
  have b_sums_at := F_sums_at.binds (ps := ["pattern", "length"]) fun _ _ _ _ _ _ us hl => match us, hl with | [_, _], _ => rfl
  have F__law_tape := fun_mk (st := s__law_tape) l__law_tape c8__law_tape k8__law_tape
  have b__law_tape := F__law_tape.binds (ps := ["script"]) fun _ _ _ _ _ _ us hl => match us, hl with | [_], _ => rfl
  have F__law_take := fun_mk (st := s__law_take) l__law_take c8__law_take k8__law_take
  have b__law_take := F__law_take.binds (ps := ["tape", "many"]) fun _ _ _ _ _ _ us hl => match us, hl with | [_, _], _ => rfl
  have F__law_told := fun_mk (st := s__law_told) l__law_told c8__law_told k8__law_told
  have b__law_told := F__law_told.binds (ps := ["call"]) fun _ _ _ _ _ _ us hl => match us, hl with | [_], _ => rfl
  have F__law_named := fun_mk (st := s__law_named) l__law_named c8__law_named k8__law_named
  have b__law_named := F__law_named.binds (ps := ["word", "names"]) fun _ _ _ _ _ _ us hl => match us, hl with | [_, _], _ => rfl
  have F__law_places_right := fun_mk (st := s__law_places_right) l__law_places_right c8__law_places_right k8__law_places_right
  have b__law_places_right := F__law_places_right.binds (ps := ["tape", "pattern", "names", "holes"]) fun _ _ _ _ _ _ us hl => match us, hl with | [_, _, _, _], _ => rfl
  have F__law_layers_right := fun_mk (st := s__law_layers_right) l__law_layers_right c8__law_layers_right k8__law_layers_right
  have b__law_layers_right := F__law_layers_right.binds (ps := ["pattern", "long", "holes"]) fun _ _ _ _ _ _ us hl => match us, hl with | [_, _, _], _ => rfl
  have F_law := fun_mk (st := s_law) l_law c8_law k8_law
  have b_law := F_law.binds (ps := ["script"]) fun _ _ _ _ _ _ us hl => match us, hl with | [_], _ => rfl
  have u__law_layers_right : ∀ p ∈ ([(p__law_layers_right, ("_law_layers_right" : Str) ++ ".<locals>." ++ "<lambda>"), (p__law_places_right, ("_law_places_right" : Str) ++ ".<locals>." ++ "<lambda>")] : List (Addr × Str)), p.1 = p__law_layers_right → p.2 = ("_law_layers_right" : Str) ++ ".<locals>." ++ "<lambda>" := by
    intro p hp e
    simp only [List.mem_cons, List.not_mem_nil, or_false] at hp
    rcases hp with rfl | rfl
    · rfl
    · exact absurd e (by first | exact ne__law_layers_right__law_places_right | exact Ne.symm ne__law_layers_right__law_places_right)
  have u__law_places_right : ∀ p ∈ ([(p__law_layers_right, ("_law_layers_right" : Str) ++ ".<locals>." ++ "<lambda>"), (p__law_places_right, ("_law_places_right" : Str) ++ ".<locals>." ++ "<lambda>")] : List (Addr × Str)), p.1 = p__law_places_right → p.2 = ("_law_places_right" : Str) ++ ".<locals>." ++ "<lambda>" := by
    intro p hp e
    simp only [List.mem_cons, List.not_mem_nil, or_false] at hp
    rcases hp with rfl | rfl
    · exact absurd e (by first | exact ne__law_layers_right__law_places_right | exact Ne.symm ne__law_layers_right__law_places_right)
    · rfl
  have T : Txt K mg (ecOf [(2, x_InvalidPattern), (1, x_InvalidShare)]) [(p__law_layers_right, ("_law_layers_right" : Str) ++ ".<locals>." ++ "<lambda>"), (p__law_places_right, ("_law_places_right" : Str) ++ ".<locals>." ++ "<lambda>")] a_share a_check_pattern a_filled a_sign_at a_depth_at a_layers a_common a_open_share a_round_at a_sums_at a__law_tape a__law_take a__law_told a__law_named a__law_places_right a__law_layers_right _ _ _ _ _ _ _ _ _ _ _ _ _ _ _ _ _ _ k_DIGITS c__law_layers_right p__law_layers_right c__law_places_right p__law_places_right := { n_abs := PySem.W.mg_none_of X G n_abs, n_all := PySem.W.mg_none_of X G n_all, n_any := PySem.W.mg_none_of X G n_any, n_int := PySem.W.mg_none_of X G n_int, n_len := PySem.W.mg_none_of X G n_len, n_list := PySem.W.mg_none_of X G n_list, n_min := PySem.W.mg_none_of X G n_min, n_range := PySem.W.mg_none_of X G n_range, n_sum := PySem.W.mg_none_of X G n_sum, n_tuple := PySem.W.mg_none_of X G n_tuple, n_zip := PySem.W.mg_none_of X G n_zip, c_DIGITS := PySem.W.mg_of X G v_DIGITS, x_InvalidPattern := PySem.W.mg_of X G gx_InvalidPattern, q_InvalidPattern := qx_InvalidPattern, k_InvalidPattern := kx_InvalidPattern, e_InvalidPattern := ex_InvalidPattern, y_InvalidPattern := tx_InvalidPattern, r_InvalidPattern := exm_self ex_InvalidPattern ix_InvalidPattern tx_InvalidPattern sx_InvalidPattern, x_InvalidShare := PySem.W.mg_of X G gx_InvalidShare, q_InvalidShare := qx_InvalidShare, k_InvalidShare := kx_InvalidShare, e_InvalidShare := ex_InvalidShare, y_InvalidShare := tx_InvalidShare, g_share := PySem.W.mg_of X G g_share, F_share := F_share, b_share := b_share, g_check_pattern := PySem.W.mg_of X G g_check_pattern, F_check_pattern := F_check_pattern, b_check_pattern := b_check_pattern, g_filled := PySem.W.mg_of X G g_filled, F_filled := F_filled, b_filled := b_filled, g_sign_at := PySem.W.mg_of X G g_sign_at, F_sign_at := F_sign_at, b_sign_at := b_sign_at, g_depth_at := PySem.W.mg_of X G g_depth_at, F_depth_at := F_depth_at, b_depth_at := b_depth_at, g_layers := PySem.W.mg_of X G g_layers, F_layers := F_layers, b_layers := b_layers, g_common := PySem.W.mg_of X G g_common, F_common := F_common, b_common := b_common, g_open_share := PySem.W.mg_of X G g_open_share, F_open_share := F_open_share, b_open_share := b_open_share, g_round_at := PySem.W.mg_of X G g_round_at, F_round_at := F_round_at, b_round_at := b_round_at, g_sums_at := PySem.W.mg_of X G g_sums_at, F_sums_at := F_sums_at, b_sums_at := b_sums_at, g__law_tape := PySem.W.mg_of X G g__law_tape, F__law_tape := F__law_tape, b__law_tape := b__law_tape, g__law_take := PySem.W.mg_of X G g__law_take, F__law_take := F__law_take, b__law_take := b__law_take, g__law_told := PySem.W.mg_of X G g__law_told, F__law_told := F__law_told, b__law_told := b__law_told, g__law_named := PySem.W.mg_of X G g__law_named, F__law_named := F__law_named, b__law_named := b__law_named, g__law_places_right := PySem.W.mg_of X G g__law_places_right, F__law_places_right := F__law_places_right, b__law_places_right := b__law_places_right, g__law_layers_right := PySem.W.mg_of X G g__law_layers_right, F__law_layers_right := F__law_layers_right, b__law_layers_right := b__law_layers_right, g_law := PySem.W.mg_of X G g_law, F_law := F_law, b_law := b_law, t__law_layers_right := by simp, u__law_layers_right := u__law_layers_right, FC__law_layers_right := ⟨⟨_, _, _, _, _, _, _, _, rfl, l__law_layers_right, c8__law_layers_right⟩⟩, t__law_places_right := by simp, u__law_places_right := u__law_places_right, FC__law_places_right := ⟨⟨_, _, _, _, _, _, _, _, rfl, l__law_places_right, c8__law_places_right⟩⟩ }
  refine ⟨(PySem.W.fnOf "law" "law" (defArgs s_law) (defBody s_law) (defScope s_law) .none kV_law dc_law pm_law an_law cd_law ct_law), [(c__law_layers_right, p__law_layers_right), (c__law_places_right, p__law_places_right)], spF ⟨K, (ecOf [(2, x_InvalidPattern), (1, x_InvalidShare)]), [(p__law_layers_right, ("_law_layers_right" : Str) ++ ".<locals>." ++ "<lambda>"), (p__law_places_right, ("_law_places_right" : Str) ++ ".<locals>." ++ "<lambda>")]⟩ fn_law 1, ?_, ?_, ?_, fun s v => .of_eq rfl, fun H a ns hn hb hT hS => ?_, fun base _ _ hT => ok_law T (hT (c__law_layers_right, p__law_layers_right) (by simp)) (hT (c__law_places_right, p__law_places_right) (by simp))⟩
  · intro p hp
    simp only [List.mem_cons, List.not_mem_nil, or_false] at hp
    rcases hp with rfl | rfl
    · exact tt__law_layers_right
    · exact tt__law_places_right
  · intro p hp
    simp only [List.mem_cons, List.not_mem_nil, or_false] at hp
    rcases hp with rfl | rfl
    · exact nn__law_layers_right
    · exact nn__law_places_right
  · intro p hp
    simp only [List.mem_cons, List.not_mem_nil, or_false] at hp
    rcases hp with rfl | rfl
    · exact PySem.W.codeHd_of_K X hh__law_layers_right
    · exact PySem.W.codeHd_of_K X hh__law_places_right
  · refine start_law (c := ⟨K, (ecOf [(2, x_InvalidPattern), (1, x_InvalidShare)]), [(p__law_layers_right, ("_law_layers_right" : Str) ++ ".<locals>." ++ "<lambda>"), (p__law_places_right, ("_law_places_right" : Str) ++ ".<locals>." ++ "<lambda>")]⟩) (fun p hp => ?_) hS (law_true ns hn hb)
    simp only [List.mem_cons, List.not_mem_nil, or_false] at hp
    rcases hp with rfl | rfl
    · exact hT (c__law_layers_right, p__law_layers_right) (by simp)
    · exact hT (c__law_places_right, p__law_places_right) (by simp)
end K56
open PySem PySem.W PyProof.Rows
set_option maxHeartbeats 0 in
theorem PySem.Challenge.cw_shiftsandcells_k56_whole_patterns_told_o_holds : PySem.Challenge.rw_shiftsandcells_k56_whole_patterns_told_o.Holds := by
  w_on; o_law; k_head; (case hw => w_witness2)
  k_fill
  refine LamX.walk_ofTs (l := PySem.Challenge.rw_shiftsandcells_k56_whole_patterns_told_o) (n := 63) (k := 7) (x := "script") (CX := fun w => L2.CX PySem.Challenge.rw_shiftsandcells_k56_whole_patterns_told_o.prog w) rfl (by decide) rfl ⟨rfl, by decide, by decide⟩ (fun w h Y => PySem.W.km_in_of Y) ?F (fun _ _ _ _ _ h => Mp.cx_none h)
  case F =>
    intro w mg fa h Y KX G hmg
    have hT8 := PySem.W.km_tabs_of Y
    have hmg2 : mg "law" = some (.ref fa) := hmg
    clear hmg Y
    refine' K56.all_mk KX G hmg2 ?g_share ?l_share ?c8_share ?k8_share ?g_check_pattern ?l_check_pattern ?c8_check_pattern ?k8_check_pattern ?g_filled ?l_filled ?c8_filled ?k8_filled ?g_sign_at ?l_sign_at ?c8_sign_at ?k8_sign_at ?g_depth_at ?l_depth_at ?c8_depth_at ?k8_depth_at ?g_layers ?l_layers ?c8_layers ?k8_layers ?g_common ?l_common ?c8_common ?k8_common ?g_open_share ?l_open_share ?c8_open_share ?k8_open_share ?g_round_at ?l_round_at ?c8_round_at ?k8_round_at ?g_sums_at ?l_sums_at ?c8_sums_at ?k8_sums_at ?g__law_tape ?l__law_tape ?c8__law_tape ?k8__law_tape ?g__law_take ?l__law_take ?c8__law_take ?k8__law_take ?g__law_told ?l__law_told ?c8__law_told ?k8__law_told ?g__law_named ?l__law_named ?c8__law_named ?k8__law_named ?g__law_places_right ?l__law_places_right ?c8__law_places_right ?k8__law_places_right ?g__law_layers_right ?l__law_layers_right ?c8__law_layers_right ?k8__law_layers_right ?g_law ?l_law ?c8_law ?k8_law ?n_abs ?n_all ?n_any ?n_int ?n_len ?n_list ?n_min ?n_range ?n_sum ?n_tuple ?n_zip ?v_DIGITS ?gx_InvalidPattern ?qx_InvalidPattern ?kx_InvalidPattern ?ex_InvalidPattern ?tx_InvalidPattern ?ix_InvalidPattern ?sx_InvalidPattern ?gx_InvalidShare ?qx_InvalidShare ?kx_InvalidShare ?ex_InvalidShare ?tx_InvalidShare ?lc__law_layers_right ?pp__law_layers_right ?hh__law_layers_right ?nn__law_layers_right ?tt__law_layers_right ?lc__law_places_right ?pp__law_places_right ?hh__law_places_right ?nn__law_places_right ?tt__law_places_right ?ne__law_layers_right__law_places_right
    (case g_share => k_is)
    (case l_share => k_is)
    (case c8_share => k_is)
    (case k8_share => k_is)
    (case g_check_pattern => k_is)
    (case l_check_pattern => k_is)
    (case c8_check_pattern => k_is)
    (case k8_check_pattern => k_is)
    (case g_filled => k_is)
    (case l_filled => k_is)
    (case c8_filled => k_is)
    (case k8_filled => k_is)
    (case g_sign_at => k_is)
    (case l_sign_at => k_is)
    (case c8_sign_at => k_is)
    (case k8_sign_at => k_is)
    (case g_depth_at => k_is)
    (case l_depth_at => k_is)
    (case c8_depth_at => k_is)
    (case k8_depth_at => k_is)
    (case g_layers => k_is)
    (case l_layers => k_is)
    (case c8_layers => k_is)
    (case k8_layers => k_is)
    (case g_common => k_is)
    (case l_common => k_is)
    (case c8_common => k_is)
    (case k8_common => k_is)
    (case g_open_share => k_is)
    (case l_open_share => k_is)
    (case c8_open_share => k_is)
    (case k8_open_share => k_is)
    (case g_round_at => k_is)
    (case l_round_at => k_is)
    (case c8_round_at => k_is)
    (case k8_round_at => k_is)
    (case g_sums_at => k_is)
    (case l_sums_at => k_is)
    (case c8_sums_at => k_is)
    (case k8_sums_at => k_is)
    (case g__law_tape => k_is)
    (case l__law_tape => k_is)
    (case c8__law_tape => k_is)
    (case k8__law_tape => k_is)
    (case g__law_take => k_is)
    (case l__law_take => k_is)
    (case c8__law_take => k_is)
    (case k8__law_take => k_is)
    (case g__law_told => k_is)
    (case l__law_told => k_is)
    (case c8__law_told => k_is)
    (case k8__law_told => k_is)
    (case g__law_named => k_is)
    (case l__law_named => k_is)
    (case c8__law_named => k_is)
    (case k8__law_named => k_is)
    (case g__law_places_right => k_is)
    (case l__law_places_right => k_is)
    (case c8__law_places_right => k_is)
    (case k8__law_places_right => k_is)
    (case g__law_layers_right => k_is)
    (case l__law_layers_right => k_is)
    (case c8__law_layers_right => k_is)
    (case k8__law_layers_right => k_is)
    (case g_law => k_is)
    (case l_law => k_is)
    (case c8_law => k_is)
    (case k8_law => k_is)
    (case n_abs => k_is)
    (case n_all => k_is)
    (case n_any => k_is)
    (case n_int => k_is)
    (case n_len => k_is)
    (case n_list => k_is)
    (case n_min => k_is)
    (case n_range => k_is)
    (case n_sum => k_is)
    (case n_tuple => k_is)
    (case n_zip => k_is)
    (case v_DIGITS => k_is)
    (case gx_InvalidPattern => k_is)
    (case qx_InvalidPattern => k_exc)
    (case kx_InvalidPattern => k_is)
    (case ex_InvalidPattern => k_is)
    (case tx_InvalidPattern => k_is)
    (case ix_InvalidPattern => k_is)
    (case sx_InvalidPattern => first | rfl | k_is)
    (case gx_InvalidShare => k_is)
    (case qx_InvalidShare => k_exc)
    (case kx_InvalidShare => k_is)
    (case ex_InvalidShare => k_is)
    (case tx_InvalidShare => k_is)
    (case lc__law_layers_right => k_is)
    (case pp__law_layers_right => rfl)
    (case hh__law_layers_right => first | k_is | kernel_rfl)
    (case nn__law_layers_right => first | k_is | kernel_rfl)
    (case tt__law_layers_right => exact hT8 _ (by k_mem))
    (case lc__law_places_right => k_is)
    (case pp__law_places_right => rfl)
    (case hh__law_places_right => first | k_is | kernel_rfl)
    (case nn__law_places_right => first | k_is | kernel_rfl)
    (case tt__law_places_right => exact hT8 _ (by k_mem))
    (case ne__law_layers_right__law_places_right => decide)
